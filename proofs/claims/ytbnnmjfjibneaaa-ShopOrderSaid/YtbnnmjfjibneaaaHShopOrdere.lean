/- Own texts of this claim, joined. No conditions. -/
import Derived.Test.YtbnnmjfjibneaaaHShopOrdera
import Derived.Test.YtbnnmjfjibneaaaHShopOrderb
import Derived.Test.YtbnnmjfjibneaaaHShopOrderc
import Derived.Test.YtbnnmjfjibneaaaHShopOrderd
/- Walks of this seat, printed by gen.py over the engine: what each function returns, in whatever world. No conditions but those of each contract. -/
set_option linter.unusedVariables false
set_option linter.unusedSimpArgs false
set_option maxRecDepth 20000
namespace Go.Proofs
open Go.Rt Go.Rt.Sh
attribute [local irreducible] WL WC Con Yd At Ats Sl Agree DW
theorem Try_flat106 : flatInts Try.prog 106 6 = true := by kernel_rfl
theorem goes_at {w0 w : World} {F : List (Nat × Obj)} (m : Market) (p : At3) (mb mm : Nat) (hk : MK w0 F m p mb mm) (i : Nat) (hi : i < m.trains.length) {z : Int} (hz : z = i) (hs : St w0 w F) : Con Try.prog 65 [.pointer (some ⟨mb, 0, none⟩), .int .i64 z] w fun v w' => v = .bool (leaves m m.trains[i]) ∧ St w0 w' F := by subst hz; exact c65 m p mb mm hk i hi hs
def NextC (m : Market) (mb mm sub bp bl bla bY bs bn : Nat) (Ls : List (List Int)) (J : Nat → List (Nat × Obj) → Prop) (Js : List (Nat × Obj) → Prop) (yv : Value) (w0 : World) (F : List (Nat × Obj)) (rem : Nat) : Prop :=
  ∀ (d : Nat) (pre cur last : List Int) (i : Nat) (R : List (List Int)) (x : List Int) (B M X : List (Nat × Obj)) (w : World), d + rem = m.trains.length → pre.length = d → cur.length = 6 → cur.take d = pre → (∀ j, m.trains.length ≤ j → cur.getD j 0 = 0) → GoodX x d → i ≤ Ls.length →
    Ls.drop i = ((loadsX m sub rem x).map fun l => pad6 (pre ++ l)) ++ R → last.length = 6 → last ∉ Ls.drop i → J i B → Memo m mm M → St w0 w ((bn, blk 129 [.func (.func 95) #[] #[.pointer (some ⟨bp, 0, none⟩), .pointer (some ⟨bl, 0, none⟩), .pointer (some ⟨bla, 0, none⟩), .pointer (some ⟨bY, 0, none⟩), .pointer (some ⟨bs, 0, none⟩), .pointer (some ⟨bn, 0, none⟩)]]) :: (bla, blk 106 (iv last)) :: (bl, blk 106 (iv cur)) :: (bY, blk 128 [yv]) :: (X ++ (B ++ (M ++ F)))) →
    Con Try.prog 95 [ia x, .pointer (some ⟨bp, 0, none⟩), .pointer (some ⟨bl, 0, none⟩), .pointer (some ⟨bla, 0, none⟩), .pointer (some ⟨bY, 0, none⟩), .pointer (some ⟨bs, 0, none⟩), .pointer (some ⟨bn, 0, none⟩)] w fun v w' => ∃ (cur' last' : List Int) (B' M' : List (Nat × Obj)), cur'.length = 6 ∧ last'.length = 6 ∧ cur'.take d = pre ∧ (∀ j, m.trains.length ≤ j → cur'.getD j 0 = 0) ∧ Memo m mm M' ∧ St w0 w' ((bn, blk 129 [.func (.func 95) #[] #[.pointer (some ⟨bp, 0, none⟩), .pointer (some ⟨bl, 0, none⟩), .pointer (some ⟨bla, 0, none⟩), .pointer (some ⟨bY, 0, none⟩), .pointer (some ⟨bs, 0, none⟩), .pointer (some ⟨bn, 0, none⟩)]]) :: (bla, blk 106 (iv last')) :: (bl, blk 106 (iv cur')) :: (bY, blk 128 [yv]) :: (X ++ (B' ++ (M' ++ F)))) ∧
      ((v = .bool true ∧ ∃ i', i' ≤ Ls.length ∧ Ls.drop i' = R ∧ last' ∉ R ∧ J i' B') ∨ (v = .bool false ∧ Js B'))
theorem seg_more {Ls R : List (List Int)} {f : Nat → List (List Int)} {k n i : Nat} (hn : n < k) (h : Ls.drop i = (((List.range k).drop n).flatMap f) ++ R) : Ls.drop i = f n ++ ((((List.range k).drop (n + 1)).flatMap f) ++ R) := by
  rw [range_drop hn, List.flatMap_cons, List.append_assoc] at h; exact h
theorem fr7 {w0 w : World} {R : List (Nat × Obj)} {a b c e f g h : Nat × Obj} (hs : St w0 w (a :: b :: c :: e :: f :: g :: h :: R)) : St w0 w (e :: f :: g :: h :: a :: b :: c :: R) := hs.perm (perm_mid [a, b, c] [e, f, g, h] R)
theorem bk7 {w0 w : World} {R : List (Nat × Obj)} {a b c e f g h : Nat × Obj} (hs : St w0 w (e :: f :: g :: h :: a :: b :: c :: R)) : St w0 w (a :: b :: c :: e :: f :: g :: h :: R) := hs.perm (perm_mid [e, f, g, h] [a, b, c] R)
theorem c95 {w0 : World} {F : List (Nat × Obj)} (m : Market) (p : At3) (mb mm : Nat) (hk : MK w0 F m p mb mm)  (sub bp bl bla bY bs bn : Nat) (hsub : sub < 1000) (h1 : Ats w0 F bp 0 [.pointer (some ⟨mb, 0, none⟩)]) (h5 : Ats w0 F bs 0 [.int .i64 (sub : Int)]) (Ls : List (List Int)) (hnd : Ls.Nodup) (J : Nat → List (Nat × Obj) → Prop) (Js : List (Nat × Obj) → Prop) (yv : Value) (hy : ∀ (i : Nat) (x : List Int) (R : List (List Int)) (B M X : List (Nat × Obj)) (w : World), Ls.drop i = x :: R → J i B → Memo m mm M → St w0 w (X ++ (B ++ (M ++ F))) → FCon Try.prog yv [ia x] w fun v w' => ∃ B' M', Memo m mm M' ∧ St w0 w' (X ++ (B' ++ (M' ++ F))) ∧ (v = .bool true ∧ J (i + 1) B' ∨ v = .bool false ∧ Js B')) (rem : Nat) (ih : ∀ r, rem = r + 1 → NextC m mb mm sub bp bl bla bY bs bn Ls J Js yv w0 F r) : NextC m mb mm sub bp bl bla bY bs bn Ls J Js yv w0 F rem := by
  intro d pre cur last i R x B M X w hdr hpl hcl hk6 hz hgx hi hpos hll hlast hJ hM hs
  obtain ⟨ar, cr, as_, cs, at_, ct⟩ := p
  have hb := hk.b
  have hlr := hk.ok.lr
  have hls := hk.ok.ls
  have hlt := hk.ok.lt
  have hat := hgx.at7
  have hxl := hgx.len
  refine con_of_wc (n := 106) Try.func95 rfl rfl (Nat.le_of_ble_eq_true rfl) ?_
  refine w_seq (fun K2 hK1 => ?_)
  refine w_region ?_
  refine w_boxI (l := _) want_none rfl rfl rfl hs (fun b3 w4 hs5 => ?_)
  refine w_pure want_none (y_assign (v := _) rfl rfl) rfl ?_
  refine w_nil ?_
  refine q_then (hK1 _ _ ?_)
  refine w_seq (fun K7 hK6 => ?_)
  refine w_seq (fun K9 hK8 => ?_)
  refine w_draw [] [(0, 0), (1, 1), (2, 1), (3, 0), (4, 0), (5, 0), (6, 1), (7, 0), (8, 0)] Try_mo (by kernel_rfl) hs5 (fun w10 hs11 => ?_)
  refine d_any rfl want_none rfl (fun _ => (y_fieldAddr (o := 7) (i := 2) Try.underlying93 rfl Try.sizeOf3 rfl rfl rfl)) ?_
  refine d_take rfl want_none rfl hs11 (fun _ hq => (y_load1 Try.isAgg3 hq rfl rfl (ats_intsC (i := 0) (o := 7) rfl (by first | omega | rfl | (simp only [nx1_len, nx2_len, hxl, List.length_map, List.length_set, List.length_append, List.length_take, List.length_drop, List.length_replicate, List.length_cons, List.length_nil] <;> omega))))) ?_
  refine d_take rfl want_none rfl hs11 (fun _ hq => (y_load1 Try.isAgg83 hq.tail.tail.tail.tail.tail.drop.drop.drop rfl rfl h1)) ?_
  refine d_any rfl want_none rfl (fun _ => (y_nilCheck rfl rfl)) ?_
  refine d_any rfl want_none rfl (fun _ => (y_fieldAddr (o := 0) (i := 0) Try.underlying122 rfl Try.sizeOf26 rfl rfl rfl)) ?_
  refine d_any rfl want_none rfl (fun _ => (y_fieldAddr (o := 2) (i := 2) Try.underlying26 rfl Try.sizeOf24 rfl rfl rfl)) ?_
  refine d_take rfl want_none rfl hs11 (fun _ hq => (y_load1 Try.isAgg24 hq.tail.tail.tail.tail.tail.drop.drop.drop rfl rfl (show Ats _ _ _ _ [_] from Ats.part hb 2 1))) ?_
  refine d_any rfl want_none rfl (fun _ => (y_lenS Try.underlying24 rfl rfl)) ?_
  refine d_any rfl want_none rfl (fun _ => (y_eql rfl rfl rfl rfl)) ?_
  refine d_nil ?_
  refine q_then (hK8 _ _ ?_)
  refine w_cond rfl rfl (fun h12 => ?_) (fun h12 => ?_)
  ·
   try simp only [Bool.not_eq_true', Bool.not_eq_false', decide_eq_true_eq, decide_eq_false_iff_not, Int.not_lt, Int.not_le] at h12
   refine w_seq (fun K14 hK13 => ?_)
   refine w_seq (fun K16 hK15 => ?_)
   have hr0 : rem = 0 := by omega
   subst hr0
   have hcur := cur_pad6 (d := d) hcl hpl (by omega) hk6 (by have hdn : d = m.trains.length := (by omega); subst hdn; exact hz)
   simp only [loadsX, List.map_cons, List.map_nil, List.append_nil, List.cons_append, List.nil_append, ← hcur] at hpos
   have hne : ¬ cur = last := fun e => hlast (by rw [hpos, ← e]; exact .head _)
   refine w_region ?_
   refine w_pure want_none (y_loadI (i := 3) Try.isAgg106 Try.sizeOf106 (by first | omega | rfl | (simp only [nx1_len, nx2_len, hxl, List.length_map, List.length_set, List.length_append, List.length_take, List.length_drop, List.length_replicate, List.length_cons, List.length_nil] <;> omega)) hs11 rfl rfl rfl) rfl ?_
   refine w_pure want_none (y_loadI (i := 2) Try.isAgg106 Try.sizeOf106 (by first | omega | rfl | (simp only [nx1_len, nx2_len, hxl, List.length_map, List.length_set, List.length_append, List.length_take, List.length_drop, List.length_replicate, List.length_cons, List.length_nil] <;> omega)) hs11 rfl rfl rfl) rfl ?_
   refine w_pure want_none (y_eqFlat (l := _) (m := _) Try.eqGuardType106 Try_flat106 (by first | omega | rfl | (simp only [nx1_len, nx2_len, hxl, List.length_map, List.length_set, List.length_append, List.length_take, List.length_drop, List.length_replicate, List.length_cons, List.length_nil] <;> omega)) (by first | omega | rfl | (simp only [nx1_len, nx2_len, hxl, List.length_map, List.length_set, List.length_append, List.length_take, List.length_drop, List.length_replicate, List.length_cons, List.length_nil] <;> omega)) rfl rfl rfl rfl rfl rfl) rfl ?_
   refine w_nil ?_
   refine q_then (hK15 _ _ ?_)
   refine w_cond rfl rfl (fun h17 => ?_) (fun h17 => ?_)
   ·
    try simp only [Bool.not_eq_true', Bool.not_eq_false', decide_eq_true_eq, decide_eq_false_iff_not, Int.not_lt, Int.not_le] at h17
    exact absurd (by assumption) hne
   ·
    try simp only [Bool.not_eq_true', Bool.not_eq_false', decide_eq_true_eq, decide_eq_false_iff_not, Int.not_lt, Int.not_le] at h17
    refine w_skip ?_
    refine q_then (hK13 _ _ ?_)
    refine w_seq (fun K19 hK18 => ?_)
    refine w_region ?_
    refine w_pure want_none (y_loadI (i := 3) Try.isAgg106 Try.sizeOf106 (by first | omega | rfl | (simp only [nx1_len, nx2_len, hxl, List.length_map, List.length_set, List.length_append, List.length_take, List.length_drop, List.length_replicate, List.length_cons, List.length_nil] <;> omega)) hs11 rfl rfl rfl) rfl ?_
    refine w_storeI (i := 2) (l := _) want_none Try.sizeOf106 (by first | omega | rfl | (simp only [nx1_len, nx2_len, hxl, List.length_map, List.length_set, List.length_append, List.length_take, List.length_drop, List.length_replicate, List.length_cons, List.length_nil] <;> omega)) rfl rfl rfl rfl rfl hs11 rfl (by first | omega | rfl | (simp only [nx1_len, nx2_len, hxl, List.length_map, List.length_set, List.length_append, List.length_take, List.length_drop, List.length_replicate, List.length_cons, List.length_nil] <;> omega)) (fun w20 hs21 => ?_)
    refine w_nil ?_
    refine q_then (hK18 _ _ ?_)
    refine w_seq (fun K23 hK22 => ?_)
    refine w_region ?_
    refine w_pure want_none (y_load1 Try.isAgg128 hs21 rfl rfl (ats_own (i := 4) (vs := [_]) rfl rfl)) rfl ?_
    refine w_pure want_none (y_loadI (i := 3) Try.isAgg106 Try.sizeOf106 (by first | omega | rfl | (simp only [nx1_len, nx2_len, hxl, List.length_map, List.length_set, List.length_append, List.length_take, List.length_drop, List.length_replicate, List.length_cons, List.length_nil] <;> omega)) hs21 rfl rfl rfl) rfl ?_
    refine w_callV want_none rfl rfl rfl rfl (hy i _ R B M (_ :: _ :: _ :: _ :: _ :: X) _ hpos hJ hM hs21) ?_
    rintro _ w25 ⟨B1, M1, hM1, hs26, (⟨rfl, hJ1⟩ | ⟨rfl, hJ1⟩)⟩
    ·
     replace hs26 := (show St _ _ (_ :: _ :: _ :: _ :: _ :: X ++ (B1 ++ (M1 ++ (F)))) from hs26)
     refine w_pure want_none (y_assign (v := .bool _) rfl rfl) rfl ?_
     refine w_nil ?_
     refine q_then (hK22 _ _ ?_)
     refine w_ret ?_
     refine q_then_ret ?_
     refine q_ret (l := [.tmp 8]) (vs := [_]) rfl ⟨⟨rfl, show _ = (.bool _ : Value) from rfl⟩, trivial⟩ ?_
     first
       | exact ⟨cur, cur, B1, M1, hcl, hcl, hk6, hz, hM1, hs26.tail, .inl ⟨rfl, i + 1, drop_lt hpos, drop_next hpos, drop_notin hnd hpos, hJ1⟩⟩
       | exact ⟨cur, cur, B1, M1, hcl, hcl, hk6, hz, hM1, hs26.tail, .inr ⟨rfl, hJ1⟩⟩
       | exact ⟨cur2, last2, B2, M2, hc2, hl2, take_less6 hk2 hpl, hz2, hM2, hs26.tail, .inr ⟨rfl, hJ2⟩⟩
       | (rw [range_done (by omega)] at hpos
          exact ⟨cur, last, B, M, hcl, hll, hk6, hz, hM, hs26.tail, .inl ⟨rfl, i, hi, hpos, (by rw [← show Ls.drop i = R from hpos]; exact hlast), hJ⟩⟩)
    ·
     replace hs26 := (show St _ _ (_ :: _ :: _ :: _ :: _ :: X ++ (B1 ++ (M1 ++ (F)))) from hs26)
     refine w_pure want_none (y_assign (v := .bool _) rfl rfl) rfl ?_
     refine w_nil ?_
     refine q_then (hK22 _ _ ?_)
     refine w_ret ?_
     refine q_then_ret ?_
     refine q_ret (l := [.tmp 8]) (vs := [_]) rfl ⟨⟨rfl, show _ = (.bool _ : Value) from rfl⟩, trivial⟩ ?_
     first
       | exact ⟨cur, cur, B1, M1, hcl, hcl, hk6, hz, hM1, hs26.tail, .inl ⟨rfl, i + 1, drop_lt hpos, drop_next hpos, drop_notin hnd hpos, hJ1⟩⟩
       | exact ⟨cur, cur, B1, M1, hcl, hcl, hk6, hz, hM1, hs26.tail, .inr ⟨rfl, hJ1⟩⟩
       | exact ⟨cur2, last2, B2, M2, hc2, hl2, take_less6 hk2 hpl, hz2, hM2, hs26.tail, .inr ⟨rfl, hJ2⟩⟩
       | (rw [range_done (by omega)] at hpos
          exact ⟨cur, last, B, M, hcl, hll, hk6, hz, hM, hs26.tail, .inl ⟨rfl, i, hi, hpos, (by rw [← show Ls.drop i = R from hpos]; exact hlast), hJ⟩⟩)
  ·
   try simp only [Bool.not_eq_true', Bool.not_eq_false', decide_eq_true_eq, decide_eq_false_iff_not, Int.not_lt, Int.not_le] at h12
   refine w_skip ?_
   refine q_then (hK6 _ _ ?_)
   refine w_seq (fun K28 hK27 => ?_)
   obtain ⟨r, rfl⟩ : ∃ r, rem = r + 1 := ⟨rem - 1, by omega⟩
   have ih2 := ih r rfl
   have hd2 : d < m.trains.length := by omega
   rw [loads_here hgx hd2] at hpos
   have htr := hk.ok.train _ (List.getElem_mem hd2)
   have hmb := mostX_bound (m := m) (sub := sub) (t := m.trains[d]) hgx (by omega)
   obtain ⟨bt, ot, hbt, hxt⟩ := sl_trows hk.i.t hd2
   subst hbt
   refine w_region ?_
   refine w_pure want_none (y_fieldAddr (o := 7) (i := 2) Try.underlying93 rfl Try.sizeOf3 rfl rfl rfl) rfl ?_
   refine w_pure want_none (y_load1 Try.isAgg3 hs11 rfl rfl (ats_intsC (i := 0) (o := 7) rfl (by first | omega | rfl | (simp only [nx1_len, nx2_len, hxl, List.length_map, List.length_set, List.length_append, List.length_take, List.length_drop, List.length_replicate, List.length_cons, List.length_nil] <;> omega)))) rfl ?_
   refine w_pure want_none (y_assign (v := .int _ _) rfl rfl) rfl ?_
   refine w_nil ?_
   refine q_then (hK27 _ _ ?_)
   refine w_seq (fun K30 hK29 => ?_)
   refine w_region ?_
   refine w_pure want_none (y_load1 Try.isAgg83 hs11.tail.tail.tail.tail.tail.drop.drop.drop rfl rfl h1) rfl ?_
   refine w_pure want_none (y_nilCheck rfl rfl) rfl ?_
   refine w_pure want_none (y_fieldAddr (o := 0) (i := 0) Try.underlying122 rfl Try.sizeOf26 rfl rfl rfl) rfl ?_
   refine w_pure want_none (y_fieldAddr (o := 2) (i := 2) Try.underlying26 rfl Try.sizeOf24 rfl rfl rfl) rfl ?_
   refine w_pure want_none (y_load1 Try.isAgg24 hs11.tail.tail.tail.tail.tail.drop.drop.drop rfl rfl (show Ats _ _ _ _ [_] from Ats.part hb 2 1)) rfl ?_
   refine w_pure want_none (y_move (v := .int _ _) rfl rfl) rfl ?_
   refine w_pure want_none (y_indexS Try.underlying24 Try.sizeOf63 rfl rfl rfl rfl (i := d) (by omega) (by omega)) rfl ?_
   refine w_pure want_none (y_loadN (vs := [_, _, _, _]) Try.isAgg63 Try.sizeOf63 hs11.tail.tail.tail.tail.tail.drop.drop.drop rfl rfl hxt) rfl ?_
   refine w_alloc (cs := [_, _, _, _]) want_none Try.zeroValue63 rfl hs11 (fun b31 w32 hs33 => ?_)
   refine w_store (i := 0) (v := .agg #[.int _ _, .int _ _, .int _ _, .int _ _]) (vs := [_, _, _, _]) want_none Try.sizeOf63 rfl rfl rfl rfl rfl (by simp [Value.oneCell']) hs33 rfl (Nat.le_of_ble_eq_true rfl) (fun w34 hs35 => ?_)
   refine w_nil ?_
   refine q_then (hK29 _ _ ?_)
   refine w_seq (fun K37 hK36 => ?_)
   refine w_region ?_
   refine w_pure want_none (y_assign (v := _) rfl rfl) rfl ?_
   refine w_nil ?_
   refine q_then (hK36 _ _ ?_)
   refine w_seq (fun K39 hK38 => ?_)
   refine w_cut [11, 40, 41, 42, 43, 44, 45, 46, 47, 48, 49, 50, 51, 52, 53, 54, 55, 56, 57, 58, 59, 60, 61, 62, 63] [11] (fun vs w => vs = [.int .i64 (mostX m sub x (m.trains[d]'hd2))] ∧ St w0 w ((b31, blk 63 (Train.cells (m.trains[d]'hd2))) :: (b3, blk 93 (iv x)) :: (bn, blk 129 [.func (.func 95) #[] #[.pointer (some ⟨bp, 0, none⟩), .pointer (some ⟨bl, 0, none⟩), .pointer (some ⟨bla, 0, none⟩), .pointer (some ⟨bY, 0, none⟩), .pointer (some ⟨bs, 0, none⟩), .pointer (some ⟨bn, 0, none⟩)]]) :: (bla, blk 106 (iv last)) :: (bl, blk 106 (iv cur)) :: (bY, blk 128 [yv]) :: (X ++ (B ++ (M ++ F))))) (fun K41 hC40 => ?_) ?_
   ·
    refine w_seq (fun K43 hK42 => ?_)
    refine w_region ?_
    refine w_pure want_none (y_load1 Try.isAgg83 hs35.tail.tail.tail.tail.tail.tail.drop.drop.drop rfl rfl h1) rfl ?_
    refine w_pure want_none (y_move (v := .int _ _) rfl rfl) rfl ?_
    refine w_call want_none Try.call65 rfl rfl rfl rfl (goes_at m _ mb mm hk.app.app.app.cons.cons.cons.cons.cons.cons d hd2 hat hs35) ?_
    rintro _ w45 ⟨rfl, hs46⟩
    refine w_pure want_none (y_move (v := .bool _) rfl rfl) rfl ?_
    refine w_split (fun h47 => ?_) (fun h47 => ?_)
    ·
     try simp only [Bool.not_eq_true', Bool.not_eq_false', decide_eq_true_eq, decide_eq_false_iff_not, Int.not_lt, Int.not_le] at h47
     refine w_pure (want_yes rfl rfl rfl) (y_load1 Try.isAgg3 hs46.tail.tail.tail.tail.tail.tail.drop.drop.drop rfl rfl h5) rfl ?_
     refine w_pure (want_yes rfl rfl rfl) (y_fieldAddr (o := 1) (i := 1) Try.underlying63 rfl Try.sizeOf3 rfl rfl rfl) rfl ?_
     refine w_pure (want_yes rfl rfl rfl) (y_load1 Try.isAgg3 hs46 rfl rfl (ats_own (i := 0) (vs := [_]) rfl rfl)) rfl ?_
     refine w_pure (want_yes rfl rfl rfl) (y_shr (x := _) (y := (m.trains[d]'hd2).shop.toNat) rfl rfl rfl rfl rfl (by first | rfl | omega) (by first | omega | exact shr_lt (by omega))) rfl ?_
     refine w_pure (want_yes rfl rfl rfl) (show Yd _ _ _ _ (.int .i64 ((bit sub (m.trains[d]'hd2).shop.toNat : Nat) : Int)) from (y_and (x := _) (y := 1) rfl rfl rfl rfl rfl rfl (by first | omega | exact shr_lt (by omega)) (by first | omega | exact shr_lt (by omega)))) rfl ?_
     refine w_pure (want_yes rfl rfl rfl) (y_eql rfl rfl rfl rfl) rfl ?_
     refine w_pure want_none (y_pickT (v := .bool _) rfl rfl rfl rfl) rfl ?_
     refine w_nil ?_
     refine q_then (hK42 _ _ ?_)
     refine w_cond rfl rfl (fun h48 => ?_) (fun h48 => ?_)
     ·
      try simp only [Bool.not_eq_true', Bool.not_eq_false', decide_eq_true_eq, decide_eq_false_iff_not, Int.not_lt, Int.not_le] at h48
      refine w_draw [] [(0, 0), (1, 1), (2, 0), (3, 1), (4, 0), (5, 0), (6, 1), (7, 0), (8, 1), (9, 0), (10, 0), (11, 1), (12, 0), (13, 0)] Try_mo (by kernel_rfl) hs46 (fun w49 hs50 => ?_)
      refine d_any rfl want_none rfl (fun _ => (y_fieldAddr (o := 3) (i := 3) Try.underlying63 rfl Try.sizeOf3 rfl rfl rfl)) ?_
      refine d_take rfl want_none rfl hs50 (fun _ hq => (y_load1 Try.isAgg3 hq rfl rfl (ats_own (i := 0) (vs := [_]) rfl rfl))) ?_
      refine d_any rfl want_none rfl (fun _ => (y_fieldAddr (o := 0) (i := 0) Try.underlying63 rfl Try.sizeOf3 rfl rfl rfl)) ?_
      refine d_take rfl want_none rfl hs50 (fun _ hq => (y_load1 Try.isAgg3 hq rfl rfl (ats_own (i := 0) (vs := [_]) rfl rfl))) ?_
      refine d_any rfl want_none rfl (fun _ => (y_fieldAddr (o := 0) (i := 0) Try.underlying93 rfl Try.sizeOf90 rfl rfl rfl)) ?_
      refine d_any rfl want_none rfl (fun _ => (y_indexA Try.underlying90 Try.sizeOf3 rfl rfl rfl rfl (i := (m.trains[d]'hd2).room.toNat) (by first | rfl | omega) (by omega))) ?_
      refine d_take rfl want_none rfl hs50 (fun _ hq => (y_load1 Try.isAgg3 hq rfl rfl (ats_ints (i := 1) (j := (m.trains[d]'hd2).room.toNat) rfl (by first | omega | rfl | (simp only [nx1_len, nx2_len, hxl, List.length_map, List.length_set, List.length_append, List.length_take, List.length_drop, List.length_replicate, List.length_cons, List.length_nil] <;> omega))))) ?_
      refine d_any rfl want_none rfl (fun _ => (y_fieldAddr (o := 1) (i := 1) Try.underlying63 rfl Try.sizeOf3 rfl rfl rfl)) ?_
      refine d_take rfl want_none rfl hs50 (fun _ hq => (y_load1 Try.isAgg3 hq rfl rfl (ats_own (i := 0) (vs := [_]) rfl rfl))) ?_
      refine d_any rfl want_none rfl (fun _ => (y_fieldAddr (o := 3) (i := 1) Try.underlying93 rfl Try.sizeOf91 rfl rfl rfl)) ?_
      refine d_any rfl want_none rfl (fun _ => (y_indexA Try.underlying91 Try.sizeOf3 rfl rfl rfl rfl (i := (m.trains[d]'hd2).shop.toNat) (by first | rfl | omega) (by omega))) ?_
      refine d_take rfl want_none rfl hs50 (fun _ hq => (y_load1 Try.isAgg3 hq rfl rfl (ats_intsO (i := 1) (o := 3) (j := (m.trains[d]'hd2).shop.toNat) rfl (by first | omega | rfl | (simp only [nx1_len, nx2_len, hxl, List.length_map, List.length_set, List.length_append, List.length_take, List.length_drop, List.length_replicate, List.length_cons, List.length_nil] <;> omega))))) ?_
      refine d_any rfl want_none rfl (fun _ => (y_min3 rfl rfl rfl rfl rfl rfl)) ?_
      refine d_any rfl want_none rfl (fun _ => (y_assign (v := .int _ _) rfl rfl)) ?_
      refine d_nil ?_
      refine q_then (hC40 _ _ (Md.intro (by repeat (first | exact agree_refl | exact agree_mix | refine agree_upd rfl ?_ | refine agree_updL rfl ?_ _ | refine agree_mixin rfl ?_)) ?_))
      first
        | exact ⟨by rw [mostX_yes (by assumption) (by omega)]; rfl, hs50⟩
        | exact ⟨by rw [mostX_no (by first | exact .inl (by assumption) | exact .inr (by omega))]; rfl, hs50⟩
     ·
      try simp only [Bool.not_eq_true', Bool.not_eq_false', decide_eq_true_eq, decide_eq_false_iff_not, Int.not_lt, Int.not_le] at h48
      refine w_skip ?_
      refine q_then (hC40 _ _ (Md.intro (by repeat (first | exact agree_refl | exact agree_mix | refine agree_upd rfl ?_ | refine agree_updL rfl ?_ _ | refine agree_mixin rfl ?_)) ?_))
      first
        | exact ⟨by rw [mostX_yes (by assumption) (by omega)]; rfl, hs46⟩
        | exact ⟨by rw [mostX_no (by first | exact .inl (by assumption) | exact .inr (by omega))]; rfl, hs46⟩
    ·
     try simp only [Bool.not_eq_true', Bool.not_eq_false', decide_eq_true_eq, decide_eq_false_iff_not, Int.not_lt, Int.not_le] at h47
     refine w_skipop rfl rfl rfl ?_
     refine w_skipop rfl rfl rfl ?_
     refine w_skipop rfl rfl rfl ?_
     refine w_skipop rfl rfl rfl ?_
     refine w_skipop rfl rfl rfl ?_
     refine w_skipop rfl rfl rfl ?_
     refine w_pure want_none (y_pickF (v := _) rfl rfl rfl rfl) rfl ?_
     refine w_nil ?_
     refine q_then (hK42 _ _ ?_)
     refine w_condF rfl rfl ?_
     refine w_skip ?_
     refine q_then (hC40 _ _ (Md.intro (by repeat (first | exact agree_refl | exact agree_mix | refine agree_upd rfl ?_ | refine agree_updL rfl ?_ _ | refine agree_mixin rfl ?_)) ?_))
     first
       | exact ⟨by rw [mostX_yes (by assumption) (by omega)]; rfl, hs46⟩
       | exact ⟨by rw [mostX_no (by first | exact .inl (by assumption) | exact .inr (by omega))]; rfl, hs46⟩
   ·
    intro vs μ w51 hM
    obtain ⟨rfl, hs⟩ := hM
    refine q_then (hK38 _ _ ?_)
    refine w_seq (fun K53 hK52 => ?_)
    refine w_seq (fun K55 hK54 => ?_)
    refine w_region ?_
    refine w_pure want_none (y_move (v := .int _ _) rfl rfl) rfl ?_
    refine w_pure want_none (y_add rfl rfl rfl rfl (by omega) (by omega)) rfl ?_
    refine w_pure want_none (y_move (v := _) rfl rfl) rfl ?_
    refine w_nil ?_
    refine q_then (hK54 _ _ ?_)
    refine w_block ?_
    refine w_loop [8, 12, 13, 66, 67, 68, 69, 70, 71, 72, 73, 74, 75, 76, 77, 78, 79, 80, 81, 82, 83, 84, 85, 86, 87, 88, 89, 90, 91, 92, 93, 94, 95, 96, 97, 98, 99, 100, 101, 102, 103, 104, 105] [66] (fun k vs w => ∃ (n : Nat) (cur last : List Int) (i : Nat) (B M : List (Nat × Obj)), vs = [.int .i64 n] ∧ (n : Int) ≤ mostX m sub x (m.trains[d]'hd2) + 1 ∧ k = (mostX m sub x (m.trains[d]'hd2)).toNat + 1 - n ∧ cur.length = 6 ∧ last.length = 6 ∧ cur.take d = pre ∧ (∀ j, m.trains.length ≤ j → cur.getD j 0 = 0) ∧ i ≤ Ls.length ∧ Ls.drop i = (((List.range ((mostX m sub x (m.trains[d]'hd2)).toNat + 1)).drop n).flatMap fun n => (segN m sub r x (m.trains[d]'hd2) pre n).map pad6) ++ R ∧ last ∉ Ls.drop i ∧ J i B ∧ Memo m mm M ∧ St w0 w ((b31, blk 63 (Train.cells (m.trains[d]'hd2))) :: (b3, blk 93 (iv x)) :: (bn, blk 129 [.func (.func 95) #[] #[.pointer (some ⟨bp, 0, none⟩), .pointer (some ⟨bl, 0, none⟩), .pointer (some ⟨bla, 0, none⟩), .pointer (some ⟨bY, 0, none⟩), .pointer (some ⟨bs, 0, none⟩), .pointer (some ⟨bn, 0, none⟩)]]) :: (bla, blk 106 (iv last)) :: (bl, blk 106 (iv cur)) :: (bY, blk 128 [yv]) :: (X ++ (B ++ (M ++ F))))) ((mostX m sub x (m.trains[d]'hd2)).toNat + 1) ?_ ?_
    ·
     exact ⟨0, cur, last, i, B, M, rfl, by omega, by omega, hcl, hll, hk6, hz, hi, hpos, hlast, hJ, hM, hs⟩
    ·
     intro k vs μ w58 hI K57 hN56
     clear hk6 hz hi hpos hll hlast hJ hs hcl hM
     obtain ⟨n, cur, last, i, B, M, rfl, hn, rfl, hcl, hll, hk6, hz, hi, hpos, hlast, hJ, hM, hs⟩ := hI
     refine w_seq (fun K60 hK59 => ?_)
     refine w_region ?_
     refine w_pure want_none (y_lss rfl rfl rfl rfl) rfl ?_
     refine w_nil ?_
     refine q_then (hK59 _ _ ?_)
     refine w_seq (fun K62 hK61 => ?_)
     refine w_cond rfl rfl (fun h63 => ?_) (fun h63 => ?_)
     ·
      try simp only [Bool.not_eq_true', Bool.not_eq_false', decide_eq_true_eq, decide_eq_false_iff_not, Int.not_lt, Int.not_le] at h63
      refine w_skip ?_
      refine q_then (hK61 _ _ ?_)
      refine w_seq (fun K65 hK64 => ?_)
      refine w_block ?_
      refine w_seq (fun K67 hK66 => ?_)
      have hnm : n < (mostX m sub x (m.trains[d]'hd2)).toNat + 1 := by omega
      have hg1 := hgx.get (m.trains[d]'hd2).room.toNat
      have hg2 := hgx.get (3 + (m.trains[d]'hd2).shop.toNat)
      have he1 : (x.set 7 (x.getD 7 0 + 1)).getD (m.trains[d]'hd2).room.toNat 0 = x.getD (m.trains[d]'hd2).room.toNat 0 := nx1_get (by omega)
      have he2 : ((x.set 7 (x.getD 7 0 + 1)).set (m.trains[d]'hd2).room.toNat ((x.set 7 (x.getD 7 0 + 1)).getD (m.trains[d]'hd2).room.toNat 0 - (n : Int))).getD (3 + (m.trains[d]'hd2).shop.toNat) 0 = x.getD (3 + (m.trains[d]'hd2).shop.toNat) 0 := nx2_get (by omega) (by omega)
      refine w_region ?_
      refine w_pure want_none (y_move (v := .int _ _) rfl rfl) rfl ?_
      refine w_pure want_none (y_assign (v := .int _ _) rfl rfl) rfl ?_
      refine w_nil ?_
      refine q_then (hK66 _ _ ?_)
      refine w_seq (fun K69 hK68 => ?_)
      refine w_region ?_
      refine w_pure want_none (y_loadI (i := 1) Try.isAgg93 Try.sizeOf93 (by first | omega | rfl | (simp only [nx1_len, nx2_len, hxl, List.length_map, List.length_set, List.length_append, List.length_take, List.length_drop, List.length_replicate, List.length_cons, List.length_nil] <;> omega)) hs rfl rfl rfl) rfl ?_
      refine w_alloc (cs := iv [0, 0, 0, 0, 0, 0, 0, 0]) want_none Try.zeroValue93 rfl hs (fun b70 w71 hs72 => ?_)
      refine w_storeI (i := 0) (l := _) want_none Try.sizeOf93 (by first | omega | rfl | (simp only [nx1_len, nx2_len, hxl, List.length_map, List.length_set, List.length_append, List.length_take, List.length_drop, List.length_replicate, List.length_cons, List.length_nil] <;> omega)) rfl rfl rfl rfl rfl hs72 rfl (by first | omega | rfl | (simp only [nx1_len, nx2_len, hxl, List.length_map, List.length_set, List.length_append, List.length_take, List.length_drop, List.length_replicate, List.length_cons, List.length_nil] <;> omega)) (fun w73 hs74 => ?_)
      refine w_nil ?_
      refine q_then (hK68 _ _ ?_)
      refine w_seq (fun K76 hK75 => ?_)
      refine w_region ?_
      refine w_pure want_none (y_fieldAddr (o := 7) (i := 2) Try.underlying93 rfl Try.sizeOf3 rfl rfl rfl) rfl ?_
      refine w_pure want_none (y_load1 Try.isAgg3 hs74 rfl rfl (ats_intsC (i := 0) (o := 7) rfl (by first | omega | rfl | (simp only [nx1_len, nx2_len, hxl, List.length_map, List.length_set, List.length_append, List.length_take, List.length_drop, List.length_replicate, List.length_cons, List.length_nil] <;> omega)))) rfl ?_
      refine w_pure want_none (y_add rfl rfl rfl rfl (by omega) (by omega)) rfl ?_
      refine w_pure want_none (y_fieldAddr (o := 7) (i := 2) Try.underlying93 rfl Try.sizeOf3 rfl rfl rfl) rfl ?_
      refine w_storeAtIC (i := 0) (o := 7) want_none Try.sizeOf3 rfl rfl rfl rfl hs74 rfl (by first | omega | rfl | (simp only [nx1_len, nx2_len, hxl, List.length_map, List.length_set, List.length_append, List.length_take, List.length_drop, List.length_replicate, List.length_cons, List.length_nil] <;> omega)) (fun w77 hs78 => ?_)
      refine w_nil ?_
      refine q_then (hK75 _ _ ?_)
      refine w_seq (fun K80 hK79 => ?_)
      refine w_region ?_
      refine w_pure want_none (y_fieldAddr (o := 0) (i := 0) Try.underlying63 rfl Try.sizeOf3 rfl rfl rfl) rfl ?_
      refine w_pure want_none (y_load1 Try.isAgg3 hs78 rfl rfl (ats_own (i := 1) (vs := [_]) rfl rfl)) rfl ?_
      refine w_pure want_none (y_fieldAddr (o := 0) (i := 0) Try.underlying93 rfl Try.sizeOf90 rfl rfl rfl) rfl ?_
      refine w_pure want_none (y_indexA Try.underlying90 Try.sizeOf3 rfl rfl rfl rfl (i := (m.trains[d]'hd2).room.toNat) (by first | rfl | omega) (by omega)) rfl ?_
      refine w_pure want_none (y_load1 Try.isAgg3 hs78 rfl rfl (ats_ints (i := 0) (j := (m.trains[d]'hd2).room.toNat) rfl (by first | omega | rfl | (simp only [nx1_len, nx2_len, hxl, List.length_map, List.length_set, List.length_append, List.length_take, List.length_drop, List.length_replicate, List.length_cons, List.length_nil] <;> omega)))) rfl ?_
      refine w_pure want_none (y_move (v := .int _ _) rfl rfl) rfl ?_
      refine w_pure want_none (y_sub rfl rfl rfl rfl (by omega) (by omega)) rfl ?_
      refine w_pure want_none (y_fieldAddr (o := 0) (i := 0) Try.underlying93 rfl Try.sizeOf90 rfl rfl rfl) rfl ?_
      refine w_pure want_none (y_indexA Try.underlying90 Try.sizeOf3 rfl rfl rfl rfl (i := (m.trains[d]'hd2).room.toNat) (by first | rfl | omega) (by omega)) rfl ?_
      refine w_storeAtI (i := 0) (j := (m.trains[d]'hd2).room.toNat) want_none Try.sizeOf3 rfl rfl rfl rfl hs78 rfl (by first | omega | rfl | (simp only [nx1_len, nx2_len, hxl, List.length_map, List.length_set, List.length_append, List.length_take, List.length_drop, List.length_replicate, List.length_cons, List.length_nil] <;> omega)) (fun w81 hs82 => ?_)
      refine w_nil ?_
      refine q_then (hK79 _ _ ?_)
      refine w_seq (fun K84 hK83 => ?_)
      refine w_region ?_
      refine w_pure want_none (y_fieldAddr (o := 1) (i := 1) Try.underlying63 rfl Try.sizeOf3 rfl rfl rfl) rfl ?_
      refine w_pure want_none (y_load1 Try.isAgg3 hs82 rfl rfl (ats_own (i := 1) (vs := [_]) rfl rfl)) rfl ?_
      refine w_pure want_none (y_fieldAddr (o := 3) (i := 1) Try.underlying93 rfl Try.sizeOf91 rfl rfl rfl) rfl ?_
      refine w_pure want_none (y_indexA Try.underlying91 Try.sizeOf3 rfl rfl rfl rfl (i := (m.trains[d]'hd2).shop.toNat) (by first | rfl | omega) (by omega)) rfl ?_
      refine w_pure want_none (y_load1 Try.isAgg3 hs82 rfl rfl (ats_intsO (i := 0) (o := 3) (j := (m.trains[d]'hd2).shop.toNat) rfl (by first | omega | rfl | (simp only [nx1_len, nx2_len, hxl, List.length_map, List.length_set, List.length_append, List.length_take, List.length_drop, List.length_replicate, List.length_cons, List.length_nil] <;> omega)))) rfl ?_
      refine w_pure want_none (y_move (v := .int _ _) rfl rfl) rfl ?_
      refine w_pure want_none (y_sub rfl rfl rfl rfl (by omega) (by omega)) rfl ?_
      refine w_pure want_none (y_fieldAddr (o := 3) (i := 1) Try.underlying93 rfl Try.sizeOf91 rfl rfl rfl) rfl ?_
      refine w_pure want_none (y_indexA Try.underlying91 Try.sizeOf3 rfl rfl rfl rfl (i := (m.trains[d]'hd2).shop.toNat) (by first | rfl | omega) (by omega)) rfl ?_
      refine w_storeAtIO (i := 0) (o := 3) (j := (m.trains[d]'hd2).shop.toNat) want_none Try.sizeOf3 rfl rfl rfl rfl hs82 rfl (by first | omega | rfl | (simp only [nx1_len, nx2_len, hxl, List.length_map, List.length_set, List.length_append, List.length_take, List.length_drop, List.length_replicate, List.length_cons, List.length_nil] <;> omega)) (fun w85 hs86 => ?_)
      refine w_nil ?_
      refine q_then (hK83 _ _ ?_)
      refine w_seq (fun K88 hK87 => ?_)
      refine w_region ?_
      refine w_pure want_none (y_move (v := .int _ _) rfl rfl) rfl ?_
      refine w_pure want_none (y_move (v := .int _ _) rfl rfl) rfl ?_
      refine w_pure want_none (y_indexA Try.underlying106 Try.sizeOf3 rfl rfl rfl rfl (i := d) (by first | rfl | omega) (by omega)) rfl ?_
      refine w_storeAtI (i := 5) (j := d) want_none Try.sizeOf3 rfl rfl rfl rfl hs86 rfl (by first | omega | rfl | (simp only [nx1_len, nx2_len, hxl, List.length_map, List.length_set, List.length_append, List.length_take, List.length_drop, List.length_replicate, List.length_cons, List.length_nil] <;> omega)) (fun w89 hs90 => ?_)
      refine w_nil ?_
      refine q_then (hK87 _ _ ?_)
      refine w_seq (fun K92 hK91 => ?_)
      refine w_region ?_
      refine w_pure want_none (y_load1 Try.isAgg83 hs90.tail.tail.tail.tail.tail.tail.tail.drop.drop.drop rfl rfl h1) rfl ?_
      refine w_pure want_none (y_loadI (i := 0) Try.isAgg93 Try.sizeOf93 (by first | omega | rfl | (simp only [nx1_len, nx2_len, hxl, List.length_map, List.length_set, List.length_append, List.length_take, List.length_drop, List.length_replicate, List.length_cons, List.length_nil] <;> omega)) hs90 rfl rfl rfl) rfl ?_
      refine w_pure want_none (y_load1 Try.isAgg3 hs90.tail.tail.tail.tail.tail.tail.tail.drop.drop.drop rfl rfl h5) rfl ?_
      refine w_call want_none Try.call67 rfl rfl rfl rfl (c67 (X := [_, _, _, _, _, _, _] ++ (X ++ B)) m _ mb mm hk _ (nextX_good hgx (by omega) (by omega) (by omega) (by omega) (by omega) (by omega)).small _ hM (st_in (P := [_, _, _, _, _, _, _]) hs90)) ?_
      rintro _ w94 ⟨rfl, M96, hM96, hs95⟩
      replace hs95 := (show St _ _ (_ :: _ :: _ :: _ :: _ :: _ :: _ :: X ++ (B ++ (M96 ++ (F)))) from st_out (P := [_, _, _, _, _, _, _]) hs95)
      refine w_pure want_none (y_move (v := .bool _) rfl rfl) rfl ?_
      refine w_split (fun h98 => ?_) (fun h98 => ?_)
      ·
       try simp only [Bool.not_eq_true', Bool.not_eq_false', decide_eq_true_eq, decide_eq_false_iff_not, Int.not_lt, Int.not_le] at h98
       refine w_pure (want_yes rfl rfl rfl) (y_load1 Try.isAgg129 hs95 rfl rfl (ats_own (i := 3) (vs := [_]) rfl rfl)) rfl ?_
       refine w_pure (want_yes rfl rfl rfl) (y_loadI (i := 0) Try.isAgg93 Try.sizeOf93 (by first | omega | rfl | (simp only [nx1_len, nx2_len, hxl, List.length_map, List.length_set, List.length_append, List.length_take, List.length_drop, List.length_replicate, List.length_cons, List.length_nil] <;> omega)) hs95 rfl rfl rfl) rfl ?_
       refine w_call (want_yes rfl rfl rfl) Try.call95 rfl rfl rfl rfl (ih2 (d + 1) (pre ++ [(n : Int)]) _ last i _ _ B M96 (_ :: _ :: _ :: X) _ (by omega) (by simp; omega) (by rw [List.length_set]; exact hcl) (set_take6 hk6 (by omega)) (set_zero6 (by omega) hz) (nextX_good hgx (by omega) (by omega) (by omega) (by omega) (by omega) (by omega)) hi (by have hq := seg_more hnm hpos; rw [seg_yes (by assumption)] at hq; exact hq) hll hlast hJ hM96 (fr7 hs95)) ?_
       rintro _ w100 ⟨cur2, last2, B2, M2, hc2, hl2, hk2, hz2, hM2, hs101, (⟨rfl, i2, hi2, hp2, hn2, hJ2⟩ | ⟨rfl, hJ2⟩)⟩
       ·
        replace hs101 := bk7 (show St _ _ (_ :: _ :: _ :: _ :: _ :: _ :: _ :: (X ++ (B2 ++ (M2 ++ F)))) from hs101)
        refine w_pure (want_yes rfl rfl rfl) (y_not rfl rfl) rfl ?_
        refine w_pure want_none (y_pickT (v := .bool _) rfl rfl rfl rfl) rfl ?_
        refine w_nil ?_
        refine q_then (hK91 _ _ ?_)
        refine w_condF rfl rfl ?_
        refine w_skip ?_
        refine q_blk_normal ?_
        refine q_then (hK64 _ _ ?_)
        refine w_region ?_
        refine w_pure want_none (y_add rfl rfl rfl rfl (by omega) (by omega)) rfl ?_
        refine w_pure want_none (y_move (v := .int _ _) rfl rfl) rfl ?_
        refine w_nil ?_
        refine q_then (hN56 _ _ (Nx.intro ((mostX m sub x (m.trains[d]'hd2)).toNat + 1 - (n + 1)) (by omega) (by repeat (first | exact agree_mix | refine agree_upd rfl ?_ | refine agree_updL rfl ?_ _ | refine agree_mixin rfl ?_)) ?_))
        first
          | exact ⟨n + 1, cur2, last2, i2, B2, M2, rfl, by omega, rfl, hc2, hl2, take_less6 hk2 hpl, hz2, hi2, hp2, (by rw [hp2]; exact hn2), hJ2, hM2, hs101.tail⟩
          | (have hq := seg_more hnm hpos
             rw [seg_no (by assumption)] at hq
             exact ⟨n + 1, _, last, i, B, M2, rfl, by omega, rfl, (by rw [List.length_set]; exact hcl), hll, (by rw [List.take_set_of_le (Nat.le_refl _)]; exact hk6), set_zero6 (by omega) hz, hi, hq, hlast, hJ, hM2, hs101.tail⟩)
       ·
        replace hs101 := bk7 (show St _ _ (_ :: _ :: _ :: _ :: _ :: _ :: _ :: (X ++ (B2 ++ (M2 ++ F)))) from hs101)
        refine w_pure (want_yes rfl rfl rfl) (y_not rfl rfl) rfl ?_
        refine w_pure want_none (y_pickT (v := .bool _) rfl rfl rfl rfl) rfl ?_
        refine w_nil ?_
        refine q_then (hK91 _ _ ?_)
        refine w_condT rfl rfl ?_
        refine w_seq (fun K103 hK102 => ?_)
        refine w_region ?_
        refine w_pure want_none (y_assign (v := _) rfl rfl) rfl ?_
        refine w_nil ?_
        refine q_then (hK102 _ _ ?_)
        refine w_ret ?_
        refine q_blk_ret ?_
        refine q_then_ret ?_
        refine q_then_ret ?_
        refine q_blk_ret ?_
        refine q_then_ret ?_
        refine q_ret (l := [.tmp 8]) (vs := [_]) rfl ⟨⟨rfl, show _ = (.bool _ : Value) from rfl⟩, trivial⟩ ?_
        first
          | exact ⟨cur, cur, B1, M1, hcl, hcl, hk6, hz, hM1, hs101.tail.tail.tail, .inl ⟨rfl, i + 1, drop_lt hpos, drop_next hpos, drop_notin hnd hpos, hJ1⟩⟩
          | exact ⟨cur, cur, B1, M1, hcl, hcl, hk6, hz, hM1, hs101.tail.tail.tail, .inr ⟨rfl, hJ1⟩⟩
          | exact ⟨cur2, last2, B2, M2, hc2, hl2, take_less6 hk2 hpl, hz2, hM2, hs101.tail.tail.tail, .inr ⟨rfl, hJ2⟩⟩
          | (rw [range_done (by omega)] at hpos
             exact ⟨cur, last, B, M, hcl, hll, hk6, hz, hM, hs101.tail.tail.tail, .inl ⟨rfl, i, hi, hpos, (by rw [← show Ls.drop i = R from hpos]; exact hlast), hJ⟩⟩)
      ·
       try simp only [Bool.not_eq_true', Bool.not_eq_false', decide_eq_true_eq, decide_eq_false_iff_not, Int.not_lt, Int.not_le] at h98
       refine w_skipop rfl rfl rfl ?_
       refine w_skipop rfl rfl rfl ?_
       refine w_skipop rfl rfl rfl ?_
       refine w_skipop rfl rfl rfl ?_
       refine w_pure want_none (y_pickF (v := _) rfl rfl rfl rfl) rfl ?_
       refine w_nil ?_
       refine q_then (hK91 _ _ ?_)
       refine w_condF rfl rfl ?_
       refine w_skip ?_
       refine q_blk_normal ?_
       refine q_then (hK64 _ _ ?_)
       refine w_region ?_
       refine w_pure want_none (y_add rfl rfl rfl rfl (by omega) (by omega)) rfl ?_
       refine w_pure want_none (y_move (v := .int _ _) rfl rfl) rfl ?_
       refine w_nil ?_
       refine q_then (hN56 _ _ (Nx.intro ((mostX m sub x (m.trains[d]'hd2)).toNat + 1 - (n + 1)) (by omega) (by repeat (first | exact agree_mix | refine agree_upd rfl ?_ | refine agree_updL rfl ?_ _ | refine agree_mixin rfl ?_)) ?_))
       first
         | exact ⟨n + 1, cur2, last2, i2, B2, M2, rfl, by omega, rfl, hc2, hl2, take_less6 hk2 hpl, hz2, hi2, hp2, (by rw [hp2]; exact hn2), hJ2, hM2, hs95.tail⟩
         | (have hq := seg_more hnm hpos
            rw [seg_no (by assumption)] at hq
            exact ⟨n + 1, _, last, i, B, M96, rfl, by omega, rfl, (by rw [List.length_set]; exact hcl), hll, (by rw [List.take_set_of_le (Nat.le_refl _)]; exact hk6), set_zero6 (by omega) hz, hi, hq, hlast, hJ, hM96, hs95.tail⟩)
     ·
      try simp only [Bool.not_eq_true', Bool.not_eq_false', decide_eq_true_eq, decide_eq_false_iff_not, Int.not_lt, Int.not_le] at h63
      refine w_exit ?_
      refine q_then_exit ?_
      refine q_then_exit ?_
      refine q_blk_this ?_
      refine q_then (hK52 _ _ ?_)
      refine w_seq (fun K105 hK104 => ?_)
      refine w_region ?_
      refine w_pure want_none (y_assign (v := _) rfl rfl) rfl ?_
      refine w_nil ?_
      refine q_then (hK104 _ _ ?_)
      refine w_ret ?_
      refine q_ret (l := [.tmp 8]) (vs := [_]) rfl ⟨⟨rfl, show _ = (.bool _ : Value) from rfl⟩, trivial⟩ ?_
      first
        | exact ⟨cur, cur, B1, M1, hcl, hcl, hk6, hz, hM1, hs.tail.tail, .inl ⟨rfl, i + 1, drop_lt hpos, drop_next hpos, drop_notin hnd hpos, hJ1⟩⟩
        | exact ⟨cur, cur, B1, M1, hcl, hcl, hk6, hz, hM1, hs.tail.tail, .inr ⟨rfl, hJ1⟩⟩
        | exact ⟨cur2, last2, B2, M2, hc2, hl2, take_less6 hk2 hpl, hz2, hM2, hs.tail.tail, .inr ⟨rfl, hJ2⟩⟩
        | (rw [range_done (by omega)] at hpos
           exact ⟨cur, last, B, M, hcl, hll, hk6, hz, hM, hs.tail.tail, .inl ⟨rfl, i, hi, hpos, (by rw [← show Ls.drop i = R from hpos]; exact hlast), hJ⟩⟩)

end Go.Proofs
/- Walks of this seat, printed by gen.py over the engine: what each function returns, in whatever world. No conditions but those of each contract. -/
set_option linter.unusedVariables false
set_option linter.unusedSimpArgs false
set_option maxRecDepth 20000
namespace Go.Proofs
open Go.Rt Go.Rt.Sh
attribute [local irreducible] WL WC Con Yd At Ats Sl Agree DW

theorem next_all {w0 : World} {F : List (Nat × Obj)} (m : Market) (p : At3) (mb mm : Nat) (hk : MK w0 F m p mb mm)  (sub bp bl bla bY bs bn : Nat) (hsub : sub < 1000) (h1 : Ats w0 F bp 0 [.pointer (some ⟨mb, 0, none⟩)]) (h5 : Ats w0 F bs 0 [.int .i64 (sub : Int)]) (Ls : List (List Int)) (hnd : Ls.Nodup) (J : Nat → List (Nat × Obj) → Prop) (Js : List (Nat × Obj) → Prop) (yv : Value) (hy : ∀ (i : Nat) (x : List Int) (R : List (List Int)) (B M X : List (Nat × Obj)) (w : World), Ls.drop i = x :: R → J i B → Memo m mm M → St w0 w (X ++ (B ++ (M ++ F))) → FCon Try.prog yv [ia x] w fun v w' => ∃ B' M', Memo m mm M' ∧ St w0 w' (X ++ (B' ++ (M' ++ F))) ∧ (v = .bool true ∧ J (i + 1) B' ∨ v = .bool false ∧ Js B')) (rem : Nat) : NextC m mb mm sub bp bl bla bY bs bn Ls J Js yv w0 F rem := by
  induction rem with
  | zero => exact c95 m p mb mm hk sub bp bl bla bY bs bn hsub h1 h5 Ls hnd J Js yv hy 0 (fun r h => by omega)
  | succ r ih => exact c95 m p mb mm hk sub bp bl bla bY bs bn hsub h1 h5 Ls hnd J Js yv hy (r + 1) (fun q h => by have : q = r := (by omega); subst this; exact ih)
theorem iter_memo {w0 : World} {F : List (Nat × Obj)} {m : Market} {mm : Nat} {Ls : List (List Int)} {J : Nat → List (Nat × Obj) → Prop} {Js : List (Nat × Obj) → Prop} {J0 : Nat → List (Nat × Obj) → Prop} {Js0 : List (Nat × Obj) → Prop} (hJi : ∀ i Bx, J i Bx ↔ ∃ B M, Bx = B ++ M ∧ Memo m mm M ∧ J0 i B) (hJs : ∀ Bx, Js Bx ↔ ∃ B M, Bx = B ++ M ∧ Memo m mm M ∧ Js0 B) {yv : Value}
    (hy : ∀ i (hi : i < (Ls.map ia).length) B X w, J i B → St w0 w (X ++ (B ++ F)) → FCon Try.prog yv [(Ls.map ia)[i]] w fun v w' => ∃ B', St w0 w' (X ++ (B' ++ F)) ∧ (v = .bool true ∧ J (i + 1) B' ∨ v = .bool false ∧ Js B')) :
    ∀ (i : Nat) (x : List Int) (R : List (List Int)) (B M X : List (Nat × Obj)) (w : World), Ls.drop i = x :: R → J0 i B → Memo m mm M → St w0 w (X ++ (B ++ (M ++ F))) → FCon Try.prog yv [ia x] w fun v w' => ∃ B' M', Memo m mm M' ∧ St w0 w' (X ++ (B' ++ (M' ++ F))) ∧ (v = .bool true ∧ J0 (i + 1) B' ∨ v = .bool false ∧ Js0 B') := by
  intro i x R B M X w hd hJ hM hs
  have h := hy i (by simpa using drop_lt hd) (B ++ M) X w ((hJi _ _).2 ⟨B, M, rfl, hM, hJ⟩) (by rw [List.append_assoc]; exact hs)
  rw [List.getElem_map, drop_get1 hd] at h
  refine h.mono ?_
  rintro v w' ⟨Bx, hs', (⟨rfl, hj⟩ | ⟨rfl, hj⟩)⟩
  · obtain ⟨B', M', rfl, hM', hJ'⟩ := (hJi _ _).1 hj
    exact ⟨B', M', hM', by rw [List.append_assoc] at hs'; exact hs', .inl ⟨rfl, hJ'⟩⟩
  · obtain ⟨B', M', rfl, hM', hJ'⟩ := (hJs _).1 hj
    exact ⟨B', M', hM', by rw [List.append_assoc] at hs'; exact hs', .inr ⟨rfl, hJ'⟩⟩
theorem loads_iter {w0 : World} {F : List (Nat × Obj)} (m : Market) (p : At3) (mb mm : Nat) (hk : MK w0 F m p mb mm)  (sub : Nat) (hsub : sub < 1000) (x : List Int) (hgx : GoodX x 0) (bp bs bx : Nat) (h1 : Ats w0 F bp 0 [.pointer (some ⟨mb, 0, none⟩)]) (h5 : Ats w0 F bs 0 [.int .i64 (sub : Int)]) (h3 : Ats w0 F bx 0 (iv x)) : IterC Try.prog 94 [] [.pointer (some ⟨bp, 0, none⟩), .pointer (some ⟨bs, 0, none⟩), .pointer (some ⟨bx, 0, none⟩)] (((loadsX m sub m.trains.length x).map pad6).map ia) w0 F (ClsM (Memo m mm)) := by
  intro J Js hcl yv B X w hyv hy hJ hs
  obtain ⟨J0, Js0, hJi, hJs⟩ := hcl
  obtain ⟨yf, ya, yb, rfl⟩ := hyv
  obtain ⟨B0, M, rfl, hM, hJ0⟩ := (hJi 0 B).1 hJ
  replace hs : St w0 w (X ++ (B0 ++ (M ++ F))) := by rw [List.append_assoc] at hs; exact hs
  have hlt := hk.ok.lt
  have hxl := hgx.len
  show Con Try.prog 94 [.func yf ya yb, .pointer (some ⟨bp, 0, none⟩), .pointer (some ⟨bs, 0, none⟩), .pointer (some ⟨bx, 0, none⟩)] w _
  refine con_of_wc (n := 13) Try.func94 rfl rfl (Nat.le_of_ble_eq_true rfl) ?_
  refine w_seq (fun K2 hK1 => ?_)
  refine w_region ?_
  refine w_box (v := .func _ _ _) (cs := [_]) want_none rfl rfl rfl hs (fun b3 w4 hs5 => ?_)
  refine w_nil ?_
  refine q_then (hK1 _ _ ?_)
  refine w_seq (fun K7 hK6 => ?_)
  refine w_region ?_
  refine w_alloc (cs := iv [0, 0, 0, 0, 0, 0]) want_none Try.zeroValue106 rfl hs5 (fun b8 w9 hs10 => ?_)
  refine w_alloc (cs := iv [0, 0, 0, 0, 0, 0]) want_none Try.zeroValue106 rfl hs10 (fun b11 w12 hs13 => ?_)
  refine w_nil ?_
  refine q_then (hK6 _ _ ?_)
  refine w_seq (fun K15 hK14 => ?_)
  refine w_region ?_
  refine w_pure want_none (y_indexA Try.underlying106 Try.sizeOf3 rfl rfl rfl rfl (i := 0) rfl (by omega)) rfl ?_
  refine w_storeAtI (i := 0) (j := 0) want_none Try.sizeOf3 rfl rfl rfl rfl hs13 rfl (by first | omega | rfl | (simp only [hxl, List.length_map, List.length_set, List.length_append, List.length_take, List.length_drop, List.length_replicate, List.length_cons, List.length_nil] <;> omega)) (fun w16 hs17 => ?_)
  refine w_nil ?_
  refine q_then (hK14 _ _ ?_)
  refine w_seq (fun K19 hK18 => ?_)
  refine w_region ?_
  refine w_alloc (cs := [_]) want_none Try.zeroValue129 rfl hs17 (fun b20 w21 hs22 => ?_)
  refine w_nil ?_
  refine q_then (hK18 _ _ ?_)
  refine w_seq (fun K24 hK23 => ?_)
  refine w_region ?_
  refine w_pure want_none (y_makeFunc (fv := []) (cv := [_, _, _, _, _, _]) rfl rfl rfl rfl) rfl ?_
  refine w_store (i := 0) (v := .func _ _ _) (vs := [_]) want_none Try.sizeOf129 rfl rfl rfl rfl rfl (by simp [Value.oneCell']) hs22 rfl (Nat.le_of_ble_eq_true rfl) (fun w25 hs26 => ?_)
  refine w_nil ?_
  refine q_then (hK23 _ _ ?_)
  refine w_region ?_
  refine w_pure want_none (y_load1 Try.isAgg129 hs26 rfl rfl (ats_own (i := 0) (vs := [_]) rfl rfl)) rfl ?_
  refine w_pure want_none (y_loadN (vs := iv _) Try.isAgg93 (fun w => by rw [show (iv _).length = 8 from (by first | omega | rfl | (simp only [hxl, List.length_map, List.length_set, List.length_append, List.length_take, List.length_drop, List.length_replicate, List.length_cons, List.length_nil] <;> omega))]; exact Try.sizeOf93 w) hs26.tail.tail.tail.tail.drop.drop.drop rfl rfl h3) rfl ?_
  refine w_call want_none Try.call95 rfl rfl rfl rfl (next_all m p mb mm hk sub bp b8 b11 b3 bs b20 hsub h1 h5 ((loadsX m sub m.trains.length x).map pad6) allLoads_nodup J0 Js0 (.func yf ya yb) (iter_memo hJi hJs hy) m.trains.length 0 [] (List.replicate 6 0) [-1, 0, 0, 0, 0, 0] 0 [] x B0 M X _ (by omega) rfl rfl rfl (fun j _ => by match j with | 0 => rfl | 1 => rfl | 2 => rfl | 3 => rfl | 4 => rfl | 5 => rfl | _ + 6 => rfl) hgx (by omega) (by rw [List.append_nil]; rfl) rfl (by rw [List.drop_zero]; exact start_last) hJ0 hM hs26) ?_
  rintro _ w28 ⟨cur2, last2, B2, M2, _, _, _, _, hM2, hs29, hB2⟩
  refine w_nil ?_
  refine q_end (l := []) (vs := []) rfl trivial ?_
  refine ⟨B2 ++ M2, by rw [List.append_assoc]; exact hs29.tail.tail.tail.tail, ?_⟩
  rcases hB2 with ⟨_, i', hi', hd', _, hJ'⟩ | ⟨_, hJ'⟩
  · left; rw [List.length_map, ← drop_done hi' hd']; exact (hJi _ _).2 ⟨B2, M2, rfl, hM2, hJ'⟩
  · exact .inr ((hJs _).2 ⟨B2, M2, rfl, hM2, hJ'⟩)

theorem c75 {w0 w : World} {F : List (Nat × Obj)} (mb : Nat) (x : List Int) (hx8 : x.length = 8) (z : Int) (hs : St w0 w F) :
  Con Try.prog 75 [.pointer (some ⟨mb, 0, none⟩), ia x, .int .i64 z] w fun v w' => ∃ bp bx bs, v = .func (.func 94) #[] #[.pointer (some ⟨bp, 0, none⟩), .pointer (some ⟨bs, 0, none⟩), .pointer (some ⟨bx, 0, none⟩)] ∧ St w0 w' ((bs, blk 3 [.int .i64 z]) :: (bx, blk 93 (iv x)) :: (bp, blk 83 [.pointer (some ⟨mb, 0, none⟩)]) :: F) := by
  refine con_of_wc (n := 8) Try.func75 rfl rfl (Nat.le_of_ble_eq_true rfl) ?_
  refine w_seq (fun K2 hK1 => ?_)
  refine w_region ?_
  refine w_box (v := .pointer _) (cs := [_]) want_none rfl rfl rfl hs (fun b3 w4 hs5 => ?_)
  refine w_boxI (l := _) want_none rfl rfl rfl hs5 (fun b6 w7 hs8 => ?_)
  refine w_box (v := .int _ _) (cs := [_]) want_none rfl rfl rfl hs8 (fun b9 w10 hs11 => ?_)
  refine w_pure want_none (y_assign (v := _) rfl rfl) rfl ?_
  refine w_nil ?_
  refine q_then (hK1 _ _ ?_)
  refine w_seq (fun K13 hK12 => ?_)
  refine w_region ?_
  refine w_pure want_none (y_makeFunc (fv := []) (cv := [_, _, _]) rfl rfl rfl rfl) rfl ?_
  refine w_pure want_none (y_assign (v := .func _ _ _) rfl rfl) rfl ?_
  refine w_nil ?_
  refine q_then (hK12 _ _ ?_)
  refine w_ret ?_
  refine q_ret (l := [.tmp 6]) (vs := [_]) rfl ⟨⟨rfl, show _ = (.func _ _ _ : Value) from rfl⟩, trivial⟩ ?_
  exact ⟨_, _, _, rfl, hs11⟩

end Go.Proofs
/- Walks of this seat, printed by gen.py over the engine: what each function returns, in whatever world. No conditions but those of each contract. -/
set_option linter.unusedVariables false
set_option linter.unusedSimpArgs false
set_option maxRecDepth 20000
namespace Go.Proofs
open Go.Rt Go.Rt.Sh
attribute [local irreducible] WL WC Con Yd At Ats Sl Agree DW

theorem giveP_1 {m : Market} (h : (check m).2.2 ≠ 0) : giveP m = ([], (check m).2.2) := by unfold giveP; rw [if_pos h]
theorem giveP_2 {m : Market} (h : (check m).2.2 = 0) : giveP m = (giveL m, 0) := by unfold giveP; rw [if_neg (by simp [h])]
theorem give_perm {s x p c k u v : Nat × Obj} (B M F : List (Nat × Obj)) : (s :: x :: p :: c :: k :: (B ++ (M ++ (u :: v :: F)))).Perm (([c, k] ++ M) ++ (s :: x :: p :: (B ++ (u :: v :: F)))) := by
  have h1 : (s :: x :: p :: c :: k :: (B ++ (M ++ (u :: v :: F)))).Perm (c :: k :: s :: x :: p :: (B ++ (M ++ (u :: v :: F)))) := perm_mid [s, x, p] [c, k] (B ++ (M ++ (u :: v :: F)))
  refine h1.trans ?_
  show (c :: k :: s :: x :: p :: (B ++ (M ++ (u :: v :: F)))).Perm (c :: k :: (M ++ (s :: x :: p :: (B ++ (u :: v :: F)))))
  refine List.Perm.cons _ (List.Perm.cons _ ?_)
  have h2 := perm_mid (s :: x :: p :: B) M (u :: v :: F)
  simpa using h2
theorem give_fin {w0 w : World} {a b c x y z u v : Nat × Obj} {M B F : List (Nat × Obj)} (h : St w0 w (a :: b :: c :: (M ++ (x :: y :: z :: (B ++ (u :: v :: F)))))) : St w0 w ([c] ++ F) := by
  have e : (a :: b :: c :: (M ++ (x :: y :: z :: (B ++ (u :: v :: F))))) = [a, b] ++ ([c] ++ ((M ++ (x :: y :: z :: (B ++ [u, v]))) ++ F)) := by simp
  rw [e] at h
  have h1 := (h.drop).perm (perm_mid [c] (M ++ (x :: y :: z :: (B ++ [u, v]))) F)
  exact h1.drop
theorem c28 {w0 w : World} {F : List (Nat × Obj)} (m : Market) (p : At3) (hm : MIn w0 F m p)  (hs : St w0 w F) :
  Con Try.prog 28 [.agg (m.cells p).toArray] w fun v w' => ∃ B a c, v = .tuple #[.slice a (giveP m).1.length c, .int .i64 (giveP m).2] ∧ Sl w0 B a 1 ((giveP m).1.map fun x => [Value.int .i64 x]) ∧ St w0 w' (B ++ F) := by
  refine con_of_wcM (n := 50) Try.func28 rfl rfl (Nat.le_of_ble_eq_true rfl) ?_
  have hlt0 := hm.lt
  refine w_seq (fun K2 hK1 => ?_)
  refine w_region ?_
  refine w_box (v := .agg #[.slice _ _ _, .slice _ _ _, .slice _ _ _]) (cs := [_, _, _]) want_none rfl rfl rfl hs (fun b3 w4 hs5 => ?_)
  refine w_pure want_none (y_assign (v := _) rfl rfl) rfl ?_
  refine w_pure want_none (y_assign (v := _) rfl rfl) rfl ?_
  refine w_nil ?_
  refine q_then (hK1 _ _ ?_)
  refine w_seq (fun K7 hK6 => ?_)
  refine w_region ?_
  refine w_pure want_none (y_loadN (vs := [_, _, _]) Try.isAgg26 Try.sizeOf26 hs5 rfl rfl (ats_own (i := 0) (vs := [_, _, _]) rfl rfl)) rfl ?_
  refine w_call want_none Try.call64 rfl rfl rfl rfl (c64 m p hm.cons 0 (by omega) (by omega) none 0 [] (by simp) (Sl.nil _ _) hs5) ?_
  rintro _ w9 (⟨hee, rfl, hs10⟩ | ⟨hee, mb, mm, M, rfl, hM, hs10⟩)
  ·
   refine w_pure want_none (y_move (v := .tuple _) rfl rfl) rfl ?_
   refine w_pure want_none (y_extract (v := .pointer _) rfl rfl rfl) rfl ?_
   refine w_pure want_none (y_extract (v := .int _ _) rfl rfl rfl) rfl ?_
   refine w_pure want_none (y_assign (v := .pointer _) rfl rfl) rfl ?_
   refine w_pure want_none (y_assign (v := .int _ _) rfl rfl) rfl ?_
   refine w_nil ?_
   refine q_then (hK6 _ _ ?_)
   refine w_seq (fun K12 hK11 => ?_)
   refine w_seq (fun K14 hK13 => ?_)
   refine w_region ?_
   refine w_pure want_none (y_move (v := .int _ _) rfl rfl) rfl ?_
   refine w_pure want_none (y_neq rfl rfl rfl rfl) rfl ?_
   refine w_nil ?_
   refine q_then (hK13 _ _ ?_)
   refine w_cond rfl rfl (fun h15 => ?_) (fun h15 => ?_)
   ·
    try simp only [Bool.not_eq_true', Bool.not_eq_false', decide_eq_true_eq, decide_eq_false_iff_not, Int.not_lt, Int.not_le] at h15
    refine w_seq (fun K17 hK16 => ?_)
    refine w_region ?_
    refine w_pure want_none (y_move (v := .int _ _) rfl rfl) rfl ?_
    refine w_pure want_none (y_assign (v := _) rfl rfl) rfl ?_
    refine w_pure want_none (y_assign (v := .int _ _) rfl rfl) rfl ?_
    refine w_nil ?_
    refine q_then (hK16 _ _ ?_)
    refine w_ret ?_
    refine q_then_ret ?_
    refine q_retM0 (l := [.tmp 2, .tmp 3]) (vs := [_, _]) rfl ⟨⟨rfl, show _ = (.slice _ _ _ : Value) from rfl⟩, ⟨rfl, show _ = (.int _ _ : Value) from rfl⟩, trivial⟩ ?_
    exact ⟨[], none, 0, by rw [giveP_1 (by rw [← enterE_nil (n := 0)]; exact hee), ← enterE_nil (n := 0)]; rfl, by rw [giveP_1 (by rw [← enterE_nil (n := 0)]; exact hee)]; exact Sl.nil _ _, hs10.tail⟩
   ·
    exfalso
    try simp only [Bool.not_eq_true', Bool.not_eq_false', decide_eq_true_eq, decide_eq_false_iff_not, Int.not_lt, Int.not_le] at h15
    first | exact hee h15 | exact h15 hee
  ·
   replace hs10 := (show St _ _ (M ++ (_ :: _ :: F)) from hs10)
   have hk : MK w0 ((mb, blk 122 [.slice p.ar m.rooms.length p.cr, .slice p.az m.shops.length p.cs, .slice p.at_ m.trains.length p.ct, .map (some mm)]) :: (b3, blk 26 (m.cells p)) :: F) m p mb mm := ⟨hm.cons.cons, ats_own (i := 0) (vs := [_, _, _, _]) rfl rfl, check_ok (enter_chk hee)⟩
   have hlr := hk.ok.lr
   have hls := hk.ok.ls
   have hlt := hk.ok.lt
   have hbx : Ats w0 ((b3, blk 26 (m.cells p)) :: F) b3 0 (m.cells p) := ats_own (i := 0) rfl rfl
   refine w_pure want_none (y_move (v := .tuple _) rfl rfl) rfl ?_
   refine w_pure want_none (y_extract (v := .pointer _) rfl rfl rfl) rfl ?_
   refine w_pure want_none (y_extract (v := .int _ _) rfl rfl rfl) rfl ?_
   refine w_pure want_none (y_assign (v := .pointer _) rfl rfl) rfl ?_
   refine w_pure want_none (y_assign (v := .int _ _) rfl rfl) rfl ?_
   refine w_nil ?_
   refine q_then (hK6 _ _ ?_)
   refine w_seq (fun K19 hK18 => ?_)
   refine w_seq (fun K21 hK20 => ?_)
   refine w_region ?_
   refine w_pure want_none (y_move (v := .int _ _) rfl rfl) rfl ?_
   refine w_pure want_none (y_neq rfl rfl rfl rfl) rfl ?_
   refine w_nil ?_
   refine q_then (hK20 _ _ ?_)
   refine w_condF rfl rfl ?_
   refine w_skip ?_
   refine q_then (hK18 _ _ ?_)
   refine w_seq (fun K23 hK22 => ?_)
   have hsa := shl_all hls
   refine w_region ?_
   refine w_pure want_none (y_fieldAddr (o := 1) (i := 1) Try.underlying26 rfl Try.sizeOf23 rfl rfl rfl) rfl ?_
   refine w_pure want_none (y_load1 Try.isAgg23 hs10.drop.tail rfl rfl (show Ats _ _ _ _ [_] from Ats.part hbx 1 1)) rfl ?_
   refine w_pure want_none (y_lenS Try.underlying23 rfl rfl) rfl ?_
   refine w_pure want_none (y_shl (x := 1) (y := _) rfl rfl rfl rfl rfl rfl (by first | omega | exact shr_lt (by omega)) (by first | omega | exact shr_lt (by omega))) rfl ?_
   refine w_pure want_none (yd_cast (z' := ((1 <<< m.shops.length - 1 : Nat) : Int)) (by omega) (y_sub rfl rfl rfl rfl (by omega) (by omega))) rfl ?_
   refine w_pure want_none (y_assign (v := .int _ _) rfl rfl) rfl ?_
   refine w_nil ?_
   refine q_then (hK22 _ _ ?_)
   refine w_seq (fun K25 hK24 => ?_)
   refine w_seq (fun K27 hK26 => ?_)
   refine w_region ?_
   refine w_pure want_none (y_move (v := .pointer _) rfl rfl) rfl ?_
   refine w_call want_none Try.call73 rfl rfl rfl rfl (c73 (X := []) m p mb mm hk  hM hs10) ?_
   rintro _ w29 ⟨B32, al_B32, cl_B32, M31, rfl, hsl_B32, hM31, hs30⟩
   replace hs30 := (show St _ _ (B32 ++ (M31 ++ (_ :: _ :: F))) from hs30)
   refine w_pure want_none (y_lenS Try.underlying30 rfl rfl) rfl ?_
   refine w_pure want_none (y_move (v := _) rfl rfl) rfl ?_
   refine w_nil ?_
   refine q_then (hK26 _ _ ?_)
   refine w_block ?_
   refine w_loop [6, 8, 27, 28, 29, 30, 31, 32, 33, 34, 35] [6, 27] (fun k vs w => ∃ i s : Nat, vs = [.int .i64 s, .int .i64 i] ∧ s < 1000 ∧ i ≤ (withoutL m).length ∧ k = (withoutL m).length - i ∧ giveSub (1 <<< m.shops.length - 1) (withoutL m) = giveSub s ((withoutL m).drop i) ∧ St w0 w (B32 ++ (M31 ++ ((mb, blk 122 [.slice p.ar m.rooms.length p.cr, .slice p.az m.shops.length p.cs, .slice p.at_ m.trains.length p.ct, .map (some mm)]) :: (b3, blk 26 (m.cells p)) :: F)))) ((withoutL m).length) ?_ ?_
   ·
    exact ⟨0, _, rfl, by omega, by omega, by omega, rfl, hs30⟩
   ·
    intro k vs μ w35 hI K34 hN33
    obtain ⟨i, s, rfl, hs1k, hia, rfl, hgs, hs⟩ := hI
    refine w_seq (fun K37 hK36 => ?_)
    refine w_region ?_
    refine w_pure want_none (y_lss rfl rfl rfl rfl) rfl ?_
    refine w_nil ?_
    refine q_then (hK36 _ _ ?_)
    refine w_seq (fun K39 hK38 => ?_)
    refine w_cond rfl rfl (fun h40 => ?_) (fun h40 => ?_)
    ·
     try simp only [Bool.not_eq_true', Bool.not_eq_false', decide_eq_true_eq, decide_eq_false_iff_not, Int.not_lt, Int.not_le] at h40
     refine w_skip ?_
     refine q_then (hK38 _ _ ?_)
     refine w_seq (fun K42 hK41 => ?_)
     refine w_block ?_
     refine w_seq (fun K44 hK43 => ?_)
     have hwl : (withoutL m).length ≤ m.shops.length := withoutTo_len m _
     have hi2 : i < (withoutL m).length := by omega
     obtain ⟨bl, ol, hbl, hxl⟩ := sl_ints hsl_B32.top hi2
     subst hbl
     have hin := withoutTo_in m _ _ (List.getElem_mem hi2)
     have hsm := shl_small (x := ((withoutL m)[i]'hi2).toNat) (by omega)
     refine w_region ?_
     refine w_pure want_none (y_indexS Try.underlying30 Try.sizeOf3 rfl rfl rfl rfl (i := _) rfl (by omega)) rfl ?_
     refine w_pure want_none (y_load1 Try.isAgg3 hs rfl rfl hxl) rfl ?_
     refine w_pure want_none (y_assign (v := .int _ _) rfl rfl) rfl ?_
     refine w_nil ?_
     refine q_then (hK43 _ _ ?_)
     refine w_region ?_
     refine w_pure want_none (y_move (v := .int _ _) rfl rfl) rfl ?_
     refine w_pure want_none (y_move (v := .int _ _) rfl rfl) rfl ?_
     refine w_pure want_none (y_shl (x := 1) (y := ((withoutL m)[i]'hi2).toNat) rfl rfl rfl rfl rfl (by first | rfl | omega) (by first | omega | exact shr_lt (by omega)) (by first | omega | exact shr_lt (by omega))) rfl ?_
     refine w_pure want_none (y_andNot (x := s) (y := 1 <<< ((withoutL m)[i]'hi2).toNat) rfl rfl rfl rfl (by first | rfl | omega) (by first | rfl | omega) (by first | omega | exact shr_lt (by omega))) rfl ?_
     refine w_pure want_none (y_assign (v := .int _ _) rfl rfl) rfl ?_
     refine w_nil ?_
     refine q_blk_normal ?_
     refine q_then (hK41 _ _ ?_)
     refine w_region ?_
     refine w_pure want_none (y_add rfl rfl rfl rfl (by omega) (by omega)) rfl ?_
     refine w_pure want_none (y_move (v := .int _ _) rfl rfl) rfl ?_
     refine w_nil ?_
     refine q_then (hN33 _ _ (Nx.intro ((withoutL m).length - (i + 1)) (by omega) (by repeat (first | exact agree_mix | refine agree_upd rfl ?_ | refine agree_updL rfl ?_ _ | refine agree_mixin rfl ?_)) ?_))
     have hle := bitDiff_le s (1 <<< (withoutL m)[i].toNat) (by omega)
     exact ⟨i + 1, _, rfl, by omega, by omega, rfl, hgs.trans (giveSub_step hi2), hs⟩
    ·
     try simp only [Bool.not_eq_true', Bool.not_eq_false', decide_eq_true_eq, decide_eq_false_iff_not, Int.not_lt, Int.not_le] at h40
     refine w_exit ?_
     refine q_then_exit ?_
     refine q_then_exit ?_
     refine q_blk_this ?_
     refine q_then (hK24 _ _ ?_)
     refine w_seq (fun K46 hK45 => ?_)
     have hsub : giveSub (1 <<< m.shops.length - 1) (withoutL m) = s := hgs.trans (giveSub_end (by omega))
     have hsub2 : giveSub (1 <<< m.shops.length - 1) (withoutL m) < 1000 := by omega
     subst hsub
     refine w_region ?_
     refine w_pure want_none (y_fieldAddr (o := 2) (i := 2) Try.underlying26 rfl Try.sizeOf24 rfl rfl rfl) rfl ?_
     refine w_pure want_none (y_load1 Try.isAgg24 hs.drop.drop.tail rfl rfl (show Ats _ _ _ _ [_] from Ats.part hbx 2 1)) rfl ?_
     refine w_pure want_none (y_lenS Try.underlying24 rfl rfl) rfl ?_
     refine w_makeInts (k := m.trains.length) want_none Try.underlying30 Try_info3 rfl rfl (by omega) rfl rfl rfl rfl rfl hs (fun b47 w48 hs49 => ?_)
     refine w_alloc (cs := [_]) want_none Try.zeroValue30 rfl hs49 (fun b50 w51 hs52 => ?_)
     refine w_store (i := 0) (v := .slice _ _ _) (vs := [_]) want_none Try.sizeOf30 rfl rfl rfl rfl rfl (by simp [Value.oneCell']) hs52 rfl (Nat.le_of_ble_eq_true rfl) (fun w53 hs54 => ?_)
     refine w_nil ?_
     refine q_then (hK45 _ _ ?_)
     refine w_seq (fun K56 hK55 => ?_)
     refine w_seq (fun K58 hK57 => ?_)
     refine w_region ?_
     refine w_pure want_none (y_move (v := .pointer _) rfl rfl) rfl ?_
     refine w_pure want_none (y_move (v := .pointer _) rfl rfl) rfl ?_
     refine w_call want_none Try.call68 rfl rfl rfl rfl (c68 m p mb mm hk.app.app.cons.cons _ hs54) ?_
     rintro _ w60 ⟨rfl, hs61⟩
     refine w_pure want_none (y_move (v := .int _ _) rfl rfl) rfl ?_
     refine w_call want_none Try.call75 rfl rfl rfl rfl (c75 _ _ (allX_len _ _) _ hs61) ?_
     rintro _ w63 ⟨bp, bx, bs, rfl, hs64⟩
     refine w_nil ?_
     refine q_then (hK57 _ _ ?_)
     refine w_block ?_
     refine w_rangeC ([_, _] ++ M31) (fun i Bx => ∃ B M, Bx = B ++ M ∧ Memo m mm M ∧ i = 0 ∧ B = [(b50, blk 30 [.slice (some ⟨b47, 0, none⟩) m.trains.length m.trains.length]), (b47, blk 3 (iv (List.replicate m.trains.length 0)))]) (fun c Bx => ∃ B M, Bx = B ++ M ∧ Memo m mm M ∧ c = .exit 2 ∧ B = [(b50, blk 30 [.slice (some ⟨b47, 0, none⟩) m.trains.length m.trains.length]), (b47, blk 3 (iv (giveL m)))]) rfl rfl rfl Try.call94 (loads_iter m p mb mm hk.app.cons.cons.cons _ hsub2 _ (allX_good hk.ok false) bp bs bx (ats_own (i := 2) (vs := [_]) rfl rfl) (ats_own (i := 0) (vs := [_]) rfl rfl) (ats_own (i := 1) (vs := iv _) rfl (by rw [List.drop_zero, List.take_length]))) (clsM_range (fun i B => i = 0 ∧ B = [(b50, blk 30 [.slice (some ⟨b47, 0, none⟩) m.trains.length m.trains.length]), (b47, blk 3 (iv (List.replicate m.trains.length 0)))]) (fun c B => c = .exit 2 ∧ B = [(b50, blk 30 [.slice (some ⟨b47, 0, none⟩) m.trains.length m.trains.length]), (b47, blk 3 (iv (giveL m)))]) (fun i Bx => Iff.rfl) (fun c Bx => Iff.rfl)) hs64 (give_perm _ _ _) ⟨_, M31, rfl, hM31, rfl, rfl⟩ ?_ ?_ ?_
     ·
      intro lp i hi Bx Xr Xr2 w66 hJ hs K hK65
      obtain ⟨BB, M3, rfl, hM3, rfl, rfl⟩ := hJ
      rw [List.getElem_map]
      have hi2 : 0 < (allLoads m).length := by simpa [allLoads] using hi
      have hl6 := allLoads_len hk.ok _ (List.getElem_mem hi2)
      have hcp := giveL_copy hk.ok hi2
      change WC _ _ _ _ (A _ (upd _ _ (ia (allLoads m)[0])) _) _
      obtain ⟨l0, hl0⟩ : ∃ l0, l0 = (allLoads m)[0] := ⟨_, rfl⟩
      rw [← hl0] at hl6 hcp ⊢
      replace hs := (show St _ _ (_ :: _ :: (M3 ++ (Xr ++ (_ :: _ :: _ :: (B32 ++ (_ :: _ :: F)))))) from hs)
      refine w_region ?_
      refine w_alloc (cs := iv [0, 0, 0, 0, 0, 0]) want_none Try.zeroValue106 rfl hs (fun b67 w68 hs69 => ?_)
      refine w_storeI (i := 0) (l := _) want_none Try.sizeOf106 (by first | omega | rfl | (simp only [allX_len, List.length_map, List.length_set, List.length_append, List.length_take, List.length_drop, List.length_replicate, List.length_cons, List.length_nil] <;> omega)) rfl rfl rfl rfl rfl hs69 rfl (by first | omega | rfl | (simp only [allX_len, List.length_map, List.length_set, List.length_append, List.length_take, List.length_drop, List.length_replicate, List.length_cons, List.length_nil] <;> omega)) (fun w70 hs71 => ?_)
      refine w_nil ?_
      refine q_then (hK65 _ _ (_ :: _ :: _ :: M3) hs71 (fun w72 hs73 => ?_))
      replace hs73 := (show St _ _ (_ :: _ :: _ :: M3 ++ (Xr2 ++ (_ :: _ :: _ :: B32 ++ (_ :: _ :: F)))) from hs73)
      refine w_block ?_
      refine w_seq (fun K75 hK74 => ?_)
      refine w_draw [2] [(0, 1), (1, 0), (2, 3)] Try_mo (by kernel_rfl) hs73 (fun w76 hs77 => ?_)
      refine d_take rfl want_none rfl hs77 (fun _ hq => (y_load1 Try.isAgg30 hq rfl rfl (ats_own (i := 1) (vs := [_]) rfl rfl))) ?_
      refine d_any rfl want_none rfl (fun _ => (y_sliceA Try.underlying106 Try.sizeOf3 rfl rfl)) ?_
      refine d_late rfl ?_
      refine w_copyI (i := 2) want_none Try.underlying30 Try.sizeOf3 rfl rfl rfl rfl hs77 rfl (sl_ints_own (i := 0) rfl) (by first | omega | rfl | (simp only [allX_len, List.length_map, List.length_set, List.length_append, List.length_take, List.length_drop, List.length_replicate, List.length_cons, List.length_nil] <;> omega)) (by first | omega | rfl | (simp only [allX_len, List.length_map, List.length_set, List.length_append, List.length_take, List.length_drop, List.length_replicate, List.length_cons, List.length_nil] <;> omega)) (fun w78 hs79 => ?_)
      refine w_nil ?_
      refine qn ?_
      refine d_nil ?_
      refine q_then (hK74 _ _ ?_)
      refine w_exit ?_
      refine q_blk_other rfl ?_
      refine rd_exit (_ :: _ :: M3) hs79.tail ?_
      exact ⟨[_, _], M3, rfl, hM3, rfl, by rw [hcp]⟩
     ·
      intro bd Bx w80 hJ hs
      obtain ⟨BB, M3, rfl, hM3, hi0, rfl⟩ := hJ
      replace hs := (show St _ _ (_ :: _ :: _ :: (M3 ++ (_ :: _ :: _ :: (B32 ++ (_ :: _ :: F))))) from hs)
      have hgl : giveL m = List.replicate m.trains.length 0 := giveL_nil (by simpa [allLoads] using hi0)
      rw [← hgl] at hs
      refine q_blk_normal ?_
      refine q_then (hK55 _ _ ?_)
      refine w_seq (fun K82 hK81 => ?_)
      refine w_region ?_
      refine w_pure want_none (y_load1 Try.isAgg30 hs rfl rfl (ats_own (i := 1) (vs := [_]) rfl rfl)) rfl ?_
      refine w_pure want_none (y_assign (v := .slice _ _ _) rfl rfl) rfl ?_
      refine w_pure want_none (y_assign (v := _) rfl rfl) rfl ?_
      refine w_nil ?_
      refine q_then (hK81 _ _ ?_)
      refine w_ret ?_
      refine q_retM (i := 0) (l := [.tmp 2, .tmp 3]) (vs := [_, _]) hs rfl rfl (fun w83 hs84 => ⟨⟨⟨rfl, show _ = (.slice _ _ _ : Value) from rfl⟩, ⟨rfl, show _ = (.int _ _ : Value) from rfl⟩, trivial⟩, ?_⟩)
      exact ⟨[_], _, _, by rw [giveP_2 (enter_chk hee), giveL_len hk.ok]; rfl, by rw [giveP_2 (enter_chk hee)]; exact sl_ints_own (i := 0) rfl, give_fin hs84⟩
     ·
      intro bd c Bx w85 hJ hs
      obtain ⟨BB, M3, rfl, hM3, rfl, rfl⟩ := hJ
      replace hs := (show St _ _ (_ :: _ :: _ :: (M3 ++ (_ :: _ :: _ :: (B32 ++ (_ :: _ :: F))))) from hs)
      refine w_exit ?_
      refine q_blk_this ?_
      refine q_then (hK55 _ _ ?_)
      refine w_seq (fun K87 hK86 => ?_)
      refine w_region ?_
      refine w_pure want_none (y_load1 Try.isAgg30 hs rfl rfl (ats_own (i := 1) (vs := [_]) rfl rfl)) rfl ?_
      refine w_pure want_none (y_assign (v := .slice _ _ _) rfl rfl) rfl ?_
      refine w_pure want_none (y_assign (v := _) rfl rfl) rfl ?_
      refine w_nil ?_
      refine q_then (hK86 _ _ ?_)
      refine w_ret ?_
      refine q_retM (i := 0) (l := [.tmp 2, .tmp 3]) (vs := [_, _]) hs rfl rfl (fun w88 hs89 => ⟨⟨⟨rfl, show _ = (.slice _ _ _ : Value) from rfl⟩, ⟨rfl, show _ = (.int _ _ : Value) from rfl⟩, trivial⟩, ?_⟩)
      exact ⟨[_], _, _, by rw [giveP_2 (enter_chk hee), giveL_len hk.ok]; rfl, by rw [giveP_2 (enter_chk hee)]; exact sl_ints_own (i := 0) rfl, give_fin hs89⟩

end Go.Proofs
/- Walks of this seat, printed by gen.py over the engine: what each function returns, in whatever world. No conditions but those of each contract. -/
set_option linter.unusedVariables false
set_option linter.unusedSimpArgs false
set_option maxRecDepth 20000
namespace Go.Proofs
open Go.Rt Go.Rt.Sh
attribute [local irreducible] WL WC Con Yd At Ats Sl Agree DW
theorem Try_N_fb4 (x0 : ByteArray) (w : World) : (Instr.buildSlice 73 1 [(0, .string x0)].toArray).run Try.prog w = .ok (.slice (some ⟨w.heap.size, 0, none⟩) 1 1) (w.alloc (Go.Rt.blk 9 [.string x0])) := by kernel_rfl
theorem ends_cases (a b lo hi : Int) : (ends a b lo hi = 7 ∧ (out lo hi a || out lo hi b) = true) ∨ (ends a b lo hi = 2 ∧ (out lo hi a || out lo hi b) = false ∧ b < a) ∨ (ends a b lo hi = 0 ∧ (out lo hi a || out lo hi b) = false ∧ ¬ b < a) := by
  unfold ends
  cases h : (out lo hi a || out lo hi b)
  · by_cases h2 : b < a
    · exact .inr (.inl ⟨by simp [h2], rfl, h2⟩)
    · exact .inr (.inr ⟨by simp [h2], rfl, h2⟩)
  · exact .inl ⟨rfl, rfl⟩
theorem out_iff (lo hi n : Int) : out lo hi n = false ↔ lo ≤ n ∧ n ≤ hi := by unfold out; rw [Bool.or_eq_false_iff]; simp
theorem out_yes (lo hi n : Int) : out lo hi n = true ↔ ¬ (lo ≤ n ∧ n ≤ hi) := by rw [← out_iff]; simp
theorem room_7 {r : Room} (h : ends r.lo r.hi 0 60 = 7 ∨ ¬ (0 ≤ r.fro ∧ r.fro ≤ 9) ∨ ¬ (0 ≤ r.las ∧ r.las ≤ 9)) : roomOwn r = 7 := by
  unfold roomOwn
  rw [if_pos]
  rw [Bool.or_eq_true, Bool.or_eq_true (out 0 9 r.fro), out_yes, out_yes]
  rcases h with h | h
  · rcases ends_cases r.lo r.hi 0 60 with ⟨_, h2⟩ | ⟨h1, _⟩ | ⟨h1, _⟩
    · exact .inl h2
    · omega
    · omega
  · exact .inr h
theorem room_2 {r : Room} (h : ends r.lo r.hi 0 60 ≠ 7) (h1 : 0 ≤ r.fro ∧ r.fro ≤ 9) (h2 : 0 ≤ r.las ∧ r.las ≤ 9) (h3 : ends r.lo r.hi 0 60 = 0) (h4 : r.las < r.fro) : roomOwn r = 2 := by
  unfold roomOwn
  rcases ends_cases r.lo r.hi 0 60 with ⟨h5, _⟩ | ⟨h5, _⟩ | ⟨_, h5, h6⟩
  · omega
  · omega
  · rw [h5, (out_iff _ _ _).2 h1, (out_iff _ _ _).2 h2, if_neg (by simp), if_pos (by simp [h4])]
theorem room_e {r : Room} (h : ends r.lo r.hi 0 60 ≠ 7) (h1 : 0 ≤ r.fro ∧ r.fro ≤ 9) (h2 : 0 ≤ r.las ∧ r.las ≤ 9) (h3 : ends r.lo r.hi 0 60 ≠ 0 ∨ ¬ r.las < r.fro) : roomOwn r = ends r.lo r.hi 0 60 := by
  unfold roomOwn
  rcases ends_cases r.lo r.hi 0 60 with ⟨h5, _⟩ | ⟨h4, h5, h6⟩ | ⟨h4, h5, h6⟩
  · omega
  · rw [h5, (out_iff _ _ _).2 h1, (out_iff _ _ _).2 h2, if_neg (by simp), if_pos (by simp [h6]), h4]
  · rw [h5, (out_iff _ _ _).2 h1, (out_iff _ _ _).2 h2, if_neg (by simp), if_neg (by simp; omega), h4]
theorem nameE_ref (b : List ByteArray) (s : ByteArray) : nameE b s = (if nmOk s = false then (6 : Int) else if has b s then 5 else 0) := by unfold nameE; cases nmOk s <;> cases has b s <;> simp
theorem roomE_0 {b : List Room} {r : Room} (h : (if nmOk r.name = false then (6 : Int) else if has (b.map (·.name)) r.name then 5 else 0) = 0) : roomE b r = roomOwn r := by unfold roomE; rw [nameE_ref, h, if_neg (by simp)]
theorem roomE_n {b : List Room} {r : Room} (h : ¬ (if nmOk r.name = false then (6 : Int) else if has (b.map (·.name)) r.name then 5 else 0) = 0) : roomE b r = (if nmOk r.name = false then (6 : Int) else if has (b.map (·.name)) r.name then 5 else 0) := by unfold roomE; rw [nameE_ref, if_pos h]
theorem shopE_0 {b : List Shop} {r : Shop} (h : (if nmOk r.name = false then (6 : Int) else if has (b.map (·.name)) r.name then 5 else 0) = 0) : shopE b r = shopOwn r := by unfold shopE; rw [nameE_ref, h, if_neg (by simp)]
theorem shopE_n {b : List Shop} {r : Shop} (h : ¬ (if nmOk r.name = false then (6 : Int) else if has (b.map (·.name)) r.name then 5 else 0) = 0) : shopE b r = (if nmOk r.name = false then (6 : Int) else if has (b.map (·.name)) r.name then 5 else 0) := by unfold shopE; rw [nameE_ref, if_pos h]
theorem shop_7 {s : Shop} (h : ¬ (0 ≤ s.day ∧ s.day ≤ 9) ∨ ¬ (1 ≤ s.want ∧ s.want ≤ 60)) : shopOwn s = 7 := by unfold shopOwn; rw [if_pos]; rw [Bool.or_eq_true, out_yes, out_yes]; exact h
theorem shop_0 {s : Shop} (h : 0 ≤ s.day ∧ s.day ≤ 9) (h2 : 1 ≤ s.want ∧ s.want ≤ 60) : shopOwn s = 0 := by unfold shopOwn; rw [(out_iff _ _ _).2 h, (out_iff _ _ _).2 h2, if_neg (by simp)]
theorem train_4 {m : Market} {b : List Train} {t : Train} (h : ¬ (0 ≤ t.room ∧ t.room ≤ (m.rooms.length : Int) - 1) ∨ ¬ (0 ≤ t.shop ∧ t.shop ≤ (m.shops.length : Int) - 1)) : trainE m b t = 4 := by unfold trainE; rw [if_pos]; rw [Bool.or_eq_true, out_yes, out_yes]; exact h
theorem train_7 {m : Market} {b : List Train} {t : Train} (h1 : 0 ≤ t.room ∧ t.room ≤ (m.rooms.length : Int) - 1) (h2 : 0 ≤ t.shop ∧ t.shop ≤ (m.shops.length : Int) - 1) (h : ¬ (0 ≤ t.days ∧ t.days ≤ 5) ∨ ¬ (1 ≤ t.cap ∧ t.cap ≤ 60)) : trainE m b t = 7 := by
  unfold trainE; rw [(out_iff _ _ _).2 h1, (out_iff _ _ _).2 h2, if_neg (by simp), if_pos]; rw [Bool.or_eq_true, out_yes, out_yes]; exact h
theorem train_0 {m : Market} {b : List Train} {t : Train} (h1 : 0 ≤ t.room ∧ t.room ≤ (m.rooms.length : Int) - 1) (h2 : 0 ≤ t.shop ∧ t.shop ≤ (m.shops.length : Int) - 1) (h3 : 0 ≤ t.days ∧ t.days ≤ 5) (h4 : 1 ≤ t.cap ∧ t.cap ≤ 60) : trainE m b t = 0 := by
  unfold trainE; rw [(out_iff _ _ _).2 h1, (out_iff _ _ _).2 h2, (out_iff _ _ _).2 h3, (out_iff _ _ _).2 h4]; rfl
theorem fail_most {α : Type} {err : List α → α → Int} {most : Int} {l : List α} (h : most < l.length) : failE err most l = (0, 3) := by unfold failE; rw [if_pos h]
theorem fail_go {α : Type} {err : List α → α → Int} {most : Int} {l : List α} (h : ¬ most < l.length) : failE err most l = firstE err [] 0 l := by unfold failE; rw [if_neg h]
theorem chk_r {m : Market} {a e : Int} (h : failE roomE 3 m.rooms = (a, e)) (he : ¬ e = 0) : check m = (1, a, e) := by unfold check; rw [if_pos (by rw [h]; exact he), h]
theorem chk_s {m : Market} {a e : Int} (h1 : (failE roomE 3 m.rooms).2 = 0) (h : failE shopE 4 m.shops = (a, e)) (he : ¬ e = 0) : check m = (2, a, e) := by unfold check; rw [if_neg (by simp [h1]), if_pos (by rw [h]; exact he), h]
theorem chk_t {m : Market} {a e : Int} (h1 : (failE roomE 3 m.rooms).2 = 0) (h2 : (failE shopE 4 m.shops).2 = 0) (h : failE (trainE m) 6 m.trains = (a, e)) (he : ¬ e = 0) : check m = (3, a, e) := by unfold check; rw [if_neg (by simp [h1]), if_neg (by simp [h2]), if_pos (by rw [h]; exact he), h]
theorem chk_0 {m : Market} (h1 : (failE roomE 3 m.rooms).2 = 0) (h2 : (failE shopE 4 m.shops).2 = 0) (h3 : (failE (trainE m) 6 m.trains).2 = 0) : check m = (0, 0, 0) := by unfold check; rw [if_neg (by simp [h1]), if_neg (by simp [h2]), if_neg (by simp [h3])]
theorem rnames_len {α : Type} {f : α → ByteArray} {l : List α} {i : Nat} (hi : i ≤ l.length) : ((l.take i).map f).length = i := by simp; omega
theorem rnames_snoc {α : Type} {f : α → ByteArray} {l : List α} {i : Nat} (hi : i < l.length) : strs ((l.take i).map f) ++ [Value.string (f l[i])] = strs ((l.take (i + 1)).map f) := by
  rw [List.take_succ_eq_append_getElem hi]; simp only [strs, List.map_append, List.map_cons, List.map_nil]
theorem c63 {w0 w : World} {F : List (Nat × Obj)} (r : Room) (hs : St w0 w F) :
  Con Try.prog 63 [.agg r.cells.toArray] w fun v w' => v = .int .i64 (roomOwn r) ∧ St w0 w' F := by
  refine con_of_wc (n := 31) Try.func63 rfl rfl (Nat.le_of_ble_eq_true rfl) ?_
  refine w_seq (fun K2 hK1 => ?_)
  refine w_region ?_
  refine w_box (v := .agg #[.string _, .int _ _, .int _ _, .int _ _, .int _ _]) (cs := [_, _, _, _, _]) want_none rfl rfl rfl hs (fun b3 w4 hs5 => ?_)
  refine w_pure want_none (y_assign (v := _) rfl rfl) rfl ?_
  refine w_nil ?_
  refine q_then (hK1 _ _ ?_)
  refine w_seq (fun K7 hK6 => ?_)
  refine w_region ?_
  refine w_pure want_none (y_fieldAddr (o := 1) (i := 1) Try.underlying69 rfl Try.sizeOf67 rfl rfl rfl) rfl ?_
  refine w_pure want_none (y_loadN (vs := [_, _]) Try.isAgg67 Try.sizeOf67 hs5 rfl rfl (ats_own (i := 0) (vs := [_, _]) rfl rfl)) rfl ?_
  refine w_call want_none Try.call88 rfl rfl rfl rfl (c88 _ _ _ _ hs5) ?_
  rintro _ w9 ⟨rfl, hs10⟩
  refine w_pure want_none (y_assign (v := .int _ _) rfl rfl) rfl ?_
  refine w_nil ?_
  refine q_then (hK6 _ _ ?_)
  refine w_seq (fun K12 hK11 => ?_)
  refine w_seq (fun K14 hK13 => ?_)
  refine w_region ?_
  refine w_pure want_none (y_move (v := .int _ _) rfl rfl) rfl ?_
  refine w_pure want_none (y_eql rfl rfl rfl rfl) rfl ?_
  refine w_pure want_none (y_move (v := .bool _) rfl rfl) rfl ?_
  refine w_split (fun h15 => ?_) (fun h15 => ?_)
  ·
   try simp only [Bool.not_eq_true', Bool.not_eq_false', decide_eq_true_eq, decide_eq_false_iff_not, Int.not_lt, Int.not_le] at h15
   refine w_skipop rfl rfl rfl ?_
   refine w_skipop rfl rfl rfl ?_
   refine w_skipop rfl rfl rfl ?_
   refine w_skipop rfl rfl rfl ?_
   refine w_pure want_none (y_pickT (v := _) rfl rfl rfl rfl) rfl ?_
   refine w_pure want_none (y_move (v := .bool _) rfl rfl) rfl ?_
   refine w_skipop rfl rfl rfl ?_
   refine w_skipop rfl rfl rfl ?_
   refine w_skipop rfl rfl rfl ?_
   refine w_skipop rfl rfl rfl ?_
   refine w_pure want_none (y_pickT (v := _) rfl rfl rfl rfl) rfl ?_
   refine w_nil ?_
   refine q_then (hK13 _ _ ?_)
   refine w_condT rfl rfl ?_
   refine w_seq (fun K17 hK16 => ?_)
   refine w_region ?_
   refine w_pure want_none (y_assign (v := _) rfl rfl) rfl ?_
   refine w_nil ?_
   refine q_then (hK16 _ _ ?_)
   refine w_ret ?_
   refine q_then_ret ?_
   refine q_ret (l := [.tmp 2]) (vs := [_]) rfl ⟨⟨rfl, show _ = (.int _ _ : Value) from rfl⟩, trivial⟩ ?_
   first
     | exact ⟨congrArg (Value.int .i64) (room_7 (by first | exact .inl (by assumption) | exact .inr (.inl (by omega)) | exact .inr (.inr (by omega)))).symm, hs10.tail⟩
     | exact ⟨congrArg (Value.int .i64) (room_2 (by omega) (by omega) (by omega) (by omega) (by omega)).symm, hs10.tail⟩
     | exact ⟨congrArg (Value.int .i64) (room_e (by omega) (by omega) (by omega) (by omega)).symm, hs10.tail⟩
  ·
   try simp only [Bool.not_eq_true', Bool.not_eq_false', decide_eq_true_eq, decide_eq_false_iff_not, Int.not_lt, Int.not_le] at h15
   refine w_pure (want_yes rfl rfl rfl) (y_fieldAddr (o := 3) (i := 2) Try.underlying69 rfl Try.sizeOf3 rfl rfl rfl) rfl ?_
   refine w_pure (want_yes rfl rfl rfl) (y_load1 Try.isAgg3 hs10 rfl rfl (ats_own (i := 0) (vs := [_]) rfl rfl)) rfl ?_
   refine w_call (want_yes rfl rfl rfl) Try.call51 rfl rfl rfl rfl (c51 _ _ _ hs10) ?_
   rintro _ w19 ⟨rfl, hs20⟩
   refine w_pure (want_yes rfl rfl rfl) (y_not rfl rfl) rfl ?_
   refine w_pure want_none (y_pickF (v := .bool _) rfl rfl rfl rfl) rfl ?_
   refine w_pure want_none (y_move (v := .bool _) rfl rfl) rfl ?_
   refine w_split (fun h21 => ?_) (fun h21 => ?_)
   ·
    try simp only [Bool.not_eq_true', Bool.not_eq_false', decide_eq_true_eq, decide_eq_false_iff_not, Int.not_lt, Int.not_le] at h21
    refine w_skipop rfl rfl rfl ?_
    refine w_skipop rfl rfl rfl ?_
    refine w_skipop rfl rfl rfl ?_
    refine w_skipop rfl rfl rfl ?_
    refine w_pure want_none (y_pickT (v := _) rfl rfl rfl rfl) rfl ?_
    refine w_nil ?_
    refine q_then (hK13 _ _ ?_)
    refine w_condT rfl rfl ?_
    refine w_seq (fun K23 hK22 => ?_)
    refine w_region ?_
    refine w_pure want_none (y_assign (v := _) rfl rfl) rfl ?_
    refine w_nil ?_
    refine q_then (hK22 _ _ ?_)
    refine w_ret ?_
    refine q_then_ret ?_
    refine q_ret (l := [.tmp 2]) (vs := [_]) rfl ⟨⟨rfl, show _ = (.int _ _ : Value) from rfl⟩, trivial⟩ ?_
    first
      | exact ⟨congrArg (Value.int .i64) (room_7 (by first | exact .inl (by assumption) | exact .inr (.inl (by omega)) | exact .inr (.inr (by omega)))).symm, hs20.tail⟩
      | exact ⟨congrArg (Value.int .i64) (room_2 (by omega) (by omega) (by omega) (by omega) (by omega)).symm, hs20.tail⟩
      | exact ⟨congrArg (Value.int .i64) (room_e (by omega) (by omega) (by omega) (by omega)).symm, hs20.tail⟩
   ·
    try simp only [Bool.not_eq_true', Bool.not_eq_false', decide_eq_true_eq, decide_eq_false_iff_not, Int.not_lt, Int.not_le] at h21
    refine w_pure (want_yes rfl rfl rfl) (y_fieldAddr (o := 4) (i := 3) Try.underlying69 rfl Try.sizeOf3 rfl rfl rfl) rfl ?_
    refine w_pure (want_yes rfl rfl rfl) (y_load1 Try.isAgg3 hs20 rfl rfl (ats_own (i := 0) (vs := [_]) rfl rfl)) rfl ?_
    refine w_call (want_yes rfl rfl rfl) Try.call51 rfl rfl rfl rfl (c51 _ _ _ hs20) ?_
    rintro _ w25 ⟨rfl, hs26⟩
    refine w_pure (want_yes rfl rfl rfl) (y_not rfl rfl) rfl ?_
    refine w_pure want_none (y_pickF (v := .bool _) rfl rfl rfl rfl) rfl ?_
    refine w_nil ?_
    refine q_then (hK13 _ _ ?_)
    refine w_cond rfl rfl (fun h27 => ?_) (fun h27 => ?_)
    ·
     try simp only [Bool.not_eq_true', Bool.not_eq_false', decide_eq_true_eq, decide_eq_false_iff_not, Int.not_lt, Int.not_le] at h27
     refine w_seq (fun K29 hK28 => ?_)
     refine w_region ?_
     refine w_pure want_none (y_assign (v := _) rfl rfl) rfl ?_
     refine w_nil ?_
     refine q_then (hK28 _ _ ?_)
     refine w_ret ?_
     refine q_then_ret ?_
     refine q_ret (l := [.tmp 2]) (vs := [_]) rfl ⟨⟨rfl, show _ = (.int _ _ : Value) from rfl⟩, trivial⟩ ?_
     first
       | exact ⟨congrArg (Value.int .i64) (room_7 (by first | exact .inl (by assumption) | exact .inr (.inl (by omega)) | exact .inr (.inr (by omega)))).symm, hs26.tail⟩
       | exact ⟨congrArg (Value.int .i64) (room_2 (by omega) (by omega) (by omega) (by omega) (by omega)).symm, hs26.tail⟩
       | exact ⟨congrArg (Value.int .i64) (room_e (by omega) (by omega) (by omega) (by omega)).symm, hs26.tail⟩
    ·
     try simp only [Bool.not_eq_true', Bool.not_eq_false', decide_eq_true_eq, decide_eq_false_iff_not, Int.not_lt, Int.not_le] at h27
     refine w_skip ?_
     refine q_then (hK11 _ _ ?_)
     refine w_seq (fun K31 hK30 => ?_)
     refine w_seq (fun K33 hK32 => ?_)
     refine w_region ?_
     refine w_pure want_none (y_move (v := .int _ _) rfl rfl) rfl ?_
     refine w_pure want_none (y_eql rfl rfl rfl rfl) rfl ?_
     refine w_pure want_none (y_move (v := .bool _) rfl rfl) rfl ?_
     refine w_split (fun h34 => ?_) (fun h34 => ?_)
     ·
      try simp only [Bool.not_eq_true', Bool.not_eq_false', decide_eq_true_eq, decide_eq_false_iff_not, Int.not_lt, Int.not_le] at h34
      refine w_pure (want_yes rfl rfl rfl) (y_fieldAddr (o := 3) (i := 2) Try.underlying69 rfl Try.sizeOf3 rfl rfl rfl) rfl ?_
      refine w_pure (want_yes rfl rfl rfl) (y_load1 Try.isAgg3 hs26 rfl rfl (ats_own (i := 0) (vs := [_]) rfl rfl)) rfl ?_
      refine w_pure (want_yes rfl rfl rfl) (y_fieldAddr (o := 4) (i := 3) Try.underlying69 rfl Try.sizeOf3 rfl rfl rfl) rfl ?_
      refine w_pure (want_yes rfl rfl rfl) (y_load1 Try.isAgg3 hs26 rfl rfl (ats_own (i := 0) (vs := [_]) rfl rfl)) rfl ?_
      refine w_pure (want_yes rfl rfl rfl) (y_gtr rfl rfl rfl rfl) rfl ?_
      refine w_pure want_none (y_pickT (v := .bool _) rfl rfl rfl rfl) rfl ?_
      refine w_nil ?_
      refine q_then (hK32 _ _ ?_)
      refine w_cond rfl rfl (fun h35 => ?_) (fun h35 => ?_)
      ·
       try simp only [Bool.not_eq_true', Bool.not_eq_false', decide_eq_true_eq, decide_eq_false_iff_not, Int.not_lt, Int.not_le] at h35
       refine w_region ?_
       refine w_pure want_none (y_assign (v := _) rfl rfl) rfl ?_
       refine w_nil ?_
       refine q_then (hK30 _ _ ?_)
       refine w_seq (fun K37 hK36 => ?_)
       refine w_region ?_
       refine w_pure want_none (y_move (v := .int _ _) rfl rfl) rfl ?_
       refine w_pure want_none (y_assign (v := .int _ _) rfl rfl) rfl ?_
       refine w_nil ?_
       refine q_then (hK36 _ _ ?_)
       refine w_ret ?_
       refine q_ret (l := [.tmp 2]) (vs := [_]) rfl ⟨⟨rfl, show _ = (.int _ _ : Value) from rfl⟩, trivial⟩ ?_
       first
         | exact ⟨congrArg (Value.int .i64) (room_7 (by first | exact .inl (by assumption) | exact .inr (.inl (by omega)) | exact .inr (.inr (by omega)))).symm, hs26.tail⟩
         | exact ⟨congrArg (Value.int .i64) (room_2 (by omega) (by omega) (by omega) (by omega) (by omega)).symm, hs26.tail⟩
         | exact ⟨congrArg (Value.int .i64) (room_e (by omega) (by omega) (by omega) (by omega)).symm, hs26.tail⟩
      ·
       try simp only [Bool.not_eq_true', Bool.not_eq_false', decide_eq_true_eq, decide_eq_false_iff_not, Int.not_lt, Int.not_le] at h35
       refine w_skip ?_
       refine q_then (hK30 _ _ ?_)
       refine w_seq (fun K39 hK38 => ?_)
       refine w_region ?_
       refine w_pure want_none (y_move (v := .int _ _) rfl rfl) rfl ?_
       refine w_pure want_none (y_assign (v := .int _ _) rfl rfl) rfl ?_
       refine w_nil ?_
       refine q_then (hK38 _ _ ?_)
       refine w_ret ?_
       refine q_ret (l := [.tmp 2]) (vs := [_]) rfl ⟨⟨rfl, show _ = (.int _ _ : Value) from rfl⟩, trivial⟩ ?_
       first
         | exact ⟨congrArg (Value.int .i64) (room_7 (by first | exact .inl (by assumption) | exact .inr (.inl (by omega)) | exact .inr (.inr (by omega)))).symm, hs26.tail⟩
         | exact ⟨congrArg (Value.int .i64) (room_2 (by omega) (by omega) (by omega) (by omega) (by omega)).symm, hs26.tail⟩
         | exact ⟨congrArg (Value.int .i64) (room_e (by omega) (by omega) (by omega) (by omega)).symm, hs26.tail⟩
     ·
      try simp only [Bool.not_eq_true', Bool.not_eq_false', decide_eq_true_eq, decide_eq_false_iff_not, Int.not_lt, Int.not_le] at h34
      refine w_skipop rfl rfl rfl ?_
      refine w_skipop rfl rfl rfl ?_
      refine w_skipop rfl rfl rfl ?_
      refine w_skipop rfl rfl rfl ?_
      refine w_skipop rfl rfl rfl ?_
      refine w_pure want_none (y_pickF (v := _) rfl rfl rfl rfl) rfl ?_
      refine w_nil ?_
      refine q_then (hK32 _ _ ?_)
      refine w_condF rfl rfl ?_
      refine w_skip ?_
      refine q_then (hK30 _ _ ?_)
      refine w_seq (fun K41 hK40 => ?_)
      refine w_region ?_
      refine w_pure want_none (y_move (v := .int _ _) rfl rfl) rfl ?_
      refine w_pure want_none (y_assign (v := .int _ _) rfl rfl) rfl ?_
      refine w_nil ?_
      refine q_then (hK40 _ _ ?_)
      refine w_ret ?_
      refine q_ret (l := [.tmp 2]) (vs := [_]) rfl ⟨⟨rfl, show _ = (.int _ _ : Value) from rfl⟩, trivial⟩ ?_
      first
        | exact ⟨congrArg (Value.int .i64) (room_7 (by first | exact .inl (by assumption) | exact .inr (.inl (by omega)) | exact .inr (.inr (by omega)))).symm, hs26.tail⟩
        | exact ⟨congrArg (Value.int .i64) (room_2 (by omega) (by omega) (by omega) (by omega) (by omega)).symm, hs26.tail⟩
        | exact ⟨congrArg (Value.int .i64) (room_e (by omega) (by omega) (by omega) (by omega)).symm, hs26.tail⟩

theorem c17 {w0 w : World} {F : List (Nat × Obj)} (m : Market) (p : At3) (hm : MIn w0 F m p)  (hs : St w0 w F) :
  Con Try.prog 17 [.agg (m.cells p).toArray] w fun v w' => v = .tuple #[.int .i64 (check m).1, .int .i64 (check m).2.1, .int .i64 (check m).2.2] ∧ St w0 w' F := by
  refine con_of_wc (n := 142) Try.func17 rfl rfl (Nat.le_of_ble_eq_true rfl) ?_
  obtain ⟨ar, cr, as_, cs, at_, ct⟩ := p
  have hlr := hm.lr
  have hls := hm.ls
  have hlt := hm.lt
  refine w_seq (fun K2 hK1 => ?_)
  refine w_region ?_
  refine w_box (v := .agg #[.slice _ _ _, .slice _ _ _, .slice _ _ _]) (cs := [_, _, _]) want_none rfl rfl rfl hs (fun b3 w4 hs5 => ?_)
  refine w_pure want_none (y_assign (v := _) rfl rfl) rfl ?_
  refine w_pure want_none (y_assign (v := _) rfl rfl) rfl ?_
  refine w_pure want_none (y_assign (v := _) rfl rfl) rfl ?_
  refine w_nil ?_
  refine q_then (hK1 _ _ ?_)
  refine w_seq (fun K7 hK6 => ?_)
  refine w_seq (fun K9 hK8 => ?_)
  refine w_region ?_
  refine w_pure want_none (y_fieldAddr (o := 0) (i := 0) Try.underlying26 rfl Try.sizeOf22 rfl rfl rfl) rfl ?_
  refine w_pure want_none (y_load1 Try.isAgg22 hs5 rfl rfl (ats_own (i := 0) (vs := [_]) rfl rfl)) rfl ?_
  refine w_pure want_none (y_lenS Try.underlying22 rfl rfl) rfl ?_
  refine w_pure want_none (y_gtr rfl rfl rfl rfl) rfl ?_
  refine w_nil ?_
  refine q_then (hK8 _ _ ?_)
  refine w_cond rfl rfl (fun h10 => ?_) (fun h10 => ?_)
  ·
   try simp only [Bool.not_eq_true', Bool.not_eq_false', decide_eq_true_eq, decide_eq_false_iff_not, Int.not_lt, Int.not_le] at h10
   refine w_seq (fun K12 hK11 => ?_)
   refine w_region ?_
   refine w_pure want_none (y_assign (v := _) rfl rfl) rfl ?_
   refine w_pure want_none (y_assign (v := _) rfl rfl) rfl ?_
   refine w_pure want_none (y_assign (v := _) rfl rfl) rfl ?_
   refine w_nil ?_
   refine q_then (hK11 _ _ ?_)
   refine w_ret ?_
   refine q_then_ret ?_
   refine q_ret (l := [.tmp 2, .tmp 3, .tmp 4]) (vs := [_, _, _]) rfl ⟨⟨rfl, show _ = (.int _ _ : Value) from rfl⟩, ⟨rfl, show _ = (.int _ _ : Value) from rfl⟩, ⟨rfl, show _ = (.int _ _ : Value) from rfl⟩, trivial⟩ ?_
   first
     | contradiction
     | exact ⟨tup3 (chk_r (fail_most (by omega)) (by decide)), hs5.tail⟩
     | exact ⟨tup3 (chk_s hE1 (fail_most (by omega)) (by decide)), hs5.tail⟩
     | exact ⟨tup3 (chk_t hE1 hE2 (fail_most (by omega)) (by decide)), hs5.tail⟩
     | exact ⟨tup3 (chk_r (by rw [fail_go (by omega), hinv, firstE_stop hi2 (by rw [roomE_n (by assumption)]; assumption), roomE_n (by assumption)]) (by assumption)), hs5.tail⟩
     | exact ⟨tup3 (chk_r (by rw [fail_go (by omega), hinv, firstE_stop hi2 (by rw [roomE_0 (by assumption)]; assumption), roomE_0 (by assumption)]) (by assumption)), hs5.tail⟩
     | exact ⟨tup3 (chk_s hE1 (by rw [fail_go (by omega), hinv, firstE_stop hi2 (by rw [shopE_n (by assumption)]; assumption), shopE_n (by assumption)]) (by assumption)), hs5.tail⟩
     | exact ⟨tup3 (chk_s hE1 (by rw [fail_go (by omega), hinv, firstE_stop hi2 (by rw [shopE_0 (by assumption), shop_7 (by omega)]; decide), shopE_0 (by assumption), shop_7 (by omega)]) (by decide)), hs5.tail⟩
     | exact ⟨tup3 (chk_t hE1 hE2 (by rw [fail_go (by omega), hinv, firstE_stop hi2 (by rw [train_4 (by omega)]; decide), train_4 (by omega)]) (by decide)), hs5.tail⟩
     | exact ⟨tup3 (chk_t hE1 hE2 (by rw [fail_go (by omega), hinv, firstE_stop hi2 (by rw [train_7 (by omega) (by omega) (by omega)]; decide), train_7 (by omega) (by omega) (by omega)]) (by decide)), hs5.tail⟩
     | exact ⟨tup3 (chk_0 hE1 hE2 (by rw [fail_go (by omega), hinv, firstE_end (by omega)])), hs5.tail⟩
  ·
   try simp only [Bool.not_eq_true', Bool.not_eq_false', decide_eq_true_eq, decide_eq_false_iff_not, Int.not_lt, Int.not_le] at h10
   refine w_skip ?_
   refine q_then (hK6 _ _ ?_)
   refine w_seq (fun K14 hK13 => ?_)
   refine w_region ?_
   refine w_pure want_none (y_assign (v := _) rfl rfl) rfl ?_
   refine w_nil ?_
   refine q_then (hK13 _ _ ?_)
   refine w_seq (fun K16 hK15 => ?_)
   refine w_seq (fun K18 hK17 => ?_)
   refine w_region ?_
   refine w_pure want_none (y_assign (v := _) rfl rfl) rfl ?_
   refine w_nil ?_
   refine q_then (hK17 _ _ ?_)
   refine w_block ?_
   refine w_loop [2, 3, 4, 5, 6, 7, 17, 18, 19, 20, 21, 22, 23, 24, 25, 26, 27, 28, 29, 30, 31, 32, 33, 34, 35, 36, 37, 38, 39, 40, 41, 42, 43, 44, 45, 46, 47, 48, 49, 50, 51, 52] [5, 6] (fun k vs w => ∃ (i : Nat) (v : Value) (B : List (Nat × Obj)), vs = [v, .int .i64 i] ∧ i ≤ m.rooms.length ∧ k = m.rooms.length - i ∧ firstE roomE [] 0 m.rooms = firstE roomE (m.rooms.take i) (i : Nat) (m.rooms.drop i) ∧ Rt.Own v 9 1 i (strs ((m.rooms.take i).map (·.name))) B ∧ St w0 w ((b3, blk 26 (m.cells ⟨ar, cr, as_, cs, at_, ct⟩)) :: (B ++ F))) (m.rooms.length) ?_ ?_
   ·
    exact ⟨0, _, [], rfl, by omega, by omega, by simp, own_nil 9 1, hs5⟩
   ·
    intro k vs μ w21 hI K20 hN19
    obtain ⟨i, v, B, rfl, hia, rfl, hinv, hown, hs⟩ := hI
    refine w_seq (fun K23 hK22 => ?_)
    refine w_seq (fun K25 hK24 => ?_)
    refine w_region ?_
    refine w_pure want_none (y_move (v := .int _ _) rfl rfl) rfl ?_
    refine w_pure want_none (y_fieldAddr (o := 0) (i := 0) Try.underlying26 rfl Try.sizeOf22 rfl rfl rfl) rfl ?_
    refine w_pure want_none (y_load1 Try.isAgg22 hs rfl rfl (ats_own (i := 0) (vs := [_]) rfl rfl)) rfl ?_
    refine w_pure want_none (y_lenS Try.underlying22 rfl rfl) rfl ?_
    refine w_pure want_none (y_lss rfl rfl rfl rfl) rfl ?_
    refine w_nil ?_
    refine q_then (hK24 _ _ ?_)
    refine w_cond rfl rfl (fun h26 => ?_) (fun h26 => ?_)
    ·
     try simp only [Bool.not_eq_true', Bool.not_eq_false', decide_eq_true_eq, decide_eq_false_iff_not, Int.not_lt, Int.not_le] at h26
     refine w_skip ?_
     refine q_then (hK22 _ _ ?_)
     refine w_seq (fun K28 hK27 => ?_)
     refine w_block ?_
     refine w_seq (fun K30 hK29 => ?_)
     have hi2 : i < m.rooms.length := by omega
     have hn2 := rnames_len (f := (·.name)) hia
     obtain ⟨r1, or1, hbr1, hxr1⟩ := sl_rrows hm.r hi2
     obtain ⟨an, cn, rfl, hsn⟩ := own_sl_map (w0 := w0) hown hn2 F
     have hnl : ((m.rooms.take i).map (·.name)).length ≤ 1000000 := by omega
     subst hbr1
     refine w_region ?_
     refine w_pure want_none (y_fieldAddr (o := 0) (i := 0) Try.underlying26 rfl Try.sizeOf22 rfl rfl rfl) rfl ?_
     refine w_pure want_none (y_load1 Try.isAgg22 hs rfl rfl (ats_own (i := 0) (vs := [_]) rfl rfl)) rfl ?_
     refine w_pure want_none (y_move (v := .int _ _) rfl rfl) rfl ?_
     refine w_pure want_none (y_indexS Try.underlying22 Try.sizeOf69 rfl rfl rfl rfl (i := _) rfl (by omega)) rfl ?_
     refine w_pure want_none (y_fieldAddr (o := 0) (i := 0) Try.underlying69 rfl Try.sizeOf9 rfl rfl rfl) rfl ?_
     refine w_pure want_none (y_load1 Try.isAgg9 hs.tail.drop rfl rfl (show Ats _ _ _ _ [_] from Ats.part hxr1 0 1)) rfl ?_
     refine w_pure want_none (y_move (v := .slice _ _ _) rfl rfl) rfl ?_
     refine w_call want_none Try.call62 rfl rfl rfl rfl (c62 _ _ _ _ (hm.nr _ (List.getElem_mem hi2)) (by omega) hsn.cons hs) ?_
     rintro _ w32 ⟨rfl, hs33⟩
     refine w_pure want_none (y_assign (v := .int _ _) rfl rfl) rfl ?_
     refine w_nil ?_
     refine q_then (hK29 _ _ ?_)
     refine w_seq (fun K35 hK34 => ?_)
     refine w_region ?_
     refine w_pure want_none (y_move (v := .slice _ _ _) rfl rfl) rfl ?_
     refine w_pure want_none (y_fieldAddr (o := 0) (i := 0) Try.underlying26 rfl Try.sizeOf22 rfl rfl rfl) rfl ?_
     refine w_pure want_none (y_load1 Try.isAgg22 hs33 rfl rfl (ats_own (i := 0) (vs := [_]) rfl rfl)) rfl ?_
     refine w_pure want_none (y_move (v := .int _ _) rfl rfl) rfl ?_
     refine w_pure want_none (y_indexS Try.underlying22 Try.sizeOf69 rfl rfl rfl rfl (i := _) rfl (by omega)) rfl ?_
     refine w_pure want_none (y_fieldAddr (o := 0) (i := 0) Try.underlying69 rfl Try.sizeOf9 rfl rfl rfl) rfl ?_
     refine w_pure want_none (y_load1 Try.isAgg9 hs33.tail.drop rfl rfl (show Ats _ _ _ _ [_] from Ats.part hxr1 0 1)) rfl ?_
     refine w_bslice (ps := [(0, _)]) (pv := [(0, .string _)]) (cs := [_]) want_none rfl rfl (fun w => Try_N_fb4 _ w) hs33 (fun b36 w37 hs38 => ?_)
     refine w_append (X := (_ :: _ :: [])) (B := B) (rows := [[_]]) (sz := 1) (bytes := 16) want_none Try.underlying73 Try_info9 rfl rfl rfl rfl rfl rfl rfl rfl rfl hs38 hown (sl_own (i := 0) rfl (by simp) rfl) rfl (by simp) (by simp [Value.oneCell']) (by simp only [maxLen]; omega) (by omega) (fun v39 w40 B41 ho42 hs43 => ?_)
     replace hs43 := (show St _ _ (_ :: _ :: B41 ++ (F)) from hs43)
     refine w_pure want_none (y_assign (v := v39) rfl rfl) rfl ?_
     refine w_nil ?_
     refine q_then (hK34 _ _ ?_)
     refine w_seq (fun K45 hK44 => ?_)
     refine w_seq (fun K47 hK46 => ?_)
     refine w_region ?_
     refine w_pure want_none (y_move (v := .int _ _) rfl rfl) rfl ?_
     refine w_pure want_none (y_eql rfl rfl rfl rfl) rfl ?_
     refine w_nil ?_
     refine q_then (hK46 _ _ ?_)
     refine w_cond rfl rfl (fun h48 => ?_) (fun h48 => ?_)
     ·
      try simp only [Bool.not_eq_true', Bool.not_eq_false', decide_eq_true_eq, decide_eq_false_iff_not, Int.not_lt, Int.not_le] at h48
      refine w_region ?_
      refine w_pure want_none (y_fieldAddr (o := 0) (i := 0) Try.underlying26 rfl Try.sizeOf22 rfl rfl rfl) rfl ?_
      refine w_pure want_none (y_load1 Try.isAgg22 hs43 rfl rfl (ats_own (i := 1) (vs := [_]) rfl rfl)) rfl ?_
      refine w_pure want_none (y_move (v := .int _ _) rfl rfl) rfl ?_
      refine w_pure want_none (y_indexS Try.underlying22 Try.sizeOf69 rfl rfl rfl rfl (i := _) rfl (by omega)) rfl ?_
      refine w_pure want_none (y_loadN (vs := [_, _, _, _, _]) Try.isAgg69 Try.sizeOf69 hs43.tail.tail.drop rfl rfl hxr1) rfl ?_
      refine w_call want_none Try.call63 rfl rfl rfl rfl (c63 _ hs43) ?_
      rintro _ w50 ⟨rfl, hs51⟩
      refine w_pure want_none (y_assign (v := .int _ _) rfl rfl) rfl ?_
      refine w_nil ?_
      refine q_then (hK44 _ _ ?_)
      refine w_seq (fun K53 hK52 => ?_)
      refine w_region ?_
      refine w_pure want_none (y_move (v := .int _ _) rfl rfl) rfl ?_
      refine w_pure want_none (y_neq rfl rfl rfl rfl) rfl ?_
      refine w_nil ?_
      refine q_then (hK52 _ _ ?_)
      refine w_cond rfl rfl (fun h54 => ?_) (fun h54 => ?_)
      ·
       try simp only [Bool.not_eq_true', Bool.not_eq_false', decide_eq_true_eq, decide_eq_false_iff_not, Int.not_lt, Int.not_le] at h54
       refine w_seq (fun K56 hK55 => ?_)
       refine w_region ?_
       refine w_pure want_none (y_move (v := .int _ _) rfl rfl) rfl ?_
       refine w_pure want_none (y_move (v := .int _ _) rfl rfl) rfl ?_
       refine w_pure want_none (y_assign (v := _) rfl rfl) rfl ?_
       refine w_pure want_none (y_assign (v := .int _ _) rfl rfl) rfl ?_
       refine w_pure want_none (y_assign (v := .int _ _) rfl rfl) rfl ?_
       refine w_nil ?_
       refine q_then (hK55 _ _ ?_)
       refine w_ret ?_
       refine q_blk_ret ?_
       refine q_then_ret ?_
       refine q_then_ret ?_
       refine q_blk_ret ?_
       refine q_then_ret ?_
       refine q_ret (l := [.tmp 2, .tmp 3, .tmp 4]) (vs := [_, _, _]) rfl ⟨⟨rfl, show _ = (.int _ _ : Value) from rfl⟩, ⟨rfl, show _ = (.int _ _ : Value) from rfl⟩, ⟨rfl, show _ = (.int _ _ : Value) from rfl⟩, trivial⟩ ?_
       first
         | contradiction
         | exact ⟨tup3 (chk_r (fail_most (by omega)) (by decide)), hs51.tail.tail.drop⟩
         | exact ⟨tup3 (chk_s hE1 (fail_most (by omega)) (by decide)), hs51.tail.tail.drop⟩
         | exact ⟨tup3 (chk_t hE1 hE2 (fail_most (by omega)) (by decide)), hs51.tail.tail.drop⟩
         | exact ⟨tup3 (chk_r (by rw [fail_go (by omega), hinv, firstE_stop hi2 (by rw [roomE_n (by assumption)]; assumption), roomE_n (by assumption)]) (by assumption)), hs51.tail.tail.drop⟩
         | exact ⟨tup3 (chk_r (by rw [fail_go (by omega), hinv, firstE_stop hi2 (by rw [roomE_0 (by assumption)]; assumption), roomE_0 (by assumption)]) (by assumption)), hs51.tail.tail.drop⟩
         | exact ⟨tup3 (chk_s hE1 (by rw [fail_go (by omega), hinv, firstE_stop hi2 (by rw [shopE_n (by assumption)]; assumption), shopE_n (by assumption)]) (by assumption)), hs51.tail.tail.drop⟩
         | exact ⟨tup3 (chk_s hE1 (by rw [fail_go (by omega), hinv, firstE_stop hi2 (by rw [shopE_0 (by assumption), shop_7 (by omega)]; decide), shopE_0 (by assumption), shop_7 (by omega)]) (by decide)), hs51.tail.tail.drop⟩
         | exact ⟨tup3 (chk_t hE1 hE2 (by rw [fail_go (by omega), hinv, firstE_stop hi2 (by rw [train_4 (by omega)]; decide), train_4 (by omega)]) (by decide)), hs51.tail.tail.drop⟩
         | exact ⟨tup3 (chk_t hE1 hE2 (by rw [fail_go (by omega), hinv, firstE_stop hi2 (by rw [train_7 (by omega) (by omega) (by omega)]; decide), train_7 (by omega) (by omega) (by omega)]) (by decide)), hs51.tail.tail.drop⟩
         | exact ⟨tup3 (chk_0 hE1 hE2 (by rw [fail_go (by omega), hinv, firstE_end (by omega)])), hs51.tail.tail.drop⟩
      ·
       try simp only [Bool.not_eq_true', Bool.not_eq_false', decide_eq_true_eq, decide_eq_false_iff_not, Int.not_lt, Int.not_le] at h54
       refine w_skip ?_
       refine q_blk_normal ?_
       refine q_then (hK27 _ _ ?_)
       refine w_region ?_
       refine w_pure want_none (y_move (v := .int _ _) rfl rfl) rfl ?_
       refine w_pure want_none (y_add rfl rfl rfl rfl (by omega) (by omega)) rfl ?_
       refine w_pure want_none (y_assign (v := .int _ _) rfl rfl) rfl ?_
       refine w_nil ?_
       refine q_then (hN19 _ _ (Nx.intro (m.rooms.length - (i + 1)) (by omega) (by repeat (first | exact agree_mix | refine agree_upd rfl ?_ | refine agree_updL rfl ?_ _ | refine agree_mixin rfl ?_)) ?_))
       first
         | contradiction
         | exact ⟨i + 1, _, _, rfl, by omega, rfl, hinv.trans (firstE_step hi2 (by rw [roomE_0 (by assumption)]; assumption)), by rw [← rnames_snoc hi2]; exact ho42, hs51.tail⟩
     ·
      try simp only [Bool.not_eq_true', Bool.not_eq_false', decide_eq_true_eq, decide_eq_false_iff_not, Int.not_lt, Int.not_le] at h48
      refine w_skip ?_
      refine q_then (hK44 _ _ ?_)
      refine w_seq (fun K58 hK57 => ?_)
      refine w_region ?_
      refine w_pure want_none (y_move (v := .int _ _) rfl rfl) rfl ?_
      refine w_pure want_none (y_neq rfl rfl rfl rfl) rfl ?_
      refine w_nil ?_
      refine q_then (hK57 _ _ ?_)
      refine w_cond rfl rfl (fun h59 => ?_) (fun h59 => ?_)
      ·
       try simp only [Bool.not_eq_true', Bool.not_eq_false', decide_eq_true_eq, decide_eq_false_iff_not, Int.not_lt, Int.not_le] at h59
       refine w_seq (fun K61 hK60 => ?_)
       refine w_region ?_
       refine w_pure want_none (y_move (v := .int _ _) rfl rfl) rfl ?_
       refine w_pure want_none (y_move (v := .int _ _) rfl rfl) rfl ?_
       refine w_pure want_none (y_assign (v := _) rfl rfl) rfl ?_
       refine w_pure want_none (y_assign (v := .int _ _) rfl rfl) rfl ?_
       refine w_pure want_none (y_assign (v := .int _ _) rfl rfl) rfl ?_
       refine w_nil ?_
       refine q_then (hK60 _ _ ?_)
       refine w_ret ?_
       refine q_blk_ret ?_
       refine q_then_ret ?_
       refine q_then_ret ?_
       refine q_blk_ret ?_
       refine q_then_ret ?_
       refine q_ret (l := [.tmp 2, .tmp 3, .tmp 4]) (vs := [_, _, _]) rfl ⟨⟨rfl, show _ = (.int _ _ : Value) from rfl⟩, ⟨rfl, show _ = (.int _ _ : Value) from rfl⟩, ⟨rfl, show _ = (.int _ _ : Value) from rfl⟩, trivial⟩ ?_
       first
         | contradiction
         | exact ⟨tup3 (chk_r (fail_most (by omega)) (by decide)), hs43.tail.tail.drop⟩
         | exact ⟨tup3 (chk_s hE1 (fail_most (by omega)) (by decide)), hs43.tail.tail.drop⟩
         | exact ⟨tup3 (chk_t hE1 hE2 (fail_most (by omega)) (by decide)), hs43.tail.tail.drop⟩
         | exact ⟨tup3 (chk_r (by rw [fail_go (by omega), hinv, firstE_stop hi2 (by rw [roomE_n (by assumption)]; assumption), roomE_n (by assumption)]) (by assumption)), hs43.tail.tail.drop⟩
         | exact ⟨tup3 (chk_r (by rw [fail_go (by omega), hinv, firstE_stop hi2 (by rw [roomE_0 (by assumption)]; assumption), roomE_0 (by assumption)]) (by assumption)), hs43.tail.tail.drop⟩
         | exact ⟨tup3 (chk_s hE1 (by rw [fail_go (by omega), hinv, firstE_stop hi2 (by rw [shopE_n (by assumption)]; assumption), shopE_n (by assumption)]) (by assumption)), hs43.tail.tail.drop⟩
         | exact ⟨tup3 (chk_s hE1 (by rw [fail_go (by omega), hinv, firstE_stop hi2 (by rw [shopE_0 (by assumption), shop_7 (by omega)]; decide), shopE_0 (by assumption), shop_7 (by omega)]) (by decide)), hs43.tail.tail.drop⟩
         | exact ⟨tup3 (chk_t hE1 hE2 (by rw [fail_go (by omega), hinv, firstE_stop hi2 (by rw [train_4 (by omega)]; decide), train_4 (by omega)]) (by decide)), hs43.tail.tail.drop⟩
         | exact ⟨tup3 (chk_t hE1 hE2 (by rw [fail_go (by omega), hinv, firstE_stop hi2 (by rw [train_7 (by omega) (by omega) (by omega)]; decide), train_7 (by omega) (by omega) (by omega)]) (by decide)), hs43.tail.tail.drop⟩
         | exact ⟨tup3 (chk_0 hE1 hE2 (by rw [fail_go (by omega), hinv, firstE_end (by omega)])), hs43.tail.tail.drop⟩
      ·
       try simp only [Bool.not_eq_true', Bool.not_eq_false', decide_eq_true_eq, decide_eq_false_iff_not, Int.not_lt, Int.not_le] at h59
       refine w_skip ?_
       refine q_blk_normal ?_
       refine q_then (hK27 _ _ ?_)
       refine w_region ?_
       refine w_pure want_none (y_move (v := .int _ _) rfl rfl) rfl ?_
       refine w_pure want_none (y_add rfl rfl rfl rfl (by omega) (by omega)) rfl ?_
       refine w_pure want_none (y_assign (v := .int _ _) rfl rfl) rfl ?_
       refine w_nil ?_
       refine q_then (hN19 _ _ (Nx.intro (m.rooms.length - (i + 1)) (by omega) (by repeat (first | exact agree_mix | refine agree_upd rfl ?_ | refine agree_updL rfl ?_ _ | refine agree_mixin rfl ?_)) ?_))
       first
         | contradiction
         | exact ⟨i + 1, _, _, rfl, by omega, rfl, hinv.trans (firstE_step hi2 (by rw [roomE_0 (by assumption)]; assumption)), by rw [← rnames_snoc hi2]; exact ho42, hs43.tail⟩
    ·
     try simp only [Bool.not_eq_true', Bool.not_eq_false', decide_eq_true_eq, decide_eq_false_iff_not, Int.not_lt, Int.not_le] at h26
     refine w_exit ?_
     refine q_then_exit ?_
     refine q_then_exit ?_
     refine q_blk_this ?_
     refine q_then (hK15 _ _ ?_)
     refine w_seq (fun K63 hK62 => ?_)
     refine w_seq (fun K65 hK64 => ?_)
     have hE1 : (failE roomE 3 m.rooms).2 = 0 := by rw [fail_go (by omega), hinv, firstE_end (by omega)]
     have hs66 := keep_front (Y := B) (show St _ _ (_ :: (B ++ F)) from hs)
     refine w_region ?_
     refine w_pure want_none (y_fieldAddr (o := 1) (i := 1) Try.underlying26 rfl Try.sizeOf23 rfl rfl rfl) rfl ?_
     refine w_pure want_none (y_load1 Try.isAgg23 hs66 rfl rfl (ats_own (i := 0) (vs := [_]) rfl rfl)) rfl ?_
     refine w_pure want_none (y_lenS Try.underlying23 rfl rfl) rfl ?_
     refine w_pure want_none (y_gtr rfl rfl rfl rfl) rfl ?_
     refine w_nil ?_
     refine q_then (hK64 _ _ ?_)
     refine w_cond rfl rfl (fun h67 => ?_) (fun h67 => ?_)
     ·
      try simp only [Bool.not_eq_true', Bool.not_eq_false', decide_eq_true_eq, decide_eq_false_iff_not, Int.not_lt, Int.not_le] at h67
      refine w_seq (fun K69 hK68 => ?_)
      refine w_region ?_
      refine w_pure want_none (y_assign (v := _) rfl rfl) rfl ?_
      refine w_pure want_none (y_assign (v := _) rfl rfl) rfl ?_
      refine w_pure want_none (y_assign (v := _) rfl rfl) rfl ?_
      refine w_nil ?_
      refine q_then (hK68 _ _ ?_)
      refine w_ret ?_
      refine q_then_ret ?_
      refine q_ret (l := [.tmp 2, .tmp 3, .tmp 4]) (vs := [_, _, _]) rfl ⟨⟨rfl, show _ = (.int _ _ : Value) from rfl⟩, ⟨rfl, show _ = (.int _ _ : Value) from rfl⟩, ⟨rfl, show _ = (.int _ _ : Value) from rfl⟩, trivial⟩ ?_
      first
        | contradiction
        | exact ⟨tup3 (chk_r (fail_most (by omega)) (by decide)), hs66.tail⟩
        | exact ⟨tup3 (chk_s hE1 (fail_most (by omega)) (by decide)), hs66.tail⟩
        | exact ⟨tup3 (chk_t hE1 hE2 (fail_most (by omega)) (by decide)), hs66.tail⟩
        | exact ⟨tup3 (chk_r (by rw [fail_go (by omega), hinv, firstE_stop hi2 (by rw [roomE_n (by assumption)]; assumption), roomE_n (by assumption)]) (by assumption)), hs66.tail⟩
        | exact ⟨tup3 (chk_r (by rw [fail_go (by omega), hinv, firstE_stop hi2 (by rw [roomE_0 (by assumption)]; assumption), roomE_0 (by assumption)]) (by assumption)), hs66.tail⟩
        | exact ⟨tup3 (chk_s hE1 (by rw [fail_go (by omega), hinv, firstE_stop hi2 (by rw [shopE_n (by assumption)]; assumption), shopE_n (by assumption)]) (by assumption)), hs66.tail⟩
        | exact ⟨tup3 (chk_s hE1 (by rw [fail_go (by omega), hinv, firstE_stop hi2 (by rw [shopE_0 (by assumption), shop_7 (by omega)]; decide), shopE_0 (by assumption), shop_7 (by omega)]) (by decide)), hs66.tail⟩
        | exact ⟨tup3 (chk_t hE1 hE2 (by rw [fail_go (by omega), hinv, firstE_stop hi2 (by rw [train_4 (by omega)]; decide), train_4 (by omega)]) (by decide)), hs66.tail⟩
        | exact ⟨tup3 (chk_t hE1 hE2 (by rw [fail_go (by omega), hinv, firstE_stop hi2 (by rw [train_7 (by omega) (by omega) (by omega)]; decide), train_7 (by omega) (by omega) (by omega)]) (by decide)), hs66.tail⟩
        | exact ⟨tup3 (chk_0 hE1 hE2 (by rw [fail_go (by omega), hinv, firstE_end (by omega)])), hs66.tail⟩
     ·
      try simp only [Bool.not_eq_true', Bool.not_eq_false', decide_eq_true_eq, decide_eq_false_iff_not, Int.not_lt, Int.not_le] at h67
      refine w_skip ?_
      refine q_then (hK62 _ _ ?_)
      refine w_seq (fun K71 hK70 => ?_)
      refine w_region ?_
      refine w_pure want_none (y_assign (v := _) rfl rfl) rfl ?_
      refine w_nil ?_
      refine q_then (hK70 _ _ ?_)
      refine w_seq (fun K73 hK72 => ?_)
      refine w_seq (fun K75 hK74 => ?_)
      refine w_region ?_
      refine w_pure want_none (y_assign (v := _) rfl rfl) rfl ?_
      refine w_nil ?_
      refine q_then (hK74 _ _ ?_)
      refine w_block ?_
      refine w_loop [2, 3, 4, 5, 8, 9, 10, 57, 58, 59, 60, 61, 62, 63, 64, 65, 66, 67, 68, 69, 70, 71, 72, 73, 74, 75, 76, 77, 78, 79, 80, 81, 82, 83, 84, 85, 86, 87, 88, 89, 90, 91, 92, 93, 94, 95] [5, 8] (fun k vs w => ∃ (i : Nat) (v : Value) (B : List (Nat × Obj)), vs = [v, .int .i64 i] ∧ i ≤ m.shops.length ∧ k = m.shops.length - i ∧ firstE shopE [] 0 m.shops = firstE shopE (m.shops.take i) (i : Nat) (m.shops.drop i) ∧ Rt.Own v 9 1 i (strs ((m.shops.take i).map (·.name))) B ∧ St w0 w ((b3, blk 26 (m.cells ⟨ar, cr, as_, cs, at_, ct⟩)) :: (B ++ F))) (m.shops.length) ?_ ?_
      ·
       exact ⟨0, _, [], rfl, by omega, by omega, by simp, own_nil 9 1, hs66⟩
      ·
       intro k vs μ w78 hI K77 hN76
       obtain ⟨i, v, B, rfl, hia, rfl, hinv, hown, hs⟩ := hI
       refine w_seq (fun K80 hK79 => ?_)
       refine w_seq (fun K82 hK81 => ?_)
       refine w_region ?_
       refine w_pure want_none (y_move (v := .int _ _) rfl rfl) rfl ?_
       refine w_pure want_none (y_fieldAddr (o := 1) (i := 1) Try.underlying26 rfl Try.sizeOf23 rfl rfl rfl) rfl ?_
       refine w_pure want_none (y_load1 Try.isAgg23 hs rfl rfl (ats_own (i := 0) (vs := [_]) rfl rfl)) rfl ?_
       refine w_pure want_none (y_lenS Try.underlying23 rfl rfl) rfl ?_
       refine w_pure want_none (y_lss rfl rfl rfl rfl) rfl ?_
       refine w_nil ?_
       refine q_then (hK81 _ _ ?_)
       refine w_cond rfl rfl (fun h83 => ?_) (fun h83 => ?_)
       ·
        try simp only [Bool.not_eq_true', Bool.not_eq_false', decide_eq_true_eq, decide_eq_false_iff_not, Int.not_lt, Int.not_le] at h83
        refine w_skip ?_
        refine q_then (hK79 _ _ ?_)
        refine w_seq (fun K85 hK84 => ?_)
        refine w_block ?_
        refine w_seq (fun K87 hK86 => ?_)
        have hi2 : i < m.shops.length := by omega
        have hn2 := rnames_len (f := (·.name)) hia
        obtain ⟨s1, os1, hbs1, hxs1⟩ := sl_srows hm.s hi2
        obtain ⟨an, cn, rfl, hsn⟩ := own_sl_map (w0 := w0) hown hn2 F
        have hnl : ((m.shops.take i).map (·.name)).length ≤ 1000000 := by omega
        subst hbs1
        refine w_region ?_
        refine w_pure want_none (y_fieldAddr (o := 1) (i := 1) Try.underlying26 rfl Try.sizeOf23 rfl rfl rfl) rfl ?_
        refine w_pure want_none (y_load1 Try.isAgg23 hs rfl rfl (ats_own (i := 0) (vs := [_]) rfl rfl)) rfl ?_
        refine w_pure want_none (y_move (v := .int _ _) rfl rfl) rfl ?_
        refine w_pure want_none (y_indexS Try.underlying23 Try.sizeOf52 rfl rfl rfl rfl (i := _) rfl (by omega)) rfl ?_
        refine w_pure want_none (y_loadN (vs := [_, _, _]) Try.isAgg52 Try.sizeOf52 hs.tail.drop rfl rfl hxs1) rfl ?_
        refine w_alloc (cs := [_, _, _]) want_none Try.zeroValue52 rfl hs (fun b88 w89 hs90 => ?_)
        refine w_store (i := 0) (v := .agg #[.string _, .int _ _, .int _ _]) (vs := [_, _, _]) want_none Try.sizeOf52 rfl rfl rfl rfl rfl (by simp [Value.oneCell']) hs90 rfl (Nat.le_of_ble_eq_true rfl) (fun w91 hs92 => ?_)
        refine w_nil ?_
        refine q_then (hK86 _ _ ?_)
        refine w_seq (fun K94 hK93 => ?_)
        refine w_region ?_
        refine w_pure want_none (y_fieldAddr (o := 0) (i := 0) Try.underlying52 rfl Try.sizeOf9 rfl rfl rfl) rfl ?_
        refine w_pure want_none (y_load1 Try.isAgg9 hs92 rfl rfl (ats_own (i := 0) (vs := [_]) rfl rfl)) rfl ?_
        refine w_pure want_none (y_move (v := .slice _ _ _) rfl rfl) rfl ?_
        refine w_call want_none Try.call62 rfl rfl rfl rfl (c62 _ _ _ _ (hm.ns _ (List.getElem_mem hi2)) (by omega) hsn.cons.cons hs92) ?_
        rintro _ w96 ⟨rfl, hs97⟩
        refine w_pure want_none (y_assign (v := .int _ _) rfl rfl) rfl ?_
        refine w_nil ?_
        refine q_then (hK93 _ _ ?_)
        refine w_seq (fun K99 hK98 => ?_)
        refine w_region ?_
        refine w_pure want_none (y_move (v := .slice _ _ _) rfl rfl) rfl ?_
        refine w_pure want_none (y_fieldAddr (o := 0) (i := 0) Try.underlying52 rfl Try.sizeOf9 rfl rfl rfl) rfl ?_
        refine w_pure want_none (y_load1 Try.isAgg9 hs97 rfl rfl (ats_own (i := 0) (vs := [_]) rfl rfl)) rfl ?_
        refine w_bslice (ps := [(0, _)]) (pv := [(0, .string _)]) (cs := [_]) want_none rfl rfl (fun w => Try_N_fb4 _ w) hs97 (fun b100 w101 hs102 => ?_)
        refine w_append (X := (_ :: _ :: _ :: [])) (B := B) (rows := [[_]]) (sz := 1) (bytes := 16) want_none Try.underlying73 Try_info9 rfl rfl rfl rfl rfl rfl rfl rfl rfl hs102 hown (sl_own (i := 0) rfl (by simp) rfl) rfl (by simp) (by simp [Value.oneCell']) (by simp only [maxLen]; omega) (by omega) (fun v103 w104 B105 ho106 hs107 => ?_)
        replace hs107 := (show St _ _ (_ :: _ :: _ :: B105 ++ (F)) from hs107)
        refine w_pure want_none (y_assign (v := v103) rfl rfl) rfl ?_
        refine w_nil ?_
        refine q_then (hK98 _ _ ?_)
        refine w_seq (fun K109 hK108 => ?_)
        refine w_seq (fun K111 hK110 => ?_)
        refine w_region ?_
        refine w_pure want_none (y_move (v := .int _ _) rfl rfl) rfl ?_
        refine w_pure want_none (y_eql rfl rfl rfl rfl) rfl ?_
        refine w_pure want_none (y_move (v := .bool _) rfl rfl) rfl ?_
        refine w_split (fun h112 => ?_) (fun h112 => ?_)
        ·
         try simp only [Bool.not_eq_true', Bool.not_eq_false', decide_eq_true_eq, decide_eq_false_iff_not, Int.not_lt, Int.not_le] at h112
         refine w_pure (want_yes rfl rfl rfl) (y_fieldAddr (o := 1) (i := 1) Try.underlying52 rfl Try.sizeOf3 rfl rfl rfl) rfl ?_
         refine w_pure (want_yes rfl rfl rfl) (y_load1 Try.isAgg3 hs107 rfl rfl (ats_own (i := 1) (vs := [_]) rfl rfl)) rfl ?_
         refine w_call (want_yes rfl rfl rfl) Try.call51 rfl rfl rfl rfl (c51 _ _ _ hs107) ?_
         rintro _ w114 ⟨rfl, hs115⟩
         refine w_pure (want_yes rfl rfl rfl) (y_not rfl rfl) rfl ?_
         refine w_pure (want_yes rfl rfl rfl) (y_move (v := .bool _) rfl rfl) rfl ?_
         refine w_split (fun h116 => ?_) (fun h116 => ?_)
         ·
          try simp only [Bool.not_eq_true', Bool.not_eq_false', decide_eq_true_eq, decide_eq_false_iff_not, Int.not_lt, Int.not_le] at h116
          refine w_skipop rfl rfl rfl ?_
          refine w_skipop rfl rfl rfl ?_
          refine w_skipop rfl rfl rfl ?_
          refine w_skipop rfl rfl rfl ?_
          refine w_pure (want_yes rfl rfl rfl) (y_pickT (v := _) rfl rfl rfl rfl) rfl ?_
          refine w_pure want_none (y_pickT (v := .bool _) rfl rfl rfl rfl) rfl ?_
          refine w_nil ?_
          refine q_then (hK110 _ _ ?_)
          refine w_condT rfl rfl ?_
          refine w_region ?_
          refine w_pure want_none (y_assign (v := _) rfl rfl) rfl ?_
          refine w_nil ?_
          refine q_then (hK108 _ _ ?_)
          refine w_seq (fun K118 hK117 => ?_)
          refine w_region ?_
          refine w_pure want_none (y_move (v := .int _ _) rfl rfl) rfl ?_
          refine w_pure want_none (y_neq rfl rfl rfl rfl) rfl ?_
          refine w_nil ?_
          refine q_then (hK117 _ _ ?_)
          refine w_condT rfl rfl ?_
          refine w_seq (fun K120 hK119 => ?_)
          refine w_region ?_
          refine w_pure want_none (y_move (v := .int _ _) rfl rfl) rfl ?_
          refine w_pure want_none (y_move (v := .int _ _) rfl rfl) rfl ?_
          refine w_pure want_none (y_assign (v := _) rfl rfl) rfl ?_
          refine w_pure want_none (y_assign (v := .int _ _) rfl rfl) rfl ?_
          refine w_pure want_none (y_assign (v := .int _ _) rfl rfl) rfl ?_
          refine w_nil ?_
          refine q_then (hK119 _ _ ?_)
          refine w_ret ?_
          refine q_blk_ret ?_
          refine q_then_ret ?_
          refine q_then_ret ?_
          refine q_blk_ret ?_
          refine q_then_ret ?_
          refine q_ret (l := [.tmp 2, .tmp 3, .tmp 4]) (vs := [_, _, _]) rfl ⟨⟨rfl, show _ = (.int _ _ : Value) from rfl⟩, ⟨rfl, show _ = (.int _ _ : Value) from rfl⟩, ⟨rfl, show _ = (.int _ _ : Value) from rfl⟩, trivial⟩ ?_
          first
            | contradiction
            | exact ⟨tup3 (chk_r (fail_most (by omega)) (by decide)), hs115.tail.tail.tail.drop⟩
            | exact ⟨tup3 (chk_s hE1 (fail_most (by omega)) (by decide)), hs115.tail.tail.tail.drop⟩
            | exact ⟨tup3 (chk_t hE1 hE2 (fail_most (by omega)) (by decide)), hs115.tail.tail.tail.drop⟩
            | exact ⟨tup3 (chk_r (by rw [fail_go (by omega), hinv, firstE_stop hi2 (by rw [roomE_n (by assumption)]; assumption), roomE_n (by assumption)]) (by assumption)), hs115.tail.tail.tail.drop⟩
            | exact ⟨tup3 (chk_r (by rw [fail_go (by omega), hinv, firstE_stop hi2 (by rw [roomE_0 (by assumption)]; assumption), roomE_0 (by assumption)]) (by assumption)), hs115.tail.tail.tail.drop⟩
            | exact ⟨tup3 (chk_s hE1 (by rw [fail_go (by omega), hinv, firstE_stop hi2 (by rw [shopE_n (by assumption)]; assumption), shopE_n (by assumption)]) (by assumption)), hs115.tail.tail.tail.drop⟩
            | exact ⟨tup3 (chk_s hE1 (by rw [fail_go (by omega), hinv, firstE_stop hi2 (by rw [shopE_0 (by assumption), shop_7 (by omega)]; decide), shopE_0 (by assumption), shop_7 (by omega)]) (by decide)), hs115.tail.tail.tail.drop⟩
            | exact ⟨tup3 (chk_t hE1 hE2 (by rw [fail_go (by omega), hinv, firstE_stop hi2 (by rw [train_4 (by omega)]; decide), train_4 (by omega)]) (by decide)), hs115.tail.tail.tail.drop⟩
            | exact ⟨tup3 (chk_t hE1 hE2 (by rw [fail_go (by omega), hinv, firstE_stop hi2 (by rw [train_7 (by omega) (by omega) (by omega)]; decide), train_7 (by omega) (by omega) (by omega)]) (by decide)), hs115.tail.tail.tail.drop⟩
            | exact ⟨tup3 (chk_0 hE1 hE2 (by rw [fail_go (by omega), hinv, firstE_end (by omega)])), hs115.tail.tail.tail.drop⟩
         ·
          try simp only [Bool.not_eq_true', Bool.not_eq_false', decide_eq_true_eq, decide_eq_false_iff_not, Int.not_lt, Int.not_le] at h116
          refine w_pure (want_yes rfl rfl rfl) (y_fieldAddr (o := 2) (i := 2) Try.underlying52 rfl Try.sizeOf3 rfl rfl rfl) rfl ?_
          refine w_pure (want_yes rfl rfl rfl) (y_load1 Try.isAgg3 hs115 rfl rfl (ats_own (i := 1) (vs := [_]) rfl rfl)) rfl ?_
          refine w_call (want_yes rfl rfl rfl) Try.call51 rfl rfl rfl rfl (c51 _ _ _ hs115) ?_
          rintro _ w122 ⟨rfl, hs123⟩
          refine w_pure (want_yes rfl rfl rfl) (y_not rfl rfl) rfl ?_
          refine w_pure (want_yes rfl rfl rfl) (y_pickF (v := .bool _) rfl rfl rfl rfl) rfl ?_
          refine w_pure want_none (y_pickT (v := .bool _) rfl rfl rfl rfl) rfl ?_
          refine w_nil ?_
          refine q_then (hK110 _ _ ?_)
          refine w_cond rfl rfl (fun h124 => ?_) (fun h124 => ?_)
          ·
           try simp only [Bool.not_eq_true', Bool.not_eq_false', decide_eq_true_eq, decide_eq_false_iff_not, Int.not_lt, Int.not_le] at h124
           refine w_region ?_
           refine w_pure want_none (y_assign (v := _) rfl rfl) rfl ?_
           refine w_nil ?_
           refine q_then (hK108 _ _ ?_)
           refine w_seq (fun K126 hK125 => ?_)
           refine w_region ?_
           refine w_pure want_none (y_move (v := .int _ _) rfl rfl) rfl ?_
           refine w_pure want_none (y_neq rfl rfl rfl rfl) rfl ?_
           refine w_nil ?_
           refine q_then (hK125 _ _ ?_)
           refine w_condT rfl rfl ?_
           refine w_seq (fun K128 hK127 => ?_)
           refine w_region ?_
           refine w_pure want_none (y_move (v := .int _ _) rfl rfl) rfl ?_
           refine w_pure want_none (y_move (v := .int _ _) rfl rfl) rfl ?_
           refine w_pure want_none (y_assign (v := _) rfl rfl) rfl ?_
           refine w_pure want_none (y_assign (v := .int _ _) rfl rfl) rfl ?_
           refine w_pure want_none (y_assign (v := .int _ _) rfl rfl) rfl ?_
           refine w_nil ?_
           refine q_then (hK127 _ _ ?_)
           refine w_ret ?_
           refine q_blk_ret ?_
           refine q_then_ret ?_
           refine q_then_ret ?_
           refine q_blk_ret ?_
           refine q_then_ret ?_
           refine q_ret (l := [.tmp 2, .tmp 3, .tmp 4]) (vs := [_, _, _]) rfl ⟨⟨rfl, show _ = (.int _ _ : Value) from rfl⟩, ⟨rfl, show _ = (.int _ _ : Value) from rfl⟩, ⟨rfl, show _ = (.int _ _ : Value) from rfl⟩, trivial⟩ ?_
           first
             | contradiction
             | exact ⟨tup3 (chk_r (fail_most (by omega)) (by decide)), hs123.tail.tail.tail.drop⟩
             | exact ⟨tup3 (chk_s hE1 (fail_most (by omega)) (by decide)), hs123.tail.tail.tail.drop⟩
             | exact ⟨tup3 (chk_t hE1 hE2 (fail_most (by omega)) (by decide)), hs123.tail.tail.tail.drop⟩
             | exact ⟨tup3 (chk_r (by rw [fail_go (by omega), hinv, firstE_stop hi2 (by rw [roomE_n (by assumption)]; assumption), roomE_n (by assumption)]) (by assumption)), hs123.tail.tail.tail.drop⟩
             | exact ⟨tup3 (chk_r (by rw [fail_go (by omega), hinv, firstE_stop hi2 (by rw [roomE_0 (by assumption)]; assumption), roomE_0 (by assumption)]) (by assumption)), hs123.tail.tail.tail.drop⟩
             | exact ⟨tup3 (chk_s hE1 (by rw [fail_go (by omega), hinv, firstE_stop hi2 (by rw [shopE_n (by assumption)]; assumption), shopE_n (by assumption)]) (by assumption)), hs123.tail.tail.tail.drop⟩
             | exact ⟨tup3 (chk_s hE1 (by rw [fail_go (by omega), hinv, firstE_stop hi2 (by rw [shopE_0 (by assumption), shop_7 (by omega)]; decide), shopE_0 (by assumption), shop_7 (by omega)]) (by decide)), hs123.tail.tail.tail.drop⟩
             | exact ⟨tup3 (chk_t hE1 hE2 (by rw [fail_go (by omega), hinv, firstE_stop hi2 (by rw [train_4 (by omega)]; decide), train_4 (by omega)]) (by decide)), hs123.tail.tail.tail.drop⟩
             | exact ⟨tup3 (chk_t hE1 hE2 (by rw [fail_go (by omega), hinv, firstE_stop hi2 (by rw [train_7 (by omega) (by omega) (by omega)]; decide), train_7 (by omega) (by omega) (by omega)]) (by decide)), hs123.tail.tail.tail.drop⟩
             | exact ⟨tup3 (chk_0 hE1 hE2 (by rw [fail_go (by omega), hinv, firstE_end (by omega)])), hs123.tail.tail.tail.drop⟩
          ·
           try simp only [Bool.not_eq_true', Bool.not_eq_false', decide_eq_true_eq, decide_eq_false_iff_not, Int.not_lt, Int.not_le] at h124
           refine w_skip ?_
           refine q_then (hK108 _ _ ?_)
           refine w_seq (fun K130 hK129 => ?_)
           refine w_region ?_
           refine w_pure want_none (y_move (v := .int _ _) rfl rfl) rfl ?_
           refine w_pure want_none (y_neq rfl rfl rfl rfl) rfl ?_
           refine w_nil ?_
           refine q_then (hK129 _ _ ?_)
           refine w_cond rfl rfl (fun h131 => ?_) (fun h131 => ?_)
           ·
            try simp only [Bool.not_eq_true', Bool.not_eq_false', decide_eq_true_eq, decide_eq_false_iff_not, Int.not_lt, Int.not_le] at h131
            refine w_seq (fun K133 hK132 => ?_)
            refine w_region ?_
            refine w_pure want_none (y_move (v := .int _ _) rfl rfl) rfl ?_
            refine w_pure want_none (y_move (v := .int _ _) rfl rfl) rfl ?_
            refine w_pure want_none (y_assign (v := _) rfl rfl) rfl ?_
            refine w_pure want_none (y_assign (v := .int _ _) rfl rfl) rfl ?_
            refine w_pure want_none (y_assign (v := .int _ _) rfl rfl) rfl ?_
            refine w_nil ?_
            refine q_then (hK132 _ _ ?_)
            refine w_ret ?_
            refine q_blk_ret ?_
            refine q_then_ret ?_
            refine q_then_ret ?_
            refine q_blk_ret ?_
            refine q_then_ret ?_
            refine q_ret (l := [.tmp 2, .tmp 3, .tmp 4]) (vs := [_, _, _]) rfl ⟨⟨rfl, show _ = (.int _ _ : Value) from rfl⟩, ⟨rfl, show _ = (.int _ _ : Value) from rfl⟩, ⟨rfl, show _ = (.int _ _ : Value) from rfl⟩, trivial⟩ ?_
            first
              | contradiction
              | exact ⟨tup3 (chk_r (fail_most (by omega)) (by decide)), hs123.tail.tail.tail.drop⟩
              | exact ⟨tup3 (chk_s hE1 (fail_most (by omega)) (by decide)), hs123.tail.tail.tail.drop⟩
              | exact ⟨tup3 (chk_t hE1 hE2 (fail_most (by omega)) (by decide)), hs123.tail.tail.tail.drop⟩
              | exact ⟨tup3 (chk_r (by rw [fail_go (by omega), hinv, firstE_stop hi2 (by rw [roomE_n (by assumption)]; assumption), roomE_n (by assumption)]) (by assumption)), hs123.tail.tail.tail.drop⟩
              | exact ⟨tup3 (chk_r (by rw [fail_go (by omega), hinv, firstE_stop hi2 (by rw [roomE_0 (by assumption)]; assumption), roomE_0 (by assumption)]) (by assumption)), hs123.tail.tail.tail.drop⟩
              | exact ⟨tup3 (chk_s hE1 (by rw [fail_go (by omega), hinv, firstE_stop hi2 (by rw [shopE_n (by assumption)]; assumption), shopE_n (by assumption)]) (by assumption)), hs123.tail.tail.tail.drop⟩
              | exact ⟨tup3 (chk_s hE1 (by rw [fail_go (by omega), hinv, firstE_stop hi2 (by rw [shopE_0 (by assumption), shop_7 (by omega)]; decide), shopE_0 (by assumption), shop_7 (by omega)]) (by decide)), hs123.tail.tail.tail.drop⟩
              | exact ⟨tup3 (chk_t hE1 hE2 (by rw [fail_go (by omega), hinv, firstE_stop hi2 (by rw [train_4 (by omega)]; decide), train_4 (by omega)]) (by decide)), hs123.tail.tail.tail.drop⟩
              | exact ⟨tup3 (chk_t hE1 hE2 (by rw [fail_go (by omega), hinv, firstE_stop hi2 (by rw [train_7 (by omega) (by omega) (by omega)]; decide), train_7 (by omega) (by omega) (by omega)]) (by decide)), hs123.tail.tail.tail.drop⟩
              | exact ⟨tup3 (chk_0 hE1 hE2 (by rw [fail_go (by omega), hinv, firstE_end (by omega)])), hs123.tail.tail.tail.drop⟩
           ·
            try simp only [Bool.not_eq_true', Bool.not_eq_false', decide_eq_true_eq, decide_eq_false_iff_not, Int.not_lt, Int.not_le] at h131
            refine w_skip ?_
            refine q_blk_normal ?_
            refine q_then (hK84 _ _ ?_)
            refine w_region ?_
            refine w_pure want_none (y_move (v := .int _ _) rfl rfl) rfl ?_
            refine w_pure want_none (y_add rfl rfl rfl rfl (by omega) (by omega)) rfl ?_
            refine w_pure want_none (y_assign (v := .int _ _) rfl rfl) rfl ?_
            refine w_nil ?_
            refine q_then (hN76 _ _ (Nx.intro (m.shops.length - (i + 1)) (by omega) (by repeat (first | exact agree_mix | refine agree_upd rfl ?_ | refine agree_updL rfl ?_ _ | refine agree_mixin rfl ?_)) ?_))
            first
              | contradiction
              | exact ⟨i + 1, _, _, rfl, by omega, rfl, hinv.trans (firstE_step hi2 (by rw [shopE_0 (by assumption)]; exact shop_0 (by omega) (by omega))), by rw [← rnames_snoc hi2]; exact ho106, hs123.tail.tail⟩
        ·
         try simp only [Bool.not_eq_true', Bool.not_eq_false', decide_eq_true_eq, decide_eq_false_iff_not, Int.not_lt, Int.not_le] at h112
         refine w_skipop rfl rfl rfl ?_
         refine w_skipop rfl rfl rfl ?_
         refine w_skipop rfl rfl rfl ?_
         refine w_skipop rfl rfl rfl ?_
         refine w_skipop rfl rfl rfl ?_
         refine w_skipop' rfl rfl rfl ?_
         refine w_skipop' rfl rfl rfl ?_
         refine w_skipop' rfl rfl rfl ?_
         refine w_skipop' rfl rfl rfl ?_
         refine w_skipop rfl rfl rfl ?_
         refine w_pure want_none (y_pickF (v := _) rfl rfl rfl rfl) rfl ?_
         refine w_nil ?_
         refine q_then (hK110 _ _ ?_)
         refine w_condF rfl rfl ?_
         refine w_skip ?_
         refine q_then (hK108 _ _ ?_)
         refine w_seq (fun K135 hK134 => ?_)
         refine w_region ?_
         refine w_pure want_none (y_move (v := .int _ _) rfl rfl) rfl ?_
         refine w_pure want_none (y_neq rfl rfl rfl rfl) rfl ?_
         refine w_nil ?_
         refine q_then (hK134 _ _ ?_)
         refine w_cond rfl rfl (fun h136 => ?_) (fun h136 => ?_)
         ·
          try simp only [Bool.not_eq_true', Bool.not_eq_false', decide_eq_true_eq, decide_eq_false_iff_not, Int.not_lt, Int.not_le] at h136
          refine w_seq (fun K138 hK137 => ?_)
          refine w_region ?_
          refine w_pure want_none (y_move (v := .int _ _) rfl rfl) rfl ?_
          refine w_pure want_none (y_move (v := .int _ _) rfl rfl) rfl ?_
          refine w_pure want_none (y_assign (v := _) rfl rfl) rfl ?_
          refine w_pure want_none (y_assign (v := .int _ _) rfl rfl) rfl ?_
          refine w_pure want_none (y_assign (v := .int _ _) rfl rfl) rfl ?_
          refine w_nil ?_
          refine q_then (hK137 _ _ ?_)
          refine w_ret ?_
          refine q_blk_ret ?_
          refine q_then_ret ?_
          refine q_then_ret ?_
          refine q_blk_ret ?_
          refine q_then_ret ?_
          refine q_ret (l := [.tmp 2, .tmp 3, .tmp 4]) (vs := [_, _, _]) rfl ⟨⟨rfl, show _ = (.int _ _ : Value) from rfl⟩, ⟨rfl, show _ = (.int _ _ : Value) from rfl⟩, ⟨rfl, show _ = (.int _ _ : Value) from rfl⟩, trivial⟩ ?_
          first
            | contradiction
            | exact ⟨tup3 (chk_r (fail_most (by omega)) (by decide)), hs107.tail.tail.tail.drop⟩
            | exact ⟨tup3 (chk_s hE1 (fail_most (by omega)) (by decide)), hs107.tail.tail.tail.drop⟩
            | exact ⟨tup3 (chk_t hE1 hE2 (fail_most (by omega)) (by decide)), hs107.tail.tail.tail.drop⟩
            | exact ⟨tup3 (chk_r (by rw [fail_go (by omega), hinv, firstE_stop hi2 (by rw [roomE_n (by assumption)]; assumption), roomE_n (by assumption)]) (by assumption)), hs107.tail.tail.tail.drop⟩
            | exact ⟨tup3 (chk_r (by rw [fail_go (by omega), hinv, firstE_stop hi2 (by rw [roomE_0 (by assumption)]; assumption), roomE_0 (by assumption)]) (by assumption)), hs107.tail.tail.tail.drop⟩
            | exact ⟨tup3 (chk_s hE1 (by rw [fail_go (by omega), hinv, firstE_stop hi2 (by rw [shopE_n (by assumption)]; assumption), shopE_n (by assumption)]) (by assumption)), hs107.tail.tail.tail.drop⟩
            | exact ⟨tup3 (chk_s hE1 (by rw [fail_go (by omega), hinv, firstE_stop hi2 (by rw [shopE_0 (by assumption), shop_7 (by omega)]; decide), shopE_0 (by assumption), shop_7 (by omega)]) (by decide)), hs107.tail.tail.tail.drop⟩
            | exact ⟨tup3 (chk_t hE1 hE2 (by rw [fail_go (by omega), hinv, firstE_stop hi2 (by rw [train_4 (by omega)]; decide), train_4 (by omega)]) (by decide)), hs107.tail.tail.tail.drop⟩
            | exact ⟨tup3 (chk_t hE1 hE2 (by rw [fail_go (by omega), hinv, firstE_stop hi2 (by rw [train_7 (by omega) (by omega) (by omega)]; decide), train_7 (by omega) (by omega) (by omega)]) (by decide)), hs107.tail.tail.tail.drop⟩
            | exact ⟨tup3 (chk_0 hE1 hE2 (by rw [fail_go (by omega), hinv, firstE_end (by omega)])), hs107.tail.tail.tail.drop⟩
         ·
          try simp only [Bool.not_eq_true', Bool.not_eq_false', decide_eq_true_eq, decide_eq_false_iff_not, Int.not_lt, Int.not_le] at h136
          refine w_skip ?_
          refine q_blk_normal ?_
          refine q_then (hK84 _ _ ?_)
          refine w_region ?_
          refine w_pure want_none (y_move (v := .int _ _) rfl rfl) rfl ?_
          refine w_pure want_none (y_add rfl rfl rfl rfl (by omega) (by omega)) rfl ?_
          refine w_pure want_none (y_assign (v := .int _ _) rfl rfl) rfl ?_
          refine w_nil ?_
          refine q_then (hN76 _ _ (Nx.intro (m.shops.length - (i + 1)) (by omega) (by repeat (first | exact agree_mix | refine agree_upd rfl ?_ | refine agree_updL rfl ?_ _ | refine agree_mixin rfl ?_)) ?_))
          first
            | contradiction
            | exact ⟨i + 1, _, _, rfl, by omega, rfl, hinv.trans (firstE_step hi2 (by rw [shopE_0 (by assumption)]; exact shop_0 (by omega) (by omega))), by rw [← rnames_snoc hi2]; exact ho106, hs107.tail.tail⟩
       ·
        try simp only [Bool.not_eq_true', Bool.not_eq_false', decide_eq_true_eq, decide_eq_false_iff_not, Int.not_lt, Int.not_le] at h83
        refine w_exit ?_
        refine q_then_exit ?_
        refine q_then_exit ?_
        refine q_blk_this ?_
        refine q_then (hK72 _ _ ?_)
        refine w_seq (fun K140 hK139 => ?_)
        refine w_seq (fun K142 hK141 => ?_)
        have hE2 : (failE shopE 4 m.shops).2 = 0 := by rw [fail_go (by omega), hinv, firstE_end (by omega)]
        have hs143 := keep_front (Y := B) (show St _ _ (_ :: (B ++ F)) from hs)
        refine w_region ?_
        refine w_pure want_none (y_fieldAddr (o := 2) (i := 2) Try.underlying26 rfl Try.sizeOf24 rfl rfl rfl) rfl ?_
        refine w_pure want_none (y_load1 Try.isAgg24 hs143 rfl rfl (ats_own (i := 0) (vs := [_]) rfl rfl)) rfl ?_
        refine w_pure want_none (y_lenS Try.underlying24 rfl rfl) rfl ?_
        refine w_pure want_none (y_gtr rfl rfl rfl rfl) rfl ?_
        refine w_nil ?_
        refine q_then (hK141 _ _ ?_)
        refine w_cond rfl rfl (fun h144 => ?_) (fun h144 => ?_)
        ·
         try simp only [Bool.not_eq_true', Bool.not_eq_false', decide_eq_true_eq, decide_eq_false_iff_not, Int.not_lt, Int.not_le] at h144
         refine w_seq (fun K146 hK145 => ?_)
         refine w_region ?_
         refine w_pure want_none (y_assign (v := _) rfl rfl) rfl ?_
         refine w_pure want_none (y_assign (v := _) rfl rfl) rfl ?_
         refine w_pure want_none (y_assign (v := _) rfl rfl) rfl ?_
         refine w_nil ?_
         refine q_then (hK145 _ _ ?_)
         refine w_ret ?_
         refine q_then_ret ?_
         refine q_ret (l := [.tmp 2, .tmp 3, .tmp 4]) (vs := [_, _, _]) rfl ⟨⟨rfl, show _ = (.int _ _ : Value) from rfl⟩, ⟨rfl, show _ = (.int _ _ : Value) from rfl⟩, ⟨rfl, show _ = (.int _ _ : Value) from rfl⟩, trivial⟩ ?_
         first
           | contradiction
           | exact ⟨tup3 (chk_r (fail_most (by omega)) (by decide)), hs143.tail⟩
           | exact ⟨tup3 (chk_s hE1 (fail_most (by omega)) (by decide)), hs143.tail⟩
           | exact ⟨tup3 (chk_t hE1 hE2 (fail_most (by omega)) (by decide)), hs143.tail⟩
           | exact ⟨tup3 (chk_r (by rw [fail_go (by omega), hinv, firstE_stop hi2 (by rw [roomE_n (by assumption)]; assumption), roomE_n (by assumption)]) (by assumption)), hs143.tail⟩
           | exact ⟨tup3 (chk_r (by rw [fail_go (by omega), hinv, firstE_stop hi2 (by rw [roomE_0 (by assumption)]; assumption), roomE_0 (by assumption)]) (by assumption)), hs143.tail⟩
           | exact ⟨tup3 (chk_s hE1 (by rw [fail_go (by omega), hinv, firstE_stop hi2 (by rw [shopE_n (by assumption)]; assumption), shopE_n (by assumption)]) (by assumption)), hs143.tail⟩
           | exact ⟨tup3 (chk_s hE1 (by rw [fail_go (by omega), hinv, firstE_stop hi2 (by rw [shopE_0 (by assumption), shop_7 (by omega)]; decide), shopE_0 (by assumption), shop_7 (by omega)]) (by decide)), hs143.tail⟩
           | exact ⟨tup3 (chk_t hE1 hE2 (by rw [fail_go (by omega), hinv, firstE_stop hi2 (by rw [train_4 (by omega)]; decide), train_4 (by omega)]) (by decide)), hs143.tail⟩
           | exact ⟨tup3 (chk_t hE1 hE2 (by rw [fail_go (by omega), hinv, firstE_stop hi2 (by rw [train_7 (by omega) (by omega) (by omega)]; decide), train_7 (by omega) (by omega) (by omega)]) (by decide)), hs143.tail⟩
           | exact ⟨tup3 (chk_0 hE1 hE2 (by rw [fail_go (by omega), hinv, firstE_end (by omega)])), hs143.tail⟩
        ·
         try simp only [Bool.not_eq_true', Bool.not_eq_false', decide_eq_true_eq, decide_eq_false_iff_not, Int.not_lt, Int.not_le] at h144
         refine w_skip ?_
         refine q_then (hK139 _ _ ?_)
         refine w_seq (fun K148 hK147 => ?_)
         refine w_seq (fun K150 hK149 => ?_)
         refine w_region ?_
         refine w_pure want_none (y_assign (v := _) rfl rfl) rfl ?_
         refine w_nil ?_
         refine q_then (hK149 _ _ ?_)
         refine w_block ?_
         refine w_loop [2, 3, 4, 11, 12, 100, 101, 102, 103, 104, 105, 106, 107, 108, 109, 110, 111, 112, 113, 114, 115, 116, 117, 118, 119, 120, 121, 122, 123, 124, 125, 126, 127, 128, 129, 130, 131, 132, 133, 134, 135, 136, 137, 138, 139, 140, 141] [11] (fun k vs w => ∃ i : Nat, vs = [.int .i64 i] ∧ i ≤ m.trains.length ∧ k = m.trains.length - i ∧ firstE (trainE m) [] 0 m.trains = firstE (trainE m) (m.trains.take i) (i : Nat) (m.trains.drop i) ∧ St w0 w ((b3, blk 26 (m.cells ⟨ar, cr, as_, cs, at_, ct⟩)) :: F)) (m.trains.length) ?_ ?_
         ·
          exact ⟨0, rfl, by omega, by omega, by simp, hs143⟩
         ·
          intro k vs μ w153 hI K152 hN151
          obtain ⟨i, rfl, hia, rfl, hinv, hs⟩ := hI
          refine w_seq (fun K155 hK154 => ?_)
          refine w_seq (fun K157 hK156 => ?_)
          refine w_region ?_
          refine w_pure want_none (y_move (v := .int _ _) rfl rfl) rfl ?_
          refine w_pure want_none (y_fieldAddr (o := 2) (i := 2) Try.underlying26 rfl Try.sizeOf24 rfl rfl rfl) rfl ?_
          refine w_pure want_none (y_load1 Try.isAgg24 hs rfl rfl (ats_own (i := 0) (vs := [_]) rfl rfl)) rfl ?_
          refine w_pure want_none (y_lenS Try.underlying24 rfl rfl) rfl ?_
          refine w_pure want_none (y_lss rfl rfl rfl rfl) rfl ?_
          refine w_nil ?_
          refine q_then (hK156 _ _ ?_)
          refine w_cond rfl rfl (fun h158 => ?_) (fun h158 => ?_)
          ·
           try simp only [Bool.not_eq_true', Bool.not_eq_false', decide_eq_true_eq, decide_eq_false_iff_not, Int.not_lt, Int.not_le] at h158
           refine w_skip ?_
           refine q_then (hK154 _ _ ?_)
           refine w_seq (fun K160 hK159 => ?_)
           refine w_block ?_
           refine w_seq (fun K162 hK161 => ?_)
           have hi2 : i < m.trains.length := by omega
           obtain ⟨t1, ot1, hbt1, hxt1⟩ := sl_trows hm.t hi2
           subst hbt1
           refine w_region ?_
           refine w_pure want_none (y_fieldAddr (o := 2) (i := 2) Try.underlying26 rfl Try.sizeOf24 rfl rfl rfl) rfl ?_
           refine w_pure want_none (y_load1 Try.isAgg24 hs rfl rfl (ats_own (i := 0) (vs := [_]) rfl rfl)) rfl ?_
           refine w_pure want_none (y_move (v := .int _ _) rfl rfl) rfl ?_
           refine w_pure want_none (y_indexS Try.underlying24 Try.sizeOf63 rfl rfl rfl rfl (i := _) rfl (by omega)) rfl ?_
           refine w_pure want_none (y_loadN (vs := [_, _, _, _]) Try.isAgg63 Try.sizeOf63 hs.tail rfl rfl hxt1) rfl ?_
           refine w_alloc (cs := [_, _, _, _]) want_none Try.zeroValue63 rfl hs (fun b163 w164 hs165 => ?_)
           refine w_store (i := 0) (v := .agg #[.int _ _, .int _ _, .int _ _, .int _ _]) (vs := [_, _, _, _]) want_none Try.sizeOf63 rfl rfl rfl rfl rfl (by simp [Value.oneCell']) hs165 rfl (Nat.le_of_ble_eq_true rfl) (fun w166 hs167 => ?_)
           refine w_nil ?_
           refine q_then (hK161 _ _ ?_)
           refine w_seq (fun K169 hK168 => ?_)
           refine w_seq (fun K171 hK170 => ?_)
           refine w_region ?_
           refine w_pure want_none (y_fieldAddr (o := 0) (i := 0) Try.underlying63 rfl Try.sizeOf3 rfl rfl rfl) rfl ?_
           refine w_pure want_none (y_load1 Try.isAgg3 hs167 rfl rfl (ats_own (i := 0) (vs := [_]) rfl rfl)) rfl ?_
           refine w_pure want_none (y_fieldAddr (o := 0) (i := 0) Try.underlying26 rfl Try.sizeOf22 rfl rfl rfl) rfl ?_
           refine w_pure want_none (y_load1 Try.isAgg22 hs167 rfl rfl (ats_own (i := 1) (vs := [_]) rfl rfl)) rfl ?_
           refine w_pure want_none (y_lenS Try.underlying22 rfl rfl) rfl ?_
           refine w_pure want_none (y_sub rfl rfl rfl rfl (by omega) (by omega)) rfl ?_
           refine w_call want_none Try.call51 rfl rfl rfl rfl (c51 _ _ _ hs167) ?_
           rintro _ w173 ⟨rfl, hs174⟩
           refine w_pure want_none (y_not rfl rfl) rfl ?_
           refine w_pure want_none (y_move (v := .bool _) rfl rfl) rfl ?_
           refine w_split (fun h175 => ?_) (fun h175 => ?_)
           ·
            try simp only [Bool.not_eq_true', Bool.not_eq_false', decide_eq_true_eq, decide_eq_false_iff_not, Int.not_lt, Int.not_le] at h175
            refine w_skipop rfl rfl rfl ?_
            refine w_skipop rfl rfl rfl ?_
            refine w_skipop rfl rfl rfl ?_
            refine w_skipop rfl rfl rfl ?_
            refine w_skipop rfl rfl rfl ?_
            refine w_skipop rfl rfl rfl ?_
            refine w_skipop rfl rfl rfl ?_
            refine w_skipop rfl rfl rfl ?_
            refine w_pure want_none (y_pickT (v := _) rfl rfl rfl rfl) rfl ?_
            refine w_nil ?_
            refine q_then (hK170 _ _ ?_)
            refine w_condT rfl rfl ?_
            refine w_seq (fun K177 hK176 => ?_)
            refine w_region ?_
            refine w_pure want_none (y_move (v := .int _ _) rfl rfl) rfl ?_
            refine w_pure want_none (y_assign (v := _) rfl rfl) rfl ?_
            refine w_pure want_none (y_assign (v := .int _ _) rfl rfl) rfl ?_
            refine w_pure want_none (y_assign (v := _) rfl rfl) rfl ?_
            refine w_nil ?_
            refine q_then (hK176 _ _ ?_)
            refine w_ret ?_
            refine q_then_ret ?_
            refine q_blk_ret ?_
            refine q_then_ret ?_
            refine q_then_ret ?_
            refine q_blk_ret ?_
            refine q_then_ret ?_
            refine q_ret (l := [.tmp 2, .tmp 3, .tmp 4]) (vs := [_, _, _]) rfl ⟨⟨rfl, show _ = (.int _ _ : Value) from rfl⟩, ⟨rfl, show _ = (.int _ _ : Value) from rfl⟩, ⟨rfl, show _ = (.int _ _ : Value) from rfl⟩, trivial⟩ ?_
            first
              | contradiction
              | exact ⟨tup3 (chk_r (fail_most (by omega)) (by decide)), hs174.tail.tail⟩
              | exact ⟨tup3 (chk_s hE1 (fail_most (by omega)) (by decide)), hs174.tail.tail⟩
              | exact ⟨tup3 (chk_t hE1 hE2 (fail_most (by omega)) (by decide)), hs174.tail.tail⟩
              | exact ⟨tup3 (chk_r (by rw [fail_go (by omega), hinv, firstE_stop hi2 (by rw [roomE_n (by assumption)]; assumption), roomE_n (by assumption)]) (by assumption)), hs174.tail.tail⟩
              | exact ⟨tup3 (chk_r (by rw [fail_go (by omega), hinv, firstE_stop hi2 (by rw [roomE_0 (by assumption)]; assumption), roomE_0 (by assumption)]) (by assumption)), hs174.tail.tail⟩
              | exact ⟨tup3 (chk_s hE1 (by rw [fail_go (by omega), hinv, firstE_stop hi2 (by rw [shopE_n (by assumption)]; assumption), shopE_n (by assumption)]) (by assumption)), hs174.tail.tail⟩
              | exact ⟨tup3 (chk_s hE1 (by rw [fail_go (by omega), hinv, firstE_stop hi2 (by rw [shopE_0 (by assumption), shop_7 (by omega)]; decide), shopE_0 (by assumption), shop_7 (by omega)]) (by decide)), hs174.tail.tail⟩
              | exact ⟨tup3 (chk_t hE1 hE2 (by rw [fail_go (by omega), hinv, firstE_stop hi2 (by rw [train_4 (by omega)]; decide), train_4 (by omega)]) (by decide)), hs174.tail.tail⟩
              | exact ⟨tup3 (chk_t hE1 hE2 (by rw [fail_go (by omega), hinv, firstE_stop hi2 (by rw [train_7 (by omega) (by omega) (by omega)]; decide), train_7 (by omega) (by omega) (by omega)]) (by decide)), hs174.tail.tail⟩
              | exact ⟨tup3 (chk_0 hE1 hE2 (by rw [fail_go (by omega), hinv, firstE_end (by omega)])), hs174.tail.tail⟩
           ·
            try simp only [Bool.not_eq_true', Bool.not_eq_false', decide_eq_true_eq, decide_eq_false_iff_not, Int.not_lt, Int.not_le] at h175
            refine w_pure (want_yes rfl rfl rfl) (y_fieldAddr (o := 1) (i := 1) Try.underlying63 rfl Try.sizeOf3 rfl rfl rfl) rfl ?_
            refine w_pure (want_yes rfl rfl rfl) (y_load1 Try.isAgg3 hs174 rfl rfl (ats_own (i := 0) (vs := [_]) rfl rfl)) rfl ?_
            refine w_pure (want_yes rfl rfl rfl) (y_fieldAddr (o := 1) (i := 1) Try.underlying26 rfl Try.sizeOf23 rfl rfl rfl) rfl ?_
            refine w_pure (want_yes rfl rfl rfl) (y_load1 Try.isAgg23 hs174 rfl rfl (ats_own (i := 1) (vs := [_]) rfl rfl)) rfl ?_
            refine w_pure (want_yes rfl rfl rfl) (y_lenS Try.underlying23 rfl rfl) rfl ?_
            refine w_pure (want_yes rfl rfl rfl) (y_sub rfl rfl rfl rfl (by omega) (by omega)) rfl ?_
            refine w_call (want_yes rfl rfl rfl) Try.call51 rfl rfl rfl rfl (c51 _ _ _ hs174) ?_
            rintro _ w179 ⟨rfl, hs180⟩
            refine w_pure (want_yes rfl rfl rfl) (y_not rfl rfl) rfl ?_
            refine w_pure want_none (y_pickF (v := .bool _) rfl rfl rfl rfl) rfl ?_
            refine w_nil ?_
            refine q_then (hK170 _ _ ?_)
            refine w_cond rfl rfl (fun h181 => ?_) (fun h181 => ?_)
            ·
             try simp only [Bool.not_eq_true', Bool.not_eq_false', decide_eq_true_eq, decide_eq_false_iff_not, Int.not_lt, Int.not_le] at h181
             refine w_seq (fun K183 hK182 => ?_)
             refine w_region ?_
             refine w_pure want_none (y_move (v := .int _ _) rfl rfl) rfl ?_
             refine w_pure want_none (y_assign (v := _) rfl rfl) rfl ?_
             refine w_pure want_none (y_assign (v := .int _ _) rfl rfl) rfl ?_
             refine w_pure want_none (y_assign (v := _) rfl rfl) rfl ?_
             refine w_nil ?_
             refine q_then (hK182 _ _ ?_)
             refine w_ret ?_
             refine q_then_ret ?_
             refine q_blk_ret ?_
             refine q_then_ret ?_
             refine q_then_ret ?_
             refine q_blk_ret ?_
             refine q_then_ret ?_
             refine q_ret (l := [.tmp 2, .tmp 3, .tmp 4]) (vs := [_, _, _]) rfl ⟨⟨rfl, show _ = (.int _ _ : Value) from rfl⟩, ⟨rfl, show _ = (.int _ _ : Value) from rfl⟩, ⟨rfl, show _ = (.int _ _ : Value) from rfl⟩, trivial⟩ ?_
             first
               | contradiction
               | exact ⟨tup3 (chk_r (fail_most (by omega)) (by decide)), hs180.tail.tail⟩
               | exact ⟨tup3 (chk_s hE1 (fail_most (by omega)) (by decide)), hs180.tail.tail⟩
               | exact ⟨tup3 (chk_t hE1 hE2 (fail_most (by omega)) (by decide)), hs180.tail.tail⟩
               | exact ⟨tup3 (chk_r (by rw [fail_go (by omega), hinv, firstE_stop hi2 (by rw [roomE_n (by assumption)]; assumption), roomE_n (by assumption)]) (by assumption)), hs180.tail.tail⟩
               | exact ⟨tup3 (chk_r (by rw [fail_go (by omega), hinv, firstE_stop hi2 (by rw [roomE_0 (by assumption)]; assumption), roomE_0 (by assumption)]) (by assumption)), hs180.tail.tail⟩
               | exact ⟨tup3 (chk_s hE1 (by rw [fail_go (by omega), hinv, firstE_stop hi2 (by rw [shopE_n (by assumption)]; assumption), shopE_n (by assumption)]) (by assumption)), hs180.tail.tail⟩
               | exact ⟨tup3 (chk_s hE1 (by rw [fail_go (by omega), hinv, firstE_stop hi2 (by rw [shopE_0 (by assumption), shop_7 (by omega)]; decide), shopE_0 (by assumption), shop_7 (by omega)]) (by decide)), hs180.tail.tail⟩
               | exact ⟨tup3 (chk_t hE1 hE2 (by rw [fail_go (by omega), hinv, firstE_stop hi2 (by rw [train_4 (by omega)]; decide), train_4 (by omega)]) (by decide)), hs180.tail.tail⟩
               | exact ⟨tup3 (chk_t hE1 hE2 (by rw [fail_go (by omega), hinv, firstE_stop hi2 (by rw [train_7 (by omega) (by omega) (by omega)]; decide), train_7 (by omega) (by omega) (by omega)]) (by decide)), hs180.tail.tail⟩
               | exact ⟨tup3 (chk_0 hE1 hE2 (by rw [fail_go (by omega), hinv, firstE_end (by omega)])), hs180.tail.tail⟩
            ·
             try simp only [Bool.not_eq_true', Bool.not_eq_false', decide_eq_true_eq, decide_eq_false_iff_not, Int.not_lt, Int.not_le] at h181
             refine w_skip ?_
             refine q_then (hK168 _ _ ?_)
             refine w_seq (fun K185 hK184 => ?_)
             refine w_region ?_
             refine w_pure want_none (y_fieldAddr (o := 2) (i := 2) Try.underlying63 rfl Try.sizeOf3 rfl rfl rfl) rfl ?_
             refine w_pure want_none (y_load1 Try.isAgg3 hs180 rfl rfl (ats_own (i := 0) (vs := [_]) rfl rfl)) rfl ?_
             refine w_call want_none Try.call51 rfl rfl rfl rfl (c51 _ _ _ hs180) ?_
             rintro _ w187 ⟨rfl, hs188⟩
             refine w_pure want_none (y_not rfl rfl) rfl ?_
             refine w_pure want_none (y_move (v := .bool _) rfl rfl) rfl ?_
             refine w_split (fun h189 => ?_) (fun h189 => ?_)
             ·
              try simp only [Bool.not_eq_true', Bool.not_eq_false', decide_eq_true_eq, decide_eq_false_iff_not, Int.not_lt, Int.not_le] at h189
              refine w_skipop rfl rfl rfl ?_
              refine w_skipop rfl rfl rfl ?_
              refine w_skipop rfl rfl rfl ?_
              refine w_skipop rfl rfl rfl ?_
              refine w_pure want_none (y_pickT (v := _) rfl rfl rfl rfl) rfl ?_
              refine w_nil ?_
              refine q_then (hK184 _ _ ?_)
              refine w_condT rfl rfl ?_
              refine w_seq (fun K191 hK190 => ?_)
              refine w_region ?_
              refine w_pure want_none (y_move (v := .int _ _) rfl rfl) rfl ?_
              refine w_pure want_none (y_assign (v := _) rfl rfl) rfl ?_
              refine w_pure want_none (y_assign (v := .int _ _) rfl rfl) rfl ?_
              refine w_pure want_none (y_assign (v := _) rfl rfl) rfl ?_
              refine w_nil ?_
              refine q_then (hK190 _ _ ?_)
              refine w_ret ?_
              refine q_blk_ret ?_
              refine q_then_ret ?_
              refine q_then_ret ?_
              refine q_blk_ret ?_
              refine q_then_ret ?_
              refine q_ret (l := [.tmp 2, .tmp 3, .tmp 4]) (vs := [_, _, _]) rfl ⟨⟨rfl, show _ = (.int _ _ : Value) from rfl⟩, ⟨rfl, show _ = (.int _ _ : Value) from rfl⟩, ⟨rfl, show _ = (.int _ _ : Value) from rfl⟩, trivial⟩ ?_
              first
                | contradiction
                | exact ⟨tup3 (chk_r (fail_most (by omega)) (by decide)), hs188.tail.tail⟩
                | exact ⟨tup3 (chk_s hE1 (fail_most (by omega)) (by decide)), hs188.tail.tail⟩
                | exact ⟨tup3 (chk_t hE1 hE2 (fail_most (by omega)) (by decide)), hs188.tail.tail⟩
                | exact ⟨tup3 (chk_r (by rw [fail_go (by omega), hinv, firstE_stop hi2 (by rw [roomE_n (by assumption)]; assumption), roomE_n (by assumption)]) (by assumption)), hs188.tail.tail⟩
                | exact ⟨tup3 (chk_r (by rw [fail_go (by omega), hinv, firstE_stop hi2 (by rw [roomE_0 (by assumption)]; assumption), roomE_0 (by assumption)]) (by assumption)), hs188.tail.tail⟩
                | exact ⟨tup3 (chk_s hE1 (by rw [fail_go (by omega), hinv, firstE_stop hi2 (by rw [shopE_n (by assumption)]; assumption), shopE_n (by assumption)]) (by assumption)), hs188.tail.tail⟩
                | exact ⟨tup3 (chk_s hE1 (by rw [fail_go (by omega), hinv, firstE_stop hi2 (by rw [shopE_0 (by assumption), shop_7 (by omega)]; decide), shopE_0 (by assumption), shop_7 (by omega)]) (by decide)), hs188.tail.tail⟩
                | exact ⟨tup3 (chk_t hE1 hE2 (by rw [fail_go (by omega), hinv, firstE_stop hi2 (by rw [train_4 (by omega)]; decide), train_4 (by omega)]) (by decide)), hs188.tail.tail⟩
                | exact ⟨tup3 (chk_t hE1 hE2 (by rw [fail_go (by omega), hinv, firstE_stop hi2 (by rw [train_7 (by omega) (by omega) (by omega)]; decide), train_7 (by omega) (by omega) (by omega)]) (by decide)), hs188.tail.tail⟩
                | exact ⟨tup3 (chk_0 hE1 hE2 (by rw [fail_go (by omega), hinv, firstE_end (by omega)])), hs188.tail.tail⟩
             ·
              try simp only [Bool.not_eq_true', Bool.not_eq_false', decide_eq_true_eq, decide_eq_false_iff_not, Int.not_lt, Int.not_le] at h189
              refine w_pure (want_yes rfl rfl rfl) (y_fieldAddr (o := 3) (i := 3) Try.underlying63 rfl Try.sizeOf3 rfl rfl rfl) rfl ?_
              refine w_pure (want_yes rfl rfl rfl) (y_load1 Try.isAgg3 hs188 rfl rfl (ats_own (i := 0) (vs := [_]) rfl rfl)) rfl ?_
              refine w_call (want_yes rfl rfl rfl) Try.call51 rfl rfl rfl rfl (c51 _ _ _ hs188) ?_
              rintro _ w193 ⟨rfl, hs194⟩
              refine w_pure (want_yes rfl rfl rfl) (y_not rfl rfl) rfl ?_
              refine w_pure want_none (y_pickF (v := .bool _) rfl rfl rfl rfl) rfl ?_
              refine w_nil ?_
              refine q_then (hK184 _ _ ?_)
              refine w_cond rfl rfl (fun h195 => ?_) (fun h195 => ?_)
              ·
               try simp only [Bool.not_eq_true', Bool.not_eq_false', decide_eq_true_eq, decide_eq_false_iff_not, Int.not_lt, Int.not_le] at h195
               refine w_seq (fun K197 hK196 => ?_)
               refine w_region ?_
               refine w_pure want_none (y_move (v := .int _ _) rfl rfl) rfl ?_
               refine w_pure want_none (y_assign (v := _) rfl rfl) rfl ?_
               refine w_pure want_none (y_assign (v := .int _ _) rfl rfl) rfl ?_
               refine w_pure want_none (y_assign (v := _) rfl rfl) rfl ?_
               refine w_nil ?_
               refine q_then (hK196 _ _ ?_)
               refine w_ret ?_
               refine q_blk_ret ?_
               refine q_then_ret ?_
               refine q_then_ret ?_
               refine q_blk_ret ?_
               refine q_then_ret ?_
               refine q_ret (l := [.tmp 2, .tmp 3, .tmp 4]) (vs := [_, _, _]) rfl ⟨⟨rfl, show _ = (.int _ _ : Value) from rfl⟩, ⟨rfl, show _ = (.int _ _ : Value) from rfl⟩, ⟨rfl, show _ = (.int _ _ : Value) from rfl⟩, trivial⟩ ?_
               first
                 | contradiction
                 | exact ⟨tup3 (chk_r (fail_most (by omega)) (by decide)), hs194.tail.tail⟩
                 | exact ⟨tup3 (chk_s hE1 (fail_most (by omega)) (by decide)), hs194.tail.tail⟩
                 | exact ⟨tup3 (chk_t hE1 hE2 (fail_most (by omega)) (by decide)), hs194.tail.tail⟩
                 | exact ⟨tup3 (chk_r (by rw [fail_go (by omega), hinv, firstE_stop hi2 (by rw [roomE_n (by assumption)]; assumption), roomE_n (by assumption)]) (by assumption)), hs194.tail.tail⟩
                 | exact ⟨tup3 (chk_r (by rw [fail_go (by omega), hinv, firstE_stop hi2 (by rw [roomE_0 (by assumption)]; assumption), roomE_0 (by assumption)]) (by assumption)), hs194.tail.tail⟩
                 | exact ⟨tup3 (chk_s hE1 (by rw [fail_go (by omega), hinv, firstE_stop hi2 (by rw [shopE_n (by assumption)]; assumption), shopE_n (by assumption)]) (by assumption)), hs194.tail.tail⟩
                 | exact ⟨tup3 (chk_s hE1 (by rw [fail_go (by omega), hinv, firstE_stop hi2 (by rw [shopE_0 (by assumption), shop_7 (by omega)]; decide), shopE_0 (by assumption), shop_7 (by omega)]) (by decide)), hs194.tail.tail⟩
                 | exact ⟨tup3 (chk_t hE1 hE2 (by rw [fail_go (by omega), hinv, firstE_stop hi2 (by rw [train_4 (by omega)]; decide), train_4 (by omega)]) (by decide)), hs194.tail.tail⟩
                 | exact ⟨tup3 (chk_t hE1 hE2 (by rw [fail_go (by omega), hinv, firstE_stop hi2 (by rw [train_7 (by omega) (by omega) (by omega)]; decide), train_7 (by omega) (by omega) (by omega)]) (by decide)), hs194.tail.tail⟩
                 | exact ⟨tup3 (chk_0 hE1 hE2 (by rw [fail_go (by omega), hinv, firstE_end (by omega)])), hs194.tail.tail⟩
              ·
               try simp only [Bool.not_eq_true', Bool.not_eq_false', decide_eq_true_eq, decide_eq_false_iff_not, Int.not_lt, Int.not_le] at h195
               refine w_skip ?_
               refine q_blk_normal ?_
               refine q_then (hK159 _ _ ?_)
               refine w_region ?_
               refine w_pure want_none (y_move (v := .int _ _) rfl rfl) rfl ?_
               refine w_pure want_none (y_add rfl rfl rfl rfl (by omega) (by omega)) rfl ?_
               refine w_pure want_none (y_assign (v := .int _ _) rfl rfl) rfl ?_
               refine w_nil ?_
               refine q_then (hN151 _ _ (Nx.intro (m.trains.length - (i + 1)) (by omega) (by repeat (first | exact agree_mix | refine agree_upd rfl ?_ | refine agree_updL rfl ?_ _ | refine agree_mixin rfl ?_)) ?_))
               exact ⟨i + 1, rfl, by omega, rfl, hinv.trans (firstE_step hi2 (train_0 (by omega) (by omega) (by omega) (by omega))), hs194.tail⟩
          ·
           try simp only [Bool.not_eq_true', Bool.not_eq_false', decide_eq_true_eq, decide_eq_false_iff_not, Int.not_lt, Int.not_le] at h158
           refine w_exit ?_
           refine q_then_exit ?_
           refine q_then_exit ?_
           refine q_blk_this ?_
           refine q_then (hK147 _ _ ?_)
           refine w_seq (fun K199 hK198 => ?_)
           refine w_region ?_
           refine w_pure want_none (y_assign (v := _) rfl rfl) rfl ?_
           refine w_pure want_none (y_assign (v := _) rfl rfl) rfl ?_
           refine w_pure want_none (y_assign (v := _) rfl rfl) rfl ?_
           refine w_nil ?_
           refine q_then (hK198 _ _ ?_)
           refine w_ret ?_
           refine q_ret (l := [.tmp 2, .tmp 3, .tmp 4]) (vs := [_, _, _]) rfl ⟨⟨rfl, show _ = (.int _ _ : Value) from rfl⟩, ⟨rfl, show _ = (.int _ _ : Value) from rfl⟩, ⟨rfl, show _ = (.int _ _ : Value) from rfl⟩, trivial⟩ ?_
           first
             | contradiction
             | exact ⟨tup3 (chk_r (fail_most (by omega)) (by decide)), hs.tail⟩
             | exact ⟨tup3 (chk_s hE1 (fail_most (by omega)) (by decide)), hs.tail⟩
             | exact ⟨tup3 (chk_t hE1 hE2 (fail_most (by omega)) (by decide)), hs.tail⟩
             | exact ⟨tup3 (chk_r (by rw [fail_go (by omega), hinv, firstE_stop hi2 (by rw [roomE_n (by assumption)]; assumption), roomE_n (by assumption)]) (by assumption)), hs.tail⟩
             | exact ⟨tup3 (chk_r (by rw [fail_go (by omega), hinv, firstE_stop hi2 (by rw [roomE_0 (by assumption)]; assumption), roomE_0 (by assumption)]) (by assumption)), hs.tail⟩
             | exact ⟨tup3 (chk_s hE1 (by rw [fail_go (by omega), hinv, firstE_stop hi2 (by rw [shopE_n (by assumption)]; assumption), shopE_n (by assumption)]) (by assumption)), hs.tail⟩
             | exact ⟨tup3 (chk_s hE1 (by rw [fail_go (by omega), hinv, firstE_stop hi2 (by rw [shopE_0 (by assumption), shop_7 (by omega)]; decide), shopE_0 (by assumption), shop_7 (by omega)]) (by decide)), hs.tail⟩
             | exact ⟨tup3 (chk_t hE1 hE2 (by rw [fail_go (by omega), hinv, firstE_stop hi2 (by rw [train_4 (by omega)]; decide), train_4 (by omega)]) (by decide)), hs.tail⟩
             | exact ⟨tup3 (chk_t hE1 hE2 (by rw [fail_go (by omega), hinv, firstE_stop hi2 (by rw [train_7 (by omega) (by omega) (by omega)]; decide), train_7 (by omega) (by omega) (by omega)]) (by decide)), hs.tail⟩
             | exact ⟨tup3 (chk_0 hE1 hE2 (by rw [fail_go (by omega), hinv, firstE_end (by omega)])), hs.tail⟩

end Go.Proofs
/- Walks of this seat, printed by gen.py over the engine: what each function returns, in whatever world. No conditions but those of each contract. -/
set_option linter.unusedVariables false
set_option linter.unusedSimpArgs false
set_option maxRecDepth 20000
namespace Go.Proofs
open Go.Rt Go.Rt.Sh
attribute [local irreducible] WL WC Con Yd At Ats Sl Agree DW
theorem Try_O_fb4 (x0 : Int) (w : World) : (Instr.buildSlice 30 1 [(0, .int .i64 x0)].toArray).run Try.prog w = .ok (.slice (some ⟨w.heap.size, 0, none⟩) 1 1) (w.alloc (Go.Rt.blk 3 [.int .i64 x0])) := by kernel_rfl
theorem c53 {w0 w : World} {F : List (Nat × Obj)} (m : Market) (p : At3) (hm : MIn w0 F m p) (hok : m.Ok) (t : Train) (ht : t ∈ m.trains) (hs : St w0 w F) :
  Con Try.prog 53 [.agg (m.cells p).toArray, .agg t.cells.toArray] w fun v w' => v = .bool (leaves m t) ∧ St w0 w' F := by
  refine con_of_wc (n := 27) Try.func53 rfl rfl (Nat.le_of_ble_eq_true rfl) ?_
  obtain ⟨ar, cr, as_, cs, at_, ct⟩ := p
  have htt := hok.train _ ht
  have hlr := hok.lr
  have hls := hok.ls
  have hir : t.room.toNat < m.rooms.length := by omega
  have his : t.shop.toNat < m.shops.length := by omega
  obtain ⟨br, or_, hbr, hxr⟩ := sl_rrows hm.r hir
  subst hbr
  obtain ⟨bs, os, hbs, hxs⟩ := sl_srows hm.s his
  subst hbs
  have hrr := hok.room _ (List.getElem_mem hir)
  have hss := hok.shop _ (List.getElem_mem his)
  refine w_seq (fun K2 hK1 => ?_)
  refine w_region ?_
  refine w_box (v := .agg #[.slice _ _ _, .slice _ _ _, .slice _ _ _]) (cs := [_, _, _]) want_none rfl rfl rfl hs (fun b3 w4 hs5 => ?_)
  refine w_box (v := .agg #[.int _ _, .int _ _, .int _ _, .int _ _]) (cs := [_, _, _, _]) want_none rfl rfl rfl hs5 (fun b6 w7 hs8 => ?_)
  refine w_pure want_none (y_assign (v := _) rfl rfl) rfl ?_
  refine w_nil ?_
  refine q_then (hK1 _ _ ?_)
  refine w_seq (fun K10 hK9 => ?_)
  refine w_region ?_
  refine w_pure want_none (y_fieldAddr (o := 0) (i := 0) Try.underlying26 rfl Try.sizeOf22 rfl rfl rfl) rfl ?_
  refine w_pure want_none (y_load1 Try.isAgg22 hs8 rfl rfl (ats_own (i := 1) (vs := [_]) rfl rfl)) rfl ?_
  refine w_pure want_none (y_fieldAddr (o := 0) (i := 0) Try.underlying63 rfl Try.sizeOf3 rfl rfl rfl) rfl ?_
  refine w_pure want_none (y_load1 Try.isAgg3 hs8 rfl rfl (ats_own (i := 0) (vs := [_]) rfl rfl)) rfl ?_
  refine w_pure want_none (y_indexS Try.underlying22 Try.sizeOf69 rfl rfl rfl rfl (i := t.room.toNat) (by omega) (by omega)) rfl ?_
  refine w_pure want_none (y_loadN (vs := [_, _, _, _, _]) Try.isAgg69 Try.sizeOf69 hs8.tail.tail rfl rfl hxr) rfl ?_
  refine w_alloc (cs := [_, _, _, _, _]) want_none Try.zeroValue69 rfl hs8 (fun b11 w12 hs13 => ?_)
  refine w_store (i := 0) (v := .agg #[.string _, .int _ _, .int _ _, .int _ _, .int _ _]) (vs := [_, _, _, _, _]) want_none Try.sizeOf69 rfl rfl rfl rfl rfl (by simp [Value.oneCell']) hs13 rfl (Nat.le_of_ble_eq_true rfl) (fun w14 hs15 => ?_)
  refine w_nil ?_
  refine q_then (hK9 _ _ ?_)
  refine w_seq (fun K17 hK16 => ?_)
  refine w_draw [] [(0, 0), (1, 1), (2, 0), (3, 1), (4, 0), (5, 0), (6, 1), (7, 0), (8, 1), (9, 0), (10, 0), (11, 1), (12, 0), (13, 1), (14, 2), (15, 0)] Try_mo (by kernel_rfl) hs15 (fun w18 hs19 => ?_)
  refine d_any rfl want_none rfl (fun _ => (y_fieldAddr (o := 1) (i := 1) Try.underlying26 rfl Try.sizeOf23 rfl rfl rfl)) ?_
  refine d_take rfl want_none rfl hs19 (fun _ hq => (y_load1 Try.isAgg23 hq rfl rfl (ats_own (i := 2) (vs := [_]) rfl rfl))) ?_
  refine d_any rfl want_none rfl (fun _ => (y_fieldAddr (o := 1) (i := 1) Try.underlying63 rfl Try.sizeOf3 rfl rfl rfl)) ?_
  refine d_take rfl want_none rfl hs19 (fun _ hq => (y_load1 Try.isAgg3 hq rfl rfl (ats_own (i := 1) (vs := [_]) rfl rfl))) ?_
  refine d_any rfl want_none rfl (fun _ => (y_indexS Try.underlying23 Try.sizeOf52 rfl rfl rfl rfl (i := t.shop.toNat) (by omega) (by omega))) ?_
  refine d_any rfl want_none rfl (fun _ => (y_fieldAddr (o := 1) (i := 1) Try.underlying52 rfl Try.sizeOf3 rfl rfl rfl)) ?_
  refine d_take rfl want_none rfl hs19 (fun _ hq => (y_load1 Try.isAgg3 hq.tail.tail.tail rfl rfl (show Ats _ _ _ _ [_] from Ats.part hxs 1 1))) ?_
  refine d_any rfl want_none rfl (fun _ => (y_fieldAddr (o := 2) (i := 2) Try.underlying63 rfl Try.sizeOf3 rfl rfl rfl)) ?_
  refine d_take rfl want_none rfl hs19 (fun _ hq => (y_load1 Try.isAgg3 hq rfl rfl (ats_own (i := 1) (vs := [_]) rfl rfl))) ?_
  refine d_any rfl want_none rfl (fun _ => (y_sub rfl rfl rfl rfl (by omega) (by omega))) ?_
  refine d_any rfl want_none rfl (fun _ => (y_fieldAddr (o := 3) (i := 2) Try.underlying69 rfl Try.sizeOf3 rfl rfl rfl)) ?_
  refine d_take rfl want_none rfl hs19 (fun _ hq => (y_load1 Try.isAgg3 hq rfl rfl (ats_own (i := 0) (vs := [_]) rfl rfl))) ?_
  refine d_any rfl want_none rfl (fun _ => (y_fieldAddr (o := 4) (i := 3) Try.underlying69 rfl Try.sizeOf3 rfl rfl rfl)) ?_
  refine d_take rfl want_none rfl hs19 (fun _ hq => (y_load1 Try.isAgg3 hq rfl rfl (ats_own (i := 0) (vs := [_]) rfl rfl))) ?_
  refine d_eff rfl ?_
  refine w_call want_none Try.call51 rfl rfl rfl rfl (c51 _ _ _ hs19) ?_
  rintro _ w21 ⟨rfl, hs22⟩
  refine w_nil ?_
  refine qn ⟨hs22, ?_⟩
  refine d_any rfl want_none rfl (fun _ => (y_assign (v := .bool _) rfl rfl)) ?_
  refine d_nil ?_
  refine q_then (hK16 _ _ ?_)
  refine w_ret ?_
  refine q_ret (l := [.tmp 4]) (vs := [_]) rfl ⟨⟨rfl, show _ = (.bool _ : Value) from rfl⟩, trivial⟩ ?_
  exact ⟨congrArg Value.bool (by rw [leaves_at hir his, Bool.eq_iff_iff]; simp [out]), hs22.tail.tail.tail⟩

theorem c19 {w0 w : World} {F : List (Nat × Obj)} (m : Market) (p : At3) (hm : MIn w0 F m p)  (hs : St w0 w F) :
  Con Try.prog 19 [.agg (m.cells p).toArray] w fun v w' => ∃ B a c, v = .tuple #[.slice a (goesP m).1.length c, .int .i64 (goesP m).2] ∧ Sl w0 B a 1 ((goesP m).1.map fun x => [Value.int .i64 x]) ∧ St w0 w' (B ++ F) := by
  refine con_of_wc (n := 37) Try.func19 rfl rfl (Nat.le_of_ble_eq_true rfl) ?_
  obtain ⟨ar, cr, as_, cs, at_, ct⟩ := p
  have hlt := hm.lt
  refine w_seq (fun K2 hK1 => ?_)
  refine w_region ?_
  refine w_box (v := .agg #[.slice _ _ _, .slice _ _ _, .slice _ _ _]) (cs := [_, _, _]) want_none rfl rfl rfl hs (fun b3 w4 hs5 => ?_)
  refine w_pure want_none (y_assign (v := _) rfl rfl) rfl ?_
  refine w_pure want_none (y_assign (v := _) rfl rfl) rfl ?_
  refine w_nil ?_
  refine q_then (hK1 _ _ ?_)
  refine w_seq (fun K7 hK6 => ?_)
  refine w_region ?_
  refine w_pure want_none (y_loadN (vs := [_, _, _]) Try.isAgg26 Try.sizeOf26 hs5 rfl rfl (ats_own (i := 0) (vs := [_, _, _]) rfl rfl)) rfl ?_
  refine w_call want_none Try.call17 rfl rfl rfl rfl (c17 m _ hm.cons hs5) ?_
  rintro _ w9 ⟨rfl, hs10⟩
  refine w_pure want_none (y_move (v := .tuple _) rfl rfl) rfl ?_
  refine w_pure want_none (y_extract (v := .int _ _) rfl rfl rfl) rfl ?_
  refine w_pure want_none (y_extract (v := .int _ _) rfl rfl rfl) rfl ?_
  refine w_pure want_none (y_extract (v := .int _ _) rfl rfl rfl) rfl ?_
  refine w_pure want_none (y_assign (v := .int _ _) rfl rfl) rfl ?_
  refine w_pure want_none (y_assign (v := .int _ _) rfl rfl) rfl ?_
  refine w_pure want_none (y_assign (v := .int _ _) rfl rfl) rfl ?_
  refine w_nil ?_
  refine q_then (hK6 _ _ ?_)
  refine w_seq (fun K12 hK11 => ?_)
  refine w_seq (fun K14 hK13 => ?_)
  refine w_region ?_
  refine w_pure want_none (y_move (v := .int _ _) rfl rfl) rfl ?_
  refine w_pure want_none (y_neq rfl rfl rfl rfl) rfl ?_
  refine w_nil ?_
  refine q_then (hK13 _ _ ?_)
  refine w_cond rfl rfl (fun h15 => ?_) (fun h15 => ?_)
  ·
   try simp only [Bool.not_eq_true', Bool.not_eq_false', decide_eq_true_eq, decide_eq_false_iff_not, Int.not_lt, Int.not_le] at h15
   refine w_seq (fun K17 hK16 => ?_)
   refine w_region ?_
   refine w_pure want_none (y_move (v := .int _ _) rfl rfl) rfl ?_
   refine w_pure want_none (y_assign (v := _) rfl rfl) rfl ?_
   refine w_pure want_none (y_assign (v := .int _ _) rfl rfl) rfl ?_
   refine w_nil ?_
   refine q_then (hK16 _ _ ?_)
   refine w_ret ?_
   refine q_then_ret ?_
   refine q_ret (l := [.tmp 2, .tmp 3]) (vs := [_, _]) rfl ⟨⟨rfl, show _ = (.slice _ _ _ : Value) from rfl⟩, ⟨rfl, show _ = (.int _ _ : Value) from rfl⟩, trivial⟩ ?_
   first
     | (have hq : goesP m = ([], (check m).2.2) := by unfold goesP; rw [if_pos (by assumption)]
        exact ⟨[], none, 0, by rw [hq]; rfl, by rw [hq]; exact Sl.nil _ _, hs10.tail⟩)
     | (have hil : i = m.trains.length := by omega
        subst hil
        have hq : goesP m = (goesTo m m.trains.length, 0) := by unfold goesP; rw [if_neg (by simpa using (by assumption : (check m).2.2 = 0))]
        obtain ⟨ag, cg, rfl, hsg⟩ := own_sl_map (w0 := w0) hown rfl []
        rw [List.append_nil] at hsg
        exact ⟨_, ag, cg, by rw [hq]; rfl, by rw [hq]; exact hsg, hs10.tail⟩)
  ·
   try simp only [Bool.not_eq_true', Bool.not_eq_false', decide_eq_true_eq, decide_eq_false_iff_not, Int.not_lt, Int.not_le] at h15
   refine w_skip ?_
   refine q_then (hK11 _ _ ?_)
   refine w_seq (fun K19 hK18 => ?_)
   have hok := check_ok (by assumption)
   have hlt6 := hok.lt
   refine w_region ?_
   refine w_pure want_none (y_assign (v := _) rfl rfl) rfl ?_
   refine w_nil ?_
   refine q_then (hK18 _ _ ?_)
   refine w_seq (fun K21 hK20 => ?_)
   refine w_seq (fun K23 hK22 => ?_)
   refine w_region ?_
   refine w_pure want_none (y_assign (v := _) rfl rfl) rfl ?_
   refine w_nil ?_
   refine q_then (hK22 _ _ ?_)
   refine w_block ?_
   refine w_loop [7, 8, 18, 19, 20, 21, 22, 23, 24, 25, 26, 27, 28, 29, 30, 31, 32, 33, 34, 35] [7, 8] (fun k vs w => ∃ (i : Nat) (v : Value) (B : List (Nat × Obj)), vs = [v, .int .i64 i] ∧ i ≤ m.trains.length ∧ k = m.trains.length - i ∧ Rt.Own v 3 1 (goesTo m i).length (iv (goesTo m i)) B ∧ St w0 w ((b3, blk 26 (m.cells ⟨ar, cr, as_, cs, at_, ct⟩)) :: (B ++ F))) (m.trains.length) ?_ ?_
   ·
    exact ⟨0, _, [], rfl, by omega, by omega, own_nil 3 1, hs10⟩
   ·
    intro k vs μ w26 hI K25 hN24
    obtain ⟨i, v, B, rfl, hia, rfl, hown, hs⟩ := hI
    refine w_seq (fun K28 hK27 => ?_)
    refine w_seq (fun K30 hK29 => ?_)
    refine w_region ?_
    refine w_pure want_none (y_move (v := .int _ _) rfl rfl) rfl ?_
    refine w_pure want_none (y_fieldAddr (o := 2) (i := 2) Try.underlying26 rfl Try.sizeOf24 rfl rfl rfl) rfl ?_
    refine w_pure want_none (y_load1 Try.isAgg24 hs rfl rfl (ats_own (i := 0) (vs := [_]) rfl rfl)) rfl ?_
    refine w_pure want_none (y_lenS Try.underlying24 rfl rfl) rfl ?_
    refine w_pure want_none (y_lss rfl rfl rfl rfl) rfl ?_
    refine w_nil ?_
    refine q_then (hK29 _ _ ?_)
    refine w_cond rfl rfl (fun h31 => ?_) (fun h31 => ?_)
    ·
     try simp only [Bool.not_eq_true', Bool.not_eq_false', decide_eq_true_eq, decide_eq_false_iff_not, Int.not_lt, Int.not_le] at h31
     refine w_skip ?_
     refine q_then (hK27 _ _ ?_)
     refine w_seq (fun K33 hK32 => ?_)
     refine w_block ?_
     refine w_seq (fun K35 hK34 => ?_)
     have hi2 : i < m.trains.length := by omega
     obtain ⟨t1, ot1, hbt1, hxt1⟩ := sl_trows hm.t hi2
     subst hbt1
     have hgl := goesTo_len m i
     refine w_draw [] [(0, 1), (1, 0), (2, 1), (3, 0), (4, 0), (5, 1), (6, 2)] Try_mo (by kernel_rfl) hs (fun w36 hs37 => ?_)
     refine d_take rfl want_none rfl hs37 (fun _ hq => (y_loadN (vs := [_, _, _]) Try.isAgg26 Try.sizeOf26 hq rfl rfl (ats_own (i := 0) (vs := [_, _, _]) rfl rfl))) ?_
     refine d_any rfl want_none rfl (fun _ => (y_fieldAddr (o := 2) (i := 2) Try.underlying26 rfl Try.sizeOf24 rfl rfl rfl)) ?_
     refine d_take rfl want_none rfl hs37 (fun _ hq => (y_load1 Try.isAgg24 hq rfl rfl (ats_own (i := 0) (vs := [_]) rfl rfl))) ?_
     refine d_any rfl want_none rfl (fun _ => (y_move (v := .int _ _) rfl rfl)) ?_
     refine d_any rfl want_none rfl (fun _ => (y_indexS Try.underlying24 Try.sizeOf63 rfl rfl rfl rfl (i := _) rfl (by omega))) ?_
     refine d_take rfl want_none rfl hs37 (fun _ hq => (y_loadN (vs := [_, _, _, _]) Try.isAgg63 Try.sizeOf63 hq.tail.drop rfl rfl hxt1)) ?_
     refine d_eff rfl ?_
     refine w_call want_none Try.call53 rfl rfl rfl rfl (c53 m _ hm.app.cons hok _ (List.getElem_mem hi2) hs37) ?_
     rintro _ w39 ⟨rfl, hs40⟩
     refine w_nil ?_
     refine qn ⟨hs40, ?_⟩
     refine d_nil ?_
     refine q_then (hK34 _ _ ?_)
     refine w_cond rfl rfl (fun h41 => ?_) (fun h41 => ?_)
     ·
      try simp only [Bool.not_eq_true', Bool.not_eq_false', decide_eq_true_eq, decide_eq_false_iff_not, Int.not_lt, Int.not_le] at h41
      refine w_region ?_
      refine w_pure want_none (y_move (v := v) rfl rfl) rfl ?_
      refine w_pure want_none (y_move (v := .int _ _) rfl rfl) rfl ?_
      refine w_bslice (ps := [(0, _)]) (pv := [(0, .int _ _)]) (cs := [_]) want_none rfl rfl (fun w => Try_O_fb4 _ w) hs40 (fun b42 w43 hs44 => ?_)
      refine w_append (X := (_ :: _ :: [])) (B := B) (rows := [[_]]) (sz := 1) (bytes := 8) want_none Try.underlying30 Try_info3 rfl rfl rfl rfl rfl rfl rfl rfl rfl hs44 hown (sl_own (i := 0) rfl (by simp) rfl) rfl (by simp) (by simp [Value.oneCell']) (by simp only [maxLen]; omega) (by omega) (fun v45 w46 B47 ho48 hs49 => ?_)
      replace hs49 := (show St _ _ (_ :: _ :: B47 ++ (F)) from hs49)
      refine w_pure want_none (y_assign (v := v45) rfl rfl) rfl ?_
      refine w_nil ?_
      refine q_blk_normal ?_
      refine q_then (hK32 _ _ ?_)
      refine w_region ?_
      refine w_pure want_none (y_move (v := .int _ _) rfl rfl) rfl ?_
      refine w_pure want_none (y_add rfl rfl rfl rfl (by omega) (by omega)) rfl ?_
      refine w_pure want_none (y_assign (v := .int _ _) rfl rfl) rfl ?_
      refine w_nil ?_
      refine q_then (hN24 _ _ (Nx.intro (m.trains.length - (i + 1)) (by omega) (by repeat (first | exact agree_mix | refine agree_upd rfl ?_ | refine agree_updL rfl ?_ _ | refine agree_mixin rfl ?_)) ?_))
      exact ⟨i + 1, _, _, rfl, by omega, rfl, by rw [goesTo_yes hi2 (by assumption)]; exact own_snoc ho48, hs49.tail⟩
     ·
      try simp only [Bool.not_eq_true', Bool.not_eq_false', decide_eq_true_eq, decide_eq_false_iff_not, Int.not_lt, Int.not_le] at h41
      refine w_skip ?_
      refine q_blk_normal ?_
      refine q_then (hK32 _ _ ?_)
      refine w_region ?_
      refine w_pure want_none (y_move (v := .int _ _) rfl rfl) rfl ?_
      refine w_pure want_none (y_add rfl rfl rfl rfl (by omega) (by omega)) rfl ?_
      refine w_pure want_none (y_assign (v := .int _ _) rfl rfl) rfl ?_
      refine w_nil ?_
      refine q_then (hN24 _ _ (Nx.intro (m.trains.length - (i + 1)) (by omega) (by repeat (first | exact agree_mix | refine agree_upd rfl ?_ | refine agree_updL rfl ?_ _ | refine agree_mixin rfl ?_)) ?_))
      exact ⟨i + 1, v, B, rfl, by omega, rfl, by rw [goesTo_no hi2 (by assumption)]; exact hown, hs40⟩
    ·
     try simp only [Bool.not_eq_true', Bool.not_eq_false', decide_eq_true_eq, decide_eq_false_iff_not, Int.not_lt, Int.not_le] at h31
     refine w_exit ?_
     refine q_then_exit ?_
     refine q_then_exit ?_
     refine q_blk_this ?_
     refine q_then (hK20 _ _ ?_)
     refine w_seq (fun K51 hK50 => ?_)
     refine w_region ?_
     refine w_pure want_none (y_move (v := v) rfl rfl) rfl ?_
     refine w_pure want_none (y_assign (v := v) rfl rfl) rfl ?_
     refine w_pure want_none (y_assign (v := _) rfl rfl) rfl ?_
     refine w_nil ?_
     refine q_then (hK50 _ _ ?_)
     refine w_ret ?_
     refine q_ret (l := [.tmp 2, .tmp 3]) (vs := [_, _]) rfl ⟨⟨rfl, show _ = (v : Value) from rfl⟩, ⟨rfl, show _ = (.int _ _ : Value) from rfl⟩, trivial⟩ ?_
     first
       | (have hq : goesP m = ([], (check m).2.2) := by unfold goesP; rw [if_pos (by assumption)]
          exact ⟨[], none, 0, by rw [hq]; rfl, by rw [hq]; exact Sl.nil _ _, hs.tail.drop⟩)
       | (have hil : i = m.trains.length := by omega
          subst hil
          have hq : goesP m = (goesTo m m.trains.length, 0) := by unfold goesP; rw [if_neg (by simpa using (by assumption : (check m).2.2 = 0))]
          obtain ⟨ag, cg, rfl, hsg⟩ := own_sl_map (w0 := w0) hown rfl []
          rw [List.append_nil] at hsg
          exact ⟨_, ag, cg, by rw [hq]; rfl, by rw [hq]; exact hsg, hs.tail⟩)

end Go.Proofs
/- Plain words of the shop layer: the document's example. No conditions. -/
set_option linter.unusedSimpArgs false
set_option linter.unusedVariables false
namespace Go.Rt.Sh
def nAlta : ByteArray := ⟨#[97, 108, 116, 97]⟩
def nBaja : ByteArray := ⟨#[98, 97, 106, 97]⟩
def nApple : ByteArray := ⟨#[97, 112, 112, 108, 101]⟩
def nBerry : ByteArray := ⟨#[98, 101, 114, 114, 121]⟩
def nCherry : ByteArray := ⟨#[99, 104, 101, 114, 114, 121]⟩
def exM (x y : Int) : Market := ⟨[⟨nAlta, 20, 25, x, 4⟩, ⟨nBaja, 10, 10, 3, 6⟩], [⟨nApple, 5, 15⟩, ⟨nBerry, 5, y⟩, ⟨nCherry, 8, 8⟩], [⟨0, 0, 1, 20⟩, ⟨0, 1, 2, 8⟩, ⟨1, 1, 1, 6⟩, ⟨1, 2, 2, 10⟩, ⟨0, 2, 2, 9⟩]⟩
theorem ex_goes : goesP (exM 2 10) = ([0, 1, 2, 3], 0) := by decide +kernel
theorem ex_can1 : canP (exM 2 10) [0, 1, 2] = (0, 0) := by decide +kernel
theorem ex_can2 : canP (exM 2 10) [1, 2] = (1, 0) := by decide +kernel
theorem ex_can3 : canP (exM 3 15) [1] = (2, 0) := by decide +kernel
theorem ex_can4 : canP (exM 2 10) [1, 0] = (0, 2) := by decide +kernel
theorem ex_proof1 : proofP (exM 2 10) [0, 1, 2] = ([0, 1, 2], 3, 0) := by decide +kernel
theorem ex_proof2 : proofP (exM 2 10) [1, 2] = ([], 0, 9) := by decide +kernel
theorem ex_without : withoutP (exM 2 10) = ([0], 0) := by decide +kernel
theorem ex_give : giveP (exM 2 10) = ([0, 8, 2, 8, 0], 0) := by decide +kernel
theorem ex_more : moreP (exM 2 10) 0 = (3, 0) := by decide +kernel
theorem ex_late : lateP (exM 3 10) 1 = (5, 0) := by decide +kernel
end Go.Rt.Sh
