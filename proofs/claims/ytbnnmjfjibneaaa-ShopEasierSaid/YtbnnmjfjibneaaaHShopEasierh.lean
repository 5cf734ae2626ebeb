/- Own texts of this claim, joined. No conditions. -/
import Derived.Test.YtbnnmjfjibneaaaHShopEasiera
import Derived.Test.YtbnnmjfjibneaaaHShopEasierb
import Derived.Test.YtbnnmjfjibneaaaHShopEasierc
import Derived.Test.YtbnnmjfjibneaaaHShopEasierd
import Derived.Test.YtbnnmjfjibneaaaHShopEasiere
import Derived.Test.YtbnnmjfjibneaaaHShopEasierf
import Derived.Test.YtbnnmjfjibneaaaHShopEasierg
/- Walks of this seat, printed by gen.py over the engine: what each function returns, in whatever world. No conditions but those of each contract. -/
set_option linter.unusedVariables false
set_option linter.unusedSimpArgs false
set_option maxRecDepth 20000
set_option maxHeartbeats 1600000
namespace Go.Proofs
open Go.Rt Go.Rt.Sh
attribute [local irreducible] WL WC Con Yd At Ats Sl Agree DW
theorem Try_Zl_fb6  (w : World) : (Instr.buildSlice 24 0 [].toArray).run Try.prog w = .ok (.slice (some ⟨w.heap.size, 0, none⟩) 0 0) (w.alloc (Go.Rt.blk 63 [])) := by kernel_rfl
theorem Try_Zl_fb7 (x0 : Int) (x1 : Int) (x2 : Int) (x3 : Int) (w : World) : (Instr.buildSlice 24 1 [(0, .agg #[.int .i64 x0, .int .i64 x1, .int .i64 x2, .int .i64 x3])].toArray).run Try.prog w = .ok (.slice (some ⟨w.heap.size, 0, none⟩) 1 1) (w.alloc (Go.Rt.blk 63 [.int .i64 x0, .int .i64 x1, .int .i64 x2, .int .i64 x3])) := by kernel_rfl
theorem Try_Zl_fb8  (w : World) : (Instr.buildSlice 23 0 [].toArray).run Try.prog w = .ok (.slice (some ⟨w.heap.size, 0, none⟩) 0 0) (w.alloc (Go.Rt.blk 52 [])) := by kernel_rfl
theorem Try_info52 : Try.prog.info? 52 = some Try.t52 := by kernel_rfl
theorem Try_Zl_fb10  (w : World) : (Instr.buildSlice 22 0 [].toArray).run Try.prog w = .ok (.slice (some ⟨w.heap.size, 0, none⟩) 0 0) (w.alloc (Go.Rt.blk 69 [])) := by kernel_rfl
theorem own_rows {w0 : World} {a : Option Addr} {t : TypeId} {sz n c : Nat} {rows : List (List Value)} {B : List (Nat × Obj)} (h : Rt.Own (.slice a n c) t sz n rows.flatten B) (hr : ∀ row ∈ rows, row.length = sz) (hn : rows.length = n) : Sl w0 B a sz rows ∧ n ≤ c := by
  rcases h.2 with ⟨h2, h0, rfl⟩ | ⟨b, cap, cs, h2, rfl, h4, _, _, h5⟩
  · injection h2 with e1 e2 e3
    have : rows = [] := List.length_eq_zero_iff.1 (by omega)
    subst this
    exact ⟨Sl.nil _ _, by omega⟩
  · injection h2 with e1 e2 e3
    subst e1
    exact ⟨sl_own (i := 0) rfl hr (by rw [hn]; exact h5), by omega⟩
theorem swap2 {w0 w : World} {a b : Nat × Obj} {F : List (Nat × Obj)} (h : St w0 w (a :: b :: F)) : St w0 w (b :: a :: F) := h.perm (perm_mid [a] [b] F)
theorem drop_2nd {w0 w : World} {a b : Nat × Obj} {F : List (Nat × Obj)} (h : St w0 w (a :: b :: F)) : St w0 w (a :: F) := (swap2 h).tail
theorem srows_row (l : List Shop) : ∀ row ∈ srows l, row.length = 3 := by intro row h; obtain ⟨q, _, rfl⟩ := List.mem_map.1 h; rfl
theorem srows_one (l : List Shop) : ∀ row ∈ srows l, ∀ u ∈ row, u.oneCell' = true := by
  intro row hr u hu
  obtain ⟨f, _, rfl⟩ := List.mem_map.1 hr
  simp only [Shop.cells, List.mem_cons, List.not_mem_nil, or_false] at hu
  rcases hu with rfl | rfl | rfl <;> rfl
theorem sl_own_srows {w0 : World} {L : List (Nat × Obj)} {i b n : Nat} {t : TypeId} {cs : List Value} {l : List Shop} (hi : L[i]? = some (b, blk t cs)) (hn : l.length = n) (h : cs.take (n * 3) = (srows l).flatten) : Sl w0 L (some ⟨b, 0, none⟩) 3 (srows l) :=
  sl_own hi (by intro row hr; obtain ⟨f, _, rfl⟩ := List.mem_map.1 hr; rfl) (by simpa [srows, hn] using h)
theorem rot5 {w0 w : World} {X R : List (Nat × Obj)} {a b c d e : Nat × Obj} (h : St w0 w (X ++ (a :: b :: c :: d :: e :: R))) : St w0 w (a :: b :: c :: d :: e :: (X ++ R)) := h.perm (perm_mid X [a, b, c, d, e] R)
theorem br1 {w0 w : World} {X R : List (Nat × Obj)} {a b c d e : Nat × Obj} (h : St w0 w (a :: b :: c :: d :: e :: (X ++ R))) : St w0 w (X ++ (a :: b :: c :: d :: e :: R)) := h.perm (perm_mid [a, b, c, d, e] X R)
theorem br2 {w0 w : World} {X Y R : List (Nat × Obj)} {a b c d e : Nat × Obj} (h : St w0 w (a :: b :: c :: d :: e :: (Y ++ (X ++ R)))) : St w0 w (X ++ (a :: b :: c :: d :: e :: (Y ++ R))) := h.perm (perm_mid (a :: b :: c :: d :: e :: Y) X R)
theorem rt2 {w0 w : World} {X Y R : List (Nat × Obj)} {a b c d e : Nat × Obj} (h : St w0 w (X ++ (a :: b :: c :: d :: e :: (Y ++ R)))) : St w0 w (a :: b :: c :: d :: e :: (Y ++ (X ++ R))) := h.perm (perm_mid X (a :: b :: c :: d :: e :: Y) R)
theorem br3 {w0 w : World} {X Y Z R : List (Nat × Obj)} {a b c d e : Nat × Obj} (h : St w0 w (a :: b :: c :: d :: e :: (Z ++ (Y ++ (X ++ R))))) : St w0 w (X ++ (a :: b :: c :: d :: e :: (Z ++ (Y ++ R)))) := by
  have h2 := h.perm (show (a :: b :: c :: d :: e :: (Z ++ (Y ++ (X ++ R)))).Perm _ from by simpa only [List.append_assoc, List.cons_append] using perm_mid (a :: b :: c :: d :: e :: (Z ++ Y)) X R)
  exact h2
theorem rt3 {w0 w : World} {X Y Z R : List (Nat × Obj)} {a b c d e : Nat × Obj} (h : St w0 w (X ++ (a :: b :: c :: d :: e :: (Z ++ (Y ++ R))))) : St w0 w (a :: b :: c :: d :: e :: (Z ++ (Y ++ (X ++ R)))) := by
  have h2 := h.perm (show (X ++ (a :: b :: c :: d :: e :: (Z ++ (Y ++ R)))).Perm _ from by simpa only [List.append_assoc, List.cons_append] using perm_mid X (a :: b :: c :: d :: e :: (Z ++ Y)) R)
  exact h2
theorem cells_mod {α : Type} {row : α → List Value} {sz : Nat} (hr : ∀ x, (row x).length = sz) {cs : List Value} {l : List α} {n i : Nat} {f : α → α} (hn : l.length = n) (h : cs.take (n * sz) = (l.map row).flatten) (hi : i < l.length) : (setMany cs (i * sz) (row (f l[i]))).take (n * sz) = ((modL f l i).map row).flatten := by
  have := setMany_rows (row := row (f l[i])) (i := i) (by simpa using hn) (by intro x hx; obtain ⟨q, _, rfl⟩ := List.mem_map.1 hx; exact hr q) (by simpa using hi) (hr _) h
  rw [this, modL_set f l i hi, List.map_set]
theorem own_mod {α : Type} {row : α → List Value} {t : TypeId} {sz b cap n i : Nat} (hr : ∀ x, (row x).length = sz) {cs : List Value} {l : List α} {f : α → α} (hi : i < l.length) (hn : l.length = n) (h1 : n ≤ cap) (h2 : cap ≤ maxLen) (h3 : (setMany cs (i * sz) (row (f (l[i]'hi)))).length = cap * sz) (h : cs.take (n * sz) = (l.map row).flatten) : Rt.Own (.slice (some ⟨b, 0, none⟩) n cap) t sz n ((modL f l i).map row).flatten [(b, blk t (setMany cs (i * sz) (row (f (l[i]'hi)))))] := by
  refine ⟨?_, .inr ⟨b, cap, _, rfl, rfl, h1, h2, h3, cells_mod hr hn h hi⟩⟩
  rw [flat_len_sz (sz := sz) (by intro x hx; obtain ⟨q, _, rfl⟩ := List.mem_map.1 hx; exact hr q), List.length_map, modL_len, hn]
theorem setMany_len : ∀ (vs cs : List Value) (off : Nat), (setMany cs off vs).length = cs.length
  | [], cs, off => rfl
  | v :: vs, cs, off => by simp only [setMany]; rw [setMany_len vs]; simp
theorem modL_nil {α : Type} {f : α → α} {l : List α} {i : Nat} (h : l.length = 0) : modL f l i = l := by rw [List.eq_nil_of_length_eq_zero h]; rfl
theorem c13 {w0 w : World} {F : List (Nat × Obj)} (m : Market) (p : At3) (hm : MIn w0 F m p) (hnR : p.ar = none → p.cr = 0) (hnS : p.az = none → p.cs = 0) (hnT : p.at_ = none → p.ct = 0) (t : Train) (e0 e1 e2 e3 e4 e5 e6 : Int) (ht0 : -9223372036854775808 ≤ t.room ∧ t.room ≤ 9223372036854775807) (ht1 : -9223372036854775808 ≤ t.shop ∧ t.shop ≤ 9223372036854775807) (ht2 : -9223372036854775808 ≤ t.days ∧ t.days ≤ 9223372036854775807) (ht3 : -9223372036854775808 ≤ t.cap ∧ t.cap ≤ 9223372036854775807) (he0 : 0 ≤ e0 ∧ e0 ≤ 255) (he1 : 0 ≤ e1 ∧ e1 ≤ 255) (he2 : 0 ≤ e2 ∧ e2 ≤ 255) (he3 : 0 ≤ e3 ∧ e3 ≤ 255) (he4 : 0 ≤ e4 ∧ e4 ≤ 255) (he5 : 0 ≤ e5 ∧ e5 ≤ 255) (he6 : 0 ≤ e6 ∧ e6 ≤ 255) (hs : St w0 w F) :
  Con Try.prog 13 [.agg (m.cells p).toArray, .agg #[.int .i64 t.room, .int .i64 t.shop, .int .i64 t.days, .int .i64 t.cap, .int .u8 e0, .int .u8 e1, .int .u8 e2, .int .u8 e3, .int .u8 e4, .int .u8 e5, .int .u8 e6]] w fun v w' => v = .bool true ∧ St w0 w' F := by
  refine con_of_wc (n := 237) Try.func13 rfl rfl (Nat.le_of_ble_eq_true rfl) ?_
  refine w_seq (fun K2 hK1 => ?_)
  refine w_region ?_
  refine w_box (v := .agg #[.slice _ _ _, .slice _ _ _, .slice _ _ _]) (cs := [_, _, _]) want_none rfl rfl rfl hs (fun b3 w4 hs5 => ?_)
  refine w_box (v := .agg #[.int _ _, .int _ _, .int _ _, .int _ _, .int _ _, .int _ _, .int _ _, .int _ _, .int _ _, .int _ _, .int _ _]) (cs := [_, _, _, _, _, _, _, _, _, _, _]) want_none rfl rfl rfl hs5 (fun b6 w7 hs8 => ?_)
  refine w_pure want_none (y_assign (v := _) rfl rfl) rfl ?_
  refine w_nil ?_
  refine q_then (hK1 _ _ ?_)
  refine w_seq (fun K10 hK9 => ?_)
  refine w_seq (fun K12 hK11 => ?_)
  refine w_region ?_
  refine w_pure want_none (y_loadN (vs := [_, _, _]) Try.isAgg26 Try.sizeOf26 hs8 rfl rfl (ats_own (i := 1) (vs := [_, _, _]) rfl rfl)) rfl ?_
  refine w_call want_none Try.call35 rfl rfl rfl rfl (c35 m _ hm.cons.cons hs8) ?_
  rintro _ w14 ⟨rfl, hs15⟩
  refine w_pure want_none (y_not rfl rfl) rfl ?_
  refine w_nil ?_
  refine q_then (hK11 _ _ ?_)
  refine w_cond rfl rfl (fun h16 => ?_) (fun h16 => ?_)
  ·
   try simp only [Bool.not_eq_true', Bool.not_eq_false', decide_eq_true_eq, decide_eq_false_iff_not, Int.not_lt, Int.not_le] at h16
   refine w_seq (fun K18 hK17 => ?_)
   refine w_region ?_
   refine w_call want_none Try.call21 rfl rfl rfl rfl (c21 hs15) ?_
   rintro _ w20 ⟨rfl, hs21⟩
   refine w_pure want_none (y_assign (v := .bool _) rfl rfl) rfl ?_
   refine w_nil ?_
   refine q_then (hK17 _ _ ?_)
   refine w_ret ?_
   refine q_then_ret ?_
   refine q_ret (l := [.tmp 4]) (vs := [_]) rfl ⟨⟨rfl, show _ = (.bool _ : Value) from rfl⟩, trivial⟩ ?_
   exact ⟨rfl, hs21.tail.tail⟩
  ·
   try simp only [Bool.not_eq_true', Bool.not_eq_false', decide_eq_true_eq, decide_eq_false_iff_not, Int.not_lt, Int.not_le] at h16
   refine w_skip ?_
   refine q_then (hK9 _ _ ?_)
   refine w_seq (fun K23 hK22 => ?_)
   refine w_cut [5, 6, 29, 30] [5, 6] (fun vs w => ∃ bz5 bz6, vs = [.pointer (some ⟨bz5, 0, none⟩), .pointer (some ⟨bz6, 0, none⟩)] ∧ St w0 w ((bz6, blk 26 (m.cells p)) :: (bz5, blk 26 (m.cells p)) :: (b6, blk 65 [.int .i64 t.room, .int .i64 t.shop, .int .i64 t.days, .int .i64 t.cap, .int .u8 e0, .int .u8 e1, .int .u8 e2, .int .u8 e3, .int .u8 e4, .int .u8 e5, .int .u8 e6]) :: (b3, blk 26 (m.cells p)) :: F)) (fun K25 hC24 => ?_) ?_
   ·
    refine w_drawT (C := fun w => St w0 w _) [5] (.two [(0, 1), (1, 1)] 2 3 (.done [(3, 2), (4, 2), (5, 3)]) (.done [(2, 2), (4, 2), (5, 3)])) Try_mo (by kernel_rfl) hs15 (fun _ h => h.drew) (fun w26 hs27 => ?_)
    refine dt_two ?_
    refine d_take rfl want_none rfl hs27 (fun _ hq => (y_loadN (vs := [_, _, _]) Try.isAgg26 Try.sizeOf26 hq rfl rfl (ats_own (i := 1) (vs := [_, _, _]) rfl rfl))) ?_
    refine d_take rfl want_none rfl hs27 (fun _ hq => (y_loadN (vs := [_, _, _]) Try.isAgg26 Try.sizeOf26 hq rfl rfl (ats_own (i := 1) (vs := [_, _, _]) rfl rfl))) ?_
    refine d_two rfl rfl ?_ ?_
    ·
     refine w_alloc (cs := [_, _, _]) want_none Try.zeroValue26 rfl hs27 (fun b28 w29 hs30 => ?_)
     refine w_nil ?_
     refine qn ⟨hs30.tail, ?_⟩
     refine dt_done ?_
     refine d_eff rfl ?_
     refine w_alloc (cs := [_, _, _]) want_none Try.zeroValue26 rfl hs30 (fun b31 w32 hs33 => ?_)
     refine w_nil ?_
     refine qn ⟨hs33.tail.tail, ?_⟩
     refine d_eff rfl ?_
     refine w_store (i := 1) (v := .agg #[.slice _ _ _, .slice _ _ _, .slice _ _ _]) (vs := [_, _, _]) want_none Try.sizeOf26 rfl rfl rfl rfl rfl (by simp [Value.oneCell']) hs33 rfl (Nat.le_of_ble_eq_true rfl) (fun w34 hs35 => ?_)
     refine w_nil ?_
     refine qn ⟨hs35.tail.tail, ?_⟩
     refine d_late rfl ?_
     refine w_store (i := 0) (v := .agg #[.slice _ _ _, .slice _ _ _, .slice _ _ _]) (vs := [_, _, _]) want_none Try.sizeOf26 rfl rfl rfl rfl rfl (by simp [Value.oneCell']) hs35 rfl (Nat.le_of_ble_eq_true rfl) (fun w36 hs37 => ?_)
     refine w_nil ?_
     refine qn ?_
     refine d_nil ?_
     refine q_then (hC24 _ _ (Md.intro (by repeat (first | exact agree_refl | exact agree_mix | refine agree_upd rfl ?_ | refine agree_updL rfl ?_ _ | refine agree_mixin rfl ?_)) ?_))
     first
       | exact ⟨_, _, rfl, hs37⟩
       | exact ⟨_, _, rfl, swap2 (show St _ _ (_ :: _ :: _) from hs37)⟩
    ·
     refine w_alloc (cs := [_, _, _]) want_none Try.zeroValue26 rfl hs27 (fun b38 w39 hs40 => ?_)
     refine w_nil ?_
     refine qn ⟨hs40.tail, ?_⟩
     refine dt_done ?_
     refine d_eff rfl ?_
     refine w_alloc (cs := [_, _, _]) want_none Try.zeroValue26 rfl hs40 (fun b41 w42 hs43 => ?_)
     refine w_nil ?_
     refine qn ⟨hs43.tail.tail, ?_⟩
     refine d_eff rfl ?_
     refine w_store (i := 0) (v := .agg #[.slice _ _ _, .slice _ _ _, .slice _ _ _]) (vs := [_, _, _]) want_none Try.sizeOf26 rfl rfl rfl rfl rfl (by simp [Value.oneCell']) hs43 rfl (Nat.le_of_ble_eq_true rfl) (fun w44 hs45 => ?_)
     refine w_nil ?_
     refine qn ⟨hs45.tail.tail, ?_⟩
     refine d_late rfl ?_
     refine w_store (i := 1) (v := .agg #[.slice _ _ _, .slice _ _ _, .slice _ _ _]) (vs := [_, _, _]) want_none Try.sizeOf26 rfl rfl rfl rfl rfl (by simp [Value.oneCell']) hs45 rfl (Nat.le_of_ble_eq_true rfl) (fun w46 hs47 => ?_)
     refine w_nil ?_
     refine qn ?_
     refine d_nil ?_
     refine q_then (hC24 _ _ (Md.intro (by repeat (first | exact agree_refl | exact agree_mix | refine agree_upd rfl ?_ | refine agree_updL rfl ?_ _ | refine agree_mixin rfl ?_)) ?_))
     first
       | exact ⟨_, _, rfl, hs47⟩
       | exact ⟨_, _, rfl, swap2 (show St _ _ (_ :: _ :: _) from hs47)⟩
   ·
    intro vs μ w48 hM
    obtain ⟨bz5, bz6, rfl, hs⟩ := hM
    have hck : (check m).2.2 = 0 := by first | assumption | (refine Decidable.byContradiction fun h0 => ?_; simp_all)
    have hok := check_ok hck
    have hlr := hok.lr
    have hls := hok.ls
    have hlt := hok.lt
    refine q_then (hK22 _ _ ?_)
    refine w_seq (fun K50 hK49 => ?_)
    refine w_cut [31, 32, 33, 34, 35, 36, 37, 38, 39] [] (fun vs w => ∃ bA capA csA, vs = [] ∧ m.trains.length + 1 ≤ capA ∧ csA.take ((m.trains.length + 1) * 4) = (trows (m.trains ++ [t])).flatten ∧ St w0 w ((bA, blk 63 csA) :: (bz6, blk 26 (m.cells p)) :: (bz5, blk 26 [.slice p.ar m.rooms.length p.cr, .slice p.az m.shops.length p.cs, .slice (some ⟨bA, 0, none⟩) (m.trains.length + 1) capA]) :: (b6, blk 65 [.int .i64 t.room, .int .i64 t.shop, .int .i64 t.days, .int .i64 t.cap, .int .u8 e0, .int .u8 e1, .int .u8 e2, .int .u8 e3, .int .u8 e4, .int .u8 e5, .int .u8 e6]) :: (b3, blk 26 (m.cells p)) :: F)) (fun K52 hC51 => ?_) ?_
    ·
     refine w_drawT (C := fun w => St w0 w _) [9] (.two [(1, 0), (2, 1), (4, 0), (5, 1)] 0 6 (.two [] 3 6 (.done [(6, 2), (7, 2), (8, 0), (9, 3)]) (.done [(3, 2), (7, 2), (8, 0), (9, 3)])) (.done [(0, 2), (3, 2), (7, 2), (8, 0), (9, 3)])) Try_mo (by kernel_rfl) hs (fun _ h => h.drew) (fun w53 hs54 => ?_)
     refine dt_two ?_
     refine d_any rfl want_none rfl (fun _ => (y_fieldAddr (o := 2) (i := 2) Try.underlying26 rfl Try.sizeOf24 rfl rfl rfl)) ?_
     refine d_take rfl want_none rfl hs54 (fun _ hq => (y_load1 Try.isAgg24 hq rfl rfl (ats_own (i := 3) (vs := [_]) rfl rfl))) ?_
     refine d_any rfl want_none rfl (fun _ => (y_fieldAddr (o := 0) (i := 0) Try.underlying65 rfl Try.sizeOf63 rfl rfl rfl)) ?_
     refine d_take rfl want_none rfl hs54 (fun _ hq => (y_loadN (vs := [_, _, _, _]) Try.isAgg63 Try.sizeOf63 hq rfl rfl (ats_own (i := 2) (vs := [_, _, _, _]) rfl rfl))) ?_
     refine d_two rfl rfl ?_ ?_
     ·
      refine w_bslice (ps := []) (pv := []) (cs := []) want_none rfl rfl (fun w => Try_Zl_fb6  w) hs54 (fun b55 w56 hs57 => ?_)
      refine w_nil ?_
      refine qn ⟨hs57.tail, ?_⟩
      refine dt_two ?_
      refine d_two rfl rfl ?_ ?_
      ·
       refine w_append (X := ([])) (B := [_]) (rows := trows m.trains) (sz := 4) (bytes := 32) want_none Try.underlying24 Try_info63 rfl rfl rfl rfl rfl rfl rfl rfl rfl hs57 own_made hm.t.cons.cons.cons.cons.cons (by simp [trows]) hnT (trows_one _) (by simp only [maxLen]; omega) (by omega) (fun v58 w59 B60 ho61 hs62 => ?_)
       replace hs62 := (show St _ _ (B60 ++ (_ :: _ :: _ :: _ :: F)) from hs62)
       refine w_nil ?_
       refine qn ⟨hs62.drop, ?_⟩
       refine dt_done ?_
       refine d_eff rfl ?_
       refine w_bslice (ps := [(0, _)]) (pv := [(0, .agg #[.int _ _, .int _ _, .int _ _, .int _ _])]) (cs := [_, _, _, _]) want_none rfl rfl (fun w => Try_Zl_fb7 _ _ _ _ w) hs62 (fun b63 w64 hs65 => ?_)
       refine w_nil ?_
       refine qn ⟨hs65.tail.drop, ?_⟩
       refine d_eff rfl ?_
       refine w_append (X := (_ :: [])) (B := B60) (rows := [[_, _, _, _]]) (sz := 4) (bytes := 32) want_none Try.underlying24 Try_info63 rfl rfl rfl rfl rfl rfl rfl rfl rfl hs65 ho61 (sl_own (i := 0) rfl (by simp) rfl) rfl (by simp) (by simp [Value.oneCell']) (by simp only [maxLen]; omega) (by omega) (fun v66 w67 B68 ho69 hs70 => ?_)
       replace hs70 := (show St _ _ (_ :: B68 ++ (_ :: _ :: _ :: _ :: F)) from hs70)
       refine w_nil ?_
       refine qn ⟨hs70.tail.drop, ?_⟩
       have hA : Rt.Own v66 63 4 (m.trains.length + 1) (trows (m.trains ++ [t])).flatten B68 := by
         have h9 := ho69
         rw [Nat.zero_add] at h9
         have e : (trows (m.trains ++ [t])).flatten = [] ++ (trows m.trains).flatten ++ [[Value.int .i64 t.room, .int .i64 t.shop, .int .i64 t.days, .int .i64 t.cap]].flatten := by simp [trows, Train.cells]
         rw [e]; exact h9
       obtain ⟨bA, capA, csA, rfl, hBA, hA1, hA2, hA3, hA4⟩ := own_some hA (by omega)
       subst hBA
       replace hs70 := (show St _ _ (_ :: _ :: _ :: _ :: _ :: _ :: F) from hs70)
       refine d_any rfl want_none rfl (fun _ => (y_fieldAddr (o := 2) (i := 2) Try.underlying26 rfl Try.sizeOf24 rfl rfl rfl)) ?_
       refine d_late rfl ?_
       refine w_store (i := 3) (v := .slice _ _ _) (vs := [_]) want_none Try.sizeOf24 rfl rfl rfl rfl rfl (by simp [Value.oneCell']) hs70 rfl (Nat.le_of_ble_eq_true rfl) (fun w71 hs72 => ?_)
       refine w_nil ?_
       refine qn ?_
       refine d_nil ?_
       refine q_then (hC51 _ _ (Md.intro (by repeat (first | exact agree_refl | exact agree_mix | refine agree_upd rfl ?_ | refine agree_updL rfl ?_ _ | refine agree_mixin rfl ?_)) ?_))
       first
         | exact ⟨bA, capA, csA, rfl, hA1, hA4, hs72.tail⟩
         | exact ⟨bA, capA, csA, rfl, hA1, hA4, drop_2nd (show St _ _ (_ :: _ :: _) from hs72)⟩
      ·
       refine w_bslice (ps := [(0, _)]) (pv := [(0, .agg #[.int _ _, .int _ _, .int _ _, .int _ _])]) (cs := [_, _, _, _]) want_none rfl rfl (fun w => Try_Zl_fb7 _ _ _ _ w) hs57 (fun b73 w74 hs75 => ?_)
       refine w_nil ?_
       refine qn ⟨hs75.tail.tail, ?_⟩
       refine dt_done ?_
       refine d_eff rfl ?_
       refine w_append (X := (_ :: [])) (B := [_]) (rows := trows m.trains) (sz := 4) (bytes := 32) want_none Try.underlying24 Try_info63 rfl rfl rfl rfl rfl rfl rfl rfl rfl hs75 own_made hm.t.cons.cons.cons.cons.cons.cons (by simp [trows]) hnT (trows_one _) (by simp only [maxLen]; omega) (by omega) (fun v76 w77 B78 ho79 hs80 => ?_)
       replace hs80 := (show St _ _ (_ :: B78 ++ (_ :: _ :: _ :: _ :: F)) from hs80)
       refine w_nil ?_
       refine qn ⟨hs80.tail.drop, ?_⟩
       refine d_eff rfl ?_
       refine w_append (X := (_ :: [])) (B := B78) (rows := [[_, _, _, _]]) (sz := 4) (bytes := 32) want_none Try.underlying24 Try_info63 rfl rfl rfl rfl rfl rfl rfl rfl rfl hs80 ho79 (sl_own (i := 0) rfl (by simp) rfl) rfl (by simp) (by simp [Value.oneCell']) (by simp only [maxLen]; omega) (by omega) (fun v81 w82 B83 ho84 hs85 => ?_)
       replace hs85 := (show St _ _ (_ :: B83 ++ (_ :: _ :: _ :: _ :: F)) from hs85)
       refine w_nil ?_
       refine qn ⟨hs85.tail.drop, ?_⟩
       have hA : Rt.Own v81 63 4 (m.trains.length + 1) (trows (m.trains ++ [t])).flatten B83 := by
         have h9 := ho84
         rw [Nat.zero_add] at h9
         have e : (trows (m.trains ++ [t])).flatten = [] ++ (trows m.trains).flatten ++ [[Value.int .i64 t.room, .int .i64 t.shop, .int .i64 t.days, .int .i64 t.cap]].flatten := by simp [trows, Train.cells]
         rw [e]; exact h9
       obtain ⟨bA, capA, csA, rfl, hBA, hA1, hA2, hA3, hA4⟩ := own_some hA (by omega)
       subst hBA
       replace hs85 := (show St _ _ (_ :: _ :: _ :: _ :: _ :: _ :: F) from hs85)
       refine d_any rfl want_none rfl (fun _ => (y_fieldAddr (o := 2) (i := 2) Try.underlying26 rfl Try.sizeOf24 rfl rfl rfl)) ?_
       refine d_late rfl ?_
       refine w_store (i := 3) (v := .slice _ _ _) (vs := [_]) want_none Try.sizeOf24 rfl rfl rfl rfl rfl (by simp [Value.oneCell']) hs85 rfl (Nat.le_of_ble_eq_true rfl) (fun w86 hs87 => ?_)
       refine w_nil ?_
       refine qn ?_
       refine d_nil ?_
       refine q_then (hC51 _ _ (Md.intro (by repeat (first | exact agree_refl | exact agree_mix | refine agree_upd rfl ?_ | refine agree_updL rfl ?_ _ | refine agree_mixin rfl ?_)) ?_))
       first
         | exact ⟨bA, capA, csA, rfl, hA1, hA4, hs87.tail⟩
         | exact ⟨bA, capA, csA, rfl, hA1, hA4, drop_2nd (show St _ _ (_ :: _ :: _) from hs87)⟩
     ·
      refine w_bslice (ps := [(0, _)]) (pv := [(0, .agg #[.int _ _, .int _ _, .int _ _, .int _ _])]) (cs := [_, _, _, _]) want_none rfl rfl (fun w => Try_Zl_fb7 _ _ _ _ w) hs54 (fun b88 w89 hs90 => ?_)
      refine w_nil ?_
      refine qn ⟨hs90.tail, ?_⟩
      refine dt_done ?_
      refine d_eff rfl ?_
      refine w_bslice (ps := []) (pv := []) (cs := []) want_none rfl rfl (fun w => Try_Zl_fb6  w) hs90 (fun b91 w92 hs93 => ?_)
      refine w_nil ?_
      refine qn ⟨hs93.tail.tail, ?_⟩
      refine d_eff rfl ?_
      refine w_append (X := ([])) (B := [_]) (rows := trows m.trains) (sz := 4) (bytes := 32) want_none Try.underlying24 Try_info63 rfl rfl rfl rfl rfl rfl rfl rfl rfl hs93 own_made hm.t.cons.cons.cons.cons.cons.cons (by simp [trows]) hnT (trows_one _) (by simp only [maxLen]; omega) (by omega) (fun v94 w95 B96 ho97 hs98 => ?_)
      replace hs98 := (show St _ _ (B96 ++ (_ :: _ :: _ :: _ :: _ :: F)) from hs98)
      refine w_nil ?_
      refine qn ⟨hs98.drop.tail, ?_⟩
      refine d_eff rfl ?_
      refine w_append (X := ([])) (B := B96) (rows := [[_, _, _, _]]) (sz := 4) (bytes := 32) want_none Try.underlying24 Try_info63 rfl rfl rfl rfl rfl rfl rfl rfl rfl hs98 ho97 (show Sl _ (B96 ++ _) _ _ _ from Sl.app (sl_own (i := 0) rfl (by simp) rfl)) rfl (by simp) (by simp [Value.oneCell']) (by simp only [maxLen]; omega) (by omega) (fun v99 w100 B101 ho102 hs103 => ?_)
      replace hs103 := (show St _ _ (B101 ++ (_ :: _ :: _ :: _ :: _ :: F)) from hs103)
      refine w_nil ?_
      refine qn ⟨hs103.drop.tail, ?_⟩
      have hA : Rt.Own v99 63 4 (m.trains.length + 1) (trows (m.trains ++ [t])).flatten B101 := by
        have h9 := ho102
        rw [Nat.zero_add] at h9
        have e : (trows (m.trains ++ [t])).flatten = [] ++ (trows m.trains).flatten ++ [[Value.int .i64 t.room, .int .i64 t.shop, .int .i64 t.days, .int .i64 t.cap]].flatten := by simp [trows, Train.cells]
        rw [e]; exact h9
      obtain ⟨bA, capA, csA, rfl, hBA, hA1, hA2, hA3, hA4⟩ := own_some hA (by omega)
      subst hBA
      replace hs103 := (show St _ _ (_ :: _ :: _ :: _ :: _ :: _ :: F) from hs103)
      refine d_any rfl want_none rfl (fun _ => (y_fieldAddr (o := 2) (i := 2) Try.underlying26 rfl Try.sizeOf24 rfl rfl rfl)) ?_
      refine d_late rfl ?_
      refine w_store (i := 3) (v := .slice _ _ _) (vs := [_]) want_none Try.sizeOf24 rfl rfl rfl rfl rfl (by simp [Value.oneCell']) hs103 rfl (Nat.le_of_ble_eq_true rfl) (fun w104 hs105 => ?_)
      refine w_nil ?_
      refine qn ?_
      refine d_nil ?_
      refine q_then (hC51 _ _ (Md.intro (by repeat (first | exact agree_refl | exact agree_mix | refine agree_upd rfl ?_ | refine agree_updL rfl ?_ _ | refine agree_mixin rfl ?_)) ?_))
      first
        | exact ⟨bA, capA, csA, rfl, hA1, hA4, hs105.tail⟩
        | exact ⟨bA, capA, csA, rfl, hA1, hA4, drop_2nd (show St _ _ (_ :: _ :: _) from hs105)⟩
    ·
     intro vs μ w106 hM
     obtain ⟨bA, capA, csA, rfl, hA1, hA4, hs⟩ := hM
     refine q_then (hK49 _ _ ?_)
     refine w_seq (fun K108 hK107 => ?_)
     refine w_region ?_
     refine w_bslice (ps := []) (pv := []) (cs := []) want_none rfl rfl (fun w => Try_Zl_fb6  w) hs (fun b109 w110 hs111 => ?_)
     refine w_pure want_none (y_fieldAddr (o := 2) (i := 2) Try.underlying26 rfl Try.sizeOf24 rfl rfl rfl) rfl ?_
     refine w_pure want_none (y_load1 Try.isAgg24 hs111 rfl rfl (ats_own (i := 5) (vs := [_]) rfl rfl)) rfl ?_
     refine w_append (X := ([])) (B := [_]) (rows := trows m.trains) (sz := 4) (bytes := 32) want_none Try.underlying24 Try_info63 rfl rfl rfl rfl rfl rfl rfl rfl rfl hs111 own_made hm.t.cons.cons.cons.cons.cons.cons (by simp [trows, srows, rrows]) hnT (trows_one _) (by simp only [maxLen]; omega) (by omega) (fun v112 w113 B114 ho115 hs116 => ?_)
     replace hs116 := (show St _ _ (B114 ++ (_ :: _ :: _ :: _ :: _ :: F)) from hs116)
     have hoT := ho115
     rw [Nat.zero_add, List.nil_append] at hoT
     obtain ⟨aT, cT, rfl⟩ := hoT.slice
     replace hs116 := rot5 (show St _ _ (B114 ++ (_ :: _ :: _ :: _ :: _ :: _)) from hs116)
     refine w_pure want_none (y_fieldAddr (o := 2) (i := 2) Try.underlying26 rfl Try.sizeOf24 rfl rfl rfl) rfl ?_
     refine w_store (i := 1) (v := .slice _ _ _) (vs := [_]) want_none Try.sizeOf24 rfl rfl rfl rfl rfl (by simp [Value.oneCell']) hs116 rfl (Nat.le_of_ble_eq_true rfl) (fun w117 hs118 => ?_)
     refine w_nil ?_
     refine q_then (hK107 _ _ ?_)
     refine w_seq (fun K120 hK119 => ?_)
     refine w_region ?_
     refine w_bslice (ps := []) (pv := []) (cs := []) want_none rfl rfl (fun w => Try_Zl_fb8  w) hs118 (fun b121 w122 hs123 => ?_)
     refine w_pure want_none (y_fieldAddr (o := 1) (i := 1) Try.underlying26 rfl Try.sizeOf23 rfl rfl rfl) rfl ?_
     refine w_pure want_none (y_load1 Try.isAgg23 hs123 rfl rfl (ats_own (i := 5) (vs := [_]) rfl rfl)) rfl ?_
     refine w_append (X := ([])) (B := [_]) (rows := srows m.shops) (sz := 3) (bytes := 32) want_none Try.underlying23 Try_info52 rfl rfl rfl rfl rfl rfl rfl rfl rfl hs123 own_made hm.s.app.cons.cons.cons.cons.cons.cons (by simp [trows, srows, rrows]) hnS (srows_one _) (by simp only [maxLen]; omega) (by omega) (fun v124 w125 B126 ho127 hs128 => ?_)
     replace hs128 := (show St _ _ (B126 ++ (_ :: _ :: _ :: _ :: _ :: B114 ++ (F))) from hs128)
     have hoS := ho127
     rw [Nat.zero_add, List.nil_append] at hoS
     obtain ⟨aS, cS, rfl⟩ := hoS.slice
     replace hs128 := rot5 (show St _ _ (B126 ++ (_ :: _ :: _ :: _ :: _ :: _)) from hs128)
     refine w_pure want_none (y_fieldAddr (o := 1) (i := 1) Try.underlying26 rfl Try.sizeOf23 rfl rfl rfl) rfl ?_
     refine w_store (i := 1) (v := .slice _ _ _) (vs := [_]) want_none Try.sizeOf23 rfl rfl rfl rfl rfl (by simp [Value.oneCell']) hs128 rfl (Nat.le_of_ble_eq_true rfl) (fun w129 hs130 => ?_)
     refine w_nil ?_
     refine q_then (hK119 _ _ ?_)
     refine w_seq (fun K132 hK131 => ?_)
     refine w_region ?_
     refine w_bslice (ps := []) (pv := []) (cs := []) want_none rfl rfl (fun w => Try_Zl_fb10  w) hs130 (fun b133 w134 hs135 => ?_)
     refine w_pure want_none (y_fieldAddr (o := 0) (i := 0) Try.underlying26 rfl Try.sizeOf22 rfl rfl rfl) rfl ?_
     refine w_pure want_none (y_load1 Try.isAgg22 hs135 rfl rfl (ats_own (i := 5) (vs := [_]) rfl rfl)) rfl ?_
     refine w_append (X := ([])) (B := [_]) (rows := rrows m.rooms) (sz := 5) (bytes := 48) want_none Try.underlying22 Try_info69 rfl rfl rfl rfl rfl rfl rfl rfl rfl hs135 own_made hm.r.app.app.cons.cons.cons.cons.cons.cons (by simp [trows, srows, rrows]) hnR (rrows_one _) (by simp only [maxLen]; omega) (by omega) (fun v136 w137 B138 ho139 hs140 => ?_)
     replace hs140 := (show St _ _ (B138 ++ (_ :: _ :: _ :: _ :: _ :: B126 ++ (B114 ++ (F)))) from hs140)
     have hoR := ho139
     rw [Nat.zero_add, List.nil_append] at hoR
     obtain ⟨aR, cR, rfl⟩ := hoR.slice
     replace hs140 := rot5 (show St _ _ (B138 ++ (_ :: _ :: _ :: _ :: _ :: _)) from hs140)
     refine w_pure want_none (y_fieldAddr (o := 0) (i := 0) Try.underlying26 rfl Try.sizeOf22 rfl rfl rfl) rfl ?_
     refine w_store (i := 1) (v := .slice _ _ _) (vs := [_]) want_none Try.sizeOf22 rfl rfl rfl rfl rfl (by simp [Value.oneCell']) hs140 rfl (Nat.le_of_ble_eq_true rfl) (fun w141 hs142 => ?_)
     refine w_nil ?_
     refine q_then (hK131 _ _ ?_)
     refine w_seq (fun K144 hK143 => ?_)
     refine w_cut [7, 8, 55, 56, 57, 58, 59, 60, 61, 62, 63, 64, 65, 66, 67, 68, 69, 70, 71, 72, 73, 74, 75, 76, 77, 78, 79, 80, 81, 82, 83, 84] [] (fun vs w => vs = [] ∧ ∃ B' : List (Nat × Obj), Rt.Own (.slice aT m.trains.length cT) 63 4 m.trains.length (trows (modL (moreT (e0 % 8)) m.trains ((e4 % (m.trains.length : Int)).toNat))).flatten B' ∧ St w0 w ((bA, blk 63 csA) :: (bz6, blk 26 [.slice aR m.rooms.length cR, .slice aS m.shops.length cS, .slice aT m.trains.length cT]) :: (bz5, blk 26 [.slice p.ar m.rooms.length p.cr, .slice p.az m.shops.length p.cs, .slice (some ⟨bA, 0, none⟩) (m.trains.length + 1) capA]) :: (b6, blk 65 [.int .i64 t.room, .int .i64 t.shop, .int .i64 t.days, .int .i64 t.cap, .int .u8 e0, .int .u8 e1, .int .u8 e2, .int .u8 e3, .int .u8 e4, .int .u8 e5, .int .u8 e6]) :: (b3, blk 26 (m.cells p)) :: (B138 ++ (B126 ++ (B' ++ (F)))))) (fun K146 hC145 => ?_) ?_
     ·
      refine w_seq (fun K148 hK147 => ?_)
      refine w_region ?_
      refine w_pure want_none (y_fieldAddr (o := 2) (i := 2) Try.underlying26 rfl Try.sizeOf24 rfl rfl rfl) rfl ?_
      refine w_pure want_none (y_load1 Try.isAgg24 hs142 rfl rfl (ats_own (i := 1) (vs := [_]) rfl rfl)) rfl ?_
      refine w_pure want_none (y_lenS Try.underlying24 rfl rfl) rfl ?_
      refine w_pure want_none (y_gtr rfl rfl rfl rfl) rfl ?_
      refine w_nil ?_
      refine q_then (hK147 _ _ ?_)
      refine w_cond rfl rfl (fun h149 => ?_) (fun h149 => ?_)
      ·
       try simp only [Bool.not_eq_true', Bool.not_eq_false', decide_eq_true_eq, decide_eq_false_iff_not, Int.not_lt, Int.not_le] at h149
       refine w_seq (fun K151 hK150 => ?_)
       obtain ⟨bT, capT, csT, hvT, hBT, h1T, h2T, h3T, h4T⟩ := own_some hoT (by omega)
       injection hvT with ev1 ev2 ev3
       subst ev1 ev3 hBT
       replace hs142 := (show St _ _ (_ :: _ :: _) from br3 (X := [(bT, blk 63 csT)]) hs142)
       have hm0 := Int.emod_nonneg e4 (show (m.trains.length : Int) ≠ 0 by omega)
       have hm1 := Int.emod_lt_of_pos e4 (show 0 < (m.trains.length : Int) by omega)
       obtain ⟨qT, hqT⟩ : ∃ q : Nat, e4 % (m.trains.length : Int) = (q : Int) := ⟨(e4 % (m.trains.length : Int)).toNat, by omega⟩
       have hq2T : qT < m.trains.length := by omega
       obtain ⟨bxT, oxT, hbxT, hrowT⟩ := sl_trows (sl_own_trows (w0 := w0) (L := [(bT, blk 63 csT)]) (i := 0) rfl rfl h4T) hq2T
       cases hbxT
       refine w_region ?_
       refine w_pure want_none (y_fieldAddr (o := 8) (i := 5) Try.underlying65 rfl Try.sizeOf5 rfl rfl rfl) rfl ?_
       refine w_pure want_none (y_load1 Try.isAgg5 hs142 rfl rfl (ats_own (i := 4) (vs := [_]) rfl rfl)) rfl ?_
       refine w_pure want_none (y_u8int (by rw [Try.underlying5]; rfl) Try.underlying3 rfl rfl (by omega) (by omega)) rfl ?_
       refine w_pure want_none (y_fieldAddr (o := 2) (i := 2) Try.underlying26 rfl Try.sizeOf24 rfl rfl rfl) rfl ?_
       refine w_pure want_none (y_load1 Try.isAgg24 hs142 rfl rfl (ats_own (i := 2) (vs := [_]) rfl rfl)) rfl ?_
       refine w_pure want_none (y_lenS Try.underlying24 rfl rfl) rfl ?_
       refine w_pure want_none (y_rem rfl rfl rfl rfl (by omega) (by omega)) rfl ?_
       refine w_pure want_none (y_assign (v := .int _ _) rfl rfl) rfl ?_
       refine w_nil ?_
       refine q_then (hK150 _ _ ?_)
       refine w_seq (fun K153 hK152 => ?_)
       have htb := hok.train _ (List.getElem_mem hq2T)
       refine w_region ?_
       refine w_pure want_none (y_fieldAddr (o := 2) (i := 2) Try.underlying26 rfl Try.sizeOf24 rfl rfl rfl) rfl ?_
       refine w_pure want_none (y_load1 Try.isAgg24 hs142 rfl rfl (ats_own (i := 2) (vs := [_]) rfl rfl)) rfl ?_
       refine w_pure want_none (y_move (v := .int _ _) rfl rfl) rfl ?_
       refine w_pure want_none (y_indexS Try.underlying24 Try.sizeOf63 rfl rfl rfl rfl (i := qT) (by omega) (by omega)) rfl ?_
       refine w_pure want_none (y_loadN (vs := [_, _, _, _]) Try.isAgg63 Try.sizeOf63 hs142 rfl rfl hrowT.top) rfl ?_
       refine w_alloc (cs := [_, _, _, _]) want_none Try.zeroValue63 rfl hs142 (fun b154 w155 hs156 => ?_)
       refine w_store (i := 0) (v := .agg #[.int _ _, .int _ _, .int _ _, .int _ _]) (vs := [_, _, _, _]) want_none Try.sizeOf63 rfl rfl rfl rfl rfl (by simp [Value.oneCell']) hs156 rfl (Nat.le_of_ble_eq_true rfl) (fun w157 hs158 => ?_)
       refine w_nil ?_
       refine q_then (hK152 _ _ ?_)
       refine w_seq (fun K160 hK159 => ?_)
       refine w_region ?_
       refine w_pure want_none (y_fieldAddr (o := 3) (i := 3) Try.underlying63 rfl Try.sizeOf3 rfl rfl rfl) rfl ?_
       refine w_pure want_none (y_load1 Try.isAgg3 hs158 rfl rfl (ats_own (i := 0) (vs := [_]) rfl rfl)) rfl ?_
       refine w_pure want_none (y_fieldAddr (o := 4) (i := 1) Try.underlying65 rfl Try.sizeOf5 rfl rfl rfl) rfl ?_
       refine w_pure want_none (y_load1 Try.isAgg5 hs158 rfl rfl (ats_own (i := 5) (vs := [_]) rfl rfl)) rfl ?_
       refine w_pure want_none (y_u8int (by rw [Try.underlying5]; rfl) Try.underlying3 rfl rfl (by omega) (by omega)) rfl ?_
       refine w_pure want_none (y_rem rfl rfl rfl rfl (by omega) (by omega)) rfl ?_
       refine w_pure want_none (y_add rfl rfl rfl rfl (by omega) (by omega)) rfl ?_
       refine w_pure want_none (y_min2 rfl rfl rfl rfl) rfl ?_
       refine w_pure want_none (y_fieldAddr (o := 3) (i := 3) Try.underlying63 rfl Try.sizeOf3 rfl rfl rfl) rfl ?_
       refine w_store (i := 0) (v := .int _ _) (vs := [_]) want_none Try.sizeOf3 rfl rfl rfl rfl rfl (by simp [Value.oneCell']) hs158 rfl (Nat.le_of_ble_eq_true rfl) (fun w161 hs162 => ?_)
       refine w_nil ?_
       refine q_then (hK159 _ _ ?_)
       refine w_region ?_
       refine w_pure want_none (y_fieldAddr (o := 2) (i := 2) Try.underlying26 rfl Try.sizeOf24 rfl rfl rfl) rfl ?_
       refine w_pure want_none (y_load1 Try.isAgg24 hs162 rfl rfl (ats_own (i := 3) (vs := [_]) rfl rfl)) rfl ?_
       refine w_pure want_none (y_move (v := .int _ _) rfl rfl) rfl ?_
       refine w_pure want_none (y_loadN (vs := [_, _, _, _]) Try.isAgg63 Try.sizeOf63 hs162 rfl rfl (ats_own (i := 0) (vs := [_, _, _, _]) rfl rfl)) rfl ?_
       refine w_pure want_none (y_indexS Try.underlying24 Try.sizeOf63 rfl rfl rfl rfl (i := qT) (by omega) (by omega)) rfl ?_
       refine w_store (i := 1) (v := .agg #[_, _, _, _]) (vs := [_, _, _, _]) want_none Try.sizeOf63 rfl rfl rfl rfl rfl (by simp [Value.oneCell']) hs162 rfl (show 0 + qT * 4 + 4 ≤ csT.length by omega) (fun w163 hs164 => ?_)
       replace hs164 := (show St _ _ (_ :: (bT, blk 63 (setMany csT (qT * 4) (moreT (e0 % 8) (m.trains[qT]'hq2T)).cells)) :: _ :: _ :: _ :: _ :: _ :: B138 ++ (B126 ++ (F))) from (by have h6 := hs164; simp only [Nat.zero_add] at h6; exact h6))
       refine w_nil ?_
       refine q_then (hC145 _ _ (Md.intro (by repeat (first | exact agree_refl | exact agree_mix | refine agree_upd rfl ?_ | refine agree_updL rfl ?_ _ | refine agree_mixin rfl ?_)) ?_))
       refine ⟨rfl, [(bT, _)], ?_, rt3 (X := [_]) hs164.tail⟩
       rw [show ((e4 % (m.trains.length : Int)).toNat) = qT from by rw [hqT]; rfl]
       exact own_mod (row := Train.cells) (fun _ => rfl) hq2T rfl h1T h2T (by rw [setMany_len]; exact h3T) h4T
      ·
       try simp only [Bool.not_eq_true', Bool.not_eq_false', decide_eq_true_eq, decide_eq_false_iff_not, Int.not_lt, Int.not_le] at h149
       refine w_skip ?_
       refine q_then (hC145 _ _ (Md.intro (by repeat (first | exact agree_refl | exact agree_mix | refine agree_upd rfl ?_ | refine agree_updL rfl ?_ _ | refine agree_mixin rfl ?_)) ?_))
       exact ⟨rfl, _, by rw [modL_nil (by omega)]; exact hoT, hs142⟩
     ·
      intro vs μ w165 hM
      clear hoT
      obtain ⟨rfl, BTz, hoT, hs⟩ := hM
      refine q_then (hK143 _ _ ?_)
      refine w_seq (fun K167 hK166 => ?_)
      refine w_cut [9, 10, 85, 86, 87, 88, 89, 90, 91, 92, 93, 94, 95, 96, 97, 98, 99, 100, 101, 102, 103, 104, 105, 106, 107, 108, 109, 110, 111, 112, 113, 114] [] (fun vs w => vs = [] ∧ ∃ B' : List (Nat × Obj), Rt.Own (.slice aS m.shops.length cS) 52 3 m.shops.length (srows (modL (lessW (e1 % 8)) m.shops ((e5 % (m.shops.length : Int)).toNat))).flatten B' ∧ St w0 w ((bA, blk 63 csA) :: (bz6, blk 26 [.slice aR m.rooms.length cR, .slice aS m.shops.length cS, .slice aT m.trains.length cT]) :: (bz5, blk 26 [.slice p.ar m.rooms.length p.cr, .slice p.az m.shops.length p.cs, .slice (some ⟨bA, 0, none⟩) (m.trains.length + 1) capA]) :: (b6, blk 65 [.int .i64 t.room, .int .i64 t.shop, .int .i64 t.days, .int .i64 t.cap, .int .u8 e0, .int .u8 e1, .int .u8 e2, .int .u8 e3, .int .u8 e4, .int .u8 e5, .int .u8 e6]) :: (b3, blk 26 (m.cells p)) :: (B138 ++ (B' ++ (BTz ++ (F)))))) (fun K169 hC168 => ?_) ?_
      ·
       refine w_seq (fun K171 hK170 => ?_)
       refine w_region ?_
       refine w_pure want_none (y_fieldAddr (o := 1) (i := 1) Try.underlying26 rfl Try.sizeOf23 rfl rfl rfl) rfl ?_
       refine w_pure want_none (y_load1 Try.isAgg23 hs rfl rfl (ats_own (i := 1) (vs := [_]) rfl rfl)) rfl ?_
       refine w_pure want_none (y_lenS Try.underlying23 rfl rfl) rfl ?_
       refine w_pure want_none (y_gtr rfl rfl rfl rfl) rfl ?_
       refine w_nil ?_
       refine q_then (hK170 _ _ ?_)
       refine w_cond rfl rfl (fun h172 => ?_) (fun h172 => ?_)
       ·
        try simp only [Bool.not_eq_true', Bool.not_eq_false', decide_eq_true_eq, decide_eq_false_iff_not, Int.not_lt, Int.not_le] at h172
        refine w_seq (fun K174 hK173 => ?_)
        obtain ⟨bS, capS, csS, hvS, hBS, h1S, h2S, h3S, h4S⟩ := own_some hoS (by omega)
        injection hvS with ev1 ev2 ev3
        subst ev1 ev3 hBS
        replace hs := (show St _ _ (_ :: _ :: _) from br2 (X := [(bS, blk 52 csS)]) hs)
        have hm0 := Int.emod_nonneg e5 (show (m.shops.length : Int) ≠ 0 by omega)
        have hm1 := Int.emod_lt_of_pos e5 (show 0 < (m.shops.length : Int) by omega)
        obtain ⟨qS, hqS⟩ : ∃ q : Nat, e5 % (m.shops.length : Int) = (q : Int) := ⟨(e5 % (m.shops.length : Int)).toNat, by omega⟩
        have hq2S : qS < m.shops.length := by omega
        obtain ⟨bxS, oxS, hbxS, hrowS⟩ := sl_srows (sl_own_srows (w0 := w0) (L := [(bS, blk 52 csS)]) (i := 0) rfl rfl h4S) hq2S
        cases hbxS
        refine w_region ?_
        refine w_pure want_none (y_fieldAddr (o := 9) (i := 6) Try.underlying65 rfl Try.sizeOf5 rfl rfl rfl) rfl ?_
        refine w_pure want_none (y_load1 Try.isAgg5 hs rfl rfl (ats_own (i := 4) (vs := [_]) rfl rfl)) rfl ?_
        refine w_pure want_none (y_u8int (by rw [Try.underlying5]; rfl) Try.underlying3 rfl rfl (by omega) (by omega)) rfl ?_
        refine w_pure want_none (y_fieldAddr (o := 1) (i := 1) Try.underlying26 rfl Try.sizeOf23 rfl rfl rfl) rfl ?_
        refine w_pure want_none (y_load1 Try.isAgg23 hs rfl rfl (ats_own (i := 2) (vs := [_]) rfl rfl)) rfl ?_
        refine w_pure want_none (y_lenS Try.underlying23 rfl rfl) rfl ?_
        refine w_pure want_none (y_rem rfl rfl rfl rfl (by omega) (by omega)) rfl ?_
        refine w_pure want_none (y_assign (v := .int _ _) rfl rfl) rfl ?_
        refine w_nil ?_
        refine q_then (hK173 _ _ ?_)
        refine w_seq (fun K176 hK175 => ?_)
        have hsb := hok.shop _ (List.getElem_mem hq2S)
        refine w_region ?_
        refine w_pure want_none (y_fieldAddr (o := 1) (i := 1) Try.underlying26 rfl Try.sizeOf23 rfl rfl rfl) rfl ?_
        refine w_pure want_none (y_load1 Try.isAgg23 hs rfl rfl (ats_own (i := 2) (vs := [_]) rfl rfl)) rfl ?_
        refine w_pure want_none (y_move (v := .int _ _) rfl rfl) rfl ?_
        refine w_pure want_none (y_indexS Try.underlying23 Try.sizeOf52 rfl rfl rfl rfl (i := qS) (by omega) (by omega)) rfl ?_
        refine w_pure want_none (y_loadN (vs := [_, _, _]) Try.isAgg52 Try.sizeOf52 hs rfl rfl hrowS.top) rfl ?_
        refine w_alloc (cs := [_, _, _]) want_none Try.zeroValue52 rfl hs (fun b177 w178 hs179 => ?_)
        refine w_store (i := 0) (v := .agg #[.string _, .int _ _, .int _ _]) (vs := [_, _, _]) want_none Try.sizeOf52 rfl rfl rfl rfl rfl (by simp [Value.oneCell']) hs179 rfl (Nat.le_of_ble_eq_true rfl) (fun w180 hs181 => ?_)
        refine w_nil ?_
        refine q_then (hK175 _ _ ?_)
        refine w_seq (fun K183 hK182 => ?_)
        refine w_region ?_
        refine w_pure want_none (y_fieldAddr (o := 2) (i := 2) Try.underlying52 rfl Try.sizeOf3 rfl rfl rfl) rfl ?_
        refine w_pure want_none (y_load1 Try.isAgg3 hs181 rfl rfl (ats_own (i := 0) (vs := [_]) rfl rfl)) rfl ?_
        refine w_pure want_none (y_fieldAddr (o := 5) (i := 2) Try.underlying65 rfl Try.sizeOf5 rfl rfl rfl) rfl ?_
        refine w_pure want_none (y_load1 Try.isAgg5 hs181 rfl rfl (ats_own (i := 5) (vs := [_]) rfl rfl)) rfl ?_
        refine w_pure want_none (y_u8int (by rw [Try.underlying5]; rfl) Try.underlying3 rfl rfl (by omega) (by omega)) rfl ?_
        refine w_pure want_none (y_rem rfl rfl rfl rfl (by omega) (by omega)) rfl ?_
        refine w_pure want_none (y_sub rfl rfl rfl rfl (by omega) (by omega)) rfl ?_
        refine w_pure want_none (y_max2 rfl rfl rfl rfl) rfl ?_
        refine w_pure want_none (y_fieldAddr (o := 2) (i := 2) Try.underlying52 rfl Try.sizeOf3 rfl rfl rfl) rfl ?_
        refine w_store (i := 0) (v := .int _ _) (vs := [_]) want_none Try.sizeOf3 rfl rfl rfl rfl rfl (by simp [Value.oneCell']) hs181 rfl (Nat.le_of_ble_eq_true rfl) (fun w184 hs185 => ?_)
        refine w_nil ?_
        refine q_then (hK182 _ _ ?_)
        refine w_region ?_
        refine w_pure want_none (y_fieldAddr (o := 1) (i := 1) Try.underlying26 rfl Try.sizeOf23 rfl rfl rfl) rfl ?_
        refine w_pure want_none (y_load1 Try.isAgg23 hs185 rfl rfl (ats_own (i := 3) (vs := [_]) rfl rfl)) rfl ?_
        refine w_pure want_none (y_move (v := .int _ _) rfl rfl) rfl ?_
        refine w_pure want_none (y_loadN (vs := [_, _, _]) Try.isAgg52 Try.sizeOf52 hs185 rfl rfl (ats_own (i := 0) (vs := [_, _, _]) rfl rfl)) rfl ?_
        refine w_pure want_none (y_indexS Try.underlying23 Try.sizeOf52 rfl rfl rfl rfl (i := qS) (by omega) (by omega)) rfl ?_
        refine w_store (i := 1) (v := .agg #[_, _, _]) (vs := [_, _, _]) want_none Try.sizeOf52 rfl rfl rfl rfl rfl (by simp [Value.oneCell']) hs185 rfl (show 0 + qS * 3 + 3 ≤ csS.length by omega) (fun w186 hs187 => ?_)
        replace hs187 := (show St _ _ (_ :: (bS, blk 52 (setMany csS (qS * 3) (lessW (e1 % 8) (m.shops[qS]'hq2S)).cells)) :: _ :: _ :: _ :: _ :: _ :: B138 ++ (BTz ++ (F))) from (by have h6 := hs187; simp only [Nat.zero_add] at h6; exact h6))
        refine w_nil ?_
        refine q_then (hC168 _ _ (Md.intro (by repeat (first | exact agree_refl | exact agree_mix | refine agree_upd rfl ?_ | refine agree_updL rfl ?_ _ | refine agree_mixin rfl ?_)) ?_))
        refine ⟨rfl, [(bS, _)], ?_, rt2 (X := [_]) hs187.tail⟩
        rw [show ((e5 % (m.shops.length : Int)).toNat) = qS from by rw [hqS]; rfl]
        exact own_mod (row := Shop.cells) (fun _ => rfl) hq2S rfl h1S h2S (by rw [setMany_len]; exact h3S) h4S
       ·
        try simp only [Bool.not_eq_true', Bool.not_eq_false', decide_eq_true_eq, decide_eq_false_iff_not, Int.not_lt, Int.not_le] at h172
        refine w_skip ?_
        refine q_then (hC168 _ _ (Md.intro (by repeat (first | exact agree_refl | exact agree_mix | refine agree_upd rfl ?_ | refine agree_updL rfl ?_ _ | refine agree_mixin rfl ?_)) ?_))
        exact ⟨rfl, _, by rw [modL_nil (by omega)]; exact hoS, hs⟩
      ·
       intro vs μ w188 hM
       clear hoS
       obtain ⟨rfl, BSz, hoS, hs⟩ := hM
       refine q_then (hK166 _ _ ?_)
       refine w_seq (fun K190 hK189 => ?_)
       refine w_cut [11, 12, 115, 116, 117, 118, 119, 120, 121, 122, 123, 124, 125, 126, 127, 128, 129, 130, 131, 132, 133, 134, 135, 136, 137, 138, 139, 140, 141, 142, 143, 144, 145, 146, 147, 148, 149, 150, 151, 152, 153] [] (fun vs w => vs = [] ∧ ∃ B' : List (Nat × Obj), Rt.Own (.slice aR m.rooms.length cR) 69 5 m.rooms.length (rrows (modL (wideR (e2 % 3) (e3 % 3)) m.rooms ((e6 % (m.rooms.length : Int)).toNat))).flatten B' ∧ St w0 w ((bA, blk 63 csA) :: (bz6, blk 26 [.slice aR m.rooms.length cR, .slice aS m.shops.length cS, .slice aT m.trains.length cT]) :: (bz5, blk 26 [.slice p.ar m.rooms.length p.cr, .slice p.az m.shops.length p.cs, .slice (some ⟨bA, 0, none⟩) (m.trains.length + 1) capA]) :: (b6, blk 65 [.int .i64 t.room, .int .i64 t.shop, .int .i64 t.days, .int .i64 t.cap, .int .u8 e0, .int .u8 e1, .int .u8 e2, .int .u8 e3, .int .u8 e4, .int .u8 e5, .int .u8 e6]) :: (b3, blk 26 (m.cells p)) :: (B' ++ (BSz ++ (BTz ++ (F)))))) (fun K192 hC191 => ?_) ?_
       ·
        refine w_seq (fun K194 hK193 => ?_)
        refine w_region ?_
        refine w_pure want_none (y_fieldAddr (o := 0) (i := 0) Try.underlying26 rfl Try.sizeOf22 rfl rfl rfl) rfl ?_
        refine w_pure want_none (y_load1 Try.isAgg22 hs rfl rfl (ats_own (i := 1) (vs := [_]) rfl rfl)) rfl ?_
        refine w_pure want_none (y_lenS Try.underlying22 rfl rfl) rfl ?_
        refine w_pure want_none (y_gtr rfl rfl rfl rfl) rfl ?_
        refine w_nil ?_
        refine q_then (hK193 _ _ ?_)
        refine w_cond rfl rfl (fun h195 => ?_) (fun h195 => ?_)
        ·
         try simp only [Bool.not_eq_true', Bool.not_eq_false', decide_eq_true_eq, decide_eq_false_iff_not, Int.not_lt, Int.not_le] at h195
         refine w_seq (fun K197 hK196 => ?_)
         obtain ⟨bR, capR, csR, hvR, hBR, h1R, h2R, h3R, h4R⟩ := own_some hoR (by omega)
         injection hvR with ev1 ev2 ev3
         subst ev1 ev3 hBR
         replace hs := (show St _ _ (_ :: _ :: _) from br1 (X := [(bR, blk 69 csR)]) hs)
         have hm0 := Int.emod_nonneg e6 (show (m.rooms.length : Int) ≠ 0 by omega)
         have hm1 := Int.emod_lt_of_pos e6 (show 0 < (m.rooms.length : Int) by omega)
         obtain ⟨qR, hqR⟩ : ∃ q : Nat, e6 % (m.rooms.length : Int) = (q : Int) := ⟨(e6 % (m.rooms.length : Int)).toNat, by omega⟩
         have hq2R : qR < m.rooms.length := by omega
         obtain ⟨bxR, oxR, hbxR, hrowR⟩ := sl_rrows (sl_own_rrows (w0 := w0) (L := [(bR, blk 69 csR)]) (i := 0) rfl rfl h4R) hq2R
         cases hbxR
         refine w_region ?_
         refine w_pure want_none (y_fieldAddr (o := 10) (i := 7) Try.underlying65 rfl Try.sizeOf5 rfl rfl rfl) rfl ?_
         refine w_pure want_none (y_load1 Try.isAgg5 hs rfl rfl (ats_own (i := 4) (vs := [_]) rfl rfl)) rfl ?_
         refine w_pure want_none (y_u8int (by rw [Try.underlying5]; rfl) Try.underlying3 rfl rfl (by omega) (by omega)) rfl ?_
         refine w_pure want_none (y_fieldAddr (o := 0) (i := 0) Try.underlying26 rfl Try.sizeOf22 rfl rfl rfl) rfl ?_
         refine w_pure want_none (y_load1 Try.isAgg22 hs rfl rfl (ats_own (i := 2) (vs := [_]) rfl rfl)) rfl ?_
         refine w_pure want_none (y_lenS Try.underlying22 rfl rfl) rfl ?_
         refine w_pure want_none (y_rem rfl rfl rfl rfl (by omega) (by omega)) rfl ?_
         refine w_pure want_none (y_assign (v := .int _ _) rfl rfl) rfl ?_
         refine w_nil ?_
         refine q_then (hK196 _ _ ?_)
         refine w_seq (fun K199 hK198 => ?_)
         have hrb := hok.room _ (List.getElem_mem hq2R)
         refine w_region ?_
         refine w_pure want_none (y_fieldAddr (o := 0) (i := 0) Try.underlying26 rfl Try.sizeOf22 rfl rfl rfl) rfl ?_
         refine w_pure want_none (y_load1 Try.isAgg22 hs rfl rfl (ats_own (i := 2) (vs := [_]) rfl rfl)) rfl ?_
         refine w_pure want_none (y_move (v := .int _ _) rfl rfl) rfl ?_
         refine w_pure want_none (y_indexS Try.underlying22 Try.sizeOf69 rfl rfl rfl rfl (i := qR) (by omega) (by omega)) rfl ?_
         refine w_pure want_none (y_loadN (vs := [_, _, _, _, _]) Try.isAgg69 Try.sizeOf69 hs rfl rfl hrowR.top) rfl ?_
         refine w_alloc (cs := [_, _, _, _, _]) want_none Try.zeroValue69 rfl hs (fun b200 w201 hs202 => ?_)
         refine w_store (i := 0) (v := .agg #[.string _, .int _ _, .int _ _, .int _ _, .int _ _]) (vs := [_, _, _, _, _]) want_none Try.sizeOf69 rfl rfl rfl rfl rfl (by simp [Value.oneCell']) hs202 rfl (Nat.le_of_ble_eq_true rfl) (fun w203 hs204 => ?_)
         refine w_nil ?_
         refine q_then (hK198 _ _ ?_)
         refine w_seq (fun K206 hK205 => ?_)
         refine w_drawD (C0 := fun w => St w0 w _) (C := fun w => ∃ c : Int, St w0 w ((b200, blk 69 [.string (m.rooms[qR]'hq2R).name, .int .i64 (m.rooms[qR]'hq2R).lo, .int .i64 (m.rooms[qR]'hq2R).hi, .int .i64 c, .int .i64 (m.rooms[qR]'hq2R).las]) :: (bR, blk 69 csR) :: (bA, blk 63 csA) :: (bz6, blk 26 [.slice (some ⟨bR, 0, none⟩) m.rooms.length cR, .slice aS m.shops.length cS, .slice aT m.trains.length cT]) :: (bz5, blk 26 [.slice p.ar m.rooms.length p.cr, .slice p.az m.shops.length p.cs, .slice (some ⟨bA, 0, none⟩) (m.trains.length + 1) capA]) :: (b6, blk 65 [.int .i64 t.room, .int .i64 t.shop, .int .i64 t.days, .int .i64 t.cap, .int .u8 e0, .int .u8 e1, .int .u8 e2, .int .u8 e3, .int .u8 e4, .int .u8 e5, .int .u8 e6]) :: (b3, blk 26 (m.cells p)) :: (BSz ++ (BTz ++ (F))))) [19] [(0, 0), (2, 0), (3, 1), (4, 0), (5, 0), (8, 0), (9, 1), (10, 0), (11, 1), (12, 0), (13, 0), (14, 0), (15, 0), (1, 2), (6, 0), (7, 0), (16, 0), (17, 2), (18, 0), (19, 3)] Try_mo (by kernel_rfl) hs204 (fun _ h => ⟨_, h⟩) (fun _ h => h.drew) (fun w207 hs208 => ?_)
         refine d_any rfl want_none rfl (fun _ => (y_fieldAddr (o := 3) (i := 2) Try.underlying69 rfl Try.sizeOf3 rfl rfl rfl)) ?_
         refine d_any rfl want_none rfl (fun _ => (y_fieldAddr (o := 6) (i := 3) Try.underlying65 rfl Try.sizeOf5 rfl rfl rfl)) ?_
         refine d_takeC rfl want_none rfl ⟨_, hs208⟩ (fun _ ⟨c21, hq⟩ => (y_load1 Try.isAgg5 hq rfl rfl (ats_own (i := 5) (vs := [_]) rfl rfl))) ?_
         refine d_any rfl want_none rfl (fun _ => (y_u8int (by rw [Try.underlying5]; rfl) Try.underlying3 rfl rfl (by omega) (by omega))) ?_
         refine d_any rfl want_none rfl (fun _ => (y_rem rfl rfl rfl rfl (by omega) (by omega))) ?_
         refine d_any rfl want_none rfl (fun _ => (y_fieldAddr (o := 4) (i := 3) Try.underlying69 rfl Try.sizeOf3 rfl rfl rfl)) ?_
         refine d_takeC rfl want_none rfl ⟨_, hs208⟩ (fun _ ⟨c21, hq⟩ => (y_load1 Try.isAgg3 hq rfl rfl (ats_own (i := 0) (vs := [_]) rfl rfl))) ?_
         refine d_any rfl want_none rfl (fun _ => (y_fieldAddr (o := 7) (i := 4) Try.underlying65 rfl Try.sizeOf5 rfl rfl rfl)) ?_
         refine d_takeC rfl want_none rfl ⟨_, hs208⟩ (fun _ ⟨c21, hq⟩ => (y_load1 Try.isAgg5 hq rfl rfl (ats_own (i := 5) (vs := [_]) rfl rfl))) ?_
         refine d_any rfl want_none rfl (fun _ => (y_u8int (by rw [Try.underlying5]; rfl) Try.underlying3 rfl rfl (by omega) (by omega))) ?_
         refine d_any rfl want_none rfl (fun _ => (y_rem rfl rfl rfl rfl (by omega) (by omega))) ?_
         refine d_any rfl want_none rfl (fun _ => (y_add rfl rfl rfl rfl (by omega) (by omega))) ?_
         refine d_any rfl want_none rfl (fun _ => (y_min2 rfl rfl rfl rfl)) ?_
         refine d_eff rfl ?_
         refine w_pure want_none (y_load1 Try.isAgg3 hs208 rfl rfl (ats_own (i := 0) (vs := [_]) rfl rfl)) rfl ?_
         refine w_nil ?_
         refine qn ⟨⟨_, hs208⟩, ?_⟩
         refine d_any rfl want_none rfl (fun _ => (y_sub rfl rfl rfl rfl (by omega) (by omega))) ?_
         refine d_any rfl want_none rfl (fun _ => (y_max2 rfl rfl rfl rfl)) ?_
         refine d_any rfl want_none rfl (fun _ => (y_fieldAddr (o := 3) (i := 2) Try.underlying69 rfl Try.sizeOf3 rfl rfl rfl)) ?_
         refine d_eff rfl ?_
         refine w_store (i := 0) (v := .int _ _) (vs := [_]) want_none Try.sizeOf3 rfl rfl rfl rfl rfl (by simp [Value.oneCell']) hs208 rfl (Nat.le_of_ble_eq_true rfl) (fun w209 hs210 => ?_)
         refine w_nil ?_
         refine qn ⟨⟨_, hs210⟩, ?_⟩
         refine d_any rfl want_none rfl (fun _ => (y_fieldAddr (o := 4) (i := 3) Try.underlying69 rfl Try.sizeOf3 rfl rfl rfl)) ?_
         refine d_late rfl ?_
         refine w_store (i := 0) (v := .int _ _) (vs := [_]) want_none Try.sizeOf3 rfl rfl rfl rfl rfl (by simp [Value.oneCell']) hs210 rfl (Nat.le_of_ble_eq_true rfl) (fun w211 hs212 => ?_)
         refine w_nil ?_
         refine qn ?_
         refine d_nil ?_
         refine q_then (hK205 _ _ ?_)
         refine w_region ?_
         refine w_pure want_none (y_fieldAddr (o := 0) (i := 0) Try.underlying26 rfl Try.sizeOf22 rfl rfl rfl) rfl ?_
         refine w_pure want_none (y_load1 Try.isAgg22 hs212 rfl rfl (ats_own (i := 3) (vs := [_]) rfl rfl)) rfl ?_
         refine w_pure want_none (y_move (v := .int _ _) rfl rfl) rfl ?_
         refine w_pure want_none (y_loadN (vs := [_, _, _, _, _]) Try.isAgg69 Try.sizeOf69 hs212 rfl rfl (ats_own (i := 0) (vs := [_, _, _, _, _]) rfl rfl)) rfl ?_
         refine w_pure want_none (y_indexS Try.underlying22 Try.sizeOf69 rfl rfl rfl rfl (i := qR) (by omega) (by omega)) rfl ?_
         refine w_store (i := 1) (v := .agg #[_, _, _, _, _]) (vs := [_, _, _, _, _]) want_none Try.sizeOf69 rfl rfl rfl rfl rfl (by simp [Value.oneCell']) hs212 rfl (show 0 + qR * 5 + 5 ≤ csR.length by omega) (fun w213 hs214 => ?_)
         replace hs214 := (show St _ _ (_ :: (bR, blk 69 (setMany csR (qR * 5) (wideR (e2 % 3) (e3 % 3) (m.rooms[qR]'hq2R)).cells)) :: _ :: _ :: _ :: _ :: _ :: BSz ++ (BTz ++ (F))) from (by have h6 := hs214; simp only [Nat.zero_add] at h6; exact h6))
         refine w_nil ?_
         refine q_then (hC191 _ _ (Md.intro (by repeat (first | exact agree_refl | exact agree_mix | refine agree_upd rfl ?_ | refine agree_updL rfl ?_ _ | refine agree_mixin rfl ?_)) ?_))
         refine ⟨rfl, [(bR, _)], ?_, rot5 (X := [_]) hs214.tail⟩
         rw [show ((e6 % (m.rooms.length : Int)).toNat) = qR from by rw [hqR]; rfl]
         exact own_mod (row := Room.cells) (fun _ => rfl) hq2R rfl h1R h2R (by rw [setMany_len]; exact h3R) h4R
        ·
         try simp only [Bool.not_eq_true', Bool.not_eq_false', decide_eq_true_eq, decide_eq_false_iff_not, Int.not_lt, Int.not_le] at h195
         refine w_skip ?_
         refine q_then (hC191 _ _ (Md.intro (by repeat (first | exact agree_refl | exact agree_mix | refine agree_upd rfl ?_ | refine agree_updL rfl ?_ _ | refine agree_mixin rfl ?_)) ?_))
         exact ⟨rfl, _, by rw [modL_nil (by omega)]; exact hoR, hs⟩
       ·
        intro vs μ w215 hM
        clear hoR
        obtain ⟨rfl, BRz, hoR, hs⟩ := hM
        refine q_then (hK189 _ _ ?_)
        refine w_seq (fun K217 hK216 => ?_)
        have hb2 : Ats w0 ((b3, blk 26 (m.cells p)) :: (BRz ++ (BSz ++ (BTz ++ (F))))) b3 0 (m.cells p) := ats_own (i := 0) (vs := m.cells p) rfl rfl
        have hb5 : Ats w0 ((bz5, blk 26 [.slice p.ar m.rooms.length p.cr, .slice p.az m.shops.length p.cs, .slice (some ⟨bA, 0, none⟩) (m.trains.length + 1) capA]) :: (b6, blk 65 [.int .i64 t.room, .int .i64 t.shop, .int .i64 t.days, .int .i64 t.cap, .int .u8 e0, .int .u8 e1, .int .u8 e2, .int .u8 e3, .int .u8 e4, .int .u8 e5, .int .u8 e6]) :: (b3, blk 26 (m.cells p)) :: (BRz ++ (BSz ++ (BTz ++ (F))))) bz5 0 [.slice p.ar m.rooms.length p.cr, .slice p.az m.shops.length p.cs, .slice (some ⟨bA, 0, none⟩) (m.trains.length + 1) capA] := ats_own (i := 0) (vs := [.slice p.ar m.rooms.length p.cr, .slice p.az m.shops.length p.cs, .slice (some ⟨bA, 0, none⟩) (m.trains.length + 1) capA]) rfl rfl
        have hb6 : Ats w0 ((bz6, blk 26 [.slice aR m.rooms.length cR, .slice aS m.shops.length cS, .slice aT m.trains.length cT]) :: (bz5, blk 26 [.slice p.ar m.rooms.length p.cr, .slice p.az m.shops.length p.cs, .slice (some ⟨bA, 0, none⟩) (m.trains.length + 1) capA]) :: (b6, blk 65 [.int .i64 t.room, .int .i64 t.shop, .int .i64 t.days, .int .i64 t.cap, .int .u8 e0, .int .u8 e1, .int .u8 e2, .int .u8 e3, .int .u8 e4, .int .u8 e5, .int .u8 e6]) :: (b3, blk 26 (m.cells p)) :: (BRz ++ (BSz ++ (BTz ++ (F))))) bz6 0 [.slice aR m.rooms.length cR, .slice aS m.shops.length cS, .slice aT m.trains.length cT] := ats_own (i := 0) (vs := [.slice aR m.rooms.length cR, .slice aS m.shops.length cS, .slice aT m.trains.length cT]) rfl rfl
        have hmA : MIn w0 ((bA, blk 63 csA) :: (bz6, blk 26 [.slice aR m.rooms.length cR, .slice aS m.shops.length cS, .slice aT m.trains.length cT]) :: (bz5, blk 26 [.slice p.ar m.rooms.length p.cr, .slice p.az m.shops.length p.cs, .slice (some ⟨bA, 0, none⟩) (m.trains.length + 1) capA]) :: (b6, blk 65 [.int .i64 t.room, .int .i64 t.shop, .int .i64 t.days, .int .i64 t.cap, .int .u8 e0, .int .u8 e1, .int .u8 e2, .int .u8 e3, .int .u8 e4, .int .u8 e5, .int .u8 e6]) :: (b3, blk 26 (m.cells p)) :: (BRz ++ (BSz ++ (BTz ++ (F))))) (oneMore m t) { p with at_ := some ⟨bA, 0, none⟩, ct := capA } := ⟨hm.r.app.app.app.cons.cons.cons.cons.cons, hm.s.app.app.app.cons.cons.cons.cons.cons, sl_own_trows (i := 0) rfl (by show (m.trains ++ [t]).length = _; simp) hA4, hm.lr, hm.ls, (by show (m.trains ++ [t]).length ≤ _; simp; omega), hm.cr, hm.cs, (by show (m.trains ++ [t]).length ≤ capA; simp; omega), hm.nr, hm.ns⟩
        have rR := own_rows (w0 := w0) hoR (rrows_row _) (by simp [rrows, modL_len])
        have rS := own_rows (w0 := w0) hoS (srows_row _) (by simp [srows, modL_len])
        have rT := own_rows (w0 := w0) hoT (trows_row _) (by simp [trows, modL_len])
        have hmB : MIn w0 ((bA, blk 63 csA) :: (bz6, blk 26 [.slice aR m.rooms.length cR, .slice aS m.shops.length cS, .slice aT m.trains.length cT]) :: (bz5, blk 26 [.slice p.ar m.rooms.length p.cr, .slice p.az m.shops.length p.cs, .slice (some ⟨bA, 0, none⟩) (m.trains.length + 1) capA]) :: (b6, blk 65 [.int .i64 t.room, .int .i64 t.shop, .int .i64 t.days, .int .i64 t.cap, .int .u8 e0, .int .u8 e1, .int .u8 e2, .int .u8 e3, .int .u8 e4, .int .u8 e5, .int .u8 e6]) :: (b3, blk 26 (m.cells p)) :: (BRz ++ (BSz ++ (BTz ++ (F))))) (better m (e0 % 8) (e1 % 8) (e2 % 3) (e3 % 3) ((e4 % (m.trains.length : Int)).toNat) ((e5 % (m.shops.length : Int)).toNat) ((e6 % (m.rooms.length : Int)).toNat)) (⟨aR, cR, aS, cS, aT, cT⟩ : At3) := ⟨rR.1.top.cons.cons.cons.cons.cons, rS.1.top.app.cons.cons.cons.cons.cons, rT.1.top.app.app.cons.cons.cons.cons.cons, (by show (modL _ _ _).length ≤ _; rw [modL_len]; exact hm.lr), (by show (modL _ _ _).length ≤ _; rw [modL_len]; exact hm.ls), (by show (modL _ _ _).length ≤ _; rw [modL_len]; exact hm.lt), (by show (modL _ _ _).length ≤ cR; rw [modL_len]; exact rR.2), (by show (modL _ _ _).length ≤ cS; rw [modL_len]; exact rS.2), (by show (modL _ _ _).length ≤ cT; rw [modL_len]; exact rT.2), (fun y hy => by rcases mem_modL hy with h | ⟨y2, h1, h2⟩; exact hm.nr y h; rw [h2]; exact hm.nr y2 h1), (fun y hy => by rcases mem_modL hy with h | ⟨y2, h1, h2⟩; exact hm.ns y h; rw [h2]; exact hm.ns y2 h1)⟩
        have hcA : (oneMore m t).cells { p with at_ := some ⟨bA, 0, none⟩, ct := capA } = [.slice p.ar m.rooms.length p.cr, .slice p.az m.shops.length p.cs, .slice (some ⟨bA, 0, none⟩) (m.trains.length + 1) capA] := by simp [Market.cells, oneMore]
        have hcB : (better m (e0 % 8) (e1 % 8) (e2 % 3) (e3 % 3) ((e4 % (m.trains.length : Int)).toNat) ((e5 % (m.shops.length : Int)).toNat) ((e6 % (m.rooms.length : Int)).toNat)).cells (⟨aR, cR, aS, cS, aT, cT⟩ : At3) = [.slice aR m.rooms.length cR, .slice aS m.shops.length cS, .slice aT m.trains.length cT] := by simp [Market.cells, better, modL_len]
        have hpm := (proof_all hck).2.1
        have hwp : (withoutP m).2 = 0 := by unfold withoutP; rw [if_neg (by simp [hck])]
        rw [show allL' m = (othersTo [] m.shops.length) from rfl] at hpm
        have hot := othersTo_len [] m.shops.length
        have hwsh := without_short m
        refine w_region ?_
        refine w_pure want_none (y_loadN (vs := [_, _, _]) Try.isAgg26 Try.sizeOf26 hs.tail.tail.tail.tail rfl rfl hb2) rfl ?_
        refine w_call want_none Try.call26 rfl rfl rfl rfl (c26 m _ hm.app.app.app.cons.cons.cons.cons.cons hs) ?_
        rintro _ w219 ⟨B1, a_B1, c_B1, rfl, hs_B1, hs220⟩
        replace hs220 := (show St _ _ (B1 ++ (_ :: _ :: _ :: _ :: _ :: BRz ++ (BSz ++ (BTz ++ (F))))) from hs220)
        refine w_pure want_none (y_move (v := .tuple _) rfl rfl) rfl ?_
        refine w_pure want_none (y_extract (v := .slice _ _ _) rfl rfl rfl) rfl ?_
        refine w_pure want_none (y_extract (v := .int _ _) rfl rfl rfl) rfl ?_
        refine w_pure want_none (y_assign (v := .slice _ _ _) rfl rfl) rfl ?_
        refine w_pure want_none (y_assign (v := .int _ _) rfl rfl) rfl ?_
        refine w_nil ?_
        refine q_then (hK216 _ _ ?_)
        refine w_seq (fun K222 hK221 => ?_)
        refine w_draw [] [(0, 1), (1, 1), (2, 2), (3, 2), (4, 0), (5, 0), (6, 0), (7, 0), (8, 0), (9, 0), (10, 0)] Try_mo (by kernel_rfl) hs220 (fun w223 hs224 => ?_)
        refine d_take rfl want_none rfl hs224 (fun _ hq => (y_loadN (vs := [_, _, _]) Try.isAgg26 Try.sizeOf26 hq.drop.tail.tail.tail.tail rfl rfl hb2)) ?_
        refine d_take rfl want_none rfl hs224 (fun _ hq => (y_loadN (vs := [_, _, _]) Try.isAgg26 Try.sizeOf26 hq.drop.tail.tail.tail.tail rfl rfl hb2)) ?_
        refine d_eff rfl ?_
        refine w_call want_none Try.call48 rfl rfl rfl rfl (c48 m _ hm.app.app.app.cons.cons.cons.cons.cons.app hok  hs224) ?_
        rintro _ w226 ⟨AB, a_AB, c_AB, rfl, hs_AB, hs227⟩
        replace hs227 := (show St _ _ (AB ++ (B1 ++ (_ :: _ :: _ :: _ :: _ :: BRz ++ (BSz ++ (BTz ++ (F)))))) from hs227)
        refine w_nil ?_
        refine qn ⟨hs227.drop, ?_⟩
        refine d_eff rfl ?_
        refine w_call want_none Try.call24 rfl rfl rfl rfl (c24 m _ hm.app.app.app.cons.cons.cons.cons.cons.app.app _ _ (othersTo [] m.shops.length) (by omega) hs_AB.top hs227) ?_
        rintro _ w229 ⟨BP, a_BP, c_BP, rfl, hs_BP, hs230⟩
        replace hs230 := (show St _ _ (BP ++ (AB ++ (B1 ++ (_ :: _ :: _ :: _ :: _ :: BRz ++ (BSz ++ (BTz ++ (F))))))) from hs230)
        refine w_nil ?_
        refine qn ⟨hs230.drop.drop, ?_⟩
        refine d_any rfl want_none rfl (fun _ => (y_move (v := .tuple _) rfl rfl)) ?_
        refine d_any rfl want_none rfl (fun _ => (y_extract (v := .slice _ _ _) rfl rfl rfl)) ?_
        refine d_any rfl want_none rfl (fun _ => (y_extract (v := .int _ _) rfl rfl rfl)) ?_
        refine d_any rfl want_none rfl (fun _ => (y_extract (v := .int _ _) rfl rfl rfl)) ?_
        refine d_any rfl want_none rfl (fun _ => (y_assign (v := .slice _ _ _) rfl rfl)) ?_
        refine d_any rfl want_none rfl (fun _ => (y_assign (v := .int _ _) rfl rfl)) ?_
        refine d_any rfl want_none rfl (fun _ => (y_assign (v := .int _ _) rfl rfl)) ?_
        refine d_nil ?_
        refine q_then (hK221 _ _ ?_)
        refine w_seq (fun K232 hK231 => ?_)
        refine w_seq (fun K234 hK233 => ?_)
        refine w_region ?_
        refine w_pure want_none (y_move (v := .int _ _) rfl rfl) rfl ?_
        refine w_pure want_none (y_neq rfl rfl rfl rfl) rfl ?_
        refine w_pure want_none (y_move (v := .bool _) rfl rfl) rfl ?_
        refine w_split (fun h235 => ?_) (fun h235 => ?_)
        ·
         exfalso
         try simp only [Bool.not_eq_true', Bool.not_eq_false', decide_eq_true_eq, decide_eq_false_iff_not, Int.not_lt, Int.not_le] at h235
         exact h235 hwp
        ·
         try simp only [Bool.not_eq_true', Bool.not_eq_false', decide_eq_true_eq, decide_eq_false_iff_not, Int.not_lt, Int.not_le] at h235
         refine w_pure (want_yes rfl rfl rfl) (y_move (v := .int _ _) rfl rfl) rfl ?_
         refine w_pure (want_yes rfl rfl rfl) (y_neq rfl rfl rfl rfl) rfl ?_
         refine w_pure (want_yes rfl rfl rfl) (y_move (v := .bool _) rfl rfl) rfl ?_
         refine w_split (fun h236 => ?_) (fun h236 => ?_)
         ·
          try simp only [Bool.not_eq_true', Bool.not_eq_false', decide_eq_true_eq, decide_eq_false_iff_not, Int.not_lt, Int.not_le] at h236
          refine w_pure (want_yes rfl rfl rfl) (y_move (v := .int _ _) rfl rfl) rfl ?_
          refine w_pure (want_yes rfl rfl rfl) (y_neq rfl rfl rfl rfl) rfl ?_
          refine w_pure (want_yes rfl rfl rfl) (y_pickT (v := .bool _) rfl rfl rfl rfl) rfl ?_
          refine w_pure want_none (y_pickF (v := .bool _) rfl rfl rfl rfl) rfl ?_
          refine w_nil ?_
          refine q_then (hK233 _ _ ?_)
          refine w_cond rfl rfl (fun h237 => ?_) (fun h237 => ?_)
          ·
           exfalso
           try simp only [Bool.not_eq_true', Bool.not_eq_false', decide_eq_true_eq, decide_eq_false_iff_not, Int.not_lt, Int.not_le] at h237
           omega
          ·
           try simp only [Bool.not_eq_true', Bool.not_eq_false', decide_eq_true_eq, decide_eq_false_iff_not, Int.not_lt, Int.not_le] at h237
           refine w_skip ?_
           refine q_then (hK231 _ _ ?_)
           refine w_seq (fun K239 hK238 => ?_)
           refine w_seq (fun K241 hK240 => ?_)
           refine w_region ?_
           refine w_pure want_none (y_assign (v := _) rfl rfl) rfl ?_
           refine w_nil ?_
           refine q_then (hK240 _ _ ?_)
           refine w_block ?_
           refine w_loop [4, 18, 19, 20, 21, 22, 23, 24, 177, 178, 179, 180, 181, 182, 183, 184, 185, 186, 187, 188, 189, 190, 191, 192, 193, 194, 195, 196, 197, 198, 199, 200, 201, 202, 203, 204, 205, 206, 207, 208, 209, 210, 211, 212, 213, 214, 215, 216, 217, 218, 219, 220, 221, 222, 223, 224, 225, 226, 227, 228, 229, 230, 231, 232, 233, 234, 235] [18] (fun kk vs0 w => ∃ k : Nat, vs0 = [.int .i64 k] ∧ k ≤ 2 ∧ kk = 2 - k ∧ St w0 w (BP ++ (AB ++ (B1 ++ ((bA, blk 63 csA) :: (bz6, blk 26 [.slice aR m.rooms.length cR, .slice aS m.shops.length cS, .slice aT m.trains.length cT]) :: (bz5, blk 26 [.slice p.ar m.rooms.length p.cr, .slice p.az m.shops.length p.cs, .slice (some ⟨bA, 0, none⟩) (m.trains.length + 1) capA]) :: (b6, blk 65 [.int .i64 t.room, .int .i64 t.shop, .int .i64 t.days, .int .i64 t.cap, .int .u8 e0, .int .u8 e1, .int .u8 e2, .int .u8 e3, .int .u8 e4, .int .u8 e5, .int .u8 e6]) :: (b3, blk 26 (m.cells p)) :: (BRz ++ (BSz ++ (BTz ++ (F))))))))) (2) ?_ ?_
           ·
            exact ⟨0, rfl, by omega, by omega, hs230⟩
           ·
            intro k vs μ w244 hI K243 hN242
            obtain ⟨k, rfl, hka, rfl, hs⟩ := hI
            refine w_seq (fun K246 hK245 => ?_)
            refine w_seq (fun K248 hK247 => ?_)
            refine w_region ?_
            refine w_pure want_none (y_move (v := .int _ _) rfl rfl) rfl ?_
            refine w_pure want_none (y_lss rfl rfl rfl rfl) rfl ?_
            refine w_nil ?_
            refine q_then (hK247 _ _ ?_)
            refine w_cond rfl rfl (fun h249 => ?_) (fun h249 => ?_)
            ·
             try simp only [Bool.not_eq_true', Bool.not_eq_false', decide_eq_true_eq, decide_eq_false_iff_not, Int.not_lt, Int.not_le] at h249
             refine w_skip ?_
             refine q_then (hK245 _ _ ?_)
             refine w_seq (fun K251 hK250 => ?_)
             refine w_block ?_
             refine w_seq (fun K253 hK252 => ?_)
             refine w_region ?_
             refine w_pure want_none (y_loadN (vs := [_, _, _]) Try.isAgg26 Try.sizeOf26 hs.drop.drop.drop.tail.tail rfl rfl hb5) rfl ?_
             refine w_alloc (cs := [_, _, _]) want_none Try.zeroValue26 rfl hs (fun b254 w255 hs256 => ?_)
             refine w_store (i := 0) (v := .agg #[.slice _ _ _, .slice _ _ _, .slice _ _ _]) (vs := [_, _, _]) want_none Try.sizeOf26 rfl rfl rfl rfl rfl (by simp [Value.oneCell']) hs256 rfl (Nat.le_of_ble_eq_true rfl) (fun w257 hs258 => ?_)
             refine w_nil ?_
             refine q_then (hK252 _ _ ?_)
             refine w_seq (fun K260 hK259 => ?_)
             refine w_cut [182, 183, 184] [] (fun vs w => vs = [] ∧ ∃ (z : Market) (pz : At3), MIn w0 ((bA, blk 63 csA) :: (bz6, blk 26 [.slice aR m.rooms.length cR, .slice aS m.shops.length cS, .slice aT m.trains.length cT]) :: (bz5, blk 26 [.slice p.ar m.rooms.length p.cr, .slice p.az m.shops.length p.cs, .slice (some ⟨bA, 0, none⟩) (m.trains.length + 1) capA]) :: (b6, blk 65 [.int .i64 t.room, .int .i64 t.shop, .int .i64 t.days, .int .i64 t.cap, .int .u8 e0, .int .u8 e1, .int .u8 e2, .int .u8 e3, .int .u8 e4, .int .u8 e5, .int .u8 e6]) :: (b3, blk 26 (m.cells p)) :: (BRz ++ (BSz ++ (BTz ++ (F))))) z pz ∧ ((check z).2.2 = 0 → Eas m z) ∧ St w0 w ((b254, blk 26 (z.cells pz)) :: (BP ++ (AB ++ (B1 ++ ((bA, blk 63 csA) :: (bz6, blk 26 [.slice aR m.rooms.length cR, .slice aS m.shops.length cS, .slice aT m.trains.length cT]) :: (bz5, blk 26 [.slice p.ar m.rooms.length p.cr, .slice p.az m.shops.length p.cs, .slice (some ⟨bA, 0, none⟩) (m.trains.length + 1) capA]) :: (b6, blk 65 [.int .i64 t.room, .int .i64 t.shop, .int .i64 t.days, .int .i64 t.cap, .int .u8 e0, .int .u8 e1, .int .u8 e2, .int .u8 e3, .int .u8 e4, .int .u8 e5, .int .u8 e6]) :: (b3, blk 26 (m.cells p)) :: (BRz ++ (BSz ++ (BTz ++ (F)))))))))) (fun K262 hC261 => ?_) ?_
             ·
              refine w_seq (fun K264 hK263 => ?_)
              refine w_region ?_
              refine w_pure want_none (y_move (v := .int _ _) rfl rfl) rfl ?_
              refine w_pure want_none (y_eql rfl rfl rfl rfl) rfl ?_
              refine w_nil ?_
              refine q_then (hK263 _ _ ?_)
              refine w_cond rfl rfl (fun h265 => ?_) (fun h265 => ?_)
              ·
               try simp only [Bool.not_eq_true', Bool.not_eq_false', decide_eq_true_eq, decide_eq_false_iff_not, Int.not_lt, Int.not_le] at h265
               refine w_region ?_
               refine w_pure want_none (y_loadN (vs := [_, _, _]) Try.isAgg26 Try.sizeOf26 hs258.tail.drop.drop.drop.tail rfl rfl hb6) rfl ?_
               refine w_store (i := 0) (v := .agg #[.slice _ _ _, .slice _ _ _, .slice _ _ _]) (vs := [_, _, _]) want_none Try.sizeOf26 rfl rfl rfl rfl rfl (by simp [Value.oneCell']) hs258 rfl (Nat.le_of_ble_eq_true rfl) (fun w266 hs267 => ?_)
               refine w_nil ?_
               refine q_then (hC261 _ _ (Md.intro (by repeat (first | exact agree_refl | exact agree_mix | refine agree_upd rfl ?_ | refine agree_updL rfl ?_ _ | refine agree_mixin rfl ?_)) ?_))
               first
                 | exact ⟨rfl, oneMore m t, { p with at_ := some ⟨bA, 0, none⟩, ct := capA }, hmA, (fun hc => eas_more hok (check_ok hc)), by rw [hcA]; exact hs267⟩
                 | exact ⟨rfl, (better m (e0 % 8) (e1 % 8) (e2 % 3) (e3 % 3) ((e4 % (m.trains.length : Int)).toNat) ((e5 % (m.shops.length : Int)).toNat) ((e6 % (m.rooms.length : Int)).toNat)), (⟨aR, cR, aS, cS, aT, cT⟩ : At3), hmB, (fun hc => eas_better hok (by omega) (by omega) (by omega) (by omega) _ _ _ (check_ok hc)), by rw [hcB]; exact hs267⟩
              ·
               try simp only [Bool.not_eq_true', Bool.not_eq_false', decide_eq_true_eq, decide_eq_false_iff_not, Int.not_lt, Int.not_le] at h265
               refine w_skip ?_
               refine q_then (hC261 _ _ (Md.intro (by repeat (first | exact agree_refl | exact agree_mix | refine agree_upd rfl ?_ | refine agree_updL rfl ?_ _ | refine agree_mixin rfl ?_)) ?_))
               first
                 | exact ⟨rfl, oneMore m t, { p with at_ := some ⟨bA, 0, none⟩, ct := capA }, hmA, (fun hc => eas_more hok (check_ok hc)), by rw [hcA]; exact hs258⟩
                 | exact ⟨rfl, (better m (e0 % 8) (e1 % 8) (e2 % 3) (e3 % 3) ((e4 % (m.trains.length : Int)).toNat) ((e5 % (m.shops.length : Int)).toNat) ((e6 % (m.rooms.length : Int)).toNat)), (⟨aR, cR, aS, cS, aT, cT⟩ : At3), hmB, (fun hc => eas_better hok (by omega) (by omega) (by omega) (by omega) _ _ _ (check_ok hc)), by rw [hcB]; exact hs258⟩
             ·
              intro vs μ w268 hM
              obtain ⟨rfl, z, pz, hmz, heas, hs⟩ := hM
              have hb19 : Ats w0 ((b254, blk 26 (z.cells pz)) :: (BP ++ (AB ++ (B1 ++ ((bA, blk 63 csA) :: (bz6, blk 26 [.slice aR m.rooms.length cR, .slice aS m.shops.length cS, .slice aT m.trains.length cT]) :: (bz5, blk 26 [.slice p.ar m.rooms.length p.cr, .slice p.az m.shops.length p.cs, .slice (some ⟨bA, 0, none⟩) (m.trains.length + 1) capA]) :: (b6, blk 65 [.int .i64 t.room, .int .i64 t.shop, .int .i64 t.days, .int .i64 t.cap, .int .u8 e0, .int .u8 e1, .int .u8 e2, .int .u8 e3, .int .u8 e4, .int .u8 e5, .int .u8 e6]) :: (b3, blk 26 (m.cells p)) :: (BRz ++ (BSz ++ (BTz ++ (F))))))))) b254 0 (z.cells pz) := ats_own (i := 0) (vs := z.cells pz) rfl rfl
              refine q_then (hK259 _ _ ?_)
              refine w_seq (fun K270 hK269 => ?_)
              refine w_seq (fun K272 hK271 => ?_)
              refine w_region ?_
              refine w_pure want_none (y_loadN (vs := [_, _, _]) Try.isAgg26 Try.sizeOf26 hs rfl rfl hb19) rfl ?_
              refine w_call want_none Try.call35 rfl rfl rfl rfl (c35 z _ hmz.app.app.app.cons hs) ?_
              rintro _ w274 ⟨rfl, hs275⟩
              refine w_pure want_none (y_not rfl rfl) rfl ?_
              refine w_nil ?_
              refine q_then (hK271 _ _ ?_)
              refine w_cond rfl rfl (fun h276 => ?_) (fun h276 => ?_)
              ·
               try simp only [Bool.not_eq_true', Bool.not_eq_false', decide_eq_true_eq, decide_eq_false_iff_not, Int.not_lt, Int.not_le] at h276
               refine w_exit ?_
               refine q_then_exit ?_
               refine q_blk_this ?_
               refine q_then (hK250 _ _ ?_)
               refine w_region ?_
               refine w_pure want_none (y_move (v := .int _ _) rfl rfl) rfl ?_
               refine w_pure want_none (y_add rfl rfl rfl rfl (by omega) (by omega)) rfl ?_
               refine w_pure want_none (y_assign (v := .int _ _) rfl rfl) rfl ?_
               refine w_nil ?_
               refine q_then (hN242 _ _ (Nx.intro (2 - (k + 1)) (by omega) (by repeat (first | exact agree_mix | refine agree_upd rfl ?_ | refine agree_updL rfl ?_ _ | refine agree_mixin rfl ?_)) ?_))
               exact ⟨k + 1, rfl, by omega, rfl, hs275.tail⟩
              ·
               try simp only [Bool.not_eq_true', Bool.not_eq_false', decide_eq_true_eq, decide_eq_false_iff_not, Int.not_lt, Int.not_le] at h276
               refine w_skip ?_
               refine q_then (hK269 _ _ ?_)
               refine w_seq (fun K278 hK277 => ?_)
               have hcz : (check z).2.2 = 0 := by first | assumption | (refine Decidable.byContradiction fun h0 => ?_; simp_all)
               have hokz := check_ok hcz
               have hE := eas_facts hck hcz (heas hcz)
               have hp1 := hE.pz
               have hp2 := hE.down
               have hp3 := hE.less
               rw [show allL' z = (othersTo [] z.shops.length) from rfl] at hp1 hp2 hp3
               rw [show allL' m = (othersTo [] m.shops.length) from rfl] at hp2 hp3
               have hoz := othersTo_len [] z.shops.length
               have hlz := hokz.ls
               have hle := hE.len
               refine w_region ?_
               refine w_pure want_none (y_loadN (vs := [_, _, _]) Try.isAgg26 Try.sizeOf26 hs275 rfl rfl hb19) rfl ?_
               refine w_call want_none Try.call26 rfl rfl rfl rfl (c26 z _ hmz.app.app.app.cons hs275) ?_
               rintro _ w280 ⟨BW, a_BW, c_BW, rfl, hs_BW, hs281⟩
               replace hs281 := (show St _ _ (BW ++ (_ :: BP ++ (AB ++ (B1 ++ (_ :: _ :: _ :: _ :: _ :: BRz ++ (BSz ++ (BTz ++ (F)))))))) from hs281)
               refine w_pure want_none (y_move (v := .tuple _) rfl rfl) rfl ?_
               refine w_pure want_none (y_extract (v := .slice _ _ _) rfl rfl rfl) rfl ?_
               refine w_pure want_none (y_extract (v := .int _ _) rfl rfl rfl) rfl ?_
               refine w_pure want_none (y_assign (v := .slice _ _ _) rfl rfl) rfl ?_
               refine w_pure want_none (y_assign (v := .int _ _) rfl rfl) rfl ?_
               refine w_nil ?_
               refine q_then (hK277 _ _ ?_)
               refine w_seq (fun K283 hK282 => ?_)
               refine w_draw [] [(0, 1), (1, 1), (2, 2), (3, 2), (4, 0), (5, 0), (6, 0), (7, 0), (8, 0), (9, 0), (10, 0)] Try_mo (by kernel_rfl) hs281 (fun w284 hs285 => ?_)
               refine d_take rfl want_none rfl hs285 (fun _ hq => (y_loadN (vs := [_, _, _]) Try.isAgg26 Try.sizeOf26 hq.drop rfl rfl hb19)) ?_
               refine d_take rfl want_none rfl hs285 (fun _ hq => (y_loadN (vs := [_, _, _]) Try.isAgg26 Try.sizeOf26 hq.drop rfl rfl hb19)) ?_
               refine d_eff rfl ?_
               refine w_call want_none Try.call48 rfl rfl rfl rfl (c48 z _ hmz.app.app.app.cons.app hokz hs285) ?_
               rintro _ w287 ⟨AZ, a_AZ, c_AZ, rfl, hs_AZ, hs288⟩
               replace hs288 := (show St _ _ (AZ ++ (BW ++ (_ :: BP ++ (AB ++ (B1 ++ (_ :: _ :: _ :: _ :: _ :: BRz ++ (BSz ++ (BTz ++ (F))))))))) from hs288)
               refine w_nil ?_
               refine qn ⟨hs288.drop, ?_⟩
               refine d_eff rfl ?_
               refine w_call want_none Try.call24 rfl rfl rfl rfl (c24 z _ hmz.app.app.app.cons.app.app _ _ (othersTo [] z.shops.length) (by omega) hs_AZ.top hs288) ?_
               rintro _ w290 ⟨BQ, a_BQ, c_BQ, rfl, hs_BQ, hs291⟩
               replace hs291 := (show St _ _ (BQ ++ (AZ ++ (BW ++ (_ :: BP ++ (AB ++ (B1 ++ (_ :: _ :: _ :: _ :: _ :: BRz ++ (BSz ++ (BTz ++ (F)))))))))) from hs291)
               refine w_nil ?_
               refine qn ⟨hs291.drop.drop, ?_⟩
               refine d_any rfl want_none rfl (fun _ => (y_move (v := .tuple _) rfl rfl)) ?_
               refine d_any rfl want_none rfl (fun _ => (y_extract (v := .slice _ _ _) rfl rfl rfl)) ?_
               refine d_any rfl want_none rfl (fun _ => (y_extract (v := .int _ _) rfl rfl rfl)) ?_
               refine d_any rfl want_none rfl (fun _ => (y_extract (v := .int _ _) rfl rfl rfl)) ?_
               refine d_any rfl want_none rfl (fun _ => (y_assign (v := .slice _ _ _) rfl rfl)) ?_
               refine d_any rfl want_none rfl (fun _ => (y_assign (v := .int _ _) rfl rfl)) ?_
               refine d_any rfl want_none rfl (fun _ => (y_assign (v := .int _ _) rfl rfl)) ?_
               refine d_nil ?_
               refine q_then (hK282 _ _ ?_)
               refine w_seq (fun K293 hK292 => ?_)
               refine w_region ?_
               refine w_pure want_none (y_move (v := .int _ _) rfl rfl) rfl ?_
               refine w_pure want_none (y_neq rfl rfl rfl rfl) rfl ?_
               refine w_pure want_none (y_move (v := .bool _) rfl rfl) rfl ?_
               refine w_split (fun h294 => ?_) (fun h294 => ?_)
               ·
                exfalso
                try simp only [Bool.not_eq_true', Bool.not_eq_false', decide_eq_true_eq, decide_eq_false_iff_not, Int.not_lt, Int.not_le] at h294
                exact h294 hE.e0
               ·
                try simp only [Bool.not_eq_true', Bool.not_eq_false', decide_eq_true_eq, decide_eq_false_iff_not, Int.not_lt, Int.not_le] at h294
                refine w_pure (want_yes rfl rfl rfl) (y_move (v := .slice _ _ _) rfl rfl) rfl ?_
                refine w_pure (want_yes rfl rfl rfl) (y_lenS Try.underlying30 rfl rfl) rfl ?_
                refine w_pure (want_yes rfl rfl rfl) (y_move (v := .slice _ _ _) rfl rfl) rfl ?_
                refine w_pure (want_yes rfl rfl rfl) (y_lenS Try.underlying30 rfl rfl) rfl ?_
                refine w_pure (want_yes rfl rfl rfl) (y_gtr rfl rfl rfl rfl) rfl ?_
                refine w_pure want_none (y_pickF (v := .bool _) rfl rfl rfl rfl) rfl ?_
                refine w_pure want_none (y_move (v := .bool _) rfl rfl) rfl ?_
                refine w_split (fun h295 => ?_) (fun h295 => ?_)
                ·
                 exfalso
                 try simp only [Bool.not_eq_true', Bool.not_eq_false', decide_eq_true_eq, decide_eq_false_iff_not, Int.not_lt, Int.not_le] at h295
                 omega
                ·
                 try simp only [Bool.not_eq_true', Bool.not_eq_false', decide_eq_true_eq, decide_eq_false_iff_not, Int.not_lt, Int.not_le] at h295
                 refine w_pure (want_yes rfl rfl rfl) (y_move (v := .int _ _) rfl rfl) rfl ?_
                 refine w_pure (want_yes rfl rfl rfl) (y_neq rfl rfl rfl rfl) rfl ?_
                 refine w_pure (want_yes rfl rfl rfl) (y_move (v := .bool _) rfl rfl) rfl ?_
                 refine w_split (fun h296 => ?_) (fun h296 => ?_)
                 ·
                  try simp only [Bool.not_eq_true', Bool.not_eq_false', decide_eq_true_eq, decide_eq_false_iff_not, Int.not_lt, Int.not_le] at h296
                  refine w_pure (want_yes rfl rfl rfl) (y_move (v := .int _ _) rfl rfl) rfl ?_
                  refine w_pure (want_yes rfl rfl rfl) (y_neq rfl rfl rfl rfl) rfl ?_
                  refine w_pure (want_yes rfl rfl rfl) (y_pickT (v := .bool _) rfl rfl rfl rfl) rfl ?_
                  refine w_pure want_none (y_pickF (v := .bool _) rfl rfl rfl rfl) rfl ?_
                  refine w_pure want_none (y_move (v := .bool _) rfl rfl) rfl ?_
                  refine w_split (fun h297 => ?_) (fun h297 => ?_)
                  ·
                   exfalso
                   try simp only [Bool.not_eq_true', Bool.not_eq_false', decide_eq_true_eq, decide_eq_false_iff_not, Int.not_lt, Int.not_le] at h297
                   omega
                  ·
                   try simp only [Bool.not_eq_true', Bool.not_eq_false', decide_eq_true_eq, decide_eq_false_iff_not, Int.not_lt, Int.not_le] at h297
                   refine w_pure (want_yes rfl rfl rfl) (y_move (v := .int _ _) rfl rfl) rfl ?_
                   refine w_pure (want_yes rfl rfl rfl) (y_eql rfl rfl rfl rfl) rfl ?_
                   refine w_pure (want_yes rfl rfl rfl) (y_move (v := .bool _) rfl rfl) rfl ?_
                   refine w_split (fun h298 => ?_) (fun h298 => ?_)
                   ·
                    try simp only [Bool.not_eq_true', Bool.not_eq_false', decide_eq_true_eq, decide_eq_false_iff_not, Int.not_lt, Int.not_le] at h298
                    refine w_pure (want_yes rfl rfl rfl) (y_move (v := .int _ _) rfl rfl) rfl ?_
                    refine w_pure (want_yes rfl rfl rfl) (y_move (v := .int _ _) rfl rfl) rfl ?_
                    refine w_pure (want_yes rfl rfl rfl) (y_neq rfl rfl rfl rfl) rfl ?_
                    refine w_pure (want_yes rfl rfl rfl) (y_pickT (v := .bool _) rfl rfl rfl rfl) rfl ?_
                    refine w_pure want_none (y_pickF (v := .bool _) rfl rfl rfl rfl) rfl ?_
                    refine w_pure want_none (y_move (v := .bool _) rfl rfl) rfl ?_
                    refine w_split (fun h299 => ?_) (fun h299 => ?_)
                    ·
                     exfalso
                     try simp only [Bool.not_eq_true', Bool.not_eq_false', decide_eq_true_eq, decide_eq_false_iff_not, Int.not_lt, Int.not_le] at h299
                     exact h299 (hp2 (by assumption))
                    ·
                     try simp only [Bool.not_eq_true', Bool.not_eq_false', decide_eq_true_eq, decide_eq_false_iff_not, Int.not_lt, Int.not_le] at h299
                     refine w_pure (want_yes rfl rfl rfl) (y_move (v := .int _ _) rfl rfl) rfl ?_
                     refine w_pure (want_yes rfl rfl rfl) (y_eql rfl rfl rfl rfl) rfl ?_
                     refine w_pure (want_yes rfl rfl rfl) (y_move (v := .bool _) rfl rfl) rfl ?_
                     refine w_split (fun h300 => ?_) (fun h300 => ?_)
                     ·
                      try simp only [Bool.not_eq_true', Bool.not_eq_false', decide_eq_true_eq, decide_eq_false_iff_not, Int.not_lt, Int.not_le] at h300
                      refine w_pure (want_yes rfl rfl rfl) (y_move (v := .int _ _) rfl rfl) rfl ?_
                      refine w_pure (want_yes rfl rfl rfl) (y_move (v := .int _ _) rfl rfl) rfl ?_
                      refine w_pure (want_yes rfl rfl rfl) (y_gtr rfl rfl rfl rfl) rfl ?_
                      refine w_pure (want_yes rfl rfl rfl) (y_pickT (v := .bool _) rfl rfl rfl rfl) rfl ?_
                      refine w_pure want_none (y_pickF (v := .bool _) rfl rfl rfl rfl) rfl ?_
                      refine w_nil ?_
                      refine q_then (hK292 _ _ ?_)
                      refine w_cond rfl rfl (fun h301 => ?_) (fun h301 => ?_)
                      ·
                       exfalso
                       try simp only [Bool.not_eq_true', Bool.not_eq_false', decide_eq_true_eq, decide_eq_false_iff_not, Int.not_lt, Int.not_le] at h301
                       have := hp3 (by assumption); omega
                      ·
                       try simp only [Bool.not_eq_true', Bool.not_eq_false', decide_eq_true_eq, decide_eq_false_iff_not, Int.not_lt, Int.not_le] at h301
                       refine w_skip ?_
                       refine q_blk_normal ?_
                       refine q_then (hK250 _ _ ?_)
                       refine w_region ?_
                       refine w_pure want_none (y_move (v := .int _ _) rfl rfl) rfl ?_
                       refine w_pure want_none (y_add rfl rfl rfl rfl (by omega) (by omega)) rfl ?_
                       refine w_pure want_none (y_assign (v := .int _ _) rfl rfl) rfl ?_
                       refine w_nil ?_
                       refine q_then (hN242 _ _ (Nx.intro (2 - (k + 1)) (by omega) (by repeat (first | exact agree_mix | refine agree_upd rfl ?_ | refine agree_updL rfl ?_ _ | refine agree_mixin rfl ?_)) ?_))
                       exact ⟨k + 1, rfl, by omega, rfl, hs291.drop.drop.drop.tail⟩
                     ·
                      try simp only [Bool.not_eq_true', Bool.not_eq_false', decide_eq_true_eq, decide_eq_false_iff_not, Int.not_lt, Int.not_le] at h300
                      refine w_skipop rfl rfl rfl ?_
                      refine w_skipop rfl rfl rfl ?_
                      refine w_skipop rfl rfl rfl ?_
                      refine w_pure (want_yes rfl rfl rfl) (y_pickF (v := _) rfl rfl rfl rfl) rfl ?_
                      refine w_pure want_none (y_pickF (v := .bool _) rfl rfl rfl rfl) rfl ?_
                      refine w_nil ?_
                      refine q_then (hK292 _ _ ?_)
                      refine w_condF rfl rfl ?_
                      refine w_skip ?_
                      refine q_blk_normal ?_
                      refine q_then (hK250 _ _ ?_)
                      refine w_region ?_
                      refine w_pure want_none (y_move (v := .int _ _) rfl rfl) rfl ?_
                      refine w_pure want_none (y_add rfl rfl rfl rfl (by omega) (by omega)) rfl ?_
                      refine w_pure want_none (y_assign (v := .int _ _) rfl rfl) rfl ?_
                      refine w_nil ?_
                      refine q_then (hN242 _ _ (Nx.intro (2 - (k + 1)) (by omega) (by repeat (first | exact agree_mix | refine agree_upd rfl ?_ | refine agree_updL rfl ?_ _ | refine agree_mixin rfl ?_)) ?_))
                      exact ⟨k + 1, rfl, by omega, rfl, hs291.drop.drop.drop.tail⟩
                   ·
                    try simp only [Bool.not_eq_true', Bool.not_eq_false', decide_eq_true_eq, decide_eq_false_iff_not, Int.not_lt, Int.not_le] at h298
                    refine w_skipop rfl rfl rfl ?_
                    refine w_skipop rfl rfl rfl ?_
                    refine w_skipop rfl rfl rfl ?_
                    refine w_pure (want_yes rfl rfl rfl) (y_pickF (v := _) rfl rfl rfl rfl) rfl ?_
                    refine w_pure want_none (y_pickF (v := .bool _) rfl rfl rfl rfl) rfl ?_
                    refine w_pure want_none (y_move (v := .bool _) rfl rfl) rfl ?_
                    refine w_pure (want_yes rfl rfl rfl) (y_move (v := .int _ _) rfl rfl) rfl ?_
                    refine w_pure (want_yes rfl rfl rfl) (y_eql rfl rfl rfl rfl) rfl ?_
                    refine w_pure (want_yes rfl rfl rfl) (y_move (v := .bool _) rfl rfl) rfl ?_
                    refine w_split (fun h302 => ?_) (fun h302 => ?_)
                    ·
                     try simp only [Bool.not_eq_true', Bool.not_eq_false', decide_eq_true_eq, decide_eq_false_iff_not, Int.not_lt, Int.not_le] at h302
                     refine w_pure (want_yes rfl rfl rfl) (y_move (v := .int _ _) rfl rfl) rfl ?_
                     refine w_pure (want_yes rfl rfl rfl) (y_move (v := .int _ _) rfl rfl) rfl ?_
                     refine w_pure (want_yes rfl rfl rfl) (y_gtr rfl rfl rfl rfl) rfl ?_
                     refine w_pure (want_yes rfl rfl rfl) (y_pickT (v := .bool _) rfl rfl rfl rfl) rfl ?_
                     refine w_pure want_none (y_pickF (v := .bool _) rfl rfl rfl rfl) rfl ?_
                     refine w_nil ?_
                     refine q_then (hK292 _ _ ?_)
                     refine w_cond rfl rfl (fun h303 => ?_) (fun h303 => ?_)
                     ·
                      exfalso
                      try simp only [Bool.not_eq_true', Bool.not_eq_false', decide_eq_true_eq, decide_eq_false_iff_not, Int.not_lt, Int.not_le] at h303
                      have := hp3 (by assumption); omega
                     ·
                      try simp only [Bool.not_eq_true', Bool.not_eq_false', decide_eq_true_eq, decide_eq_false_iff_not, Int.not_lt, Int.not_le] at h303
                      refine w_skip ?_
                      refine q_blk_normal ?_
                      refine q_then (hK250 _ _ ?_)
                      refine w_region ?_
                      refine w_pure want_none (y_move (v := .int _ _) rfl rfl) rfl ?_
                      refine w_pure want_none (y_add rfl rfl rfl rfl (by omega) (by omega)) rfl ?_
                      refine w_pure want_none (y_assign (v := .int _ _) rfl rfl) rfl ?_
                      refine w_nil ?_
                      refine q_then (hN242 _ _ (Nx.intro (2 - (k + 1)) (by omega) (by repeat (first | exact agree_mix | refine agree_upd rfl ?_ | refine agree_updL rfl ?_ _ | refine agree_mixin rfl ?_)) ?_))
                      exact ⟨k + 1, rfl, by omega, rfl, hs291.drop.drop.drop.tail⟩
                    ·
                     try simp only [Bool.not_eq_true', Bool.not_eq_false', decide_eq_true_eq, decide_eq_false_iff_not, Int.not_lt, Int.not_le] at h302
                     refine w_skipop rfl rfl rfl ?_
                     refine w_skipop rfl rfl rfl ?_
                     refine w_skipop rfl rfl rfl ?_
                     refine w_pure (want_yes rfl rfl rfl) (y_pickF (v := _) rfl rfl rfl rfl) rfl ?_
                     refine w_pure want_none (y_pickF (v := .bool _) rfl rfl rfl rfl) rfl ?_
                     refine w_nil ?_
                     refine q_then (hK292 _ _ ?_)
                     refine w_condF rfl rfl ?_
                     refine w_skip ?_
                     refine q_blk_normal ?_
                     refine q_then (hK250 _ _ ?_)
                     refine w_region ?_
                     refine w_pure want_none (y_move (v := .int _ _) rfl rfl) rfl ?_
                     refine w_pure want_none (y_add rfl rfl rfl rfl (by omega) (by omega)) rfl ?_
                     refine w_pure want_none (y_assign (v := .int _ _) rfl rfl) rfl ?_
                     refine w_nil ?_
                     refine q_then (hN242 _ _ (Nx.intro (2 - (k + 1)) (by omega) (by repeat (first | exact agree_mix | refine agree_upd rfl ?_ | refine agree_updL rfl ?_ _ | refine agree_mixin rfl ?_)) ?_))
                     exact ⟨k + 1, rfl, by omega, rfl, hs291.drop.drop.drop.tail⟩
                 ·
                  try simp only [Bool.not_eq_true', Bool.not_eq_false', decide_eq_true_eq, decide_eq_false_iff_not, Int.not_lt, Int.not_le] at h296
                  refine w_skipop rfl rfl rfl ?_
                  refine w_skipop rfl rfl rfl ?_
                  refine w_pure (want_yes rfl rfl rfl) (y_pickF (v := _) rfl rfl rfl rfl) rfl ?_
                  refine w_pure want_none (y_pickF (v := .bool _) rfl rfl rfl rfl) rfl ?_
                  refine w_pure want_none (y_move (v := .bool _) rfl rfl) rfl ?_
                  refine w_pure (want_yes rfl rfl rfl) (y_move (v := .int _ _) rfl rfl) rfl ?_
                  refine w_pure (want_yes rfl rfl rfl) (y_eql rfl rfl rfl rfl) rfl ?_
                  refine w_pure (want_yes rfl rfl rfl) (y_move (v := .bool _) rfl rfl) rfl ?_
                  refine w_split (fun h304 => ?_) (fun h304 => ?_)
                  ·
                   try simp only [Bool.not_eq_true', Bool.not_eq_false', decide_eq_true_eq, decide_eq_false_iff_not, Int.not_lt, Int.not_le] at h304
                   refine w_pure (want_yes rfl rfl rfl) (y_move (v := .int _ _) rfl rfl) rfl ?_
                   refine w_pure (want_yes rfl rfl rfl) (y_move (v := .int _ _) rfl rfl) rfl ?_
                   refine w_pure (want_yes rfl rfl rfl) (y_neq rfl rfl rfl rfl) rfl ?_
                   refine w_pure (want_yes rfl rfl rfl) (y_pickT (v := .bool _) rfl rfl rfl rfl) rfl ?_
                   refine w_pure want_none (y_pickF (v := .bool _) rfl rfl rfl rfl) rfl ?_
                   refine w_pure want_none (y_move (v := .bool _) rfl rfl) rfl ?_
                   refine w_split (fun h305 => ?_) (fun h305 => ?_)
                   ·
                    exfalso
                    try simp only [Bool.not_eq_true', Bool.not_eq_false', decide_eq_true_eq, decide_eq_false_iff_not, Int.not_lt, Int.not_le] at h305
                    exact h305 (hp2 (by assumption))
                   ·
                    try simp only [Bool.not_eq_true', Bool.not_eq_false', decide_eq_true_eq, decide_eq_false_iff_not, Int.not_lt, Int.not_le] at h305
                    refine w_pure (want_yes rfl rfl rfl) (y_move (v := .int _ _) rfl rfl) rfl ?_
                    refine w_pure (want_yes rfl rfl rfl) (y_eql rfl rfl rfl rfl) rfl ?_
                    refine w_pure (want_yes rfl rfl rfl) (y_move (v := .bool _) rfl rfl) rfl ?_
                    refine w_split (fun h306 => ?_) (fun h306 => ?_)
                    ·
                     try simp only [Bool.not_eq_true', Bool.not_eq_false', decide_eq_true_eq, decide_eq_false_iff_not, Int.not_lt, Int.not_le] at h306
                     refine w_pure (want_yes rfl rfl rfl) (y_move (v := .int _ _) rfl rfl) rfl ?_
                     refine w_pure (want_yes rfl rfl rfl) (y_move (v := .int _ _) rfl rfl) rfl ?_
                     refine w_pure (want_yes rfl rfl rfl) (y_gtr rfl rfl rfl rfl) rfl ?_
                     refine w_pure (want_yes rfl rfl rfl) (y_pickT (v := .bool _) rfl rfl rfl rfl) rfl ?_
                     refine w_pure want_none (y_pickF (v := .bool _) rfl rfl rfl rfl) rfl ?_
                     refine w_nil ?_
                     refine q_then (hK292 _ _ ?_)
                     refine w_cond rfl rfl (fun h307 => ?_) (fun h307 => ?_)
                     ·
                      exfalso
                      try simp only [Bool.not_eq_true', Bool.not_eq_false', decide_eq_true_eq, decide_eq_false_iff_not, Int.not_lt, Int.not_le] at h307
                      have := hp3 (by assumption); omega
                     ·
                      try simp only [Bool.not_eq_true', Bool.not_eq_false', decide_eq_true_eq, decide_eq_false_iff_not, Int.not_lt, Int.not_le] at h307
                      refine w_skip ?_
                      refine q_blk_normal ?_
                      refine q_then (hK250 _ _ ?_)
                      refine w_region ?_
                      refine w_pure want_none (y_move (v := .int _ _) rfl rfl) rfl ?_
                      refine w_pure want_none (y_add rfl rfl rfl rfl (by omega) (by omega)) rfl ?_
                      refine w_pure want_none (y_assign (v := .int _ _) rfl rfl) rfl ?_
                      refine w_nil ?_
                      refine q_then (hN242 _ _ (Nx.intro (2 - (k + 1)) (by omega) (by repeat (first | exact agree_mix | refine agree_upd rfl ?_ | refine agree_updL rfl ?_ _ | refine agree_mixin rfl ?_)) ?_))
                      exact ⟨k + 1, rfl, by omega, rfl, hs291.drop.drop.drop.tail⟩
                    ·
                     try simp only [Bool.not_eq_true', Bool.not_eq_false', decide_eq_true_eq, decide_eq_false_iff_not, Int.not_lt, Int.not_le] at h306
                     refine w_skipop rfl rfl rfl ?_
                     refine w_skipop rfl rfl rfl ?_
                     refine w_skipop rfl rfl rfl ?_
                     refine w_pure (want_yes rfl rfl rfl) (y_pickF (v := _) rfl rfl rfl rfl) rfl ?_
                     refine w_pure want_none (y_pickF (v := .bool _) rfl rfl rfl rfl) rfl ?_
                     refine w_nil ?_
                     refine q_then (hK292 _ _ ?_)
                     refine w_condF rfl rfl ?_
                     refine w_skip ?_
                     refine q_blk_normal ?_
                     refine q_then (hK250 _ _ ?_)
                     refine w_region ?_
                     refine w_pure want_none (y_move (v := .int _ _) rfl rfl) rfl ?_
                     refine w_pure want_none (y_add rfl rfl rfl rfl (by omega) (by omega)) rfl ?_
                     refine w_pure want_none (y_assign (v := .int _ _) rfl rfl) rfl ?_
                     refine w_nil ?_
                     refine q_then (hN242 _ _ (Nx.intro (2 - (k + 1)) (by omega) (by repeat (first | exact agree_mix | refine agree_upd rfl ?_ | refine agree_updL rfl ?_ _ | refine agree_mixin rfl ?_)) ?_))
                     exact ⟨k + 1, rfl, by omega, rfl, hs291.drop.drop.drop.tail⟩
                  ·
                   try simp only [Bool.not_eq_true', Bool.not_eq_false', decide_eq_true_eq, decide_eq_false_iff_not, Int.not_lt, Int.not_le] at h304
                   refine w_skipop rfl rfl rfl ?_
                   refine w_skipop rfl rfl rfl ?_
                   refine w_skipop rfl rfl rfl ?_
                   refine w_pure (want_yes rfl rfl rfl) (y_pickF (v := _) rfl rfl rfl rfl) rfl ?_
                   refine w_pure want_none (y_pickF (v := .bool _) rfl rfl rfl rfl) rfl ?_
                   refine w_pure want_none (y_move (v := .bool _) rfl rfl) rfl ?_
                   refine w_pure (want_yes rfl rfl rfl) (y_move (v := .int _ _) rfl rfl) rfl ?_
                   refine w_pure (want_yes rfl rfl rfl) (y_eql rfl rfl rfl rfl) rfl ?_
                   refine w_pure (want_yes rfl rfl rfl) (y_move (v := .bool _) rfl rfl) rfl ?_
                   refine w_split (fun h308 => ?_) (fun h308 => ?_)
                   ·
                    try simp only [Bool.not_eq_true', Bool.not_eq_false', decide_eq_true_eq, decide_eq_false_iff_not, Int.not_lt, Int.not_le] at h308
                    refine w_pure (want_yes rfl rfl rfl) (y_move (v := .int _ _) rfl rfl) rfl ?_
                    refine w_pure (want_yes rfl rfl rfl) (y_move (v := .int _ _) rfl rfl) rfl ?_
                    refine w_pure (want_yes rfl rfl rfl) (y_gtr rfl rfl rfl rfl) rfl ?_
                    refine w_pure (want_yes rfl rfl rfl) (y_pickT (v := .bool _) rfl rfl rfl rfl) rfl ?_
                    refine w_pure want_none (y_pickF (v := .bool _) rfl rfl rfl rfl) rfl ?_
                    refine w_nil ?_
                    refine q_then (hK292 _ _ ?_)
                    refine w_cond rfl rfl (fun h309 => ?_) (fun h309 => ?_)
                    ·
                     exfalso
                     try simp only [Bool.not_eq_true', Bool.not_eq_false', decide_eq_true_eq, decide_eq_false_iff_not, Int.not_lt, Int.not_le] at h309
                     have := hp3 (by assumption); omega
                    ·
                     try simp only [Bool.not_eq_true', Bool.not_eq_false', decide_eq_true_eq, decide_eq_false_iff_not, Int.not_lt, Int.not_le] at h309
                     refine w_skip ?_
                     refine q_blk_normal ?_
                     refine q_then (hK250 _ _ ?_)
                     refine w_region ?_
                     refine w_pure want_none (y_move (v := .int _ _) rfl rfl) rfl ?_
                     refine w_pure want_none (y_add rfl rfl rfl rfl (by omega) (by omega)) rfl ?_
                     refine w_pure want_none (y_assign (v := .int _ _) rfl rfl) rfl ?_
                     refine w_nil ?_
                     refine q_then (hN242 _ _ (Nx.intro (2 - (k + 1)) (by omega) (by repeat (first | exact agree_mix | refine agree_upd rfl ?_ | refine agree_updL rfl ?_ _ | refine agree_mixin rfl ?_)) ?_))
                     exact ⟨k + 1, rfl, by omega, rfl, hs291.drop.drop.drop.tail⟩
                   ·
                    try simp only [Bool.not_eq_true', Bool.not_eq_false', decide_eq_true_eq, decide_eq_false_iff_not, Int.not_lt, Int.not_le] at h308
                    refine w_skipop rfl rfl rfl ?_
                    refine w_skipop rfl rfl rfl ?_
                    refine w_skipop rfl rfl rfl ?_
                    refine w_pure (want_yes rfl rfl rfl) (y_pickF (v := _) rfl rfl rfl rfl) rfl ?_
                    refine w_pure want_none (y_pickF (v := .bool _) rfl rfl rfl rfl) rfl ?_
                    refine w_nil ?_
                    refine q_then (hK292 _ _ ?_)
                    refine w_condF rfl rfl ?_
                    refine w_skip ?_
                    refine q_blk_normal ?_
                    refine q_then (hK250 _ _ ?_)
                    refine w_region ?_
                    refine w_pure want_none (y_move (v := .int _ _) rfl rfl) rfl ?_
                    refine w_pure want_none (y_add rfl rfl rfl rfl (by omega) (by omega)) rfl ?_
                    refine w_pure want_none (y_assign (v := .int _ _) rfl rfl) rfl ?_
                    refine w_nil ?_
                    refine q_then (hN242 _ _ (Nx.intro (2 - (k + 1)) (by omega) (by repeat (first | exact agree_mix | refine agree_upd rfl ?_ | refine agree_updL rfl ?_ _ | refine agree_mixin rfl ?_)) ?_))
                    exact ⟨k + 1, rfl, by omega, rfl, hs291.drop.drop.drop.tail⟩
            ·
             try simp only [Bool.not_eq_true', Bool.not_eq_false', decide_eq_true_eq, decide_eq_false_iff_not, Int.not_lt, Int.not_le] at h249
             refine w_exit ?_
             refine q_then_exit ?_
             refine q_then_exit ?_
             refine q_blk_this ?_
             refine q_then (hK238 _ _ ?_)
             refine w_seq (fun K311 hK310 => ?_)
             refine w_region ?_
             refine w_call want_none Try.call21 rfl rfl rfl rfl (c21 hs) ?_
             rintro _ w313 ⟨rfl, hs314⟩
             refine w_pure want_none (y_assign (v := .bool _) rfl rfl) rfl ?_
             refine w_nil ?_
             refine q_then (hK310 _ _ ?_)
             refine w_ret ?_
             refine q_ret (l := [.tmp 4]) (vs := [_]) rfl ⟨⟨rfl, show _ = (.bool _ : Value) from rfl⟩, trivial⟩ ?_
             exact ⟨rfl, hs314.drop.drop.drop.tail.tail.tail.tail.tail.drop.drop.drop⟩
         ·
          try simp only [Bool.not_eq_true', Bool.not_eq_false', decide_eq_true_eq, decide_eq_false_iff_not, Int.not_lt, Int.not_le] at h236
          refine w_skipop rfl rfl rfl ?_
          refine w_skipop rfl rfl rfl ?_
          refine w_pure (want_yes rfl rfl rfl) (y_pickF (v := _) rfl rfl rfl rfl) rfl ?_
          refine w_pure want_none (y_pickF (v := .bool _) rfl rfl rfl rfl) rfl ?_
          refine w_nil ?_
          refine q_then (hK233 _ _ ?_)
          refine w_condF rfl rfl ?_
          refine w_skip ?_
          refine q_then (hK231 _ _ ?_)
          refine w_seq (fun K316 hK315 => ?_)
          refine w_seq (fun K318 hK317 => ?_)
          refine w_region ?_
          refine w_pure want_none (y_assign (v := _) rfl rfl) rfl ?_
          refine w_nil ?_
          refine q_then (hK317 _ _ ?_)
          refine w_block ?_
          refine w_loop [4, 18, 19, 20, 21, 22, 23, 24, 177, 178, 179, 180, 181, 182, 183, 184, 185, 186, 187, 188, 189, 190, 191, 192, 193, 194, 195, 196, 197, 198, 199, 200, 201, 202, 203, 204, 205, 206, 207, 208, 209, 210, 211, 212, 213, 214, 215, 216, 217, 218, 219, 220, 221, 222, 223, 224, 225, 226, 227, 228, 229, 230, 231, 232, 233, 234, 235] [18] (fun kk vs0 w => ∃ k : Nat, vs0 = [.int .i64 k] ∧ k ≤ 2 ∧ kk = 2 - k ∧ St w0 w (BP ++ (AB ++ (B1 ++ ((bA, blk 63 csA) :: (bz6, blk 26 [.slice aR m.rooms.length cR, .slice aS m.shops.length cS, .slice aT m.trains.length cT]) :: (bz5, blk 26 [.slice p.ar m.rooms.length p.cr, .slice p.az m.shops.length p.cs, .slice (some ⟨bA, 0, none⟩) (m.trains.length + 1) capA]) :: (b6, blk 65 [.int .i64 t.room, .int .i64 t.shop, .int .i64 t.days, .int .i64 t.cap, .int .u8 e0, .int .u8 e1, .int .u8 e2, .int .u8 e3, .int .u8 e4, .int .u8 e5, .int .u8 e6]) :: (b3, blk 26 (m.cells p)) :: (BRz ++ (BSz ++ (BTz ++ (F))))))))) (2) ?_ ?_
          ·
           exact ⟨0, rfl, by omega, by omega, hs230⟩
          ·
           intro k vs μ w321 hI K320 hN319
           obtain ⟨k, rfl, hka, rfl, hs⟩ := hI
           refine w_seq (fun K323 hK322 => ?_)
           refine w_seq (fun K325 hK324 => ?_)
           refine w_region ?_
           refine w_pure want_none (y_move (v := .int _ _) rfl rfl) rfl ?_
           refine w_pure want_none (y_lss rfl rfl rfl rfl) rfl ?_
           refine w_nil ?_
           refine q_then (hK324 _ _ ?_)
           refine w_cond rfl rfl (fun h326 => ?_) (fun h326 => ?_)
           ·
            try simp only [Bool.not_eq_true', Bool.not_eq_false', decide_eq_true_eq, decide_eq_false_iff_not, Int.not_lt, Int.not_le] at h326
            refine w_skip ?_
            refine q_then (hK322 _ _ ?_)
            refine w_seq (fun K328 hK327 => ?_)
            refine w_block ?_
            refine w_seq (fun K330 hK329 => ?_)
            refine w_region ?_
            refine w_pure want_none (y_loadN (vs := [_, _, _]) Try.isAgg26 Try.sizeOf26 hs.drop.drop.drop.tail.tail rfl rfl hb5) rfl ?_
            refine w_alloc (cs := [_, _, _]) want_none Try.zeroValue26 rfl hs (fun b331 w332 hs333 => ?_)
            refine w_store (i := 0) (v := .agg #[.slice _ _ _, .slice _ _ _, .slice _ _ _]) (vs := [_, _, _]) want_none Try.sizeOf26 rfl rfl rfl rfl rfl (by simp [Value.oneCell']) hs333 rfl (Nat.le_of_ble_eq_true rfl) (fun w334 hs335 => ?_)
            refine w_nil ?_
            refine q_then (hK329 _ _ ?_)
            refine w_seq (fun K337 hK336 => ?_)
            refine w_cut [182, 183, 184] [] (fun vs w => vs = [] ∧ ∃ (z : Market) (pz : At3), MIn w0 ((bA, blk 63 csA) :: (bz6, blk 26 [.slice aR m.rooms.length cR, .slice aS m.shops.length cS, .slice aT m.trains.length cT]) :: (bz5, blk 26 [.slice p.ar m.rooms.length p.cr, .slice p.az m.shops.length p.cs, .slice (some ⟨bA, 0, none⟩) (m.trains.length + 1) capA]) :: (b6, blk 65 [.int .i64 t.room, .int .i64 t.shop, .int .i64 t.days, .int .i64 t.cap, .int .u8 e0, .int .u8 e1, .int .u8 e2, .int .u8 e3, .int .u8 e4, .int .u8 e5, .int .u8 e6]) :: (b3, blk 26 (m.cells p)) :: (BRz ++ (BSz ++ (BTz ++ (F))))) z pz ∧ ((check z).2.2 = 0 → Eas m z) ∧ St w0 w ((b331, blk 26 (z.cells pz)) :: (BP ++ (AB ++ (B1 ++ ((bA, blk 63 csA) :: (bz6, blk 26 [.slice aR m.rooms.length cR, .slice aS m.shops.length cS, .slice aT m.trains.length cT]) :: (bz5, blk 26 [.slice p.ar m.rooms.length p.cr, .slice p.az m.shops.length p.cs, .slice (some ⟨bA, 0, none⟩) (m.trains.length + 1) capA]) :: (b6, blk 65 [.int .i64 t.room, .int .i64 t.shop, .int .i64 t.days, .int .i64 t.cap, .int .u8 e0, .int .u8 e1, .int .u8 e2, .int .u8 e3, .int .u8 e4, .int .u8 e5, .int .u8 e6]) :: (b3, blk 26 (m.cells p)) :: (BRz ++ (BSz ++ (BTz ++ (F)))))))))) (fun K339 hC338 => ?_) ?_
            ·
             refine w_seq (fun K341 hK340 => ?_)
             refine w_region ?_
             refine w_pure want_none (y_move (v := .int _ _) rfl rfl) rfl ?_
             refine w_pure want_none (y_eql rfl rfl rfl rfl) rfl ?_
             refine w_nil ?_
             refine q_then (hK340 _ _ ?_)
             refine w_cond rfl rfl (fun h342 => ?_) (fun h342 => ?_)
             ·
              try simp only [Bool.not_eq_true', Bool.not_eq_false', decide_eq_true_eq, decide_eq_false_iff_not, Int.not_lt, Int.not_le] at h342
              refine w_region ?_
              refine w_pure want_none (y_loadN (vs := [_, _, _]) Try.isAgg26 Try.sizeOf26 hs335.tail.drop.drop.drop.tail rfl rfl hb6) rfl ?_
              refine w_store (i := 0) (v := .agg #[.slice _ _ _, .slice _ _ _, .slice _ _ _]) (vs := [_, _, _]) want_none Try.sizeOf26 rfl rfl rfl rfl rfl (by simp [Value.oneCell']) hs335 rfl (Nat.le_of_ble_eq_true rfl) (fun w343 hs344 => ?_)
              refine w_nil ?_
              refine q_then (hC338 _ _ (Md.intro (by repeat (first | exact agree_refl | exact agree_mix | refine agree_upd rfl ?_ | refine agree_updL rfl ?_ _ | refine agree_mixin rfl ?_)) ?_))
              first
                | exact ⟨rfl, oneMore m t, { p with at_ := some ⟨bA, 0, none⟩, ct := capA }, hmA, (fun hc => eas_more hok (check_ok hc)), by rw [hcA]; exact hs344⟩
                | exact ⟨rfl, (better m (e0 % 8) (e1 % 8) (e2 % 3) (e3 % 3) ((e4 % (m.trains.length : Int)).toNat) ((e5 % (m.shops.length : Int)).toNat) ((e6 % (m.rooms.length : Int)).toNat)), (⟨aR, cR, aS, cS, aT, cT⟩ : At3), hmB, (fun hc => eas_better hok (by omega) (by omega) (by omega) (by omega) _ _ _ (check_ok hc)), by rw [hcB]; exact hs344⟩
             ·
              try simp only [Bool.not_eq_true', Bool.not_eq_false', decide_eq_true_eq, decide_eq_false_iff_not, Int.not_lt, Int.not_le] at h342
              refine w_skip ?_
              refine q_then (hC338 _ _ (Md.intro (by repeat (first | exact agree_refl | exact agree_mix | refine agree_upd rfl ?_ | refine agree_updL rfl ?_ _ | refine agree_mixin rfl ?_)) ?_))
              first
                | exact ⟨rfl, oneMore m t, { p with at_ := some ⟨bA, 0, none⟩, ct := capA }, hmA, (fun hc => eas_more hok (check_ok hc)), by rw [hcA]; exact hs335⟩
                | exact ⟨rfl, (better m (e0 % 8) (e1 % 8) (e2 % 3) (e3 % 3) ((e4 % (m.trains.length : Int)).toNat) ((e5 % (m.shops.length : Int)).toNat) ((e6 % (m.rooms.length : Int)).toNat)), (⟨aR, cR, aS, cS, aT, cT⟩ : At3), hmB, (fun hc => eas_better hok (by omega) (by omega) (by omega) (by omega) _ _ _ (check_ok hc)), by rw [hcB]; exact hs335⟩
            ·
             intro vs μ w345 hM
             obtain ⟨rfl, z, pz, hmz, heas, hs⟩ := hM
             have hb19 : Ats w0 ((b331, blk 26 (z.cells pz)) :: (BP ++ (AB ++ (B1 ++ ((bA, blk 63 csA) :: (bz6, blk 26 [.slice aR m.rooms.length cR, .slice aS m.shops.length cS, .slice aT m.trains.length cT]) :: (bz5, blk 26 [.slice p.ar m.rooms.length p.cr, .slice p.az m.shops.length p.cs, .slice (some ⟨bA, 0, none⟩) (m.trains.length + 1) capA]) :: (b6, blk 65 [.int .i64 t.room, .int .i64 t.shop, .int .i64 t.days, .int .i64 t.cap, .int .u8 e0, .int .u8 e1, .int .u8 e2, .int .u8 e3, .int .u8 e4, .int .u8 e5, .int .u8 e6]) :: (b3, blk 26 (m.cells p)) :: (BRz ++ (BSz ++ (BTz ++ (F))))))))) b331 0 (z.cells pz) := ats_own (i := 0) (vs := z.cells pz) rfl rfl
             refine q_then (hK336 _ _ ?_)
             refine w_seq (fun K347 hK346 => ?_)
             refine w_seq (fun K349 hK348 => ?_)
             refine w_region ?_
             refine w_pure want_none (y_loadN (vs := [_, _, _]) Try.isAgg26 Try.sizeOf26 hs rfl rfl hb19) rfl ?_
             refine w_call want_none Try.call35 rfl rfl rfl rfl (c35 z _ hmz.app.app.app.cons hs) ?_
             rintro _ w351 ⟨rfl, hs352⟩
             refine w_pure want_none (y_not rfl rfl) rfl ?_
             refine w_nil ?_
             refine q_then (hK348 _ _ ?_)
             refine w_cond rfl rfl (fun h353 => ?_) (fun h353 => ?_)
             ·
              try simp only [Bool.not_eq_true', Bool.not_eq_false', decide_eq_true_eq, decide_eq_false_iff_not, Int.not_lt, Int.not_le] at h353
              refine w_exit ?_
              refine q_then_exit ?_
              refine q_blk_this ?_
              refine q_then (hK327 _ _ ?_)
              refine w_region ?_
              refine w_pure want_none (y_move (v := .int _ _) rfl rfl) rfl ?_
              refine w_pure want_none (y_add rfl rfl rfl rfl (by omega) (by omega)) rfl ?_
              refine w_pure want_none (y_assign (v := .int _ _) rfl rfl) rfl ?_
              refine w_nil ?_
              refine q_then (hN319 _ _ (Nx.intro (2 - (k + 1)) (by omega) (by repeat (first | exact agree_mix | refine agree_upd rfl ?_ | refine agree_updL rfl ?_ _ | refine agree_mixin rfl ?_)) ?_))
              exact ⟨k + 1, rfl, by omega, rfl, hs352.tail⟩
             ·
              try simp only [Bool.not_eq_true', Bool.not_eq_false', decide_eq_true_eq, decide_eq_false_iff_not, Int.not_lt, Int.not_le] at h353
              refine w_skip ?_
              refine q_then (hK346 _ _ ?_)
              refine w_seq (fun K355 hK354 => ?_)
              have hcz : (check z).2.2 = 0 := by first | assumption | (refine Decidable.byContradiction fun h0 => ?_; simp_all)
              have hokz := check_ok hcz
              have hE := eas_facts hck hcz (heas hcz)
              have hp1 := hE.pz
              have hp2 := hE.down
              have hp3 := hE.less
              rw [show allL' z = (othersTo [] z.shops.length) from rfl] at hp1 hp2 hp3
              rw [show allL' m = (othersTo [] m.shops.length) from rfl] at hp2 hp3
              have hoz := othersTo_len [] z.shops.length
              have hlz := hokz.ls
              have hle := hE.len
              refine w_region ?_
              refine w_pure want_none (y_loadN (vs := [_, _, _]) Try.isAgg26 Try.sizeOf26 hs352 rfl rfl hb19) rfl ?_
              refine w_call want_none Try.call26 rfl rfl rfl rfl (c26 z _ hmz.app.app.app.cons hs352) ?_
              rintro _ w357 ⟨BW, a_BW, c_BW, rfl, hs_BW, hs358⟩
              replace hs358 := (show St _ _ (BW ++ (_ :: BP ++ (AB ++ (B1 ++ (_ :: _ :: _ :: _ :: _ :: BRz ++ (BSz ++ (BTz ++ (F)))))))) from hs358)
              refine w_pure want_none (y_move (v := .tuple _) rfl rfl) rfl ?_
              refine w_pure want_none (y_extract (v := .slice _ _ _) rfl rfl rfl) rfl ?_
              refine w_pure want_none (y_extract (v := .int _ _) rfl rfl rfl) rfl ?_
              refine w_pure want_none (y_assign (v := .slice _ _ _) rfl rfl) rfl ?_
              refine w_pure want_none (y_assign (v := .int _ _) rfl rfl) rfl ?_
              refine w_nil ?_
              refine q_then (hK354 _ _ ?_)
              refine w_seq (fun K360 hK359 => ?_)
              refine w_draw [] [(0, 1), (1, 1), (2, 2), (3, 2), (4, 0), (5, 0), (6, 0), (7, 0), (8, 0), (9, 0), (10, 0)] Try_mo (by kernel_rfl) hs358 (fun w361 hs362 => ?_)
              refine d_take rfl want_none rfl hs362 (fun _ hq => (y_loadN (vs := [_, _, _]) Try.isAgg26 Try.sizeOf26 hq.drop rfl rfl hb19)) ?_
              refine d_take rfl want_none rfl hs362 (fun _ hq => (y_loadN (vs := [_, _, _]) Try.isAgg26 Try.sizeOf26 hq.drop rfl rfl hb19)) ?_
              refine d_eff rfl ?_
              refine w_call want_none Try.call48 rfl rfl rfl rfl (c48 z _ hmz.app.app.app.cons.app hokz hs362) ?_
              rintro _ w364 ⟨AZ, a_AZ, c_AZ, rfl, hs_AZ, hs365⟩
              replace hs365 := (show St _ _ (AZ ++ (BW ++ (_ :: BP ++ (AB ++ (B1 ++ (_ :: _ :: _ :: _ :: _ :: BRz ++ (BSz ++ (BTz ++ (F))))))))) from hs365)
              refine w_nil ?_
              refine qn ⟨hs365.drop, ?_⟩
              refine d_eff rfl ?_
              refine w_call want_none Try.call24 rfl rfl rfl rfl (c24 z _ hmz.app.app.app.cons.app.app _ _ (othersTo [] z.shops.length) (by omega) hs_AZ.top hs365) ?_
              rintro _ w367 ⟨BQ, a_BQ, c_BQ, rfl, hs_BQ, hs368⟩
              replace hs368 := (show St _ _ (BQ ++ (AZ ++ (BW ++ (_ :: BP ++ (AB ++ (B1 ++ (_ :: _ :: _ :: _ :: _ :: BRz ++ (BSz ++ (BTz ++ (F)))))))))) from hs368)
              refine w_nil ?_
              refine qn ⟨hs368.drop.drop, ?_⟩
              refine d_any rfl want_none rfl (fun _ => (y_move (v := .tuple _) rfl rfl)) ?_
              refine d_any rfl want_none rfl (fun _ => (y_extract (v := .slice _ _ _) rfl rfl rfl)) ?_
              refine d_any rfl want_none rfl (fun _ => (y_extract (v := .int _ _) rfl rfl rfl)) ?_
              refine d_any rfl want_none rfl (fun _ => (y_extract (v := .int _ _) rfl rfl rfl)) ?_
              refine d_any rfl want_none rfl (fun _ => (y_assign (v := .slice _ _ _) rfl rfl)) ?_
              refine d_any rfl want_none rfl (fun _ => (y_assign (v := .int _ _) rfl rfl)) ?_
              refine d_any rfl want_none rfl (fun _ => (y_assign (v := .int _ _) rfl rfl)) ?_
              refine d_nil ?_
              refine q_then (hK359 _ _ ?_)
              refine w_seq (fun K370 hK369 => ?_)
              refine w_region ?_
              refine w_pure want_none (y_move (v := .int _ _) rfl rfl) rfl ?_
              refine w_pure want_none (y_neq rfl rfl rfl rfl) rfl ?_
              refine w_pure want_none (y_move (v := .bool _) rfl rfl) rfl ?_
              refine w_split (fun h371 => ?_) (fun h371 => ?_)
              ·
               exfalso
               try simp only [Bool.not_eq_true', Bool.not_eq_false', decide_eq_true_eq, decide_eq_false_iff_not, Int.not_lt, Int.not_le] at h371
               exact h371 hE.e0
              ·
               try simp only [Bool.not_eq_true', Bool.not_eq_false', decide_eq_true_eq, decide_eq_false_iff_not, Int.not_lt, Int.not_le] at h371
               refine w_pure (want_yes rfl rfl rfl) (y_move (v := .slice _ _ _) rfl rfl) rfl ?_
               refine w_pure (want_yes rfl rfl rfl) (y_lenS Try.underlying30 rfl rfl) rfl ?_
               refine w_pure (want_yes rfl rfl rfl) (y_move (v := .slice _ _ _) rfl rfl) rfl ?_
               refine w_pure (want_yes rfl rfl rfl) (y_lenS Try.underlying30 rfl rfl) rfl ?_
               refine w_pure (want_yes rfl rfl rfl) (y_gtr rfl rfl rfl rfl) rfl ?_
               refine w_pure want_none (y_pickF (v := .bool _) rfl rfl rfl rfl) rfl ?_
               refine w_pure want_none (y_move (v := .bool _) rfl rfl) rfl ?_
               refine w_split (fun h372 => ?_) (fun h372 => ?_)
               ·
                exfalso
                try simp only [Bool.not_eq_true', Bool.not_eq_false', decide_eq_true_eq, decide_eq_false_iff_not, Int.not_lt, Int.not_le] at h372
                omega
               ·
                try simp only [Bool.not_eq_true', Bool.not_eq_false', decide_eq_true_eq, decide_eq_false_iff_not, Int.not_lt, Int.not_le] at h372
                refine w_pure (want_yes rfl rfl rfl) (y_move (v := .int _ _) rfl rfl) rfl ?_
                refine w_pure (want_yes rfl rfl rfl) (y_neq rfl rfl rfl rfl) rfl ?_
                refine w_pure (want_yes rfl rfl rfl) (y_move (v := .bool _) rfl rfl) rfl ?_
                refine w_split (fun h373 => ?_) (fun h373 => ?_)
                ·
                 try simp only [Bool.not_eq_true', Bool.not_eq_false', decide_eq_true_eq, decide_eq_false_iff_not, Int.not_lt, Int.not_le] at h373
                 refine w_pure (want_yes rfl rfl rfl) (y_move (v := .int _ _) rfl rfl) rfl ?_
                 refine w_pure (want_yes rfl rfl rfl) (y_neq rfl rfl rfl rfl) rfl ?_
                 refine w_pure (want_yes rfl rfl rfl) (y_pickT (v := .bool _) rfl rfl rfl rfl) rfl ?_
                 refine w_pure want_none (y_pickF (v := .bool _) rfl rfl rfl rfl) rfl ?_
                 refine w_pure want_none (y_move (v := .bool _) rfl rfl) rfl ?_
                 refine w_split (fun h374 => ?_) (fun h374 => ?_)
                 ·
                  exfalso
                  try simp only [Bool.not_eq_true', Bool.not_eq_false', decide_eq_true_eq, decide_eq_false_iff_not, Int.not_lt, Int.not_le] at h374
                  omega
                 ·
                  try simp only [Bool.not_eq_true', Bool.not_eq_false', decide_eq_true_eq, decide_eq_false_iff_not, Int.not_lt, Int.not_le] at h374
                  refine w_pure (want_yes rfl rfl rfl) (y_move (v := .int _ _) rfl rfl) rfl ?_
                  refine w_pure (want_yes rfl rfl rfl) (y_eql rfl rfl rfl rfl) rfl ?_
                  refine w_pure (want_yes rfl rfl rfl) (y_move (v := .bool _) rfl rfl) rfl ?_
                  refine w_split (fun h375 => ?_) (fun h375 => ?_)
                  ·
                   try simp only [Bool.not_eq_true', Bool.not_eq_false', decide_eq_true_eq, decide_eq_false_iff_not, Int.not_lt, Int.not_le] at h375
                   refine w_pure (want_yes rfl rfl rfl) (y_move (v := .int _ _) rfl rfl) rfl ?_
                   refine w_pure (want_yes rfl rfl rfl) (y_move (v := .int _ _) rfl rfl) rfl ?_
                   refine w_pure (want_yes rfl rfl rfl) (y_neq rfl rfl rfl rfl) rfl ?_
                   refine w_pure (want_yes rfl rfl rfl) (y_pickT (v := .bool _) rfl rfl rfl rfl) rfl ?_
                   refine w_pure want_none (y_pickF (v := .bool _) rfl rfl rfl rfl) rfl ?_
                   refine w_pure want_none (y_move (v := .bool _) rfl rfl) rfl ?_
                   refine w_split (fun h376 => ?_) (fun h376 => ?_)
                   ·
                    exfalso
                    try simp only [Bool.not_eq_true', Bool.not_eq_false', decide_eq_true_eq, decide_eq_false_iff_not, Int.not_lt, Int.not_le] at h376
                    exact h376 (hp2 (by assumption))
                   ·
                    try simp only [Bool.not_eq_true', Bool.not_eq_false', decide_eq_true_eq, decide_eq_false_iff_not, Int.not_lt, Int.not_le] at h376
                    refine w_pure (want_yes rfl rfl rfl) (y_move (v := .int _ _) rfl rfl) rfl ?_
                    refine w_pure (want_yes rfl rfl rfl) (y_eql rfl rfl rfl rfl) rfl ?_
                    refine w_pure (want_yes rfl rfl rfl) (y_move (v := .bool _) rfl rfl) rfl ?_
                    refine w_split (fun h377 => ?_) (fun h377 => ?_)
                    ·
                     try simp only [Bool.not_eq_true', Bool.not_eq_false', decide_eq_true_eq, decide_eq_false_iff_not, Int.not_lt, Int.not_le] at h377
                     refine w_pure (want_yes rfl rfl rfl) (y_move (v := .int _ _) rfl rfl) rfl ?_
                     refine w_pure (want_yes rfl rfl rfl) (y_move (v := .int _ _) rfl rfl) rfl ?_
                     refine w_pure (want_yes rfl rfl rfl) (y_gtr rfl rfl rfl rfl) rfl ?_
                     refine w_pure (want_yes rfl rfl rfl) (y_pickT (v := .bool _) rfl rfl rfl rfl) rfl ?_
                     refine w_pure want_none (y_pickF (v := .bool _) rfl rfl rfl rfl) rfl ?_
                     refine w_nil ?_
                     refine q_then (hK369 _ _ ?_)
                     refine w_cond rfl rfl (fun h378 => ?_) (fun h378 => ?_)
                     ·
                      exfalso
                      try simp only [Bool.not_eq_true', Bool.not_eq_false', decide_eq_true_eq, decide_eq_false_iff_not, Int.not_lt, Int.not_le] at h378
                      have := hp3 (by assumption); omega
                     ·
                      try simp only [Bool.not_eq_true', Bool.not_eq_false', decide_eq_true_eq, decide_eq_false_iff_not, Int.not_lt, Int.not_le] at h378
                      refine w_skip ?_
                      refine q_blk_normal ?_
                      refine q_then (hK327 _ _ ?_)
                      refine w_region ?_
                      refine w_pure want_none (y_move (v := .int _ _) rfl rfl) rfl ?_
                      refine w_pure want_none (y_add rfl rfl rfl rfl (by omega) (by omega)) rfl ?_
                      refine w_pure want_none (y_assign (v := .int _ _) rfl rfl) rfl ?_
                      refine w_nil ?_
                      refine q_then (hN319 _ _ (Nx.intro (2 - (k + 1)) (by omega) (by repeat (first | exact agree_mix | refine agree_upd rfl ?_ | refine agree_updL rfl ?_ _ | refine agree_mixin rfl ?_)) ?_))
                      exact ⟨k + 1, rfl, by omega, rfl, hs368.drop.drop.drop.tail⟩
                    ·
                     try simp only [Bool.not_eq_true', Bool.not_eq_false', decide_eq_true_eq, decide_eq_false_iff_not, Int.not_lt, Int.not_le] at h377
                     refine w_skipop rfl rfl rfl ?_
                     refine w_skipop rfl rfl rfl ?_
                     refine w_skipop rfl rfl rfl ?_
                     refine w_pure (want_yes rfl rfl rfl) (y_pickF (v := _) rfl rfl rfl rfl) rfl ?_
                     refine w_pure want_none (y_pickF (v := .bool _) rfl rfl rfl rfl) rfl ?_
                     refine w_nil ?_
                     refine q_then (hK369 _ _ ?_)
                     refine w_condF rfl rfl ?_
                     refine w_skip ?_
                     refine q_blk_normal ?_
                     refine q_then (hK327 _ _ ?_)
                     refine w_region ?_
                     refine w_pure want_none (y_move (v := .int _ _) rfl rfl) rfl ?_
                     refine w_pure want_none (y_add rfl rfl rfl rfl (by omega) (by omega)) rfl ?_
                     refine w_pure want_none (y_assign (v := .int _ _) rfl rfl) rfl ?_
                     refine w_nil ?_
                     refine q_then (hN319 _ _ (Nx.intro (2 - (k + 1)) (by omega) (by repeat (first | exact agree_mix | refine agree_upd rfl ?_ | refine agree_updL rfl ?_ _ | refine agree_mixin rfl ?_)) ?_))
                     exact ⟨k + 1, rfl, by omega, rfl, hs368.drop.drop.drop.tail⟩
                  ·
                   try simp only [Bool.not_eq_true', Bool.not_eq_false', decide_eq_true_eq, decide_eq_false_iff_not, Int.not_lt, Int.not_le] at h375
                   refine w_skipop rfl rfl rfl ?_
                   refine w_skipop rfl rfl rfl ?_
                   refine w_skipop rfl rfl rfl ?_
                   refine w_pure (want_yes rfl rfl rfl) (y_pickF (v := _) rfl rfl rfl rfl) rfl ?_
                   refine w_pure want_none (y_pickF (v := .bool _) rfl rfl rfl rfl) rfl ?_
                   refine w_pure want_none (y_move (v := .bool _) rfl rfl) rfl ?_
                   refine w_pure (want_yes rfl rfl rfl) (y_move (v := .int _ _) rfl rfl) rfl ?_
                   refine w_pure (want_yes rfl rfl rfl) (y_eql rfl rfl rfl rfl) rfl ?_
                   refine w_pure (want_yes rfl rfl rfl) (y_move (v := .bool _) rfl rfl) rfl ?_
                   refine w_split (fun h379 => ?_) (fun h379 => ?_)
                   ·
                    try simp only [Bool.not_eq_true', Bool.not_eq_false', decide_eq_true_eq, decide_eq_false_iff_not, Int.not_lt, Int.not_le] at h379
                    refine w_pure (want_yes rfl rfl rfl) (y_move (v := .int _ _) rfl rfl) rfl ?_
                    refine w_pure (want_yes rfl rfl rfl) (y_move (v := .int _ _) rfl rfl) rfl ?_
                    refine w_pure (want_yes rfl rfl rfl) (y_gtr rfl rfl rfl rfl) rfl ?_
                    refine w_pure (want_yes rfl rfl rfl) (y_pickT (v := .bool _) rfl rfl rfl rfl) rfl ?_
                    refine w_pure want_none (y_pickF (v := .bool _) rfl rfl rfl rfl) rfl ?_
                    refine w_nil ?_
                    refine q_then (hK369 _ _ ?_)
                    refine w_cond rfl rfl (fun h380 => ?_) (fun h380 => ?_)
                    ·
                     exfalso
                     try simp only [Bool.not_eq_true', Bool.not_eq_false', decide_eq_true_eq, decide_eq_false_iff_not, Int.not_lt, Int.not_le] at h380
                     have := hp3 (by assumption); omega
                    ·
                     try simp only [Bool.not_eq_true', Bool.not_eq_false', decide_eq_true_eq, decide_eq_false_iff_not, Int.not_lt, Int.not_le] at h380
                     refine w_skip ?_
                     refine q_blk_normal ?_
                     refine q_then (hK327 _ _ ?_)
                     refine w_region ?_
                     refine w_pure want_none (y_move (v := .int _ _) rfl rfl) rfl ?_
                     refine w_pure want_none (y_add rfl rfl rfl rfl (by omega) (by omega)) rfl ?_
                     refine w_pure want_none (y_assign (v := .int _ _) rfl rfl) rfl ?_
                     refine w_nil ?_
                     refine q_then (hN319 _ _ (Nx.intro (2 - (k + 1)) (by omega) (by repeat (first | exact agree_mix | refine agree_upd rfl ?_ | refine agree_updL rfl ?_ _ | refine agree_mixin rfl ?_)) ?_))
                     exact ⟨k + 1, rfl, by omega, rfl, hs368.drop.drop.drop.tail⟩
                   ·
                    try simp only [Bool.not_eq_true', Bool.not_eq_false', decide_eq_true_eq, decide_eq_false_iff_not, Int.not_lt, Int.not_le] at h379
                    refine w_skipop rfl rfl rfl ?_
                    refine w_skipop rfl rfl rfl ?_
                    refine w_skipop rfl rfl rfl ?_
                    refine w_pure (want_yes rfl rfl rfl) (y_pickF (v := _) rfl rfl rfl rfl) rfl ?_
                    refine w_pure want_none (y_pickF (v := .bool _) rfl rfl rfl rfl) rfl ?_
                    refine w_nil ?_
                    refine q_then (hK369 _ _ ?_)
                    refine w_condF rfl rfl ?_
                    refine w_skip ?_
                    refine q_blk_normal ?_
                    refine q_then (hK327 _ _ ?_)
                    refine w_region ?_
                    refine w_pure want_none (y_move (v := .int _ _) rfl rfl) rfl ?_
                    refine w_pure want_none (y_add rfl rfl rfl rfl (by omega) (by omega)) rfl ?_
                    refine w_pure want_none (y_assign (v := .int _ _) rfl rfl) rfl ?_
                    refine w_nil ?_
                    refine q_then (hN319 _ _ (Nx.intro (2 - (k + 1)) (by omega) (by repeat (first | exact agree_mix | refine agree_upd rfl ?_ | refine agree_updL rfl ?_ _ | refine agree_mixin rfl ?_)) ?_))
                    exact ⟨k + 1, rfl, by omega, rfl, hs368.drop.drop.drop.tail⟩
                ·
                 try simp only [Bool.not_eq_true', Bool.not_eq_false', decide_eq_true_eq, decide_eq_false_iff_not, Int.not_lt, Int.not_le] at h373
                 refine w_skipop rfl rfl rfl ?_
                 refine w_skipop rfl rfl rfl ?_
                 refine w_pure (want_yes rfl rfl rfl) (y_pickF (v := _) rfl rfl rfl rfl) rfl ?_
                 refine w_pure want_none (y_pickF (v := .bool _) rfl rfl rfl rfl) rfl ?_
                 refine w_pure want_none (y_move (v := .bool _) rfl rfl) rfl ?_
                 refine w_pure (want_yes rfl rfl rfl) (y_move (v := .int _ _) rfl rfl) rfl ?_
                 refine w_pure (want_yes rfl rfl rfl) (y_eql rfl rfl rfl rfl) rfl ?_
                 refine w_pure (want_yes rfl rfl rfl) (y_move (v := .bool _) rfl rfl) rfl ?_
                 refine w_split (fun h381 => ?_) (fun h381 => ?_)
                 ·
                  try simp only [Bool.not_eq_true', Bool.not_eq_false', decide_eq_true_eq, decide_eq_false_iff_not, Int.not_lt, Int.not_le] at h381
                  refine w_pure (want_yes rfl rfl rfl) (y_move (v := .int _ _) rfl rfl) rfl ?_
                  refine w_pure (want_yes rfl rfl rfl) (y_move (v := .int _ _) rfl rfl) rfl ?_
                  refine w_pure (want_yes rfl rfl rfl) (y_neq rfl rfl rfl rfl) rfl ?_
                  refine w_pure (want_yes rfl rfl rfl) (y_pickT (v := .bool _) rfl rfl rfl rfl) rfl ?_
                  refine w_pure want_none (y_pickF (v := .bool _) rfl rfl rfl rfl) rfl ?_
                  refine w_pure want_none (y_move (v := .bool _) rfl rfl) rfl ?_
                  refine w_split (fun h382 => ?_) (fun h382 => ?_)
                  ·
                   exfalso
                   try simp only [Bool.not_eq_true', Bool.not_eq_false', decide_eq_true_eq, decide_eq_false_iff_not, Int.not_lt, Int.not_le] at h382
                   exact h382 (hp2 (by assumption))
                  ·
                   try simp only [Bool.not_eq_true', Bool.not_eq_false', decide_eq_true_eq, decide_eq_false_iff_not, Int.not_lt, Int.not_le] at h382
                   refine w_pure (want_yes rfl rfl rfl) (y_move (v := .int _ _) rfl rfl) rfl ?_
                   refine w_pure (want_yes rfl rfl rfl) (y_eql rfl rfl rfl rfl) rfl ?_
                   refine w_pure (want_yes rfl rfl rfl) (y_move (v := .bool _) rfl rfl) rfl ?_
                   refine w_split (fun h383 => ?_) (fun h383 => ?_)
                   ·
                    try simp only [Bool.not_eq_true', Bool.not_eq_false', decide_eq_true_eq, decide_eq_false_iff_not, Int.not_lt, Int.not_le] at h383
                    refine w_pure (want_yes rfl rfl rfl) (y_move (v := .int _ _) rfl rfl) rfl ?_
                    refine w_pure (want_yes rfl rfl rfl) (y_move (v := .int _ _) rfl rfl) rfl ?_
                    refine w_pure (want_yes rfl rfl rfl) (y_gtr rfl rfl rfl rfl) rfl ?_
                    refine w_pure (want_yes rfl rfl rfl) (y_pickT (v := .bool _) rfl rfl rfl rfl) rfl ?_
                    refine w_pure want_none (y_pickF (v := .bool _) rfl rfl rfl rfl) rfl ?_
                    refine w_nil ?_
                    refine q_then (hK369 _ _ ?_)
                    refine w_cond rfl rfl (fun h384 => ?_) (fun h384 => ?_)
                    ·
                     exfalso
                     try simp only [Bool.not_eq_true', Bool.not_eq_false', decide_eq_true_eq, decide_eq_false_iff_not, Int.not_lt, Int.not_le] at h384
                     have := hp3 (by assumption); omega
                    ·
                     try simp only [Bool.not_eq_true', Bool.not_eq_false', decide_eq_true_eq, decide_eq_false_iff_not, Int.not_lt, Int.not_le] at h384
                     refine w_skip ?_
                     refine q_blk_normal ?_
                     refine q_then (hK327 _ _ ?_)
                     refine w_region ?_
                     refine w_pure want_none (y_move (v := .int _ _) rfl rfl) rfl ?_
                     refine w_pure want_none (y_add rfl rfl rfl rfl (by omega) (by omega)) rfl ?_
                     refine w_pure want_none (y_assign (v := .int _ _) rfl rfl) rfl ?_
                     refine w_nil ?_
                     refine q_then (hN319 _ _ (Nx.intro (2 - (k + 1)) (by omega) (by repeat (first | exact agree_mix | refine agree_upd rfl ?_ | refine agree_updL rfl ?_ _ | refine agree_mixin rfl ?_)) ?_))
                     exact ⟨k + 1, rfl, by omega, rfl, hs368.drop.drop.drop.tail⟩
                   ·
                    try simp only [Bool.not_eq_true', Bool.not_eq_false', decide_eq_true_eq, decide_eq_false_iff_not, Int.not_lt, Int.not_le] at h383
                    refine w_skipop rfl rfl rfl ?_
                    refine w_skipop rfl rfl rfl ?_
                    refine w_skipop rfl rfl rfl ?_
                    refine w_pure (want_yes rfl rfl rfl) (y_pickF (v := _) rfl rfl rfl rfl) rfl ?_
                    refine w_pure want_none (y_pickF (v := .bool _) rfl rfl rfl rfl) rfl ?_
                    refine w_nil ?_
                    refine q_then (hK369 _ _ ?_)
                    refine w_condF rfl rfl ?_
                    refine w_skip ?_
                    refine q_blk_normal ?_
                    refine q_then (hK327 _ _ ?_)
                    refine w_region ?_
                    refine w_pure want_none (y_move (v := .int _ _) rfl rfl) rfl ?_
                    refine w_pure want_none (y_add rfl rfl rfl rfl (by omega) (by omega)) rfl ?_
                    refine w_pure want_none (y_assign (v := .int _ _) rfl rfl) rfl ?_
                    refine w_nil ?_
                    refine q_then (hN319 _ _ (Nx.intro (2 - (k + 1)) (by omega) (by repeat (first | exact agree_mix | refine agree_upd rfl ?_ | refine agree_updL rfl ?_ _ | refine agree_mixin rfl ?_)) ?_))
                    exact ⟨k + 1, rfl, by omega, rfl, hs368.drop.drop.drop.tail⟩
                 ·
                  try simp only [Bool.not_eq_true', Bool.not_eq_false', decide_eq_true_eq, decide_eq_false_iff_not, Int.not_lt, Int.not_le] at h381
                  refine w_skipop rfl rfl rfl ?_
                  refine w_skipop rfl rfl rfl ?_
                  refine w_skipop rfl rfl rfl ?_
                  refine w_pure (want_yes rfl rfl rfl) (y_pickF (v := _) rfl rfl rfl rfl) rfl ?_
                  refine w_pure want_none (y_pickF (v := .bool _) rfl rfl rfl rfl) rfl ?_
                  refine w_pure want_none (y_move (v := .bool _) rfl rfl) rfl ?_
                  refine w_pure (want_yes rfl rfl rfl) (y_move (v := .int _ _) rfl rfl) rfl ?_
                  refine w_pure (want_yes rfl rfl rfl) (y_eql rfl rfl rfl rfl) rfl ?_
                  refine w_pure (want_yes rfl rfl rfl) (y_move (v := .bool _) rfl rfl) rfl ?_
                  refine w_split (fun h385 => ?_) (fun h385 => ?_)
                  ·
                   try simp only [Bool.not_eq_true', Bool.not_eq_false', decide_eq_true_eq, decide_eq_false_iff_not, Int.not_lt, Int.not_le] at h385
                   refine w_pure (want_yes rfl rfl rfl) (y_move (v := .int _ _) rfl rfl) rfl ?_
                   refine w_pure (want_yes rfl rfl rfl) (y_move (v := .int _ _) rfl rfl) rfl ?_
                   refine w_pure (want_yes rfl rfl rfl) (y_gtr rfl rfl rfl rfl) rfl ?_
                   refine w_pure (want_yes rfl rfl rfl) (y_pickT (v := .bool _) rfl rfl rfl rfl) rfl ?_
                   refine w_pure want_none (y_pickF (v := .bool _) rfl rfl rfl rfl) rfl ?_
                   refine w_nil ?_
                   refine q_then (hK369 _ _ ?_)
                   refine w_cond rfl rfl (fun h386 => ?_) (fun h386 => ?_)
                   ·
                    exfalso
                    try simp only [Bool.not_eq_true', Bool.not_eq_false', decide_eq_true_eq, decide_eq_false_iff_not, Int.not_lt, Int.not_le] at h386
                    have := hp3 (by assumption); omega
                   ·
                    try simp only [Bool.not_eq_true', Bool.not_eq_false', decide_eq_true_eq, decide_eq_false_iff_not, Int.not_lt, Int.not_le] at h386
                    refine w_skip ?_
                    refine q_blk_normal ?_
                    refine q_then (hK327 _ _ ?_)
                    refine w_region ?_
                    refine w_pure want_none (y_move (v := .int _ _) rfl rfl) rfl ?_
                    refine w_pure want_none (y_add rfl rfl rfl rfl (by omega) (by omega)) rfl ?_
                    refine w_pure want_none (y_assign (v := .int _ _) rfl rfl) rfl ?_
                    refine w_nil ?_
                    refine q_then (hN319 _ _ (Nx.intro (2 - (k + 1)) (by omega) (by repeat (first | exact agree_mix | refine agree_upd rfl ?_ | refine agree_updL rfl ?_ _ | refine agree_mixin rfl ?_)) ?_))
                    exact ⟨k + 1, rfl, by omega, rfl, hs368.drop.drop.drop.tail⟩
                  ·
                   try simp only [Bool.not_eq_true', Bool.not_eq_false', decide_eq_true_eq, decide_eq_false_iff_not, Int.not_lt, Int.not_le] at h385
                   refine w_skipop rfl rfl rfl ?_
                   refine w_skipop rfl rfl rfl ?_
                   refine w_skipop rfl rfl rfl ?_
                   refine w_pure (want_yes rfl rfl rfl) (y_pickF (v := _) rfl rfl rfl rfl) rfl ?_
                   refine w_pure want_none (y_pickF (v := .bool _) rfl rfl rfl rfl) rfl ?_
                   refine w_nil ?_
                   refine q_then (hK369 _ _ ?_)
                   refine w_condF rfl rfl ?_
                   refine w_skip ?_
                   refine q_blk_normal ?_
                   refine q_then (hK327 _ _ ?_)
                   refine w_region ?_
                   refine w_pure want_none (y_move (v := .int _ _) rfl rfl) rfl ?_
                   refine w_pure want_none (y_add rfl rfl rfl rfl (by omega) (by omega)) rfl ?_
                   refine w_pure want_none (y_assign (v := .int _ _) rfl rfl) rfl ?_
                   refine w_nil ?_
                   refine q_then (hN319 _ _ (Nx.intro (2 - (k + 1)) (by omega) (by repeat (first | exact agree_mix | refine agree_upd rfl ?_ | refine agree_updL rfl ?_ _ | refine agree_mixin rfl ?_)) ?_))
                   exact ⟨k + 1, rfl, by omega, rfl, hs368.drop.drop.drop.tail⟩
           ·
            try simp only [Bool.not_eq_true', Bool.not_eq_false', decide_eq_true_eq, decide_eq_false_iff_not, Int.not_lt, Int.not_le] at h326
            refine w_exit ?_
            refine q_then_exit ?_
            refine q_then_exit ?_
            refine q_blk_this ?_
            refine q_then (hK315 _ _ ?_)
            refine w_seq (fun K388 hK387 => ?_)
            refine w_region ?_
            refine w_call want_none Try.call21 rfl rfl rfl rfl (c21 hs) ?_
            rintro _ w390 ⟨rfl, hs391⟩
            refine w_pure want_none (y_assign (v := .bool _) rfl rfl) rfl ?_
            refine w_nil ?_
            refine q_then (hK387 _ _ ?_)
            refine w_ret ?_
            refine q_ret (l := [.tmp 4]) (vs := [_]) rfl ⟨⟨rfl, show _ = (.bool _ : Value) from rfl⟩, trivial⟩ ?_
            exact ⟨rfl, hs391.drop.drop.drop.tail.tail.tail.tail.tail.drop.drop.drop⟩

end Go.Proofs
