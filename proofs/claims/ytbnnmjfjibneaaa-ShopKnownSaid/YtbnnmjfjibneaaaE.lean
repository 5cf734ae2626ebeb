/- Walks of this seat, printed by gen.py over the engine: what each function returns, in whatever world. No conditions but those of each contract. -/
import Derived.Test.YtbnnmjfjibneaaaD
import Derived.Test.YtbnnmjfjibneaaaEng11
import Derived.Test.YtbnnmjfjibneaaaSSpec3
set_option linter.unusedVariables false
set_option linter.unusedSimpArgs false
set_option maxRecDepth 20000
namespace Go.Proofs
open Go.Rt Go.Rt.Sh
attribute [local irreducible] WL WC Con Yd At Ats Sl Agree DW
theorem Try_E_fb1 (x0 : Int) (w : World) : (Instr.buildSlice 30 1 [(0, .int .i64 x0)].toArray).run Try.prog w = .ok (.slice (some ⟨w.heap.size, 0, none⟩) 1 1) (w.alloc (Go.Rt.blk 3 [.int .i64 x0])) := by kernel_rfl
theorem Try_E_fb2 (x0 : Option Addr) (l0 c0 : Nat) (x1 : Option Addr) (l1 c1 : Nat) (x2 : Option Addr) (l2 c2 : Nat) (x3 : Option Nat) (w : World) : (Instr.build 122 [(0, .agg #[.slice x0 l0 c0, .slice x1 l1 c1, .slice x2 l2 c2]), (1, .map x3)].toArray).run Try.prog w = .ok (.agg #[.slice x0 l0 c0, .slice x1 l1 c1, .slice x2 l2 c2, .map x3]) w := by kernel_rfl
theorem Try_info3 : Try.prog.info? 3 = some Try.t3 := by kernel_rfl
/-- What the memo of a market that is looked at holds. -/
def Memo (m : Market) (mm : Nat) (M : List (Nat × Obj)) : Prop := ∃ es ck, M = [(mm, .map es ck)] ∧ ∀ e ∈ es.toList, ∃ x, x.length = 8 ∧ e.key = ia x ∧ e.val = ia (lacksV m x)
theorem memo_new (m : Market) (mm : Nat) : Memo m mm [(mm, .map #[] 0)] := ⟨#[], 0, rfl, fun e he => by simp at he⟩
/-- A market that lies known in memory. -/
structure MK (w0 : World) (F : List (Nat × Obj)) (m : Market) (p : At3) (mb mm : Nat) : Prop where
  i : MIn w0 F m p
  b : Ats w0 F mb 0 [.slice p.ar m.rooms.length p.cr, .slice p.as m.shops.length p.cs, .slice p.at_ m.trains.length p.ct, .map (some mm)]
  ok : m.Ok
theorem MK.mono {w0 : World} {F F' : List (Nat × Obj)} {m : Market} {p : At3} {mb mm : Nat} (h : MK w0 F m p mb mm) (hs : ∀ w, St w0 w F' → St w0 w F) : MK w0 F' m p mb mm := ⟨h.i.mono hs, h.b.mono hs, h.ok⟩
theorem MK.cons {w0 : World} {F : List (Nat × Obj)} {x : Nat × Obj} {m : Market} {p : At3} {mb mm : Nat} (h : MK w0 F m p mb mm) : MK w0 (x :: F) m p mb mm := h.mono fun _ h => h.tail
theorem MK.app {w0 : World} {F B : List (Nat × Obj)} {m : Market} {p : At3} {mb mm : Nat} (h : MK w0 F m p mb mm) : MK w0 (B ++ F) m p mb mm := h.mono fun _ h => h.drop
theorem two_of_four {w0 w : World} {F : List (Nat × Obj)} {a b c : Nat × Obj} (h : St w0 w (a :: b :: c :: F)) : St w0 w (a :: b :: F) := (h.perm (perm_mid [a, b] [c] F)).tail
theorem _root_.Go.Rt.Sl.top {w0 : World} {B F : List (Nat × Obj)} {a : Option Addr} {sz : Nat} {rows : List (List Value)} (h : Sl w0 B a sz rows) : Sl w0 (B ++ F) a sz rows := h.mono fun _ h => h.front
theorem drop_3rd {w0 w : World} {M F : List (Nat × Obj)} {b c : Nat × Obj} (h : St w0 w (M ++ (b :: c :: F))) : St w0 w (M ++ (b :: F)) := by
  have e : M ++ (b :: c :: F) = (M ++ [b]) ++ ([c] ++ F) := by simp
  rw [e] at h
  have h2 := (h.perm (perm_mid (M ++ [b]) [c] F)).tail
  have e2 : (M ++ [b]) ++ F = M ++ (b :: F) := by simp
  exact e2 ▸ h2
theorem two_front {w0 w : World} {F : List (Nat × Obj)} {a b x : Nat × Obj} (h : St w0 w (a :: b :: x :: F)) : St w0 w (a :: b :: F) := two_of_four h
theorem c65 {w0 w : World} {F : List (Nat × Obj)} (m : Market) (p : At3) (mb mm : Nat) (hk : MK w0 F m p mb mm) (i : Nat) (hi : i < m.trains.length) (hs : St w0 w F) :
  Con Try.prog 65 [.pointer (some ⟨mb, 0, none⟩), .int .i64 i] w fun v w' => v = .bool (leaves m m.trains[i]) ∧ St w0 w' F := by
  refine con_of_wc (n := 44) Try.func65 rfl rfl (Nat.le_of_ble_eq_true rfl) ?_
  obtain ⟨ar, cr, as_, cs, at_, ct⟩ := p
  have hb := hk.b
  have ht := hk.ok.train _ (List.getElem_mem hi)
  have hlr := hk.ok.lr
  have hls := hk.ok.ls
  have hlt := hk.ok.lt
  obtain ⟨bt, ot, rfl, hxt⟩ := sl_trows hk.i.t hi
  have hir : m.trains[i].room.toNat < m.rooms.length := by omega
  have his : m.trains[i].shop.toNat < m.shops.length := by omega
  obtain ⟨br, or_, rfl, hxr⟩ := sl_rrows hk.i.r hir
  obtain ⟨bs, os, rfl, hxs⟩ := sl_srows hk.i.s his
  have hrr := hk.ok.room _ (List.getElem_mem hir)
  have hss := hk.ok.shop _ (List.getElem_mem his)
  refine w_seq (fun K2 hK1 => ?_)
  refine w_region ?_
  refine w_pure want_none (y_assign (v := _) rfl rfl) rfl ?_
  refine w_nil ?_
  refine q_then (hK1 _ _ ?_)
  refine w_seq (fun K4 hK3 => ?_)
  refine w_region ?_
  refine w_pure want_none (y_move (v := .pointer _) rfl rfl) rfl ?_
  refine w_pure want_none (y_nilCheck rfl rfl) rfl ?_
  refine w_pure want_none (y_fieldAddr (o := 0) (i := 0) Try.underlying122 rfl Try.sizeOf26 rfl rfl rfl) rfl ?_
  refine w_pure want_none (y_fieldAddr (o := 2) (i := 2) Try.underlying26 rfl Try.sizeOf24 rfl rfl rfl) rfl ?_
  refine w_pure want_none (y_load1 Try.isAgg24 hs rfl rfl (show Ats _ _ _ _ [_] from Ats.part hb 2 1)) rfl ?_
  refine w_pure want_none (y_move (v := .int _ _) rfl rfl) rfl ?_
  refine w_pure want_none (y_indexS Try.underlying24 Try.sizeOf63 rfl rfl rfl rfl (i := _) rfl (by omega)) rfl ?_
  refine w_pure want_none (y_loadN (vs := [_, _, _, _]) Try.isAgg63 Try.sizeOf63 hs rfl rfl hxt) rfl ?_
  refine w_alloc (cs := [_, _, _, _]) want_none Try.zeroValue63 rfl hs (fun b5 w6 hs7 => ?_)
  refine w_store (i := 0) (v := .agg #[.int _ _, .int _ _, .int _ _, .int _ _]) (vs := [_, _, _, _]) want_none Try.sizeOf63 rfl rfl rfl rfl rfl (by simp [Value.oneCell']) hs7 rfl (Nat.le_of_ble_eq_true rfl) (fun w8 hs9 => ?_)
  refine w_nil ?_
  refine q_then (hK3 _ _ ?_)
  refine w_seq (fun K11 hK10 => ?_)
  refine w_draw [10] [(0, 0), (1, 0), (2, 0), (3, 0), (4, 1), (5, 0), (6, 1), (7, 0), (8, 1), (9, 2), (10, 3)] Try_mo (by kernel_rfl) hs9 (fun w12 hs13 => ?_)
  refine d_any rfl want_none rfl (fun _ => (y_move (v := .pointer _) rfl rfl)) ?_
  refine d_any rfl want_none rfl (fun _ => (y_nilCheck rfl rfl)) ?_
  refine d_any rfl want_none rfl (fun _ => (y_fieldAddr (o := 0) (i := 0) Try.underlying122 rfl Try.sizeOf26 rfl rfl rfl)) ?_
  refine d_any rfl want_none rfl (fun _ => (y_fieldAddr (o := 0) (i := 0) Try.underlying26 rfl Try.sizeOf22 rfl rfl rfl)) ?_
  refine d_take rfl want_none rfl hs13 (fun _ hq => (y_load1 Try.isAgg22 hq.tail rfl rfl (show Ats _ _ _ _ [_] from Ats.part hb 0 1))) ?_
  refine d_any rfl want_none rfl (fun _ => (y_fieldAddr (o := 0) (i := 0) Try.underlying63 rfl Try.sizeOf3 rfl rfl rfl)) ?_
  refine d_take rfl want_none rfl hs13 (fun _ hq => (y_load1 Try.isAgg3 hq rfl rfl (ats_own (i := 0) (vs := [_]) rfl rfl))) ?_
  refine d_any rfl want_none rfl (fun _ => (y_indexS Try.underlying22 Try.sizeOf69 rfl rfl rfl rfl (i := (m.trains[i]'hi).room.toNat) (by omega) (by omega))) ?_
  refine d_take rfl want_none rfl hs13 (fun _ hq => (y_loadN (vs := [_, _, _, _, _]) Try.isAgg69 Try.sizeOf69 hq.tail rfl rfl hxr)) ?_
  refine d_eff rfl ?_
  refine w_alloc (cs := [_, _, _, _, _]) want_none Try.zeroValue69 rfl hs13 (fun b14 w15 hs16 => ?_)
  refine w_nil ?_
  refine qn ⟨hs16.tail, ?_⟩
  refine d_late rfl ?_
  refine w_store (i := 0) (v := .agg #[.string _, .int _ _, .int _ _, .int _ _, .int _ _]) (vs := [_, _, _, _, _]) want_none Try.sizeOf69 rfl rfl rfl rfl rfl (by simp [Value.oneCell']) hs16 rfl (Nat.le_of_ble_eq_true rfl) (fun w17 hs18 => ?_)
  refine w_nil ?_
  refine qn ?_
  refine d_nil ?_
  refine q_then (hK10 _ _ ?_)
  refine w_seq (fun K20 hK19 => ?_)
  refine w_draw [] [(0, 0), (1, 1), (2, 0), (3, 1), (4, 0), (5, 0), (6, 0), (7, 0), (8, 1), (9, 0), (10, 1), (11, 0), (12, 0), (13, 1), (14, 0), (15, 1), (16, 0), (17, 2), (18, 2), (19, 0), (20, 0)] Try_mo (by kernel_rfl) hs18 (fun w21 hs22 => ?_)
  refine d_any rfl want_none rfl (fun _ => (y_fieldAddr (o := 3) (i := 2) Try.underlying69 rfl Try.sizeOf3 rfl rfl rfl)) ?_
  refine d_take rfl want_none rfl hs22 (fun _ hq => (y_load1 Try.isAgg3 hq rfl rfl (ats_own (i := 0) (vs := [_]) rfl rfl))) ?_
  refine d_any rfl want_none rfl (fun _ => (y_fieldAddr (o := 4) (i := 3) Try.underlying69 rfl Try.sizeOf3 rfl rfl rfl)) ?_
  refine d_take rfl want_none rfl hs22 (fun _ hq => (y_load1 Try.isAgg3 hq rfl rfl (ats_own (i := 0) (vs := [_]) rfl rfl))) ?_
  refine d_any rfl want_none rfl (fun _ => (y_move (v := .pointer _) rfl rfl)) ?_
  refine d_any rfl want_none rfl (fun _ => (y_nilCheck rfl rfl)) ?_
  refine d_any rfl want_none rfl (fun _ => (y_fieldAddr (o := 0) (i := 0) Try.underlying122 rfl Try.sizeOf26 rfl rfl rfl)) ?_
  refine d_any rfl want_none rfl (fun _ => (y_fieldAddr (o := 1) (i := 1) Try.underlying26 rfl Try.sizeOf23 rfl rfl rfl)) ?_
  refine d_take rfl want_none rfl hs22 (fun _ hq => (y_load1 Try.isAgg23 hq.tail.tail rfl rfl (show Ats _ _ _ _ [_] from Ats.part hb 1 1))) ?_
  refine d_any rfl want_none rfl (fun _ => (y_fieldAddr (o := 1) (i := 1) Try.underlying63 rfl Try.sizeOf3 rfl rfl rfl)) ?_
  refine d_take rfl want_none rfl hs22 (fun _ hq => (y_load1 Try.isAgg3 hq rfl rfl (ats_own (i := 1) (vs := [_]) rfl rfl))) ?_
  refine d_any rfl want_none rfl (fun _ => (y_indexS Try.underlying23 Try.sizeOf52 rfl rfl rfl rfl (i := (m.trains[i]'hi).shop.toNat) (by omega) (by omega))) ?_
  refine d_any rfl want_none rfl (fun _ => (y_fieldAddr (o := 1) (i := 1) Try.underlying52 rfl Try.sizeOf3 rfl rfl rfl)) ?_
  refine d_take rfl want_none rfl hs22 (fun _ hq => (y_load1 Try.isAgg3 hq.tail.tail rfl rfl (show Ats _ _ _ _ [_] from Ats.part hxs 1 1))) ?_
  refine d_any rfl want_none rfl (fun _ => (y_fieldAddr (o := 2) (i := 2) Try.underlying63 rfl Try.sizeOf3 rfl rfl rfl)) ?_
  refine d_take rfl want_none rfl hs22 (fun _ hq => (y_load1 Try.isAgg3 hq rfl rfl (ats_own (i := 1) (vs := [_]) rfl rfl))) ?_
  refine d_any rfl want_none rfl (fun _ => (y_sub rfl rfl rfl rfl (by omega) (by omega))) ?_
  refine d_eff rfl ?_
  refine w_bslice (ps := [(0, _)]) (pv := [(0, .int _ _)]) (cs := [_]) want_none rfl rfl (fun w => Try_E_fb1 _ w) hs22 (fun b23 w24 hs25 => ?_)
  refine w_nil ?_
  refine qn ⟨hs25.tail, ?_⟩
  refine d_eff rfl ?_
  refine w_call want_none Try.call57 rfl rfl rfl rfl (c57 _ _ _ [_] _ (by simp) (sl_own (i := 0) (rows := [[_]]) rfl (by simp) rfl) hs25) ?_
  rintro _ w27 ⟨rfl, hs28⟩
  refine w_nil ?_
  refine qn ⟨hs28.tail, ?_⟩
  refine d_any rfl want_none rfl (fun _ => (y_not rfl rfl)) ?_
  refine d_any rfl want_none rfl (fun _ => (y_assign (v := .bool _) rfl rfl)) ?_
  refine d_nil ?_
  refine q_then (hK19 _ _ ?_)
  refine w_ret ?_
  refine q_ret (l := [.tmp 4]) (vs := [_]) rfl ⟨⟨rfl, show _ = (.bool _ : Value) from rfl⟩, trivial⟩ ?_
  exact ⟨congrArg Value.bool (by rw [leaves_at hir his]; simp), hs28.tail.tail.tail⟩

theorem c77 {w0 w : World} {F : List (Nat × Obj)} (m : Market) (p : At3) (hs : St w0 w F) :
  Con Try.prog 77 [.agg (m.cells p).toArray] w fun v w' => ∃ mb mm M, v = .pointer (some ⟨mb, 0, none⟩) ∧ Memo m mm M ∧ St w0 w' (M ++ ((mb, blk 122 [.slice p.ar m.rooms.length p.cr, .slice p.as m.shops.length p.cs, .slice p.at_ m.trains.length p.ct, .map (some mm)]) :: F)) := by
  refine con_of_wc (n := 7) Try.func77 rfl rfl (Nat.le_of_ble_eq_true rfl) ?_
  refine w_seq (fun K2 hK1 => ?_)
  refine w_region ?_
  refine w_box (v := .agg #[.slice _ _ _, .slice _ _ _, .slice _ _ _]) (cs := [_, _, _]) want_none rfl rfl rfl hs (fun b3 w4 hs5 => ?_)
  refine w_pure want_none (y_assign (v := _) rfl rfl) rfl ?_
  refine w_nil ?_
  refine q_then (hK1 _ _ ?_)
  refine w_seq (fun K7 hK6 => ?_)
  refine w_region ?_
  refine w_pure want_none (y_loadN (vs := [_, _, _]) Try.isAgg26 Try.sizeOf26 hs5 rfl rfl (ats_own (i := 0) (vs := [_, _, _]) rfl rfl)) rfl ?_
  refine w_makeMap want_none hs5 (fun b8 w9 hs10 => ?_)
  refine w_pure want_none (y_build (ps := [(0, _), (1, _)]) (pv := [(0, .agg #[.slice _ _ _, .slice _ _ _, .slice _ _ _]), (1, .map _)]) rfl rfl (fun w => Try_E_fb2 _ _ _ _ _ _ _ _ _ _ w)) rfl ?_
  refine w_box (v := .agg #[.slice _ _ _, .slice _ _ _, .slice _ _ _, .map _]) (cs := [_, _, _, _]) want_none rfl rfl rfl hs10 (fun b11 w12 hs13 => ?_)
  refine w_pure want_none (y_assign (v := .pointer _) rfl rfl) rfl ?_
  refine w_nil ?_
  refine q_then (hK6 _ _ ?_)
  refine w_ret ?_
  refine q_ret (l := [.tmp 2]) (vs := [_]) rfl ⟨⟨rfl, show _ = (.pointer _ : Value) from rfl⟩, trivial⟩ ?_
  exact ⟨_, _, _, rfl, memo_new m _, (two_front hs13).perm (List.Perm.swap _ _ _)⟩

theorem c64 {w0 w : World} {F : List (Nat × Obj)} (m : Market) (p : At3) (hm : MIn w0 F m p) (n : Int) (hn0 : 0 ≤ n) (hn1 : n ≤ 9223372036854775807) (al : Option Addr) (cl : Nat) (l : List Int) (hll : l.length ≤ 9223372036854775807) (hl : Sl w0 F al 1 (l.map fun x => [Value.int .i64 x]))  (hs : St w0 w F) :
  Con Try.prog 64 [.agg (m.cells p).toArray, .int .i64 n, .slice al l.length cl] w fun v w' => (enterE m n l ≠ 0 ∧ v = .tuple #[.pointer none, .int .i64 (enterE m n l)] ∧ St w0 w' F) ∨ (enterE m n l = 0 ∧ ∃ mb mm M, v = .tuple #[.pointer (some ⟨mb, 0, none⟩), .int .i64 0] ∧ Memo m mm M ∧ St w0 w' (M ++ ((mb, blk 122 [.slice p.ar m.rooms.length p.cr, .slice p.as m.shops.length p.cs, .slice p.at_ m.trains.length p.ct, .map (some mm)]) :: F))) := by
  refine con_of_wc (n := 28) Try.func64 rfl rfl (Nat.le_of_ble_eq_true rfl) ?_
  refine w_seq (fun K2 hK1 => ?_)
  refine w_region ?_
  refine w_box (v := .agg #[.slice _ _ _, .slice _ _ _, .slice _ _ _]) (cs := [_, _, _]) want_none rfl rfl rfl hs (fun b3 w4 hs5 => ?_)
  refine w_pure want_none (y_assign (v := _) rfl rfl) rfl ?_
  refine w_pure want_none (y_assign (v := _) rfl rfl) rfl ?_
  refine w_nil ?_
  refine q_then (hK1 _ _ ?_)
  refine w_seq (fun K7 hK6 => ?_)
  refine w_region ?_
  refine w_pure want_none (y_loadN (vs := [_, _, _]) Try.isAgg26 Try.sizeOf26 hs5 rfl rfl (ats_own (i := 0) (vs := [_, _, _]) rfl rfl)) rfl ?_
  refine w_call want_none Try.call16 rfl rfl rfl rfl (c16 m p hm.cons hs5) ?_
  rintro _ w9 ⟨rfl, hs10⟩
  refine w_pure want_none (y_move (v := .tuple _) rfl rfl) rfl ?_
  refine w_pure want_none (y_extract (v := .int _ _) rfl rfl rfl) rfl ?_
  refine w_pure want_none (y_extract (v := .int _ _) rfl rfl rfl) rfl ?_
  refine w_pure want_none (y_extract (v := .int _ _) rfl rfl rfl) rfl ?_
  refine w_pure want_none (y_assign (v := .int _ _) rfl rfl) rfl ?_
  refine w_pure want_none (y_assign (v := .int _ _) rfl rfl) rfl ?_
  refine w_pure want_none (y_assign (v := .int _ _) rfl rfl) rfl ?_
  refine w_nil ?_
  refine q_then (hK6 _ _ ?_)
  refine w_seq (fun K12 hK11 => ?_)
  refine w_block ?_
  refine w_seq (fun K14 hK13 => ?_)
  refine w_region ?_
  refine w_pure want_none (y_move (v := .int _ _) rfl rfl) rfl ?_
  refine w_pure want_none (y_neq rfl rfl rfl rfl) rfl ?_
  refine w_pure want_none (y_assign (v := .bool _) rfl rfl) rfl ?_
  refine w_nil ?_
  refine q_then (hK13 _ _ ?_)
  refine w_cond rfl rfl (fun h15 => ?_) (fun h15 => ?_)
  ·
    try simp only [Bool.not_eq_true', Bool.not_eq_false', decide_eq_true_eq, decide_eq_false_iff_not, Int.not_lt, Int.not_le] at h15
    refine w_seq (fun K17 hK16 => ?_)
    refine w_region ?_
    refine w_pure want_none (y_move (v := .int _ _) rfl rfl) rfl ?_
    refine w_pure want_none (y_assign (v := _) rfl rfl) rfl ?_
    refine w_pure want_none (y_assign (v := .int _ _) rfl rfl) rfl ?_
    refine w_nil ?_
    refine q_then (hK16 _ _ ?_)
    refine w_ret ?_
    refine q_blk_ret ?_
    refine q_then_ret ?_
    refine q_ret (l := [.tmp 6, .tmp 7]) (vs := [_, _]) rfl ⟨⟨rfl, show _ = (.pointer _ : Value) from rfl⟩, ⟨rfl, show _ = (.int _ _ : Value) from rfl⟩, trivial⟩ ?_
    first
      | exact .inl ⟨by rw [enterE_1 (by assumption)]; assumption, by rw [enterE_1 (by assumption)]; rfl, hs10.tail⟩
      | exact .inl ⟨by rw [enterE_2 (by assumption) (by assumption)]; decide, by rw [enterE_2 (by assumption) (by assumption)]; rfl, hs10.tail⟩
      | exact .inr ⟨enterE_0 (by assumption) (by assumption), mb, mm, M, rfl, hM, drop_3rd hs10⟩
  ·
    try simp only [Bool.not_eq_true', Bool.not_eq_false', decide_eq_true_eq, decide_eq_false_iff_not, Int.not_lt, Int.not_le] at h15
    refine w_seq (fun K19 hK18 => ?_)
    refine w_region ?_
    refine w_pure want_none (y_move (v := .int _ _) rfl rfl) rfl ?_
    refine w_pure want_none (y_sub rfl rfl rfl rfl (by omega) (by omega)) rfl ?_
    refine w_pure want_none (y_move (v := .slice _ _ _) rfl rfl) rfl ?_
    refine w_call want_none Try.call57 rfl rfl rfl rfl (c57 _ _ _ _ _ (by omega) hl.cons hs10) ?_
    rintro _ w21 ⟨rfl, hs22⟩
    refine w_pure want_none (y_assign (v := .bool _) rfl rfl) rfl ?_
    refine w_nil ?_
    refine q_then (hK18 _ _ ?_)
    refine w_cond rfl rfl (fun h23 => ?_) (fun h23 => ?_)
    ·
      try simp only [Bool.not_eq_true', Bool.not_eq_false', decide_eq_true_eq, decide_eq_false_iff_not, Int.not_lt, Int.not_le] at h23
      refine w_seq (fun K25 hK24 => ?_)
      refine w_region ?_
      refine w_pure want_none (y_assign (v := _) rfl rfl) rfl ?_
      refine w_pure want_none (y_assign (v := _) rfl rfl) rfl ?_
      refine w_nil ?_
      refine q_then (hK24 _ _ ?_)
      refine w_ret ?_
      refine q_blk_ret ?_
      refine q_then_ret ?_
      refine q_ret (l := [.tmp 6, .tmp 7]) (vs := [_, _]) rfl ⟨⟨rfl, show _ = (.pointer _ : Value) from rfl⟩, ⟨rfl, show _ = (.int _ _ : Value) from rfl⟩, trivial⟩ ?_
      first
        | exact .inl ⟨by rw [enterE_1 (by assumption)]; assumption, by rw [enterE_1 (by assumption)]; rfl, hs22.tail⟩
        | exact .inl ⟨by rw [enterE_2 (by assumption) (by assumption)]; decide, by rw [enterE_2 (by assumption) (by assumption)]; rfl, hs22.tail⟩
        | exact .inr ⟨enterE_0 (by assumption) (by assumption), mb, mm, M, rfl, hM, drop_3rd hs22⟩
    ·
      try simp only [Bool.not_eq_true', Bool.not_eq_false', decide_eq_true_eq, decide_eq_false_iff_not, Int.not_lt, Int.not_le] at h23
      refine w_skip ?_
      refine q_blk_normal ?_
      refine q_then (hK11 _ _ ?_)
      refine w_seq (fun K27 hK26 => ?_)
      refine w_region ?_
      refine w_pure want_none (y_loadN (vs := [_, _, _]) Try.isAgg26 Try.sizeOf26 hs22 rfl rfl (ats_own (i := 0) (vs := [_, _, _]) rfl rfl)) rfl ?_
      refine w_call want_none Try.call77 rfl rfl rfl rfl (c77 m p hs22) ?_
      rintro _ w29 ⟨mb, mm, M, rfl, hM, hs30⟩
      replace hs30 := (show St _ _ (M ++ (_ :: _ :: F)) from hs30)
      refine w_pure want_none (y_assign (v := .pointer _) rfl rfl) rfl ?_
      refine w_pure want_none (y_assign (v := _) rfl rfl) rfl ?_
      refine w_nil ?_
      refine q_then (hK26 _ _ ?_)
      refine w_ret ?_
      refine q_ret (l := [.tmp 6, .tmp 7]) (vs := [_, _]) rfl ⟨⟨rfl, show _ = (.pointer _ : Value) from rfl⟩, ⟨rfl, show _ = (.int _ _ : Value) from rfl⟩, trivial⟩ ?_
      first
        | exact .inl ⟨by rw [enterE_1 (by assumption)]; assumption, by rw [enterE_1 (by assumption)]; rfl, hs30.drop.tail.tail⟩
        | exact .inl ⟨by rw [enterE_2 (by assumption) (by assumption)]; decide, by rw [enterE_2 (by assumption) (by assumption)]; rfl, hs30.drop.tail.tail⟩
        | exact .inr ⟨enterE_0 (by assumption) (by assumption), mb, mm, M, rfl, hM, drop_3rd hs30⟩

theorem c102 {w0 w : World} {F : List (Nat × Obj)} (x : Int) (hs : St w0 w F) :
  Con Try.prog 102 [.int .i64 x] w fun v w' => v = .bool false ∧ St w0 w' F := by
  refine con_of_wc (n := 6) Try.func102 rfl rfl (Nat.le_of_ble_eq_true rfl) ?_
  refine w_seq (fun K2 hK1 => ?_)
  refine w_region ?_
  refine w_pure want_none (y_assign (v := _) rfl rfl) rfl ?_
  refine w_nil ?_
  refine q_then (hK1 _ _ ?_)
  refine w_seq (fun K4 hK3 => ?_)
  refine w_region ?_
  refine w_pure want_none (y_move (v := .int _ _) rfl rfl) rfl ?_
  refine w_pure want_none (y_move (v := .int _ _) rfl rfl) rfl ?_
  refine w_pure want_none (y_neq rfl rfl rfl rfl) rfl ?_
  refine w_pure want_none (y_assign (v := .bool _) rfl rfl) rfl ?_
  refine w_nil ?_
  refine q_then (hK3 _ _ ?_)
  refine w_ret ?_
  refine q_ret (l := [.tmp 2]) (vs := [_]) rfl ⟨⟨rfl, show _ = (.bool _ : Value) from rfl⟩, trivial⟩ ?_
  exact ⟨by simp [retV], hs⟩

def cmpI (a b : Int) : Int := if a < b then -1 else if b < a then 1 else 0
theorem c101 {w0 w : World} {F : List (Nat × Obj)} (a b : Int) (hs : St w0 w F) :
  Con Try.prog 101 [.int .i64 a, .int .i64 b] w fun v w' => v = .int .i64 (cmpI a b) ∧ St w0 w' F := by
  refine con_of_wc (n := 20) Try.func101 rfl rfl (Nat.le_of_ble_eq_true rfl) ?_
  refine w_seq (fun K2 hK1 => ?_)
  refine w_region ?_
  refine w_pure want_none (y_assign (v := _) rfl rfl) rfl ?_
  refine w_nil ?_
  refine q_then (hK1 _ _ ?_)
  refine w_seq (fun K4 hK3 => ?_)
  refine w_region ?_
  refine w_pure want_none (y_move (v := .int _ _) rfl rfl) rfl ?_
  refine w_call want_none Try.call102 rfl rfl rfl rfl (c102 _ hs) ?_
  rintro _ w6 ⟨rfl, hs7⟩
  refine w_pure want_none (y_assign (v := .bool _) rfl rfl) rfl ?_
  refine w_nil ?_
  refine q_then (hK3 _ _ ?_)
  refine w_seq (fun K9 hK8 => ?_)
  refine w_region ?_
  refine w_pure want_none (y_move (v := .int _ _) rfl rfl) rfl ?_
  refine w_call want_none Try.call102 rfl rfl rfl rfl (c102 _ hs7) ?_
  rintro _ w11 ⟨rfl, hs12⟩
  refine w_pure want_none (y_assign (v := .bool _) rfl rfl) rfl ?_
  refine w_nil ?_
  refine q_then (hK8 _ _ ?_)
  refine w_seq (fun K14 hK13 => ?_)
  refine w_seq (fun K16 hK15 => ?_)
  refine w_region ?_
  refine w_pure want_none (y_move (v := .bool _) rfl rfl) rfl ?_
  refine w_nil ?_
  refine q_then (hK15 _ _ ?_)
  refine w_condF rfl rfl ?_
  refine w_skip ?_
  refine q_then (hK13 _ _ ?_)
  refine w_seq (fun K18 hK17 => ?_)
  refine w_seq (fun K20 hK19 => ?_)
  refine w_region ?_
  refine w_pure want_none (y_move (v := .bool _) rfl rfl) rfl ?_
  refine w_nil ?_
  refine q_then (hK19 _ _ ?_)
  refine w_condF rfl rfl ?_
  refine w_skip ?_
  refine q_then (hK17 _ _ ?_)
  refine w_seq (fun K22 hK21 => ?_)
  refine w_seq (fun K24 hK23 => ?_)
  refine w_region ?_
  refine w_pure want_none (y_move (v := .int _ _) rfl rfl) rfl ?_
  refine w_pure want_none (y_move (v := .int _ _) rfl rfl) rfl ?_
  refine w_pure want_none (y_lss rfl rfl rfl rfl) rfl ?_
  refine w_nil ?_
  refine q_then (hK23 _ _ ?_)
  refine w_cond rfl rfl (fun h25 => ?_) (fun h25 => ?_)
  ·
    try simp only [Bool.not_eq_true', Bool.not_eq_false', decide_eq_true_eq, decide_eq_false_iff_not, Int.not_lt, Int.not_le] at h25
    refine w_seq (fun K27 hK26 => ?_)
    refine w_region ?_
    refine w_pure want_none (y_assign (v := _) rfl rfl) rfl ?_
    refine w_nil ?_
    refine q_then (hK26 _ _ ?_)
    refine w_ret ?_
    refine q_then_ret ?_
    refine q_ret (l := [.tmp 4]) (vs := [_]) rfl ⟨⟨rfl, show _ = (.int _ _ : Value) from rfl⟩, trivial⟩ ?_
    exact ⟨congrArg (Value.int .i64) (by unfold cmpI; (repeat' split) <;> first | rfl | omega), hs12⟩
  ·
    try simp only [Bool.not_eq_true', Bool.not_eq_false', decide_eq_true_eq, decide_eq_false_iff_not, Int.not_lt, Int.not_le] at h25
    refine w_skip ?_
    refine q_then (hK21 _ _ ?_)
    refine w_seq (fun K29 hK28 => ?_)
    refine w_seq (fun K31 hK30 => ?_)
    refine w_region ?_
    refine w_pure want_none (y_move (v := .int _ _) rfl rfl) rfl ?_
    refine w_pure want_none (y_move (v := .int _ _) rfl rfl) rfl ?_
    refine w_pure want_none (y_gtr rfl rfl rfl rfl) rfl ?_
    refine w_nil ?_
    refine q_then (hK30 _ _ ?_)
    refine w_cond rfl rfl (fun h32 => ?_) (fun h32 => ?_)
    ·
      try simp only [Bool.not_eq_true', Bool.not_eq_false', decide_eq_true_eq, decide_eq_false_iff_not, Int.not_lt, Int.not_le] at h32
      refine w_seq (fun K34 hK33 => ?_)
      refine w_region ?_
      refine w_pure want_none (y_assign (v := _) rfl rfl) rfl ?_
      refine w_nil ?_
      refine q_then (hK33 _ _ ?_)
      refine w_ret ?_
      refine q_then_ret ?_
      refine q_ret (l := [.tmp 4]) (vs := [_]) rfl ⟨⟨rfl, show _ = (.int _ _ : Value) from rfl⟩, trivial⟩ ?_
      exact ⟨congrArg (Value.int .i64) (by unfold cmpI; (repeat' split) <;> first | rfl | omega), hs12⟩
    ·
      try simp only [Bool.not_eq_true', Bool.not_eq_false', decide_eq_true_eq, decide_eq_false_iff_not, Int.not_lt, Int.not_le] at h32
      refine w_skip ?_
      refine q_then (hK28 _ _ ?_)
      refine w_seq (fun K36 hK35 => ?_)
      refine w_region ?_
      refine w_pure want_none (y_assign (v := _) rfl rfl) rfl ?_
      refine w_nil ?_
      refine q_then (hK35 _ _ ?_)
      refine w_ret ?_
      refine q_ret (l := [.tmp 4]) (vs := [_]) rfl ⟨⟨rfl, show _ = (.int _ _ : Value) from rfl⟩, trivial⟩ ?_
      exact ⟨congrArg (Value.int .i64) (by unfold cmpI; (repeat' split) <;> first | rfl | omega), hs12⟩

theorem cmp_here {a b : List Int} {i : Nat} (h : a.take i = b.take i) (ha : i < a.length) (hb : i < b.length) (hne : ¬ cmpI a[i] b[i] = 0) : decide (cmpI a[i] b[i] < 0) = less a b := by
  have hn : a[i] ≠ b[i] := fun e => hne (by unfold cmpI; rw [e]; simp)
  rw [less_here h ha hb hn]
  unfold cmpI
  rw [Bool.eq_iff_iff]
  simp only [decide_eq_true_eq]
  split
  · simp [*]
  · split <;> simp <;> omega
theorem cmp_zero {a b : Int} (h : cmpI a b = 0) : a = b := by
  unfold cmpI at h
  split at h
  · omega
  · split at h <;> omega
theorem c99 {w0 w : World} {F : List (Nat × Obj)} (aa ab : Option Addr) (a b : List Int) (ca cb : Nat) (hla : a.length ≤ 9223372036854775807) (hlb : b.length ≤ 9223372036854775807) (ha : Sl w0 F aa 1 (a.map fun x => [Value.int .i64 x])) (hb : Sl w0 F ab 1 (b.map fun x => [Value.int .i64 x])) (hs : St w0 w F) :
  Con Try.prog 99 [.slice aa a.length ca, .slice ab b.length cb] w fun v w' => (∃ z, v = .int .i64 z ∧ decide (z < 0) = less a b) ∧ St w0 w' F := by
  refine con_of_wc (n := 36) Try.func99 rfl rfl (Nat.le_of_ble_eq_true rfl) ?_
  refine w_seq (fun K2 hK1 => ?_)
  refine w_region ?_
  refine w_pure want_none (y_assign (v := _) rfl rfl) rfl ?_
  refine w_nil ?_
  refine q_then (hK1 _ _ ?_)
  refine w_seq (fun K4 hK3 => ?_)
  refine w_seq (fun K6 hK5 => ?_)
  refine w_region ?_
  refine w_pure want_none (y_move (v := .slice _ _ _) rfl rfl) rfl ?_
  refine w_pure want_none (y_lenS Try.underlying30 rfl rfl) rfl ?_
  refine w_pure want_none (y_move (v := _) rfl rfl) rfl ?_
  refine w_nil ?_
  refine q_then (hK5 _ _ ?_)
  refine w_block ?_
  refine w_loop [4, 5, 6, 7, 8, 11, 12, 13, 14, 15, 16, 17, 18, 19, 20, 21, 22, 23, 24, 25, 26, 27, 28, 29, 30] [11] (fun k vs w => ∃ i : Nat, vs = [.int .i64 i] ∧ i ≤ a.length ∧ i ≤ b.length ∧ k = a.length - i ∧ a.take i = b.take i ∧ St w0 w F) (a.length) ?_ ?_
  ·
    exact ⟨0, rfl, by omega, by omega, by omega, rfl, hs⟩
  ·
    intro k vs μ w9 hI K8 hN7
    obtain ⟨i, rfl, hia, hib, rfl, hpre, hs⟩ := hI
    refine w_seq (fun K11 hK10 => ?_)
    refine w_region ?_
    refine w_pure want_none (y_lss rfl rfl rfl rfl) rfl ?_
    refine w_nil ?_
    refine q_then (hK10 _ _ ?_)
    refine w_seq (fun K13 hK12 => ?_)
    refine w_cond rfl rfl (fun h14 => ?_) (fun h14 => ?_)
    ·
      try simp only [Bool.not_eq_true', Bool.not_eq_false', decide_eq_true_eq, decide_eq_false_iff_not, Int.not_lt, Int.not_le] at h14
      refine w_skip ?_
      refine q_then (hK12 _ _ ?_)
      refine w_seq (fun K16 hK15 => ?_)
      refine w_block ?_
      refine w_seq (fun K18 hK17 => ?_)
      have hia2 : i < a.length := by omega
      obtain ⟨ba, oa, rfl, hxa⟩ := sl_ints ha hia2
      refine w_region ?_
      refine w_pure want_none (y_move (v := .int _ _) rfl rfl) rfl ?_
      refine w_pure want_none (y_indexS Try.underlying30 Try.sizeOf3 rfl rfl rfl rfl (i := _) rfl (by omega)) rfl ?_
      refine w_pure want_none (y_load1 Try.isAgg3 hs rfl rfl hxa) rfl ?_
      refine w_pure want_none (y_assign (v := .int _ _) rfl rfl) rfl ?_
      refine w_pure want_none (y_assign (v := .int _ _) rfl rfl) rfl ?_
      refine w_nil ?_
      refine q_then (hK17 _ _ ?_)
      refine w_seq (fun K20 hK19 => ?_)
      refine w_seq (fun K22 hK21 => ?_)
      refine w_region ?_
      refine w_pure want_none (y_move (v := .int _ _) rfl rfl) rfl ?_
      refine w_pure want_none (y_move (v := .slice _ _ _) rfl rfl) rfl ?_
      refine w_pure want_none (y_lenS Try.underlying30 rfl rfl) rfl ?_
      refine w_pure want_none (y_geq rfl rfl rfl rfl) rfl ?_
      refine w_nil ?_
      refine q_then (hK21 _ _ ?_)
      refine w_cond rfl rfl (fun h23 => ?_) (fun h23 => ?_)
      ·
        try simp only [Bool.not_eq_true', Bool.not_eq_false', decide_eq_true_eq, decide_eq_false_iff_not, Int.not_lt, Int.not_le] at h23
        refine w_seq (fun K25 hK24 => ?_)
        refine w_region ?_
        refine w_pure want_none (y_assign (v := _) rfl rfl) rfl ?_
        refine w_nil ?_
        refine q_then (hK24 _ _ ?_)
        refine w_ret ?_
        refine q_then_ret ?_
        refine q_blk_ret ?_
        refine q_then_ret ?_
        refine q_then_ret ?_
        refine q_blk_ret ?_
        refine q_then_ret ?_
        refine q_ret (l := [.tmp 4]) (vs := [_]) rfl ⟨⟨rfl, show _ = (.int _ _ : Value) from rfl⟩, trivial⟩ ?_
        first
          | exact ⟨⟨_, rfl, cmp_here hpre hia2 hib2 (by assumption)⟩, hs⟩
          | exact ⟨⟨_, rfl, by rw [less_end hpre hia (by omega)]; rfl⟩, hs⟩
          | exact ⟨⟨_, rfl, by rw [less_short hpre (by omega) (by omega)]; rfl⟩, hs⟩
      ·
        try simp only [Bool.not_eq_true', Bool.not_eq_false', decide_eq_true_eq, decide_eq_false_iff_not, Int.not_lt, Int.not_le] at h23
        refine w_skip ?_
        refine q_then (hK19 _ _ ?_)
        refine w_seq (fun K27 hK26 => ?_)
        have hib2 : i < b.length := by omega
        obtain ⟨bb, ob, rfl, hxb⟩ := sl_ints hb hib2
        refine w_region ?_
        refine w_pure want_none (y_move (v := .slice _ _ _) rfl rfl) rfl ?_
        refine w_pure want_none (y_move (v := .int _ _) rfl rfl) rfl ?_
        refine w_pure want_none (y_indexS Try.underlying30 Try.sizeOf3 rfl rfl rfl rfl (i := _) rfl (by omega)) rfl ?_
        refine w_pure want_none (y_load1 Try.isAgg3 hs rfl rfl hxb) rfl ?_
        refine w_pure want_none (y_assign (v := .int _ _) rfl rfl) rfl ?_
        refine w_nil ?_
        refine q_then (hK26 _ _ ?_)
        refine w_seq (fun K29 hK28 => ?_)
        refine w_region ?_
        refine w_pure want_none (y_move (v := .int _ _) rfl rfl) rfl ?_
        refine w_pure want_none (y_move (v := .int _ _) rfl rfl) rfl ?_
        refine w_call want_none Try.call101 rfl rfl rfl rfl (c101 _ _ hs) ?_
        rintro _ w31 ⟨rfl, hs32⟩
        refine w_pure want_none (y_assign (v := .int _ _) rfl rfl) rfl ?_
        refine w_nil ?_
        refine q_then (hK28 _ _ ?_)
        refine w_seq (fun K34 hK33 => ?_)
        refine w_region ?_
        refine w_pure want_none (y_move (v := .int _ _) rfl rfl) rfl ?_
        refine w_pure want_none (y_neq rfl rfl rfl rfl) rfl ?_
        refine w_nil ?_
        refine q_then (hK33 _ _ ?_)
        refine w_cond rfl rfl (fun h35 => ?_) (fun h35 => ?_)
        ·
          try simp only [Bool.not_eq_true', Bool.not_eq_false', decide_eq_true_eq, decide_eq_false_iff_not, Int.not_lt, Int.not_le] at h35
          refine w_seq (fun K37 hK36 => ?_)
          refine w_region ?_
          refine w_pure want_none (y_move (v := .int _ _) rfl rfl) rfl ?_
          refine w_pure want_none (y_assign (v := .int _ _) rfl rfl) rfl ?_
          refine w_nil ?_
          refine q_then (hK36 _ _ ?_)
          refine w_ret ?_
          refine q_blk_ret ?_
          refine q_then_ret ?_
          refine q_then_ret ?_
          refine q_blk_ret ?_
          refine q_then_ret ?_
          refine q_ret (l := [.tmp 4]) (vs := [_]) rfl ⟨⟨rfl, show _ = (.int _ _ : Value) from rfl⟩, trivial⟩ ?_
          first
            | exact ⟨⟨_, rfl, cmp_here hpre hia2 hib2 (by assumption)⟩, hs32⟩
            | exact ⟨⟨_, rfl, by rw [less_end hpre hia (by omega)]; rfl⟩, hs32⟩
            | exact ⟨⟨_, rfl, by rw [less_short hpre (by omega) (by omega)]; rfl⟩, hs32⟩
        ·
          try simp only [Bool.not_eq_true', Bool.not_eq_false', decide_eq_true_eq, decide_eq_false_iff_not, Int.not_lt, Int.not_le] at h35
          refine w_skip ?_
          refine q_blk_normal ?_
          refine q_then (hK15 _ _ ?_)
          refine w_region ?_
          refine w_pure want_none (y_add rfl rfl rfl rfl (by omega) (by omega)) rfl ?_
          refine w_pure want_none (y_move (v := .int _ _) rfl rfl) rfl ?_
          refine w_nil ?_
          refine q_then (hN7 _ _ (Nx.intro (a.length - (i + 1)) (by omega) (by repeat (first | exact agree_mix | refine agree_upd rfl ?_ | refine agree_updL rfl ?_ _ | refine agree_mixin rfl ?_)) ?_))
          exact ⟨i + 1, rfl, by omega, by omega, rfl, take_snoc_eq hpre (by omega) (by omega) (cmp_zero (by assumption)), hs32⟩
    ·
      try simp only [Bool.not_eq_true', Bool.not_eq_false', decide_eq_true_eq, decide_eq_false_iff_not, Int.not_lt, Int.not_le] at h14
      refine w_exit ?_
      refine q_then_exit ?_
      refine q_then_exit ?_
      refine q_blk_this ?_
      refine q_then (hK3 _ _ ?_)
      refine w_seq (fun K39 hK38 => ?_)
      refine w_seq (fun K41 hK40 => ?_)
      refine w_region ?_
      refine w_pure want_none (y_move (v := .slice _ _ _) rfl rfl) rfl ?_
      refine w_pure want_none (y_lenS Try.underlying30 rfl rfl) rfl ?_
      refine w_pure want_none (y_move (v := .slice _ _ _) rfl rfl) rfl ?_
      refine w_pure want_none (y_lenS Try.underlying30 rfl rfl) rfl ?_
      refine w_pure want_none (y_lss rfl rfl rfl rfl) rfl ?_
      refine w_nil ?_
      refine q_then (hK40 _ _ ?_)
      refine w_cond rfl rfl (fun h42 => ?_) (fun h42 => ?_)
      ·
        try simp only [Bool.not_eq_true', Bool.not_eq_false', decide_eq_true_eq, decide_eq_false_iff_not, Int.not_lt, Int.not_le] at h42
        refine w_seq (fun K44 hK43 => ?_)
        refine w_region ?_
        refine w_pure want_none (y_assign (v := _) rfl rfl) rfl ?_
        refine w_nil ?_
        refine q_then (hK43 _ _ ?_)
        refine w_ret ?_
        refine q_then_ret ?_
        refine q_ret (l := [.tmp 4]) (vs := [_]) rfl ⟨⟨rfl, show _ = (.int _ _ : Value) from rfl⟩, trivial⟩ ?_
        first
          | exact ⟨⟨_, rfl, cmp_here hpre hia2 hib2 (by assumption)⟩, hs⟩
          | exact ⟨⟨_, rfl, by rw [less_end hpre hia (by omega)]; rfl⟩, hs⟩
          | exact ⟨⟨_, rfl, by rw [less_short hpre (by omega) (by omega)]; rfl⟩, hs⟩
      ·
        try simp only [Bool.not_eq_true', Bool.not_eq_false', decide_eq_true_eq, decide_eq_false_iff_not, Int.not_lt, Int.not_le] at h42
        refine w_skip ?_
        refine q_then (hK38 _ _ ?_)
        refine w_seq (fun K46 hK45 => ?_)
        refine w_region ?_
        refine w_pure want_none (y_assign (v := _) rfl rfl) rfl ?_
        refine w_nil ?_
        refine q_then (hK45 _ _ ?_)
        refine w_ret ?_
        refine q_ret (l := [.tmp 4]) (vs := [_]) rfl ⟨⟨rfl, show _ = (.int _ _ : Value) from rfl⟩, trivial⟩ ?_
        first
          | exact ⟨⟨_, rfl, cmp_here hpre hia2 hib2 (by assumption)⟩, hs⟩
          | exact ⟨⟨_, rfl, by rw [less_end hpre hia (by omega)]; rfl⟩, hs⟩
          | exact ⟨⟨_, rfl, by rw [less_short hpre (by omega) (by omega)]; rfl⟩, hs⟩

theorem c91 {w0 w : World} {F : List (Nat × Obj)} (aa ab : Option Addr) (a b : List Int) (ca cb : Nat) (hla : a.length ≤ 9223372036854775807) (hlb : b.length ≤ 9223372036854775807) (ha : Sl w0 F aa 1 (a.map fun x => [Value.int .i64 x])) (hb : Sl w0 F ab 1 (b.map fun x => [Value.int .i64 x])) (hs : St w0 w F) :
  Con Try.prog 91 [.slice aa a.length ca, .slice ab b.length cb] w fun v w' => v = .bool (before a b) ∧ St w0 w' F := by
  refine con_of_wc (n := 23) Try.func91 rfl rfl (Nat.le_of_ble_eq_true rfl) ?_
  refine w_seq (fun K2 hK1 => ?_)
  refine w_region ?_
  refine w_pure want_none (y_assign (v := _) rfl rfl) rfl ?_
  refine w_nil ?_
  refine q_then (hK1 _ _ ?_)
  refine w_seq (fun K4 hK3 => ?_)
  refine w_region ?_
  refine w_pure want_none (y_move (v := .slice _ _ _) rfl rfl) rfl ?_
  refine w_pure want_none (y_lenS Try.underlying30 rfl rfl) rfl ?_
  refine w_pure want_none (y_move (v := .slice _ _ _) rfl rfl) rfl ?_
  refine w_pure want_none (y_lenS Try.underlying30 rfl rfl) rfl ?_
  refine w_pure want_none (y_lss rfl rfl rfl rfl) rfl ?_
  refine w_pure want_none (y_move (v := .bool _) rfl rfl) rfl ?_
  refine w_split (fun h5 => ?_) (fun h5 => ?_)
  ·
    try simp only [Bool.not_eq_true', Bool.not_eq_false', decide_eq_true_eq, decide_eq_false_iff_not, Int.not_lt, Int.not_le] at h5
    refine w_skipop rfl rfl rfl ?_
    refine w_skipop rfl rfl rfl ?_
    refine w_skipop rfl rfl rfl ?_
    refine w_skipop rfl rfl rfl ?_
    refine w_skipop rfl rfl rfl ?_
    refine w_skipop rfl rfl rfl ?_
    refine w_skipop' rfl rfl rfl ?_
    refine w_skipop' rfl rfl rfl ?_
    refine w_skipop' rfl rfl rfl ?_
    refine w_skipop' rfl rfl rfl ?_
    refine w_skipop rfl rfl rfl ?_
    refine w_pure want_none (y_pickT (v := _) rfl rfl rfl rfl) rfl ?_
    refine w_pure want_none (y_assign (v := .bool _) rfl rfl) rfl ?_
    refine w_nil ?_
    refine q_then (hK3 _ _ ?_)
    refine w_ret ?_
    refine q_ret (l := [.tmp 4]) (vs := [_]) rfl ⟨⟨rfl, show _ = (.bool _ : Value) from rfl⟩, trivial⟩ ?_
    exact ⟨congrArg Value.bool (by unfold before; (try rw [← hz]); (try clear hz); rw [Bool.eq_iff_iff]; simp [*] <;> omega), hs⟩
  ·
    try simp only [Bool.not_eq_true', Bool.not_eq_false', decide_eq_true_eq, decide_eq_false_iff_not, Int.not_lt, Int.not_le] at h5
    refine w_pure (want_yes rfl rfl rfl) (y_move (v := .slice _ _ _) rfl rfl) rfl ?_
    refine w_pure (want_yes rfl rfl rfl) (y_lenS Try.underlying30 rfl rfl) rfl ?_
    refine w_pure (want_yes rfl rfl rfl) (y_move (v := .slice _ _ _) rfl rfl) rfl ?_
    refine w_pure (want_yes rfl rfl rfl) (y_lenS Try.underlying30 rfl rfl) rfl ?_
    refine w_pure (want_yes rfl rfl rfl) (y_eql rfl rfl rfl rfl) rfl ?_
    refine w_pure (want_yes rfl rfl rfl) (y_move (v := .bool _) rfl rfl) rfl ?_
    refine w_split (fun h6 => ?_) (fun h6 => ?_)
    ·
      try simp only [Bool.not_eq_true', Bool.not_eq_false', decide_eq_true_eq, decide_eq_false_iff_not, Int.not_lt, Int.not_le] at h6
      refine w_pure (want_yes rfl rfl rfl) (y_move (v := .slice _ _ _) rfl rfl) rfl ?_
      refine w_pure (want_yes rfl rfl rfl) (y_move (v := .slice _ _ _) rfl rfl) rfl ?_
      refine w_call (want_yes rfl rfl rfl) Try.call99 rfl rfl rfl rfl (c99 _ _ _ _ _ _ (by omega) (by omega) (by assumption) (by assumption) hs) ?_
      rintro _ w8 ⟨⟨z, rfl, hz⟩, hs9⟩
      refine w_pure (want_yes rfl rfl rfl) (y_lss rfl rfl rfl rfl) rfl ?_
      refine w_pure (want_yes rfl rfl rfl) (y_pickT (v := .bool _) rfl rfl rfl rfl) rfl ?_
      refine w_pure want_none (y_pickF (v := .bool _) rfl rfl rfl rfl) rfl ?_
      refine w_pure want_none (y_assign (v := .bool _) rfl rfl) rfl ?_
      refine w_nil ?_
      refine q_then (hK3 _ _ ?_)
      refine w_ret ?_
      refine q_ret (l := [.tmp 4]) (vs := [_]) rfl ⟨⟨rfl, show _ = (.bool _ : Value) from rfl⟩, trivial⟩ ?_
      exact ⟨congrArg Value.bool (by unfold before; (try rw [← hz]); (try clear hz); rw [Bool.eq_iff_iff]; simp [*] <;> omega), hs9⟩
    ·
      try simp only [Bool.not_eq_true', Bool.not_eq_false', decide_eq_true_eq, decide_eq_false_iff_not, Int.not_lt, Int.not_le] at h6
      refine w_skipop rfl rfl rfl ?_
      refine w_skipop rfl rfl rfl ?_
      refine w_skipop rfl rfl rfl ?_
      refine w_skipop rfl rfl rfl ?_
      refine w_pure (want_yes rfl rfl rfl) (y_pickF (v := _) rfl rfl rfl rfl) rfl ?_
      refine w_pure want_none (y_pickF (v := .bool _) rfl rfl rfl rfl) rfl ?_
      refine w_pure want_none (y_assign (v := .bool _) rfl rfl) rfl ?_
      refine w_nil ?_
      refine q_then (hK3 _ _ ?_)
      refine w_ret ?_
      refine q_ret (l := [.tmp 4]) (vs := [_]) rfl ⟨⟨rfl, show _ = (.bool _ : Value) from rfl⟩, trivial⟩ ?_
      exact ⟨congrArg Value.bool (by unfold before; (try rw [← hz]); (try clear hz); rw [Bool.eq_iff_iff]; simp [*] <;> omega), hs⟩

theorem bit_not_one {b k : Nat} (h : ¬ ((bit b k : Nat) : Int) = 1) : ¬ bit b k = 1 := fun e => h (by rw [e]; rfl)
theorem bit_one {b k : Nat} (h : ((bit b k : Nat) : Int) = 1) : bit b k = 1 := by omega
theorem listL_sl {w0 : World} {L : List (Nat × Obj)} {i b : Nat} {t : TypeId} {x n : Nat} (hi : L[i]? = some (b, blk t (iv (listTo x n n)))) (hc : listL x n ≠ []) : Sl w0 L (some ⟨b, 0, none⟩) 1 ((listL x n).map fun x => [Value.int .i64 x]) := by
  have h := Sl.cut (w0 := w0) (l' := 0) (h' := (listL x n).length) (c := n) (sl_ints_own hi) (Nat.zero_le _) (by have := listL_le x n; simp [listTo_len x n n (Nat.le_refl _)]; omega) (by simp [listTo_len x n n (Nat.le_refl _)])
  rw [← List.map_drop, List.drop_zero, Nat.sub_zero, ← List.map_take, listTo_take] at h
  have hn : n ≠ 0 := by rintro rfl; exact hc rfl
  rw [if_neg hn] at h
  have e : (some (⟨b, 0, none⟩ : Addr)).map (·.add (0 * 1)) = some ⟨b, 0, none⟩ := rfl
  rwa [e] at h
theorem iv2 {a b c d : Int} (h : a = b) (h2 : c = d) : [Value.int .i64 a, Value.int .i64 c] = [Value.int .i64 b, Value.int .i64 d] := by rw [h, h2]
theorem listL_slc {w0 : World} {L : List (Nat × Obj)} {b : Nat} {t : TypeId} {x n : Nat} (hi : L[0]? = some (b, blk t (iv (listTo x n n)))) : Sl w0 L (if n = 0 then some ⟨b, 0, none⟩ else (some (⟨b, 0, none⟩ : Addr)).map (·.add (0 * 1))) 1 ((listL x n).map fun x => [Value.int .i64 x]) := by
  by_cases hc : listL x n = []
  · rw [hc]; exact Sl.nil _ _
  · have hn : n ≠ 0 := by rintro rfl; exact hc rfl
    rw [if_neg hn]
    exact listL_sl hi hc
theorem c90 {w0 w : World} {F : List (Nat × Obj)} (x n : Nat) (hx : x < 1000) (hn : n ≤ 40) (hs : St w0 w F) :
  Con Try.prog 90 [.int .i64 x, .int .i64 n] w fun v w' => ∃ B a c, v = .slice a (listL x n).length c ∧ Sl w0 B a 1 ((listL x n).map fun x => [Value.int .i64 x]) ∧ St w0 w' (B ++ F) := by
  refine con_of_wc (n := 31) Try.func90 rfl rfl (Nat.le_of_ble_eq_true rfl) ?_
  refine w_seq (fun K2 hK1 => ?_)
  refine w_region ?_
  refine w_pure want_none (y_assign (v := _) rfl rfl) rfl ?_
  refine w_nil ?_
  refine q_then (hK1 _ _ ?_)
  refine w_seq (fun K4 hK3 => ?_)
  refine w_region ?_
  refine w_pure want_none (y_move (v := .int _ _) rfl rfl) rfl ?_
  refine w_makeInts (k := n) want_none Try.underlying30 Try_info3 rfl rfl (by omega) rfl rfl rfl rfl rfl hs (fun b5 w6 hs7 => ?_)
  refine w_pure want_none (y_assign (v := .slice _ _ _) rfl rfl) rfl ?_
  refine w_nil ?_
  refine q_then (hK3 _ _ ?_)
  refine w_seq (fun K9 hK8 => ?_)
  refine w_region ?_
  refine w_pure want_none (y_assign (v := _) rfl rfl) rfl ?_
  refine w_nil ?_
  refine q_then (hK8 _ _ ?_)
  refine w_seq (fun K11 hK10 => ?_)
  refine w_seq (fun K13 hK12 => ?_)
  refine w_region ?_
  refine w_pure want_none (y_move (v := .int _ _) rfl rfl) rfl ?_
  refine w_pure want_none (y_move (v := _) rfl rfl) rfl ?_
  refine w_nil ?_
  refine q_then (hK12 _ _ ?_)
  refine w_block ?_
  refine w_loop [6, 7, 11, 12, 13, 14, 15, 16, 17, 18, 19, 20, 21, 22, 23, 24, 25, 26, 27] [6, 11] (fun k vs w => ∃ i : Nat, vs = [.int .i64 (listL x i).length, .int .i64 i] ∧ i ≤ n ∧ k = n - i ∧ St w0 w ((b5, blk 3 (iv (listTo x n i))) :: F)) (n) ?_ ?_
  ·
    exact ⟨0, rfl, by omega, by omega, by rw [listTo_zero]; exact hs7⟩
  ·
    intro k vs μ w16 hI K15 hN14
    obtain ⟨i, rfl, hia, rfl, hs⟩ := hI
    have hll := listL_le x i
    refine w_seq (fun K18 hK17 => ?_)
    refine w_region ?_
    refine w_pure want_none (y_lss rfl rfl rfl rfl) rfl ?_
    refine w_nil ?_
    refine q_then (hK17 _ _ ?_)
    refine w_seq (fun K20 hK19 => ?_)
    refine w_cond rfl rfl (fun h21 => ?_) (fun h21 => ?_)
    ·
      try simp only [Bool.not_eq_true', Bool.not_eq_false', decide_eq_true_eq, decide_eq_false_iff_not, Int.not_lt, Int.not_le] at h21
      refine w_skip ?_
      refine q_then (hK19 _ _ ?_)
      refine w_seq (fun K23 hK22 => ?_)
      refine w_block ?_
      refine w_seq (fun K25 hK24 => ?_)
      refine w_region ?_
      refine w_pure want_none (y_move (v := .int _ _) rfl rfl) rfl ?_
      refine w_pure want_none (y_assign (v := .int _ _) rfl rfl) rfl ?_
      refine w_nil ?_
      refine q_then (hK24 _ _ ?_)
      refine w_seq (fun K27 hK26 => ?_)
      refine w_region ?_
      refine w_pure want_none (y_move (v := .int _ _) rfl rfl) rfl ?_
      refine w_pure want_none (y_move (v := .int _ _) rfl rfl) rfl ?_
      refine w_pure want_none (y_shr (x := _) (y := _) rfl rfl rfl rfl rfl rfl (by first | omega | exact shr_lt (by omega))) rfl ?_
      refine w_pure want_none (show Yd _ _ _ _ (.int .i64 ((bit x i : Nat) : Int)) from (y_and (x := _) (y := 1) rfl rfl rfl rfl rfl rfl (by first | omega | exact shr_lt (by omega)) (by first | omega | exact shr_lt (by omega)))) rfl ?_
      refine w_pure want_none (y_eql rfl rfl rfl rfl) rfl ?_
      refine w_nil ?_
      refine q_then (hK26 _ _ ?_)
      refine w_cond rfl rfl (fun h28 => ?_) (fun h28 => ?_)
      ·
        try simp only [Bool.not_eq_true', Bool.not_eq_false', decide_eq_true_eq, decide_eq_false_iff_not, Int.not_lt, Int.not_le] at h28
        refine w_region ?_
        refine w_pure want_none (y_move (v := .int _ _) rfl rfl) rfl ?_
        refine w_pure want_none (y_move (v := .slice _ _ _) rfl rfl) rfl ?_
        refine w_pure want_none (y_move (v := .int _ _) rfl rfl) rfl ?_
        refine w_pure want_none (y_sliceS (l' := (listL x i).length) (h' := _) Try.underlying30 Try.sizeOf3 rfl rfl ⟨rfl, _, _, rfl, rfl⟩ rfl (by omega) (by omega)) rfl ?_
        refine w_pure want_none (y_move (v := .int _ _) rfl rfl) rfl ?_
        refine w_bslice (ps := [(0, _)]) (pv := [(0, .int _ _)]) (cs := [_]) want_none rfl rfl (fun w => Try_E_fb1 _ w) hs (fun b29 w30 hs31 => ?_)
        refine w_copy1 (i := 1) (i2 := 0) want_none Try.underlying30 Try.sizeOf3 rfl rfl rfl rfl hs31 rfl rfl (by omega) (by first | omega | rfl | (simp only [listTo_len x n i (by omega), List.length_map, List.length_set, List.length_append, List.length_take, List.length_drop, List.length_replicate, List.length_cons, List.length_nil] <;> omega)) (fun w32 hs33 => ?_)
        refine w_pure want_none (y_add rfl rfl rfl rfl (by omega) (by omega)) rfl ?_
        refine w_pure want_none (y_assign (v := .int _ _) rfl rfl) rfl ?_
        refine w_nil ?_
        refine q_blk_normal ?_
        refine q_then (hK22 _ _ ?_)
        refine w_region ?_
        refine w_pure want_none (y_add rfl rfl rfl rfl (by omega) (by omega)) rfl ?_
        refine w_pure want_none (y_move (v := .int _ _) rfl rfl) rfl ?_
        refine w_nil ?_
        refine q_then (hN14 _ _ (Nx.intro (n - (i + 1)) (by omega) (by repeat (first | exact agree_mix | refine agree_upd rfl ?_ | refine agree_updL rfl ?_ _ | refine agree_mixin rfl ?_)) ?_))
        first
          | exact ⟨i + 1, iv2 (by rw [listL_yes (bit_one (by assumption)), List.length_append]; rfl) rfl, by omega, rfl, by have hq := hs33.tail; rw [listTo_yes (by omega) (bit_one (by assumption))] at hq; exact hq⟩
          | exact ⟨i + 1, iv2 (by rw [listL_no (bit_not_one (by assumption))]) rfl, by omega, rfl, by rw [← listTo_no (bit_not_one (by assumption))]; exact hs33⟩
      ·
        try simp only [Bool.not_eq_true', Bool.not_eq_false', decide_eq_true_eq, decide_eq_false_iff_not, Int.not_lt, Int.not_le] at h28
        refine w_skip ?_
        refine q_blk_normal ?_
        refine q_then (hK22 _ _ ?_)
        refine w_region ?_
        refine w_pure want_none (y_add rfl rfl rfl rfl (by omega) (by omega)) rfl ?_
        refine w_pure want_none (y_move (v := .int _ _) rfl rfl) rfl ?_
        refine w_nil ?_
        refine q_then (hN14 _ _ (Nx.intro (n - (i + 1)) (by omega) (by repeat (first | exact agree_mix | refine agree_upd rfl ?_ | refine agree_updL rfl ?_ _ | refine agree_mixin rfl ?_)) ?_))
        first
          | exact ⟨i + 1, iv2 (by rw [listL_yes (bit_one (by assumption)), List.length_append]; rfl) rfl, by omega, rfl, by have hq := hs.tail; rw [listTo_yes (by omega) (bit_one (by assumption))] at hq; exact hq⟩
          | exact ⟨i + 1, iv2 (by rw [listL_no (bit_not_one (by assumption))]) rfl, by omega, rfl, by rw [← listTo_no (bit_not_one (by assumption))]; exact hs⟩
    ·
      try simp only [Bool.not_eq_true', Bool.not_eq_false', decide_eq_true_eq, decide_eq_false_iff_not, Int.not_lt, Int.not_le] at h21
      refine w_exit ?_
      refine q_then_exit ?_
      refine q_then_exit ?_
      refine q_blk_this ?_
      refine q_then (hK10 _ _ ?_)
      refine w_seq (fun K35 hK34 => ?_)
      refine w_region ?_
      refine w_pure want_none (y_move (v := .slice _ _ _) rfl rfl) rfl ?_
      refine w_pure want_none (y_move (v := .int _ _) rfl rfl) rfl ?_
      refine w_pure want_none (y_sliceS (l' := 0) (h' := (listL x i).length) Try.underlying30 Try.sizeOf3 rfl rfl rfl ⟨rfl, _, _, rfl, rfl⟩ (by omega) (by omega)) rfl ?_
      refine w_pure want_none (y_assign (v := .slice _ _ _) rfl rfl) rfl ?_
      refine w_nil ?_
      refine q_then (hK34 _ _ ?_)
      refine w_ret ?_
      refine q_ret (l := [.tmp 4]) (vs := [_]) rfl ⟨⟨rfl, show _ = (.slice _ _ _ : Value) from rfl⟩, trivial⟩ ?_
      have hin : i = n := by omega
      subst hin
      exact ⟨[_], _, _, rfl, listL_slc (L := [_]) rfl, hs⟩

theorem c68 {w0 w : World} {F : List (Nat × Obj)} (m : Market) (p : At3) (mb mm : Nat) (hk : MK w0 F m p mb mm) (most : Bool) (hs : St w0 w F) :
  Con Try.prog 68 [.pointer (some ⟨mb, 0, none⟩), .bool most] w fun v w' => v = ia (allX m most) ∧ St w0 w' F := by
  refine con_of_wc (n := 52) Try.func68 rfl rfl (Nat.le_of_ble_eq_true rfl) ?_
  obtain ⟨ar, cr, as_, cs, at_, ct⟩ := p
  have hb := hk.b
  have hlr := hk.ok.lr
  have hls := hk.ok.ls
  have hlt := hk.ok.lt
  refine w_seq (fun K2 hK1 => ?_)
  refine w_region ?_
  refine w_alloc (cs := iv [0, 0, 0, 0, 0, 0, 0, 0]) want_none Try.zeroValue93 rfl hs (fun b3 w4 hs5 => ?_)
  refine w_nil ?_
  refine q_then (hK1 _ _ ?_)
  refine w_seq (fun K7 hK6 => ?_)
  refine w_seq (fun K9 hK8 => ?_)
  refine w_region ?_
  refine w_pure want_none (y_move (v := .pointer _) rfl rfl) rfl ?_
  refine w_pure want_none (y_nilCheck rfl rfl) rfl ?_
  refine w_pure want_none (y_fieldAddr (o := 0) (i := 0) Try.underlying122 rfl Try.sizeOf26 rfl rfl rfl) rfl ?_
  refine w_pure want_none (y_fieldAddr (o := 0) (i := 0) Try.underlying26 rfl Try.sizeOf22 rfl rfl rfl) rfl ?_
  refine w_pure want_none (y_load1 Try.isAgg22 hs5.tail rfl rfl (show Ats _ _ _ _ [_] from Ats.part hb 0 1)) rfl ?_
  refine w_pure want_none (y_lenS Try.underlying22 rfl rfl) rfl ?_
  refine w_pure want_none (y_move (v := _) rfl rfl) rfl ?_
  refine w_nil ?_
  refine q_then (hK8 _ _ ?_)
  refine w_block ?_
  refine w_loop [5, 6, 15, 16, 17, 18, 19, 20, 21, 22, 23, 24, 25, 26, 27, 28, 29, 30, 31, 32, 33] [15] (fun k vs w => ∃ i : Nat, vs = [.int .i64 i] ∧ i ≤ m.rooms.length ∧ k = m.rooms.length - i ∧ St w0 w ((b3, blk 93 (iv (handsTo m most i))) :: F)) (m.rooms.length) ?_ ?_
  ·
    exact ⟨0, rfl, by omega, by omega, hs5⟩
  ·
    intro k vs μ w12 hI K11 hN10
    obtain ⟨i, rfl, hia, rfl, hs⟩ := hI
    refine w_seq (fun K14 hK13 => ?_)
    refine w_region ?_
    refine w_pure want_none (y_lss rfl rfl rfl rfl) rfl ?_
    refine w_nil ?_
    refine q_then (hK13 _ _ ?_)
    refine w_seq (fun K16 hK15 => ?_)
    refine w_cond rfl rfl (fun h17 => ?_) (fun h17 => ?_)
    ·
      try simp only [Bool.not_eq_true', Bool.not_eq_false', decide_eq_true_eq, decide_eq_false_iff_not, Int.not_lt, Int.not_le] at h17
      refine w_skip ?_
      refine q_then (hK15 _ _ ?_)
      refine w_seq (fun K19 hK18 => ?_)
      refine w_block ?_
      refine w_seq (fun K21 hK20 => ?_)
      have hi2 : i < m.rooms.length := by omega
      obtain ⟨br, or_, hbr, hxr⟩ := sl_rrows hk.i.r hi2
      subst hbr
      refine w_region ?_
      refine w_pure want_none (y_move (v := .int _ _) rfl rfl) rfl ?_
      refine w_pure want_none (y_indexS Try.underlying22 Try.sizeOf69 rfl rfl rfl rfl (i := _) rfl (by omega)) rfl ?_
      refine w_pure want_none (y_loadN (vs := [_, _, _, _, _]) Try.isAgg69 Try.sizeOf69 hs.tail rfl rfl hxr) rfl ?_
      refine w_alloc (cs := [_, _, _, _, _]) want_none Try.zeroValue69 rfl hs (fun b22 w23 hs24 => ?_)
      refine w_pure want_none (y_assign (v := .int _ _) rfl rfl) rfl ?_
      refine w_store (i := 0) (v := .agg #[.string _, .int _ _, .int _ _, .int _ _, .int _ _]) (vs := [_, _, _, _, _]) want_none Try.sizeOf69 rfl rfl rfl rfl rfl (by simp [Value.oneCell']) hs24 rfl (Nat.le_of_ble_eq_true rfl) (fun w25 hs26 => ?_)
      refine w_nil ?_
      refine q_then (hK20 _ _ ?_)
      refine w_seq (fun K28 hK27 => ?_)
      refine w_region ?_
      refine w_pure want_none (y_move (v := .int _ _) rfl rfl) rfl ?_
      refine w_pure want_none (y_fieldAddr (o := 1) (i := 1) Try.underlying69 rfl Try.sizeOf67 rfl rfl rfl) rfl ?_
      refine w_pure want_none (y_fieldAddr (o := 0) (i := 0) Try.underlying67 rfl Try.sizeOf3 rfl rfl rfl) rfl ?_
      refine w_pure want_none (y_load1 Try.isAgg3 hs26 rfl rfl (ats_own (i := 0) (vs := [_]) rfl rfl)) rfl ?_
      refine w_pure want_none (y_fieldAddr (o := 0) (i := 0) Try.underlying93 rfl Try.sizeOf90 rfl rfl rfl) rfl ?_
      refine w_pure want_none (y_indexA Try.underlying90 Try.sizeOf3 rfl rfl rfl rfl (i := i) (by first | rfl | omega) (by omega)) rfl ?_
      refine w_storeAtI (i := 1) (j := i) want_none Try.sizeOf3 rfl rfl rfl rfl hs26 rfl (by first | omega | rfl | (simp only [handsTo_len, wantsTo_len, List.length_map, List.length_set, List.length_append, List.length_take, List.length_drop, List.length_replicate, List.length_cons, List.length_nil] <;> omega)) (fun w29 hs30 => ?_)
      refine w_nil ?_
      refine q_then (hK27 _ _ ?_)
      refine w_seq (fun K32 hK31 => ?_)
      refine w_region ?_
      refine w_pure want_none (y_move (v := .bool _) rfl rfl) rfl ?_
      refine w_nil ?_
      refine q_then (hK31 _ _ ?_)
      refine w_cond rfl rfl (fun h33 => ?_) (fun h33 => ?_)
      ·
        try simp only [Bool.not_eq_true', Bool.not_eq_false', decide_eq_true_eq, decide_eq_false_iff_not, Int.not_lt, Int.not_le] at h33
        refine w_region ?_
        refine w_pure want_none (y_move (v := .int _ _) rfl rfl) rfl ?_
        refine w_pure want_none (y_fieldAddr (o := 1) (i := 1) Try.underlying69 rfl Try.sizeOf67 rfl rfl rfl) rfl ?_
        refine w_pure want_none (y_fieldAddr (o := 1) (i := 1) Try.underlying67 rfl Try.sizeOf3 rfl rfl rfl) rfl ?_
        refine w_pure want_none (y_load1 Try.isAgg3 hs30 rfl rfl (ats_own (i := 0) (vs := [_]) rfl rfl)) rfl ?_
        refine w_pure want_none (y_fieldAddr (o := 0) (i := 0) Try.underlying93 rfl Try.sizeOf90 rfl rfl rfl) rfl ?_
        refine w_pure want_none (y_indexA Try.underlying90 Try.sizeOf3 rfl rfl rfl rfl (i := i) (by first | rfl | omega) (by omega)) rfl ?_
        refine w_storeAtI (i := 1) (j := i) want_none Try.sizeOf3 rfl rfl rfl rfl hs30 rfl (by first | omega | rfl | (simp only [handsTo_len, wantsTo_len, List.length_map, List.length_set, List.length_append, List.length_take, List.length_drop, List.length_replicate, List.length_cons, List.length_nil] <;> omega)) (fun w34 hs35 => ?_)
        refine w_nil ?_
        refine q_blk_normal ?_
        refine q_then (hK18 _ _ ?_)
        refine w_region ?_
        refine w_pure want_none (y_add rfl rfl rfl rfl (by omega) (by omega)) rfl ?_
        refine w_pure want_none (y_move (v := .int _ _) rfl rfl) rfl ?_
        refine w_nil ?_
        refine q_then (hN10 _ _ (Nx.intro (m.rooms.length - (i + 1)) (by omega) (by repeat (first | exact agree_mix | refine agree_upd rfl ?_ | refine agree_updL rfl ?_ _ | refine agree_mixin rfl ?_)) ?_))
        first
          | exact ⟨i + 1, rfl, by omega, rfl, by have hq := hs35.tail; have hmo : most = true := (by assumption); subst hmo; rw [handsTo_yes hi2] at hq; exact hq⟩
          | exact ⟨i + 1, rfl, by omega, rfl, by have hq := hs35.tail; have hmo : most = false := (by assumption); subst hmo; rw [handsTo_no hi2] at hq; exact hq⟩
      ·
        try simp only [Bool.not_eq_true', Bool.not_eq_false', decide_eq_true_eq, decide_eq_false_iff_not, Int.not_lt, Int.not_le] at h33
        refine w_skip ?_
        refine q_blk_normal ?_
        refine q_then (hK18 _ _ ?_)
        refine w_region ?_
        refine w_pure want_none (y_add rfl rfl rfl rfl (by omega) (by omega)) rfl ?_
        refine w_pure want_none (y_move (v := .int _ _) rfl rfl) rfl ?_
        refine w_nil ?_
        refine q_then (hN10 _ _ (Nx.intro (m.rooms.length - (i + 1)) (by omega) (by repeat (first | exact agree_mix | refine agree_upd rfl ?_ | refine agree_updL rfl ?_ _ | refine agree_mixin rfl ?_)) ?_))
        first
          | exact ⟨i + 1, rfl, by omega, rfl, by have hq := hs30.tail; have hmo : most = true := (by assumption); subst hmo; rw [handsTo_yes hi2] at hq; exact hq⟩
          | exact ⟨i + 1, rfl, by omega, rfl, by have hq := hs30.tail; have hmo : most = false := (by assumption); subst hmo; rw [handsTo_no hi2] at hq; exact hq⟩
    ·
      try simp only [Bool.not_eq_true', Bool.not_eq_false', decide_eq_true_eq, decide_eq_false_iff_not, Int.not_lt, Int.not_le] at h17
      refine w_exit ?_
      refine q_then_exit ?_
      refine q_then_exit ?_
      refine q_blk_this ?_
      refine q_then (hK6 _ _ ?_)
      refine w_seq (fun K37 hK36 => ?_)
      refine w_seq (fun K39 hK38 => ?_)
      refine w_region ?_
      refine w_pure want_none (y_move (v := .pointer _) rfl rfl) rfl ?_
      refine w_pure want_none (y_nilCheck rfl rfl) rfl ?_
      refine w_pure want_none (y_fieldAddr (o := 0) (i := 0) Try.underlying122 rfl Try.sizeOf26 rfl rfl rfl) rfl ?_
      refine w_pure want_none (y_fieldAddr (o := 1) (i := 1) Try.underlying26 rfl Try.sizeOf23 rfl rfl rfl) rfl ?_
      refine w_pure want_none (y_load1 Try.isAgg23 hs.tail rfl rfl (show Ats _ _ _ _ [_] from Ats.part hb 1 1)) rfl ?_
      refine w_pure want_none (y_lenS Try.underlying23 rfl rfl) rfl ?_
      refine w_pure want_none (y_move (v := _) rfl rfl) rfl ?_
      refine w_nil ?_
      refine q_then (hK38 _ _ ?_)
      refine w_block ?_
      refine w_loop [7, 8, 40, 41, 42, 43, 44, 45, 46, 47, 48, 49, 50] [40] (fun k vs w => ∃ i : Nat, vs = [.int .i64 i] ∧ i ≤ m.shops.length ∧ k = m.shops.length - i ∧ St w0 w ((b3, blk 93 (iv (wantsTo m most i))) :: F)) (m.shops.length) ?_ ?_
      ·
        exact ⟨0, rfl, by omega, by omega, by have hil : i = m.rooms.length := (by omega); subst hil; exact hs⟩
      ·
        intro k vs μ w42 hI K41 hN40
        obtain ⟨j, rfl, hja, rfl, hs⟩ := hI
        refine w_seq (fun K44 hK43 => ?_)
        refine w_region ?_
        refine w_pure want_none (y_lss rfl rfl rfl rfl) rfl ?_
        refine w_nil ?_
        refine q_then (hK43 _ _ ?_)
        refine w_seq (fun K46 hK45 => ?_)
        refine w_cond rfl rfl (fun h47 => ?_) (fun h47 => ?_)
        ·
          try simp only [Bool.not_eq_true', Bool.not_eq_false', decide_eq_true_eq, decide_eq_false_iff_not, Int.not_lt, Int.not_le] at h47
          refine w_skip ?_
          refine q_then (hK45 _ _ ?_)
          refine w_seq (fun K49 hK48 => ?_)
          refine w_block ?_
          refine w_seq (fun K51 hK50 => ?_)
          have hj2 : j < m.shops.length := by omega
          obtain ⟨bs, os, hbs, hxs⟩ := sl_srows hk.i.s hj2
          subst hbs
          refine w_region ?_
          refine w_pure want_none (y_move (v := .int _ _) rfl rfl) rfl ?_
          refine w_pure want_none (y_indexS Try.underlying23 Try.sizeOf52 rfl rfl rfl rfl (i := _) rfl (by omega)) rfl ?_
          refine w_pure want_none (y_loadN (vs := [_, _, _]) Try.isAgg52 Try.sizeOf52 hs.tail rfl rfl hxs) rfl ?_
          refine w_alloc (cs := [_, _, _]) want_none Try.zeroValue52 rfl hs (fun b52 w53 hs54 => ?_)
          refine w_pure want_none (y_assign (v := .int _ _) rfl rfl) rfl ?_
          refine w_store (i := 0) (v := .agg #[.string _, .int _ _, .int _ _]) (vs := [_, _, _]) want_none Try.sizeOf52 rfl rfl rfl rfl rfl (by simp [Value.oneCell']) hs54 rfl (Nat.le_of_ble_eq_true rfl) (fun w55 hs56 => ?_)
          refine w_nil ?_
          refine q_then (hK50 _ _ ?_)
          refine w_region ?_
          refine w_pure want_none (y_move (v := .int _ _) rfl rfl) rfl ?_
          refine w_pure want_none (y_fieldAddr (o := 2) (i := 2) Try.underlying52 rfl Try.sizeOf3 rfl rfl rfl) rfl ?_
          refine w_pure want_none (y_load1 Try.isAgg3 hs56 rfl rfl (ats_own (i := 0) (vs := [_]) rfl rfl)) rfl ?_
          refine w_pure want_none (y_fieldAddr (o := 3) (i := 1) Try.underlying93 rfl Try.sizeOf91 rfl rfl rfl) rfl ?_
          refine w_pure want_none (y_indexA Try.underlying91 Try.sizeOf3 rfl rfl rfl rfl (i := j) (by first | rfl | omega) (by omega)) rfl ?_
          refine w_storeAtIO (i := 1) (o := 3) (j := j) want_none Try.sizeOf3 rfl rfl rfl rfl hs56 rfl (by first | omega | rfl | (simp only [handsTo_len, wantsTo_len, List.length_map, List.length_set, List.length_append, List.length_take, List.length_drop, List.length_replicate, List.length_cons, List.length_nil] <;> omega)) (fun w57 hs58 => ?_)
          refine w_nil ?_
          refine q_blk_normal ?_
          refine q_then (hK48 _ _ ?_)
          refine w_region ?_
          refine w_pure want_none (y_add rfl rfl rfl rfl (by omega) (by omega)) rfl ?_
          refine w_pure want_none (y_move (v := .int _ _) rfl rfl) rfl ?_
          refine w_nil ?_
          refine q_then (hN40 _ _ (Nx.intro (m.shops.length - (j + 1)) (by omega) (by repeat (first | exact agree_mix | refine agree_upd rfl ?_ | refine agree_updL rfl ?_ _ | refine agree_mixin rfl ?_)) ?_))
          exact ⟨j + 1, rfl, by omega, rfl, by have hq := hs58.tail; rw [wantsTo_succ hj2] at hq; exact hq⟩
        ·
          try simp only [Bool.not_eq_true', Bool.not_eq_false', decide_eq_true_eq, decide_eq_false_iff_not, Int.not_lt, Int.not_le] at h47
          refine w_exit ?_
          refine q_then_exit ?_
          refine q_then_exit ?_
          refine q_blk_this ?_
          refine q_then (hK36 _ _ ?_)
          refine w_seq (fun K60 hK59 => ?_)
          refine w_region ?_
          refine w_pure want_none (y_loadI (i := 0) Try.isAgg93 Try.sizeOf93 (by first | omega | rfl | (simp only [handsTo_len, wantsTo_len, List.length_map, List.length_set, List.length_append, List.length_take, List.length_drop, List.length_replicate, List.length_cons, List.length_nil] <;> omega)) hs rfl rfl rfl) rfl ?_
          refine w_storeI (i := 0) (l := _) want_none Try.sizeOf93 (by first | omega | rfl | (simp only [handsTo_len, wantsTo_len, List.length_map, List.length_set, List.length_append, List.length_take, List.length_drop, List.length_replicate, List.length_cons, List.length_nil] <;> omega)) rfl rfl rfl rfl rfl hs rfl (by first | omega | rfl | (simp only [handsTo_len, wantsTo_len, List.length_map, List.length_set, List.length_append, List.length_take, List.length_drop, List.length_replicate, List.length_cons, List.length_nil] <;> omega)) (fun w61 hs62 => ?_)
          refine w_nil ?_
          refine q_then (hK59 _ _ ?_)
          refine w_ret ?_
          refine q_ret (l := [.cell 4 93]) (vs := [_]) rfl ⟨⟨rfl, _, rfl, run_loadI (i := 0) Try.isAgg93 Try.sizeOf93 (by first | omega | rfl | (simp only [handsTo_len, wantsTo_len, List.length_map, List.length_set, List.length_append, List.length_take, List.length_drop, List.length_replicate, List.length_cons, List.length_nil] <;> omega)) hs62 rfl⟩, trivial⟩ ?_
          exact ⟨by have hjl : j = m.shops.length := (by omega); subst hjl; rfl, hs62.tail⟩

end Go.Proofs
