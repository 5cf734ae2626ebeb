/- Own texts of this claim, joined. No conditions. -/
import Derived.Test.YtgndnnpadkoagaaHChainTruea
import Derived.Test.YtgndnnpadkoagaaHChainTrueb
import Derived.Test.YtgndnnpadkoagaaHChainTruec
import Derived.Test.YtgndnnpadkoagaaHChainTrued
/- Walks of this seat, printed by gen.py over the engine: what each function returns, in whatever world. No conditions but those of each contract. -/
set_option linter.unusedVariables false
set_option linter.unusedSimpArgs false
set_option maxRecDepth 20000
namespace Go.Proofs
open Go.Rt Go.Rt.Ch
open Go.Rt.Ha (firstE firstE_step firstE_stop firstE_end failE nameE felt spanL upto span_mem listL fewest fewTo bit)
attribute [local irreducible] WL WC Con Yd At Ats Sl Agree DW
theorem Try_E_fb1 (x0 : Int) (x1 : Int) (x2 : Bool) (w : World) : (Instr.build 140 [(0, .int .i64 x0), (1, .int .i64 x1), (2, .bool x2)].toArray).run Try.prog w = .ok (.agg #[.int .i64 x0, .int .i64 x1, .bool x2]) w := by kernel_rfl
theorem Try_E_fb2 (x0 : Int) (x1 : Int) (x2 : Bool) (w : World) : (Instr.buildSlice 152 1 [(0, .agg #[.int .i64 x0, .int .i64 x1, .bool x2])].toArray).run Try.prog w = .ok (.slice (some ⟨w.heap.size, 0, none⟩) 1 1) (w.alloc (Go.Rt.blk 140 [.int .i64 x0, .int .i64 x1, .bool x2])) := by kernel_rfl
theorem Try_info140 : Try.prog.info? 140 = some Try.t140 := by kernel_rfl
/-- A board that lies opened in memory. -/
structure BK (w0 : World) (F : List (Nat × Obj)) (b : Board) (p : AtB) (bb mm : Nat) : Prop where
  i : BIn w0 F b p
  l : Ats w0 F bb 0 [.int .i64 b.holds, .slice p.ah b.hours.length p.ch, .slice p.ac b.ctrs.length p.cc, .map (some mm)]
  ok : b.Ok
theorem BK.mono {w0 : World} {F F' : List (Nat × Obj)} {b : Board} {p : AtB} {bb mm : Nat} (h : BK w0 F b p bb mm) (hs : ∀ w, St w0 w F' → St w0 w F) : BK w0 F' b p bb mm := ⟨h.i.mono hs, h.l.mono hs, h.ok⟩
theorem BK.cons {w0 : World} {F : List (Nat × Obj)} {x : Nat × Obj} {b : Board} {p : AtB} {bb mm : Nat} (h : BK w0 F b p bb mm) : BK w0 (x :: F) b p bb mm := h.mono fun _ h => h.tail
theorem BK.app {w0 : World} {F B : List (Nat × Obj)} {b : Board} {p : AtB} {bb mm : Nat} (h : BK w0 F b p bb mm) : BK w0 (B ++ F) b p bb mm := h.mono fun _ h => h.drop
theorem key_zip {P : Program} {t k : Nat} {fs : Array Field} (ks : List Nat) (hu : P.underlying t = some (.struct fs)) (hp : P.stoodInHeld t = false) (h1 : fs.toList = (fs.toList.zip ks).map Prod.fst) (h2 : ∀ q ∈ fs.toList.zip ks, FF P q.1 q.2 ∧ q.1.offset + q.2 ≤ k)
    (h3 : ∀ q ∈ fs.toList.zip ks, P.underlying q.1.type = some (.int .i64) ∨ ∃ el, P.underlying q.1.type = some (.array q.2 el) ∧ P.underlying el = some (.int .i64) ∧ ∀ w, (sizeOf el).run P w = .ok 1 w)
    (h4 : ∀ l m : List Int, l.length = k → m.length = k → ((fs.toList.zip ks).all fun q => decide ((l.drop q.1.offset).take q.2 = (m.drop q.1.offset).take q.2)) = decide (l = m)) : KeyTy P t k := keyTy_struct _ hu hp h1 h2 h3 h4
theorem key154_cov : ∀ l m : List Int, l.length = 3 → m.length = 3 → (decide ((l.drop 0).take 1 = (m.drop 0).take 1) && (decide ((l.drop 1).take 1 = (m.drop 1).take 1) && (decide ((l.drop 2).take 1 = (m.drop 2).take 1) && true))) = decide (l = m) := by
  intro l m hl hm
  match l, hl with
  | [a, b, c], _ =>
    match m, hm with
    | [a', b', c'], _ => rw [Bool.eq_iff_iff]; simp
theorem key154 : KeyTy Try.prog 154 3 := by
  refine key_zip [1, 1, 1] Try.underlying154 (by kernel_rfl) rfl ?_ ?_ ?_
  · intro q hq
    simp only [List.zip_cons_cons, List.zip_nil_right, List.mem_cons, List.not_mem_nil, or_false] at hq
    rcases hq with rfl | rfl | rfl
    · exact ⟨⟨by decide, .inl ⟨Try.underlying3, rfl⟩⟩, by decide⟩
    · exact ⟨⟨by decide, .inl ⟨Try.underlying3, rfl⟩⟩, by decide⟩
    · exact ⟨⟨by decide, .inl ⟨Try.underlying3, rfl⟩⟩, by decide⟩
  · intro q hq
    simp only [List.zip_cons_cons, List.zip_nil_right, List.mem_cons, List.not_mem_nil, or_false] at hq
    rcases hq with rfl | rfl | rfl
    · exact .inl Try.underlying3
    · exact .inl Try.underlying3
    · exact .inl Try.underlying3
  · exact key154_cov
/-- An entry of the memo: how a counter stands before an hour, and its ways. -/
def Ent (w0 : World) (b : Board) (MB : List (Nat × Obj)) (q : List Int × Value × Nat) : Prop :=
  ∃ (c a : Nat) (s : Int) (x : Option Addr) (cap : Nat), q.1 = [(c : Int), (a : Int), s] ∧ q.2.1 = .slice x (waysAt b c a s).length cap ∧ Sl w0 MB x 3 (wrows (waysAt b c a s))
theorem Ent.mono {w0 : World} {b : Board} {M M' : List (Nat × Obj)} {q : List Int × Value × Nat} (h : Ent w0 b M q) (hs : ∀ w, St w0 w M' → St w0 w M) : Ent w0 b M' q := by
  obtain ⟨c, a, s, x, cap, h1, h2, h3⟩ := h
  exact ⟨c, a, s, x, cap, h1, h2, h3.mono hs⟩
/-- What the memo of a board that is looked at holds. -/
def Memo (w0 : World) (b : Board) (mm : Nat) (M : List (Nat × Obj)) : Prop :=
  ∃ (es : List (List Int × Value × Nat)) (ck : Nat) (MB : List (Nat × Obj)), M = (mm, .map (ents (fun l : List Int => ia l) es).toArray ck) :: MB ∧ MOk es ck ∧ (∀ q ∈ es, q.1.length = 3) ∧ ∀ q ∈ es, Ent w0 b MB q
theorem memo_new (w0 : World) (b : Board) (mm : Nat) : Memo w0 b mm [(mm, .map #[] 0)] := ⟨[], 0, [], rfl, mok_nil, by simp, by simp⟩
theorem flat_wrows (l : List Ch.Way) (x : Ch.Way) : (wrows (l ++ [x])).flatten = (wrows l).flatten ++ [x.cells].flatten := by simp [wrows]
theorem own_way {v : Value} {l : List Ch.Way} {x : Ch.Way} {B : List (Nat × Obj)} (h : Rt.Own v 140 3 (l.length + 1) ((wrows l).flatten ++ [x.cells].flatten) B) : Rt.Own v 140 3 (l ++ [x]).length (wrows (l ++ [x])).flatten B := by
  rw [flat_wrows, List.length_append]; exact h
theorem wrows_row (l : List Ch.Way) : ∀ row ∈ wrows l, row.length = 3 := by intro row h; obtain ⟨q, _, rfl⟩ := List.mem_map.1 h; rfl
theorem c110f {w0 w : World} {F : List (Nat × Obj)} (b : Board) (p : AtB) (bb mm : Nat) (hk : BK w0 F b p bb mm) (c a : Nat) (hc : c < b.ctrs.length) (ha : a < b.hours.length) (s : Int) (hs1 : 0 ≤ s ∧ s < 100) (es : List (List Int × Value × Nat)) (ck : Nat) (hes : ∀ q ∈ es, q.1.length = 3) (u : Value) (a9 : Option Addr) (n9 c9 : Nat) (hu : u = .slice a9 n9 c9) (hf : getA [(c : Int), (a : Int), s] es = some u) (hs : St w0 w ((mm, .map (ents (fun l : List Int => ia l) es).toArray ck) :: F)) :
  Con Try.prog 110 [.pointer (some ⟨bb, 0, none⟩), .agg #[.int .i64 (c : Int), .int .i64 (a : Int), .int .i64 s]] w fun v w' => v = u ∧ St w0 w' ((mm, .map (ents (fun l : List Int => ia l) es).toArray ck) :: F) := by
  refine con_of_wc (n := 128) Try.func110 rfl rfl (Nat.le_of_ble_eq_true rfl) ?_
  subst hu
  have hb := hk.l
  refine w_seq (fun K2 hK1 => ?_)
  refine w_region ?_
  refine w_box (v := .agg #[.int _ _, .int _ _, .int _ _]) (cs := [_, _, _]) want_none rfl rfl rfl hs (fun b3 w4 hs5 => ?_)
  refine w_p (y_assign (v := _) rfl rfl) rfl ?_
  refine w_nil ?_
  refine q_then (hK1 _ _ ?_)
  refine w_seq (fun K7 hK6 => ?_)
  refine w_seq (fun K9 hK8 => ?_)
  refine w_draw [] [(0, 0), (1, 0), (2, 0), (3, 1), (4, 1), (5, 1), (6, 0), (7, 0), (8, 0), (9, 0), (10, 0)] Try_mo (drawOK_of (by kernel_rfl)) hs5 (fun w10 hs11 => ?_)
  refine d_any rfl want_none rfl (fun _ => (y_move (v := .pointer _) rfl rfl)) ?_
  refine d_any rfl want_none rfl (fun _ => (y_nilCheck rfl rfl)) ?_
  refine d_any rfl want_none rfl (fun _ => (y_fieldAddr (o := 3) (i := 1) Try.underlying129 rfl Try.sizeOf127 rfl rfl rfl)) ?_
  refine d_take rfl want_none rfl hs11 (fun _ hq => (y_load1 Try.isAgg127 hq.tail.tail rfl rfl (show Ats _ _ _ _ [_] from Ats.part hb 3 1))) ?_
  refine d_take rfl want_none rfl hs11 (fun _ hq => (y_loadN (vs := [_, _, _]) Try.isAgg154 Try.sizeOf154 hq rfl rfl (ats_own (i := 0) (vs := [_, _, _]) rfl rfl))) ?_
  refine d_take rfl want_none rfl hs11 (fun _ hq => (G_look2S (i := 1) (a := [(c : Int), (a : Int), s]) Try.underlying127 (keyG_ia key154) rfl hes hq rfl rfl rfl rfl rfl hf)) ?_
  refine d_any rfl want_none rfl (fun _ => (y_move (v := .tuple _) rfl rfl)) ?_
  refine d_any rfl want_none rfl (fun _ => (y_extract (v := .slice _ _ _) rfl rfl rfl)) ?_
  refine d_any rfl want_none rfl (fun _ => (y_extract (v := .bool _) rfl rfl rfl)) ?_
  refine d_any rfl want_none rfl (fun _ => (y_assign (v := .slice _ _ _) rfl rfl)) ?_
  refine d_any rfl want_none rfl (fun _ => (y_assign (v := .bool _) rfl rfl)) ?_
  refine d_nil ?_
  refine q_then (hK8 _ _ ?_)
  refine w_seq (fun K13 hK12 => ?_)
  refine w_region ?_
  refine w_p (y_move (v := .bool _) rfl rfl) rfl ?_
  refine w_nil ?_
  refine q_then (hK12 _ _ ?_)
  refine w_cond rfl rfl (fun h14 => ?_) (fun h14 => ?_)
  ·
   try simp only [zA, zB, zC, zD, zE, zF] at h14
   refine w_seq (fun K16 hK15 => ?_)
   refine w_region ?_
   refine w_p (y_move (v := .slice _ _ _) rfl rfl) rfl ?_
   refine w_p (y_assign (v := .slice _ _ _) rfl rfl) rfl ?_
   refine w_nil ?_
   refine q_then (hK15 _ _ ?_)
   refine w_ret ?_
   refine q_then_ret ?_
   refine q_ret (l := [.tmp 4]) (vs := [_]) rfl ⟨⟨rfl, show _ = (.slice _ _ _ : Value) from rfl⟩, trivial⟩ ?_
   exact ⟨rfl, hs11.tail⟩
  ·
   exfalso; simp at h14

theorem c110n {w0 w : World} {F : List (Nat × Obj)} (b : Board) (p : AtB) (bb mm : Nat) (hk : BK w0 F b p bb mm) (c a : Nat) (hc : c < b.ctrs.length) (ha : a < b.hours.length) (s : Int) (hs1 : 0 ≤ s ∧ s < 100) (es : List (List Int × Value × Nat)) (ck : Nat) (hes : ∀ q ∈ es, q.1.length = 3) (hf : getA [(c : Int), (a : Int), s] es = none) (hs : St w0 w ((mm, .map (ents (fun l : List Int => ia l) es).toArray ck) :: F)) :
  Con Try.prog 110 [.pointer (some ⟨bb, 0, none⟩), .agg #[.int .i64 (c : Int), .int .i64 (a : Int), .int .i64 s]] w fun v w' => ∃ (x : Option Addr) (cap : Nat) (B : List (Nat × Obj)), v = .slice x (waysAt b c a s).length cap ∧ Sl w0 B x 3 (wrows (waysAt b c a s)) ∧ St w0 w' ((mm, .map (ents (fun l : List Int => ia l) (putA [(c : Int), (a : Int), s] v ck es)).toArray (if idxA [(c : Int), (a : Int), s] es 0 = none then ck + 1 else ck)) :: (B ++ F)) := by
  refine con_of_wc (n := 128) Try.func110 rfl rfl (Nat.le_of_ble_eq_true rfl) ?_
  have hb := hk.l
  have hcok := hk.ok.ctr _ (List.getElem_mem hc)
  have hhok := hk.ok.hour _ (List.getElem_mem ha)
  obtain ⟨bx, ox, hbx, hxc⟩ := sl_krows hk.i.c hc
  obtain ⟨by_, oy, hby, hxh⟩ := sl_hrows hk.i.h ha
  have hz0 := hk.i.z c hc
  have hs0 := hk.i.s c hc
  rw [← ctr_at hc] at hcok hxc hz0 hs0
  rw [← hour_at ha] at hhok hxh
  have k1 := hcok.skip
  have k2 := hcok.twice
  have k3 := hhok.lo
  have k4 := hhok.le
  have k5 := hhok.hi
  have k6 := hhok.w
  have k7 := hcok.lz
  have k8 := hcok.ls
  have k9 := hk.ok.lh
  have haz : a < (ctrOf b c).zero.length := by omega
  have has : a < (ctrOf b c).shown.length := by omega
  obtain ⟨bz, oz, hbz, hxz⟩ := sl_ints hz0 haz
  obtain ⟨bv, ov, hbv, hxv⟩ := sl_ints hs0 has
  have hgz : (ctrOf b c).zero.getD a 0 = (ctrOf b c).zero[a] := by simp [List.getD, haz]
  have hgs : (ctrOf b c).shown.getD a 0 = (ctrOf b c).shown[a] := by simp [List.getD, has]
  have hsr := hcok.shown _ (List.getElem_mem has)
  refine w_seq (fun K2 hK1 => ?_)
  refine w_region ?_
  refine w_box (v := .agg #[.int _ _, .int _ _, .int _ _]) (cs := [_, _, _]) want_none rfl rfl rfl hs (fun b3 w4 hs5 => ?_)
  refine w_p (y_assign (v := _) rfl rfl) rfl ?_
  refine w_nil ?_
  refine q_then (hK1 _ _ ?_)
  refine w_seq (fun K7 hK6 => ?_)
  refine w_seq (fun K9 hK8 => ?_)
  refine w_draw [] [(0, 0), (1, 0), (2, 0), (3, 1), (4, 1), (5, 1), (6, 0), (7, 0), (8, 0), (9, 0), (10, 0)] Try_mo (drawOK_of (by kernel_rfl)) hs5 (fun w10 hs11 => ?_)
  refine d_any rfl want_none rfl (fun _ => (y_move (v := .pointer _) rfl rfl)) ?_
  refine d_any rfl want_none rfl (fun _ => (y_nilCheck rfl rfl)) ?_
  refine d_any rfl want_none rfl (fun _ => (y_fieldAddr (o := 3) (i := 1) Try.underlying129 rfl Try.sizeOf127 rfl rfl rfl)) ?_
  refine d_take rfl want_none rfl hs11 (fun _ hq => (y_load1 Try.isAgg127 hq.tail.tail rfl rfl (show Ats _ _ _ _ [_] from Ats.part hb 3 1))) ?_
  refine d_take rfl want_none rfl hs11 (fun _ hq => (y_loadN (vs := [_, _, _]) Try.isAgg154 Try.sizeOf154 hq rfl rfl (ats_own (i := 0) (vs := [_, _, _]) rfl rfl))) ?_
  refine d_take rfl want_none rfl hs11 (fun _ hq => (G_look2N (i := 1) (a := [(c : Int), (a : Int), s]) Try.underlying127 (keyG_ia key154) rfl hes Try.zeroValue152 hq rfl rfl rfl rfl rfl hf)) ?_
  refine d_any rfl want_none rfl (fun _ => (y_move (v := .tuple _) rfl rfl)) ?_
  refine d_any rfl want_none rfl (fun _ => (y_extract (v := .slice _ _ _) rfl rfl rfl)) ?_
  refine d_any rfl want_none rfl (fun _ => (y_extract (v := .bool _) rfl rfl rfl)) ?_
  refine d_any rfl want_none rfl (fun _ => (y_assign (v := .slice _ _ _) rfl rfl)) ?_
  refine d_any rfl want_none rfl (fun _ => (y_assign (v := .bool _) rfl rfl)) ?_
  refine d_nil ?_
  refine q_then (hK8 _ _ ?_)
  refine w_seq (fun K13 hK12 => ?_)
  refine w_region ?_
  refine w_p (y_move (v := .bool _) rfl rfl) rfl ?_
  refine w_nil ?_
  refine q_then (hK12 _ _ ?_)
  refine w_cond rfl rfl (fun h14 => ?_) (fun h14 => ?_)
  ·
   exfalso
   try simp only [zA, zB, zC, zD, zE, zF] at h14
   simp at h14
  ·
   try simp only [zA, zB, zC, zD, zE, zF] at h14
   refine w_skip ?_
   refine q_then (hK6 _ _ ?_)
   refine w_seq (fun K16 hK15 => ?_)
   refine w_region ?_
   refine w_p (y_assign (v := _) rfl rfl) rfl ?_
   refine w_nil ?_
   refine q_then (hK15 _ _ ?_)
   refine w_seq (fun K18 hK17 => ?_)
   refine w_cut [8, 9, 26, 27, 28, 29, 30, 31, 32, 33, 34, 35, 36, 37, 38, 39, 40, 41, 42, 43, 44] [8, 9] (fun vs w => ∃ b8 b9, vs = [.pointer (some ⟨b8, 0, none⟩), .pointer (some ⟨b9, 0, none⟩)] ∧ St w0 w ((b9, blk 31 [.int .i64 (hourOf b a).lo, .int .i64 (hourOf b a).hi]) :: (b8, blk 76 ((ctrOf b c).cells (p.pc c))) :: (b3, blk 154 [.int .i64 (c : Int), .int .i64 (a : Int), .int .i64 s]) :: (mm, .map (ents (fun l : List Int => ia l) es).toArray ck) :: F)) (fun K20 hC19 => ?_) ?_
   ·
    refine w_drawT (C := fun w => St w0 w _) [] (.two [(0, 0), (1, 0), (2, 0), (3, 0), (4, 1), (5, 0), (6, 1), (7, 0), (8, 1), (9, 0), (10, 0), (11, 0), (12, 0), (13, 1), (14, 0), (15, 1), (16, 0), (17, 0), (18, 1)] 19 20 (.done [(20, 2), (21, 2), (22, 2)]) (.done [(19, 2), (21, 2), (22, 2)])) Try_mo (by kernel_rfl) hs11 (fun _ h => h.drew) (fun w21 hs22 => ?_)
    refine dt_two ?_
    refine d_any rfl want_none rfl (fun _ => (y_move (v := .pointer _) rfl rfl)) ?_
    refine d_any rfl want_none rfl (fun _ => (y_nilCheck rfl rfl)) ?_
    refine d_any rfl want_none rfl (fun _ => (y_fieldAddr (o := 0) (i := 0) Try.underlying129 rfl Try.sizeOf25 rfl rfl rfl)) ?_
    refine d_any rfl want_none rfl (fun _ => (y_fieldAddr (o := 2) (i := 2) Try.underlying25 rfl Try.sizeOf23 rfl rfl rfl)) ?_
    refine d_take rfl want_none rfl hs22 (fun _ hq => (yd_slice hbx (y_load1 Try.isAgg23 hq.tail.tail rfl rfl (show Ats _ _ _ _ [_] from Ats.part hb 2 1)))) ?_
    refine d_any rfl want_none rfl (fun _ => (y_fieldAddr (o := 0) (i := 0) Try.underlying154 rfl Try.sizeOf3 rfl rfl rfl)) ?_
    refine d_take rfl want_none rfl hs22 (fun _ hq => (y_load1 Try.isAgg3 hq rfl rfl (ats_own (i := 0) (vs := [_]) rfl rfl))) ?_
    refine d_any rfl want_none rfl (fun _ => (y_indexS Try.underlying23 Try.sizeOf76 rfl rfl rfl rfl (i := c) rfl hc)) ?_
    refine d_take rfl want_none rfl hs22 (fun _ hq => (y_loadN (vs := [_, _, _, _, _, _]) Try.isAgg76 Try.sizeOf76 hq.tail.tail rfl rfl hxc)) ?_
    refine d_any rfl want_none rfl (fun _ => (y_move (v := .pointer _) rfl rfl)) ?_
    refine d_any rfl want_none rfl (fun _ => (y_nilCheck rfl rfl)) ?_
    refine d_any rfl want_none rfl (fun _ => (y_fieldAddr (o := 0) (i := 0) Try.underlying129 rfl Try.sizeOf25 rfl rfl rfl)) ?_
    refine d_any rfl want_none rfl (fun _ => (y_fieldAddr (o := 1) (i := 1) Try.underlying25 rfl Try.sizeOf22 rfl rfl rfl)) ?_
    refine d_take rfl want_none rfl hs22 (fun _ hq => (yd_slice hby (y_load1 Try.isAgg22 hq.tail.tail rfl rfl (show Ats _ _ _ _ [_] from Ats.part hb 1 1)))) ?_
    refine d_any rfl want_none rfl (fun _ => (y_fieldAddr (o := 1) (i := 1) Try.underlying154 rfl Try.sizeOf3 rfl rfl rfl)) ?_
    refine d_take rfl want_none rfl hs22 (fun _ hq => (y_load1 Try.isAgg3 hq rfl rfl (ats_own (i := 0) (vs := [_]) rfl rfl))) ?_
    refine d_any rfl want_none rfl (fun _ => (y_indexS Try.underlying22 Try.sizeOf70 rfl rfl rfl rfl (i := a) rfl ha)) ?_
    refine d_any rfl want_none rfl (fun _ => (y_fieldAddr (o := 1) (i := 1) Try.underlying70 rfl Try.sizeOf31 rfl rfl rfl)) ?_
    refine d_take rfl want_none rfl hs22 (fun _ hq => (y_loadN (vs := [_, _]) Try.isAgg31 Try.sizeOf31 hq.tail.tail rfl rfl (show Ats _ _ _ _ [_, _] from Ats.part hxh 1 2))) ?_
    refine d_two rfl rfl ?_ ?_
    ·
     refine w_alloc (cs := [_, _, _, _, _, _]) want_none Try.zeroValue76 rfl hs22 (fun b23 w24 hs25 => ?_)
     refine w_nil ?_
     refine qn ⟨hs25.tail, ?_⟩
     refine dt_done ?_
     refine d_eff rfl ?_
     refine w_alloc (cs := [_, _]) want_none Try.zeroValue31 rfl hs25 (fun b26 w27 hs28 => ?_)
     refine w_nil ?_
     refine qn ⟨hs28.tail.tail, ?_⟩
     refine d_eff rfl ?_
     refine w_store (i := 1) (v := .agg #[.string _, .int _ _, .int _ _, .int _ _, .slice _ _ _, .slice _ _ _]) (vs := [_, _, _, _, _, _]) want_none Try.sizeOf76 rfl rfl rfl rfl rfl (by simp [Value.oneCell']) hs28 rfl (Nat.le_of_ble_eq_true rfl) (fun w29 hs30 => ?_)
     refine w_nil ?_
     refine qn ⟨hs30.tail.tail, ?_⟩
     refine d_eff rfl ?_
     refine w_store (i := 0) (v := .agg #[.int _ _, .int _ _]) (vs := [_, _]) want_none Try.sizeOf31 rfl rfl rfl rfl rfl (by simp [Value.oneCell']) hs30 rfl (Nat.le_of_ble_eq_true rfl) (fun w31 hs32 => ?_)
     refine w_nil ?_
     refine qn ⟨hs32.tail.tail, ?_⟩
     refine d_nil ?_
     refine q_then (hC19 _ _ (Md.intro (by repeat (first | exact agree_refl | exact agree_mix | refine agree_upd rfl ?_ | refine agree_updL rfl ?_ _ | refine agree_mixin rfl ?_)) ?_))
     first
       | exact ⟨_, _, rfl, hs32⟩
       | exact ⟨_, _, rfl, swp2 (show St _ _ (_ :: _ :: _) from hs32)⟩
    ·
     refine w_alloc (cs := [_, _]) want_none Try.zeroValue31 rfl hs22 (fun b33 w34 hs35 => ?_)
     refine w_nil ?_
     refine qn ⟨hs35.tail, ?_⟩
     refine dt_done ?_
     refine d_eff rfl ?_
     refine w_alloc (cs := [_, _, _, _, _, _]) want_none Try.zeroValue76 rfl hs35 (fun b36 w37 hs38 => ?_)
     refine w_nil ?_
     refine qn ⟨hs38.tail.tail, ?_⟩
     refine d_eff rfl ?_
     refine w_store (i := 0) (v := .agg #[.string _, .int _ _, .int _ _, .int _ _, .slice _ _ _, .slice _ _ _]) (vs := [_, _, _, _, _, _]) want_none Try.sizeOf76 rfl rfl rfl rfl rfl (by simp [Value.oneCell']) hs38 rfl (Nat.le_of_ble_eq_true rfl) (fun w39 hs40 => ?_)
     refine w_nil ?_
     refine qn ⟨hs40.tail.tail, ?_⟩
     refine d_eff rfl ?_
     refine w_store (i := 1) (v := .agg #[.int _ _, .int _ _]) (vs := [_, _]) want_none Try.sizeOf31 rfl rfl rfl rfl rfl (by simp [Value.oneCell']) hs40 rfl (Nat.le_of_ble_eq_true rfl) (fun w41 hs42 => ?_)
     refine w_nil ?_
     refine qn ⟨hs42.tail.tail, ?_⟩
     refine d_nil ?_
     refine q_then (hC19 _ _ (Md.intro (by repeat (first | exact agree_refl | exact agree_mix | refine agree_upd rfl ?_ | refine agree_updL rfl ?_ _ | refine agree_mixin rfl ?_)) ?_))
     first
       | exact ⟨_, _, rfl, hs42⟩
       | exact ⟨_, _, rfl, swp2 (show St _ _ (_ :: _ :: _) from hs42)⟩
   ·
    intro vs μ w43 hM
    obtain ⟨b8, b9, rfl, hs⟩ := hM
    refine q_then (hK17 _ _ ?_)
    refine w_seq (fun K45 hK44 => ?_)
    refine w_seq (fun K47 hK46 => ?_)
    refine w_region ?_
    refine w_p (y_move (v := _) rfl rfl) rfl ?_
    refine w_nil ?_
    refine q_then (hK46 _ _ ?_)
    refine w_block ?_
    refine w_loop [7, 10, 11, 12, 13, 14, 45, 46, 47, 48, 49, 50, 51, 52, 53, 54, 55, 56, 57, 58, 59, 60, 61, 62, 63, 64, 65, 66, 67, 68, 69, 70, 71, 72, 73, 74, 75, 76, 77, 78, 79, 80, 81, 82, 83, 84, 85, 86, 87, 88, 89, 90, 91, 92, 93, 94, 95, 96, 97, 98, 99, 100, 101, 102, 103, 104, 105, 106, 107, 108, 109, 110, 111, 112, 113, 114, 115, 116, 117, 118, 119, 120] [7, 45] (fun kk vs w => ∃ (z : Nat) (v : Value) (B : List (Nat × Obj)), vs = [v, .int .i64 z] ∧ z ≤ 2 ∧ kk = 2 - z ∧ Rt.Own v 140 3 (wTo (ctrOf b c) (hourOf b a) a s z).length (wrows (wTo (ctrOf b c) (hourOf b a) a s z)).flatten B ∧ St w0 w ((b9, blk 31 [.int .i64 (hourOf b a).lo, .int .i64 (hourOf b a).hi]) :: (b8, blk 76 ((ctrOf b c).cells (p.pc c))) :: (b3, blk 154 [.int .i64 (c : Int), .int .i64 (a : Int), .int .i64 s]) :: (mm, .map (ents (fun l : List Int => ia l) es).toArray ck) :: (B ++ F))) (2) ?_ ?_
    ·
     exact ⟨0, _, [], rfl, by omega, by omega, own_nil 140 3, hs⟩
    ·
     intro k vs μ w50 hI K49 hN48
     obtain ⟨z, v, B, rfl, hza, rfl, hown, hs⟩ := hI
     have hzb : decide ((z : Int) = 1) = decide (z = 1) := by rw [Bool.eq_iff_iff]; simp; omega
     have hwl := wTo_len (a := a) (s := s) hcok hhok z
     refine w_seq (fun K52 hK51 => ?_)
     refine w_region ?_
     refine w_p (y_lss rfl rfl rfl rfl) rfl ?_
     refine w_nil ?_
     refine q_then (hK51 _ _ ?_)
     refine w_seq (fun K54 hK53 => ?_)
     refine w_cond rfl rfl (fun h55 => ?_) (fun h55 => ?_)
     ·
      try simp only [zA, zB, zC, zD, zE, zF] at h55
      refine w_skip ?_
      refine q_then (hK53 _ _ ?_)
      refine w_seq (fun K57 hK56 => ?_)
      refine w_block ?_
      refine w_seq (fun K59 hK58 => ?_)
      refine w_region ?_
      refine w_p (y_move (v := .int _ _) rfl rfl) rfl ?_
      refine w_p (y_assign (v := .int _ _) rfl rfl) rfl ?_
      refine w_nil ?_
      refine q_then (hK58 _ _ ?_)
      refine w_seq (fun K61 hK60 => ?_)
      refine w_seq (fun K63 hK62 => ?_)
      refine w_region ?_
      refine w_p (y_move (v := .int _ _) rfl rfl) rfl ?_
      refine w_p (y_eql rfl rfl rfl rfl) rfl ?_
      refine w_p (y_move (v := .bool _) rfl rfl) rfl ?_
      refine w_split (fun h64 => ?_) (fun h64 => ?_)
      ·
       try simp only [zA, zB, zC, zD, zE, zF] at h64
       refine w_y rfl rfl rfl (y_fieldAddr (o := 4) (i := 4) Try.underlying76 rfl Try.sizeOf39 rfl rfl rfl) rfl ?_
       refine w_y rfl rfl rfl (yd_slice hbz (y_load1 Try.isAgg39 hs rfl rfl (ats_own (i := 1) (vs := [_]) rfl rfl))) rfl ?_
       refine w_y rfl rfl rfl (y_fieldAddr (o := 1) (i := 1) Try.underlying154 rfl Try.sizeOf3 rfl rfl rfl) rfl ?_
       refine w_y rfl rfl rfl (y_load1 Try.isAgg3 hs rfl rfl (ats_own (i := 2) (vs := [_]) rfl rfl)) rfl ?_
       refine w_y rfl rfl rfl (y_indexS Try.underlying39 Try.sizeOf3 rfl rfl rfl rfl (i := a) rfl haz) rfl ?_
       refine w_y rfl rfl rfl (y_load1 Try.isAgg3 hs.tail.tail.tail.tail.drop rfl rfl hxz) rfl ?_
       refine w_y rfl rfl rfl (y_eql rfl rfl rfl rfl) rfl ?_
       refine w_p (y_pickT (v := .bool _) rfl rfl rfl rfl) rfl ?_
       refine w_p (y_move (v := .bool _) rfl rfl) rfl ?_
       refine w_split (fun h65 => ?_) (fun h65 => ?_)
       ·
        try simp only [zA, zB, zC, zD, zE, zF] at h65
        refine w_skipop rfl rfl rfl ?_
        refine w_skipop rfl rfl rfl ?_
        refine w_skipop rfl rfl rfl ?_
        refine w_skipop' rfl rfl rfl ?_
        refine w_skipop' rfl rfl rfl ?_
        refine w_skipop' rfl rfl rfl ?_
        refine w_skipop' rfl rfl rfl ?_
        refine w_skipop' rfl rfl rfl ?_
        refine w_skipop' rfl rfl rfl ?_
        refine w_skipop' rfl rfl rfl ?_
        refine w_skipop rfl rfl rfl ?_
        refine w_p (y_pickT (v := _) rfl rfl rfl rfl) rfl ?_
        refine w_nil ?_
        refine q_then (hK62 _ _ ?_)
        refine w_condT rfl rfl ?_
        refine w_exit ?_
        refine q_then_exit ?_
        refine q_blk_this ?_
        refine q_then (hK56 _ _ ?_)
        refine w_region ?_
        refine w_p (y_add rfl rfl rfl rfl (by omega) (by omega)) rfl ?_
        refine w_p (y_move (v := .int _ _) rfl rfl) rfl ?_
        refine w_nil ?_
        refine q_then (hN48 _ _ (Nx.intro (2 - (z + 1)) (by omega) (by repeat (first | exact agree_mix | refine agree_upd rfl ?_ | refine agree_updL rfl ?_ _ | refine agree_mixin rfl ?_)) ?_))
        first
          | exact ⟨z + 1, v, B, rfl, by omega, rfl, by rw [wTo_no (canZ_n (by omega) (by omega))]; exact hown, hs⟩
          | exact ⟨z + 1, v, B, rfl, by omega, rfl, by rw [wPart_all (canZ_y (by omega) (by omega)) (q := q) (by omega)]; exact hown2, hs.tail⟩
       ·
        try simp only [zA, zB, zC, zD, zE, zF] at h65
        refine w_y rfl rfl rfl (y_move (v := .int _ _) rfl rfl) rfl ?_
        refine w_y rfl rfl rfl (y_eql rfl rfl rfl rfl) rfl ?_
        refine w_y rfl rfl rfl (y_move (v := .bool _) rfl rfl) rfl ?_
        refine w_split (fun h66 => ?_) (fun h66 => ?_)
        ·
         try simp only [zA, zB, zC, zD, zE, zF] at h66
         refine w_y rfl rfl rfl (y_fieldAddr (o := 4) (i := 4) Try.underlying76 rfl Try.sizeOf39 rfl rfl rfl) rfl ?_
         refine w_y rfl rfl rfl (yd_slice hbz (y_load1 Try.isAgg39 hs rfl rfl (ats_own (i := 1) (vs := [_]) rfl rfl))) rfl ?_
         refine w_y rfl rfl rfl (y_fieldAddr (o := 1) (i := 1) Try.underlying154 rfl Try.sizeOf3 rfl rfl rfl) rfl ?_
         refine w_y rfl rfl rfl (y_load1 Try.isAgg3 hs rfl rfl (ats_own (i := 2) (vs := [_]) rfl rfl)) rfl ?_
         refine w_y rfl rfl rfl (y_indexS Try.underlying39 Try.sizeOf3 rfl rfl rfl rfl (i := a) rfl haz) rfl ?_
         refine w_y rfl rfl rfl (y_load1 Try.isAgg3 hs.tail.tail.tail.tail.drop rfl rfl hxz) rfl ?_
         refine w_y rfl rfl rfl (y_eql rfl rfl rfl rfl) rfl ?_
         refine w_y rfl rfl rfl (y_pickT (v := .bool _) rfl rfl rfl rfl) rfl ?_
         refine w_p (y_pickF (v := .bool _) rfl rfl rfl rfl) rfl ?_
         refine w_nil ?_
         refine q_then (hK62 _ _ ?_)
         refine w_cond rfl rfl (fun h67 => ?_) (fun h67 => ?_)
         ·
          try simp only [zA, zB, zC, zD, zE, zF] at h67
          refine w_exit ?_
          refine q_then_exit ?_
          refine q_blk_this ?_
          refine q_then (hK56 _ _ ?_)
          refine w_region ?_
          refine w_p (y_add rfl rfl rfl rfl (by omega) (by omega)) rfl ?_
          refine w_p (y_move (v := .int _ _) rfl rfl) rfl ?_
          refine w_nil ?_
          refine q_then (hN48 _ _ (Nx.intro (2 - (z + 1)) (by omega) (by repeat (first | exact agree_mix | refine agree_upd rfl ?_ | refine agree_updL rfl ?_ _ | refine agree_mixin rfl ?_)) ?_))
          first
            | exact ⟨z + 1, v, B, rfl, by omega, rfl, by rw [wTo_no (canZ_n (by omega) (by omega))]; exact hown, hs⟩
            | exact ⟨z + 1, v, B, rfl, by omega, rfl, by rw [wPart_all (canZ_y (by omega) (by omega)) (q := q) (by omega)]; exact hown2, hs.tail⟩
         ·
          try simp only [zA, zB, zC, zD, zE, zF] at h67
          refine w_skip ?_
          refine q_then (hK60 _ _ ?_)
          refine w_seq (fun K69 hK68 => ?_)
          refine w_region ?_
          refine w_p (y_loadN (vs := [_, _, _]) Try.isAgg154 Try.sizeOf154 hs rfl rfl (ats_own (i := 2) (vs := [_, _, _]) rfl rfl)) rfl ?_
          refine w_alloc (cs := [_, _, _]) want_none Try.zeroValue154 rfl hs (fun b70 w71 hs72 => ?_)
          refine w_store (i := 0) (v := .agg #[.int _ _, .int _ _, .int _ _]) (vs := [_, _, _]) want_none Try.sizeOf154 rfl rfl rfl rfl rfl (by simp [Value.oneCell']) hs72 rfl (Nat.le_of_ble_eq_true rfl) (fun w73 hs74 => ?_)
          refine w_nil ?_
          refine q_then (hK68 _ _ ?_)
          refine w_seq (fun K76 hK75 => ?_)
          have hmi := mul_in (s := s) (show z < 2 by omega) hs1
          refine w_region ?_
          refine w_p (y_fieldAddr (o := 2) (i := 2) Try.underlying154 rfl Try.sizeOf3 rfl rfl rfl) rfl ?_
          refine w_p (y_load1 Try.isAgg3 hs74 rfl rfl (ats_own (i := 0) (vs := [_]) rfl rfl)) rfl ?_
          refine w_p (y_move (v := .int _ _) rfl rfl) rfl ?_
          refine w_p (y_sub rfl rfl rfl rfl (by omega) (by omega)) rfl ?_
          refine w_p (y_mul rfl rfl rfl rfl (by omega) (by omega)) rfl ?_
          refine w_p (y_fieldAddr (o := 2) (i := 2) Try.underlying154 rfl Try.sizeOf3 rfl rfl rfl) rfl ?_
          refine w_store (i := 0) (v := .int _ _) (vs := [_]) want_none Try.sizeOf3 rfl rfl rfl rfl rfl (by simp [Value.oneCell']) hs74 rfl (Nat.le_of_ble_eq_true rfl) (fun w77 hs78 => ?_)
          refine w_nil ?_
          refine q_then (hK75 _ _ ?_)
          refine w_seq (fun K80 hK79 => ?_)
          refine w_region ?_
          refine w_p (y_fieldAddr (o := 0) (i := 0) Try.underlying31 rfl Try.sizeOf3 rfl rfl rfl) rfl ?_
          refine w_p (y_load1 Try.isAgg3 hs78 rfl rfl (ats_own (i := 1) (vs := [_]) rfl rfl)) rfl ?_
          refine w_p (y_fieldAddr (o := 1) (i := 1) Try.underlying76 rfl Try.sizeOf3 rfl rfl rfl) rfl ?_
          refine w_p (y_load1 Try.isAgg3 hs78 rfl rfl (ats_own (i := 2) (vs := [_]) rfl rfl)) rfl ?_
          refine w_p (y_sub rfl rfl rfl rfl (by omega) (by omega)) rfl ?_
          refine w_p (y_max2 rfl rfl rfl rfl) rfl ?_
          refine w_p (y_assign (v := .int _ _) rfl rfl) rfl ?_
          refine w_nil ?_
          refine q_then (hK79 _ _ ?_)
          refine w_block ?_
          refine w_loop [7, 12, 13, 14, 85, 86, 87, 88, 89, 90, 91, 92, 93, 94, 95, 96, 97, 98, 99, 100, 101, 102, 103, 104, 105, 106, 107, 108, 109, 110, 111, 112, 113, 114, 115, 116, 117, 118, 119] [7, 12] (fun kk vs w => ∃ (q : Nat) (v : Value) (B : List (Nat × Obj)), vs = [v, .int .i64 ((max 0 ((hourOf b a).lo - (ctrOf b c).skip)) + q)] ∧ q ≤ ((hourOf b a).hi + (ctrOf b c).twice + 1 - (max 0 ((hourOf b a).lo - (ctrOf b c).skip))).toNat ∧ kk = ((hourOf b a).hi + (ctrOf b c).twice + 1 - (max 0 ((hourOf b a).lo - (ctrOf b c).skip))).toNat - q ∧ Rt.Own v 140 3 ((wTo (ctrOf b c) (hourOf b a) a s z) ++ wPart (ctrOf b c) a s (decide (z = 1)) (max 0 ((hourOf b a).lo - (ctrOf b c).skip)) q).length (wrows ((wTo (ctrOf b c) (hourOf b a) a s z) ++ wPart (ctrOf b c) a s (decide (z = 1)) (max 0 ((hourOf b a).lo - (ctrOf b c).skip)) q)).flatten B ∧ St w0 w ((b70, blk 154 [.int .i64 (c : Int), .int .i64 (a : Int), .int .i64 (s * (1 - (z : Int)))]) :: (b9, blk 31 [.int .i64 (hourOf b a).lo, .int .i64 (hourOf b a).hi]) :: (b8, blk 76 ((ctrOf b c).cells (p.pc c))) :: (b3, blk 154 [.int .i64 (c : Int), .int .i64 (a : Int), .int .i64 s]) :: (mm, .map (ents (fun l : List Int => ia l) es).toArray ck) :: (B ++ F))) (((hourOf b a).hi + (ctrOf b c).twice + 1 - (max 0 ((hourOf b a).lo - (ctrOf b c).skip))).toNat) ?_ ?_
          ·
           exact ⟨0, v, B, vi (by omega), by omega, by omega, by rw [show wPart (ctrOf b c) a s (decide (z = 1)) (max 0 ((hourOf b a).lo - (ctrOf b c).skip)) 0 = [] from rfl, List.append_nil]; exact hown, hs78⟩
          ·
           intro k vs μ w83 hI K82 hN81
           obtain ⟨q, v, B, rfl, hqa, rfl, hown2, hs⟩ := hI
           have hpl := wPart_len (ctrOf b c) a s (max 0 ((hourOf b a).lo - (ctrOf b c).skip)) (decide (z = 1)) q
           have hpa : ((wTo (ctrOf b c) (hourOf b a) a s z) ++ wPart (ctrOf b c) a s (decide (z = 1)) (max 0 ((hourOf b a).lo - (ctrOf b c).skip)) q).length = (wTo (ctrOf b c) (hourOf b a) a s z).length + (wPart (ctrOf b c) a s (decide (z = 1)) (max 0 ((hourOf b a).lo - (ctrOf b c).skip)) q).length := List.length_append
           refine w_seq (fun K85 hK84 => ?_)
           refine w_seq (fun K87 hK86 => ?_)
           refine w_region ?_
           refine w_p (y_move (v := .int _ _) rfl rfl) rfl ?_
           refine w_p (y_fieldAddr (o := 1) (i := 1) Try.underlying31 rfl Try.sizeOf3 rfl rfl rfl) rfl ?_
           refine w_p (y_load1 Try.isAgg3 hs rfl rfl (ats_own (i := 1) (vs := [_]) rfl rfl)) rfl ?_
           refine w_p (y_fieldAddr (o := 2) (i := 2) Try.underlying76 rfl Try.sizeOf3 rfl rfl rfl) rfl ?_
           refine w_p (y_load1 Try.isAgg3 hs rfl rfl (ats_own (i := 2) (vs := [_]) rfl rfl)) rfl ?_
           refine w_p (y_add rfl rfl rfl rfl (by omega) (by omega)) rfl ?_
           refine w_p (y_leq rfl rfl rfl rfl) rfl ?_
           refine w_nil ?_
           refine q_then (hK86 _ _ ?_)
           refine w_cond rfl rfl (fun h88 => ?_) (fun h88 => ?_)
           ·
            try simp only [zA, zB, zC, zD, zE, zF] at h88
            refine w_skip ?_
            refine q_then (hK84 _ _ ?_)
            refine w_seq (fun K90 hK89 => ?_)
            refine w_block ?_
            refine w_seq (fun K92 hK91 => ?_)
            refine w_region ?_
            refine w_p (y_fieldAddr (o := 2) (i := 2) Try.underlying154 rfl Try.sizeOf3 rfl rfl rfl) rfl ?_
            refine w_p (y_load1 Try.isAgg3 hs rfl rfl (ats_own (i := 0) (vs := [_]) rfl rfl)) rfl ?_
            refine w_p (y_move (v := .int _ _) rfl rfl) rfl ?_
            refine w_p (y_add rfl rfl rfl rfl (by omega) (by omega)) rfl ?_
            refine w_p (y_rem rfl rfl rfl rfl (by omega) (by omega)) rfl ?_
            refine w_p (y_assign (v := .int _ _) rfl rfl) rfl ?_
            refine w_nil ?_
            refine q_then (hK91 _ _ ?_)
            refine w_seq (fun K94 hK93 => ?_)
            refine w_region ?_
            refine w_p (y_fieldAddr (o := 5) (i := 5) Try.underlying76 rfl Try.sizeOf39 rfl rfl rfl) rfl ?_
            refine w_p (yd_slice hbv (y_load1 Try.isAgg39 hs rfl rfl (ats_own (i := 2) (vs := [_]) rfl rfl))) rfl ?_
            refine w_p (y_fieldAddr (o := 1) (i := 1) Try.underlying154 rfl Try.sizeOf3 rfl rfl rfl) rfl ?_
            refine w_p (y_load1 Try.isAgg3 hs rfl rfl (ats_own (i := 3) (vs := [_]) rfl rfl)) rfl ?_
            refine w_p (y_indexS Try.underlying39 Try.sizeOf3 rfl rfl rfl rfl (i := a) rfl has) rfl ?_
            refine w_p (y_load1 Try.isAgg3 hs.tail.tail.tail.tail.tail.drop rfl rfl hxv) rfl ?_
            refine w_p (y_assign (v := .int _ _) rfl rfl) rfl ?_
            refine w_nil ?_
            refine q_then (hK93 _ _ ?_)
            refine w_seq (fun K96 hK95 => ?_)
            rw [sh_mul (by omega)]
            refine w_region ?_
            refine w_p (y_move (v := .int _ _) rfl rfl) rfl ?_
            refine w_p (y_eql rfl rfl rfl rfl) rfl ?_
            refine w_p (y_move (v := .bool _) rfl rfl) rfl ?_
            refine w_split (fun h97 => ?_) (fun h97 => ?_)
            ·
             try simp only [zA, zB, zC, zD, zE, zF] at h97
             refine w_skipop rfl rfl rfl ?_
             refine w_skipop rfl rfl rfl ?_
             refine w_skipop rfl rfl rfl ?_
             refine w_p (y_pickT (v := _) rfl rfl rfl rfl) rfl ?_
             refine w_nil ?_
             refine q_then (hK95 _ _ ?_)
             refine w_condT rfl rfl ?_
             refine w_region ?_
             refine w_p (y_move (v := v) rfl rfl) rfl ?_
             refine w_p (y_move (v := .int _ _) rfl rfl) rfl ?_
             refine w_p (y_move (v := .int _ _) rfl rfl) rfl ?_
             refine w_p (y_move (v := .int _ _) rfl rfl) rfl ?_
             refine w_p (y_eql rfl rfl rfl rfl) rfl ?_
             refine w_p (y_build (ps := [(0, _), (1, _), (2, _)]) (pv := [(0, .int _ _), (1, .int _ _), (2, .bool _)]) rfl rfl (fun w => Try_E_fb1 _ _ _ w)) rfl ?_
             refine w_bslice (ps := [(0, _)]) (pv := [(0, .agg #[.int _ _, .int _ _, .bool _])]) (cs := [_, _, _]) want_none rfl rfl (fun w => Try_E_fb2 _ _ _ w) hs (fun b98 w99 hs100 => ?_)
             refine w_append (X := (_ :: _ :: _ :: _ :: _ :: _ :: [])) (B := B) (rows := [[_, _, _]]) (sz := 3) (bytes := 24) want_none Try.underlying152 Try_info140 rfl rfl rfl rfl rfl rfl rfl rfl rfl hs100 hown2 (sl_own (i := 0) rfl (by simp) rfl) rfl (by simp) (by simp [Value.oneCell']) (by simp only [maxLen]; omega) (by omega) (fun v101 w102 B103 ho104 hs105 => ?_)
             replace hs105 := (show St _ _ (_ :: _ :: _ :: _ :: _ :: _ :: B103 ++ (F)) from hs105)
             refine w_p (y_assign (v := v101) rfl rfl) rfl ?_
             refine w_nil ?_
             refine q_blk_normal ?_
             refine q_then (hK89 _ _ ?_)
             refine w_region ?_
             refine w_p (y_move (v := .int _ _) rfl rfl) rfl ?_
             refine w_p (y_add rfl rfl rfl rfl (by omega) (by omega)) rfl ?_
             refine w_p (y_assign (v := .int _ _) rfl rfl) rfl ?_
             refine w_nil ?_
             refine q_then (hN81 _ _ (Nx.intro (((hourOf b a).hi + (ctrOf b c).twice + 1 - (max 0 ((hourOf b a).lo - (ctrOf b c).skip))).toNat - (q + 1)) (by omega) (by repeat (first | exact agree_mix | refine agree_upd rfl ?_ | refine agree_updL rfl ?_ _ | refine agree_mixin rfl ?_)) ?_))
             exact ⟨q + 1, _, _, vi (by omega), by omega, rfl, by rw [wPart_y (by rw [hgs]; omega), ← List.append_assoc]; exact own_way (by have h9 := ho104; rw [hzb] at h9; exact h9), hs105.tail⟩
            ·
             try simp only [zA, zB, zC, zD, zE, zF] at h97
             refine w_y rfl rfl rfl (y_move (v := .int _ _) rfl rfl) rfl ?_
             refine w_y rfl rfl rfl (y_move (v := .int _ _) rfl rfl) rfl ?_
             refine w_y rfl rfl rfl (y_eql rfl rfl rfl rfl) rfl ?_
             refine w_p (y_pickF (v := .bool _) rfl rfl rfl rfl) rfl ?_
             refine w_nil ?_
             refine q_then (hK95 _ _ ?_)
             refine w_cond rfl rfl (fun h106 => ?_) (fun h106 => ?_)
             ·
              try simp only [zA, zB, zC, zD, zE, zF] at h106
              refine w_region ?_
              refine w_p (y_move (v := v) rfl rfl) rfl ?_
              refine w_p (y_move (v := .int _ _) rfl rfl) rfl ?_
              refine w_p (y_move (v := .int _ _) rfl rfl) rfl ?_
              refine w_p (y_move (v := .int _ _) rfl rfl) rfl ?_
              refine w_p (y_eql rfl rfl rfl rfl) rfl ?_
              refine w_p (y_build (ps := [(0, _), (1, _), (2, _)]) (pv := [(0, .int _ _), (1, .int _ _), (2, .bool _)]) rfl rfl (fun w => Try_E_fb1 _ _ _ w)) rfl ?_
              refine w_bslice (ps := [(0, _)]) (pv := [(0, .agg #[.int _ _, .int _ _, .bool _])]) (cs := [_, _, _]) want_none rfl rfl (fun w => Try_E_fb2 _ _ _ w) hs (fun b107 w108 hs109 => ?_)
              refine w_append (X := (_ :: _ :: _ :: _ :: _ :: _ :: [])) (B := B) (rows := [[_, _, _]]) (sz := 3) (bytes := 24) want_none Try.underlying152 Try_info140 rfl rfl rfl rfl rfl rfl rfl rfl rfl hs109 hown2 (sl_own (i := 0) rfl (by simp) rfl) rfl (by simp) (by simp [Value.oneCell']) (by simp only [maxLen]; omega) (by omega) (fun v110 w111 B112 ho113 hs114 => ?_)
              replace hs114 := (show St _ _ (_ :: _ :: _ :: _ :: _ :: _ :: B112 ++ (F)) from hs114)
              refine w_p (y_assign (v := v110) rfl rfl) rfl ?_
              refine w_nil ?_
              refine q_blk_normal ?_
              refine q_then (hK89 _ _ ?_)
              refine w_region ?_
              refine w_p (y_move (v := .int _ _) rfl rfl) rfl ?_
              refine w_p (y_add rfl rfl rfl rfl (by omega) (by omega)) rfl ?_
              refine w_p (y_assign (v := .int _ _) rfl rfl) rfl ?_
              refine w_nil ?_
              refine q_then (hN81 _ _ (Nx.intro (((hourOf b a).hi + (ctrOf b c).twice + 1 - (max 0 ((hourOf b a).lo - (ctrOf b c).skip))).toNat - (q + 1)) (by omega) (by repeat (first | exact agree_mix | refine agree_upd rfl ?_ | refine agree_updL rfl ?_ _ | refine agree_mixin rfl ?_)) ?_))
              exact ⟨q + 1, _, _, vi (by omega), by omega, rfl, by rw [wPart_y (by rw [hgs]; omega), ← List.append_assoc]; exact own_way (by have h9 := ho113; rw [hzb] at h9; exact h9), hs114.tail⟩
             ·
              try simp only [zA, zB, zC, zD, zE, zF] at h106
              refine w_skip ?_
              refine q_blk_normal ?_
              refine q_then (hK89 _ _ ?_)
              refine w_region ?_
              refine w_p (y_move (v := .int _ _) rfl rfl) rfl ?_
              refine w_p (y_add rfl rfl rfl rfl (by omega) (by omega)) rfl ?_
              refine w_p (y_assign (v := .int _ _) rfl rfl) rfl ?_
              refine w_nil ?_
              refine q_then (hN81 _ _ (Nx.intro (((hourOf b a).hi + (ctrOf b c).twice + 1 - (max 0 ((hourOf b a).lo - (ctrOf b c).skip))).toNat - (q + 1)) (by omega) (by repeat (first | exact agree_mix | refine agree_upd rfl ?_ | refine agree_updL rfl ?_ _ | refine agree_mixin rfl ?_)) ?_))
              exact ⟨q + 1, v, B, vi (by omega), by omega, rfl, by rw [wPart_n (by rw [hgs]; omega)]; exact hown2, hs⟩
           ·
            try simp only [zA, zB, zC, zD, zE, zF] at h88
            refine w_exit ?_
            refine q_then_exit ?_
            refine q_then_exit ?_
            refine q_blk_this ?_
            refine q_blk_normal ?_
            refine q_then (hK56 _ _ ?_)
            refine w_region ?_
            refine w_p (y_add rfl rfl rfl rfl (by omega) (by omega)) rfl ?_
            refine w_p (y_move (v := .int _ _) rfl rfl) rfl ?_
            refine w_nil ?_
            refine q_then (hN48 _ _ (Nx.intro (2 - (z + 1)) (by omega) (by repeat (first | exact agree_mix | refine agree_upd rfl ?_ | refine agree_updL rfl ?_ _ | refine agree_mixin rfl ?_)) ?_))
            first
              | exact ⟨z + 1, v, B, rfl, by omega, rfl, by rw [wTo_no (canZ_n (by omega) (by omega))]; exact hown, hs⟩
              | exact ⟨z + 1, v, B, rfl, by omega, rfl, by rw [wPart_all (canZ_y (by omega) (by omega)) (q := q) (by omega)]; exact hown2, hs.tail⟩
        ·
         try simp only [zA, zB, zC, zD, zE, zF] at h66
         refine w_skipop rfl rfl rfl ?_
         refine w_skipop rfl rfl rfl ?_
         refine w_skipop rfl rfl rfl ?_
         refine w_skipop rfl rfl rfl ?_
         refine w_skipop rfl rfl rfl ?_
         refine w_skipop rfl rfl rfl ?_
         refine w_skipop rfl rfl rfl ?_
         refine w_y rfl rfl rfl (y_pickF (v := _) rfl rfl rfl rfl) rfl ?_
         refine w_p (y_pickF (v := .bool _) rfl rfl rfl rfl) rfl ?_
         refine w_nil ?_
         refine q_then (hK62 _ _ ?_)
         refine w_condF rfl rfl ?_
         refine w_skip ?_
         refine q_then (hK60 _ _ ?_)
         refine w_seq (fun K116 hK115 => ?_)
         refine w_region ?_
         refine w_p (y_loadN (vs := [_, _, _]) Try.isAgg154 Try.sizeOf154 hs rfl rfl (ats_own (i := 2) (vs := [_, _, _]) rfl rfl)) rfl ?_
         refine w_alloc (cs := [_, _, _]) want_none Try.zeroValue154 rfl hs (fun b117 w118 hs119 => ?_)
         refine w_store (i := 0) (v := .agg #[.int _ _, .int _ _, .int _ _]) (vs := [_, _, _]) want_none Try.sizeOf154 rfl rfl rfl rfl rfl (by simp [Value.oneCell']) hs119 rfl (Nat.le_of_ble_eq_true rfl) (fun w120 hs121 => ?_)
         refine w_nil ?_
         refine q_then (hK115 _ _ ?_)
         refine w_seq (fun K123 hK122 => ?_)
         have hmi := mul_in (s := s) (show z < 2 by omega) hs1
         refine w_region ?_
         refine w_p (y_fieldAddr (o := 2) (i := 2) Try.underlying154 rfl Try.sizeOf3 rfl rfl rfl) rfl ?_
         refine w_p (y_load1 Try.isAgg3 hs121 rfl rfl (ats_own (i := 0) (vs := [_]) rfl rfl)) rfl ?_
         refine w_p (y_move (v := .int _ _) rfl rfl) rfl ?_
         refine w_p (y_sub rfl rfl rfl rfl (by omega) (by omega)) rfl ?_
         refine w_p (y_mul rfl rfl rfl rfl (by omega) (by omega)) rfl ?_
         refine w_p (y_fieldAddr (o := 2) (i := 2) Try.underlying154 rfl Try.sizeOf3 rfl rfl rfl) rfl ?_
         refine w_store (i := 0) (v := .int _ _) (vs := [_]) want_none Try.sizeOf3 rfl rfl rfl rfl rfl (by simp [Value.oneCell']) hs121 rfl (Nat.le_of_ble_eq_true rfl) (fun w124 hs125 => ?_)
         refine w_nil ?_
         refine q_then (hK122 _ _ ?_)
         refine w_seq (fun K127 hK126 => ?_)
         refine w_region ?_
         refine w_p (y_fieldAddr (o := 0) (i := 0) Try.underlying31 rfl Try.sizeOf3 rfl rfl rfl) rfl ?_
         refine w_p (y_load1 Try.isAgg3 hs125 rfl rfl (ats_own (i := 1) (vs := [_]) rfl rfl)) rfl ?_
         refine w_p (y_fieldAddr (o := 1) (i := 1) Try.underlying76 rfl Try.sizeOf3 rfl rfl rfl) rfl ?_
         refine w_p (y_load1 Try.isAgg3 hs125 rfl rfl (ats_own (i := 2) (vs := [_]) rfl rfl)) rfl ?_
         refine w_p (y_sub rfl rfl rfl rfl (by omega) (by omega)) rfl ?_
         refine w_p (y_max2 rfl rfl rfl rfl) rfl ?_
         refine w_p (y_assign (v := .int _ _) rfl rfl) rfl ?_
         refine w_nil ?_
         refine q_then (hK126 _ _ ?_)
         refine w_block ?_
         refine w_loop [7, 12, 13, 14, 85, 86, 87, 88, 89, 90, 91, 92, 93, 94, 95, 96, 97, 98, 99, 100, 101, 102, 103, 104, 105, 106, 107, 108, 109, 110, 111, 112, 113, 114, 115, 116, 117, 118, 119] [7, 12] (fun kk vs w => ∃ (q : Nat) (v : Value) (B : List (Nat × Obj)), vs = [v, .int .i64 ((max 0 ((hourOf b a).lo - (ctrOf b c).skip)) + q)] ∧ q ≤ ((hourOf b a).hi + (ctrOf b c).twice + 1 - (max 0 ((hourOf b a).lo - (ctrOf b c).skip))).toNat ∧ kk = ((hourOf b a).hi + (ctrOf b c).twice + 1 - (max 0 ((hourOf b a).lo - (ctrOf b c).skip))).toNat - q ∧ Rt.Own v 140 3 ((wTo (ctrOf b c) (hourOf b a) a s z) ++ wPart (ctrOf b c) a s (decide (z = 1)) (max 0 ((hourOf b a).lo - (ctrOf b c).skip)) q).length (wrows ((wTo (ctrOf b c) (hourOf b a) a s z) ++ wPart (ctrOf b c) a s (decide (z = 1)) (max 0 ((hourOf b a).lo - (ctrOf b c).skip)) q)).flatten B ∧ St w0 w ((b117, blk 154 [.int .i64 (c : Int), .int .i64 (a : Int), .int .i64 (s * (1 - (z : Int)))]) :: (b9, blk 31 [.int .i64 (hourOf b a).lo, .int .i64 (hourOf b a).hi]) :: (b8, blk 76 ((ctrOf b c).cells (p.pc c))) :: (b3, blk 154 [.int .i64 (c : Int), .int .i64 (a : Int), .int .i64 s]) :: (mm, .map (ents (fun l : List Int => ia l) es).toArray ck) :: (B ++ F))) (((hourOf b a).hi + (ctrOf b c).twice + 1 - (max 0 ((hourOf b a).lo - (ctrOf b c).skip))).toNat) ?_ ?_
         ·
          exact ⟨0, v, B, vi (by omega), by omega, by omega, by rw [show wPart (ctrOf b c) a s (decide (z = 1)) (max 0 ((hourOf b a).lo - (ctrOf b c).skip)) 0 = [] from rfl, List.append_nil]; exact hown, hs125⟩
         ·
          intro k vs μ w130 hI K129 hN128
          obtain ⟨q, v, B, rfl, hqa, rfl, hown2, hs⟩ := hI
          have hpl := wPart_len (ctrOf b c) a s (max 0 ((hourOf b a).lo - (ctrOf b c).skip)) (decide (z = 1)) q
          have hpa : ((wTo (ctrOf b c) (hourOf b a) a s z) ++ wPart (ctrOf b c) a s (decide (z = 1)) (max 0 ((hourOf b a).lo - (ctrOf b c).skip)) q).length = (wTo (ctrOf b c) (hourOf b a) a s z).length + (wPart (ctrOf b c) a s (decide (z = 1)) (max 0 ((hourOf b a).lo - (ctrOf b c).skip)) q).length := List.length_append
          refine w_seq (fun K132 hK131 => ?_)
          refine w_seq (fun K134 hK133 => ?_)
          refine w_region ?_
          refine w_p (y_move (v := .int _ _) rfl rfl) rfl ?_
          refine w_p (y_fieldAddr (o := 1) (i := 1) Try.underlying31 rfl Try.sizeOf3 rfl rfl rfl) rfl ?_
          refine w_p (y_load1 Try.isAgg3 hs rfl rfl (ats_own (i := 1) (vs := [_]) rfl rfl)) rfl ?_
          refine w_p (y_fieldAddr (o := 2) (i := 2) Try.underlying76 rfl Try.sizeOf3 rfl rfl rfl) rfl ?_
          refine w_p (y_load1 Try.isAgg3 hs rfl rfl (ats_own (i := 2) (vs := [_]) rfl rfl)) rfl ?_
          refine w_p (y_add rfl rfl rfl rfl (by omega) (by omega)) rfl ?_
          refine w_p (y_leq rfl rfl rfl rfl) rfl ?_
          refine w_nil ?_
          refine q_then (hK133 _ _ ?_)
          refine w_cond rfl rfl (fun h135 => ?_) (fun h135 => ?_)
          ·
           try simp only [zA, zB, zC, zD, zE, zF] at h135
           refine w_skip ?_
           refine q_then (hK131 _ _ ?_)
           refine w_seq (fun K137 hK136 => ?_)
           refine w_block ?_
           refine w_seq (fun K139 hK138 => ?_)
           refine w_region ?_
           refine w_p (y_fieldAddr (o := 2) (i := 2) Try.underlying154 rfl Try.sizeOf3 rfl rfl rfl) rfl ?_
           refine w_p (y_load1 Try.isAgg3 hs rfl rfl (ats_own (i := 0) (vs := [_]) rfl rfl)) rfl ?_
           refine w_p (y_move (v := .int _ _) rfl rfl) rfl ?_
           refine w_p (y_add rfl rfl rfl rfl (by omega) (by omega)) rfl ?_
           refine w_p (y_rem rfl rfl rfl rfl (by omega) (by omega)) rfl ?_
           refine w_p (y_assign (v := .int _ _) rfl rfl) rfl ?_
           refine w_nil ?_
           refine q_then (hK138 _ _ ?_)
           refine w_seq (fun K141 hK140 => ?_)
           refine w_region ?_
           refine w_p (y_fieldAddr (o := 5) (i := 5) Try.underlying76 rfl Try.sizeOf39 rfl rfl rfl) rfl ?_
           refine w_p (yd_slice hbv (y_load1 Try.isAgg39 hs rfl rfl (ats_own (i := 2) (vs := [_]) rfl rfl))) rfl ?_
           refine w_p (y_fieldAddr (o := 1) (i := 1) Try.underlying154 rfl Try.sizeOf3 rfl rfl rfl) rfl ?_
           refine w_p (y_load1 Try.isAgg3 hs rfl rfl (ats_own (i := 3) (vs := [_]) rfl rfl)) rfl ?_
           refine w_p (y_indexS Try.underlying39 Try.sizeOf3 rfl rfl rfl rfl (i := a) rfl has) rfl ?_
           refine w_p (y_load1 Try.isAgg3 hs.tail.tail.tail.tail.tail.drop rfl rfl hxv) rfl ?_
           refine w_p (y_assign (v := .int _ _) rfl rfl) rfl ?_
           refine w_nil ?_
           refine q_then (hK140 _ _ ?_)
           refine w_seq (fun K143 hK142 => ?_)
           rw [sh_mul (by omega)]
           refine w_region ?_
           refine w_p (y_move (v := .int _ _) rfl rfl) rfl ?_
           refine w_p (y_eql rfl rfl rfl rfl) rfl ?_
           refine w_p (y_move (v := .bool _) rfl rfl) rfl ?_
           refine w_split (fun h144 => ?_) (fun h144 => ?_)
           ·
            try simp only [zA, zB, zC, zD, zE, zF] at h144
            refine w_skipop rfl rfl rfl ?_
            refine w_skipop rfl rfl rfl ?_
            refine w_skipop rfl rfl rfl ?_
            refine w_p (y_pickT (v := _) rfl rfl rfl rfl) rfl ?_
            refine w_nil ?_
            refine q_then (hK142 _ _ ?_)
            refine w_condT rfl rfl ?_
            refine w_region ?_
            refine w_p (y_move (v := v) rfl rfl) rfl ?_
            refine w_p (y_move (v := .int _ _) rfl rfl) rfl ?_
            refine w_p (y_move (v := .int _ _) rfl rfl) rfl ?_
            refine w_p (y_move (v := .int _ _) rfl rfl) rfl ?_
            refine w_p (y_eql rfl rfl rfl rfl) rfl ?_
            refine w_p (y_build (ps := [(0, _), (1, _), (2, _)]) (pv := [(0, .int _ _), (1, .int _ _), (2, .bool _)]) rfl rfl (fun w => Try_E_fb1 _ _ _ w)) rfl ?_
            refine w_bslice (ps := [(0, _)]) (pv := [(0, .agg #[.int _ _, .int _ _, .bool _])]) (cs := [_, _, _]) want_none rfl rfl (fun w => Try_E_fb2 _ _ _ w) hs (fun b145 w146 hs147 => ?_)
            refine w_append (X := (_ :: _ :: _ :: _ :: _ :: _ :: [])) (B := B) (rows := [[_, _, _]]) (sz := 3) (bytes := 24) want_none Try.underlying152 Try_info140 rfl rfl rfl rfl rfl rfl rfl rfl rfl hs147 hown2 (sl_own (i := 0) rfl (by simp) rfl) rfl (by simp) (by simp [Value.oneCell']) (by simp only [maxLen]; omega) (by omega) (fun v148 w149 B150 ho151 hs152 => ?_)
            replace hs152 := (show St _ _ (_ :: _ :: _ :: _ :: _ :: _ :: B150 ++ (F)) from hs152)
            refine w_p (y_assign (v := v148) rfl rfl) rfl ?_
            refine w_nil ?_
            refine q_blk_normal ?_
            refine q_then (hK136 _ _ ?_)
            refine w_region ?_
            refine w_p (y_move (v := .int _ _) rfl rfl) rfl ?_
            refine w_p (y_add rfl rfl rfl rfl (by omega) (by omega)) rfl ?_
            refine w_p (y_assign (v := .int _ _) rfl rfl) rfl ?_
            refine w_nil ?_
            refine q_then (hN128 _ _ (Nx.intro (((hourOf b a).hi + (ctrOf b c).twice + 1 - (max 0 ((hourOf b a).lo - (ctrOf b c).skip))).toNat - (q + 1)) (by omega) (by repeat (first | exact agree_mix | refine agree_upd rfl ?_ | refine agree_updL rfl ?_ _ | refine agree_mixin rfl ?_)) ?_))
            exact ⟨q + 1, _, _, vi (by omega), by omega, rfl, by rw [wPart_y (by rw [hgs]; omega), ← List.append_assoc]; exact own_way (by have h9 := ho151; rw [hzb] at h9; exact h9), hs152.tail⟩
           ·
            try simp only [zA, zB, zC, zD, zE, zF] at h144
            refine w_y rfl rfl rfl (y_move (v := .int _ _) rfl rfl) rfl ?_
            refine w_y rfl rfl rfl (y_move (v := .int _ _) rfl rfl) rfl ?_
            refine w_y rfl rfl rfl (y_eql rfl rfl rfl rfl) rfl ?_
            refine w_p (y_pickF (v := .bool _) rfl rfl rfl rfl) rfl ?_
            refine w_nil ?_
            refine q_then (hK142 _ _ ?_)
            refine w_cond rfl rfl (fun h153 => ?_) (fun h153 => ?_)
            ·
             try simp only [zA, zB, zC, zD, zE, zF] at h153
             refine w_region ?_
             refine w_p (y_move (v := v) rfl rfl) rfl ?_
             refine w_p (y_move (v := .int _ _) rfl rfl) rfl ?_
             refine w_p (y_move (v := .int _ _) rfl rfl) rfl ?_
             refine w_p (y_move (v := .int _ _) rfl rfl) rfl ?_
             refine w_p (y_eql rfl rfl rfl rfl) rfl ?_
             refine w_p (y_build (ps := [(0, _), (1, _), (2, _)]) (pv := [(0, .int _ _), (1, .int _ _), (2, .bool _)]) rfl rfl (fun w => Try_E_fb1 _ _ _ w)) rfl ?_
             refine w_bslice (ps := [(0, _)]) (pv := [(0, .agg #[.int _ _, .int _ _, .bool _])]) (cs := [_, _, _]) want_none rfl rfl (fun w => Try_E_fb2 _ _ _ w) hs (fun b154 w155 hs156 => ?_)
             refine w_append (X := (_ :: _ :: _ :: _ :: _ :: _ :: [])) (B := B) (rows := [[_, _, _]]) (sz := 3) (bytes := 24) want_none Try.underlying152 Try_info140 rfl rfl rfl rfl rfl rfl rfl rfl rfl hs156 hown2 (sl_own (i := 0) rfl (by simp) rfl) rfl (by simp) (by simp [Value.oneCell']) (by simp only [maxLen]; omega) (by omega) (fun v157 w158 B159 ho160 hs161 => ?_)
             replace hs161 := (show St _ _ (_ :: _ :: _ :: _ :: _ :: _ :: B159 ++ (F)) from hs161)
             refine w_p (y_assign (v := v157) rfl rfl) rfl ?_
             refine w_nil ?_
             refine q_blk_normal ?_
             refine q_then (hK136 _ _ ?_)
             refine w_region ?_
             refine w_p (y_move (v := .int _ _) rfl rfl) rfl ?_
             refine w_p (y_add rfl rfl rfl rfl (by omega) (by omega)) rfl ?_
             refine w_p (y_assign (v := .int _ _) rfl rfl) rfl ?_
             refine w_nil ?_
             refine q_then (hN128 _ _ (Nx.intro (((hourOf b a).hi + (ctrOf b c).twice + 1 - (max 0 ((hourOf b a).lo - (ctrOf b c).skip))).toNat - (q + 1)) (by omega) (by repeat (first | exact agree_mix | refine agree_upd rfl ?_ | refine agree_updL rfl ?_ _ | refine agree_mixin rfl ?_)) ?_))
             exact ⟨q + 1, _, _, vi (by omega), by omega, rfl, by rw [wPart_y (by rw [hgs]; omega), ← List.append_assoc]; exact own_way (by have h9 := ho160; rw [hzb] at h9; exact h9), hs161.tail⟩
            ·
             try simp only [zA, zB, zC, zD, zE, zF] at h153
             refine w_skip ?_
             refine q_blk_normal ?_
             refine q_then (hK136 _ _ ?_)
             refine w_region ?_
             refine w_p (y_move (v := .int _ _) rfl rfl) rfl ?_
             refine w_p (y_add rfl rfl rfl rfl (by omega) (by omega)) rfl ?_
             refine w_p (y_assign (v := .int _ _) rfl rfl) rfl ?_
             refine w_nil ?_
             refine q_then (hN128 _ _ (Nx.intro (((hourOf b a).hi + (ctrOf b c).twice + 1 - (max 0 ((hourOf b a).lo - (ctrOf b c).skip))).toNat - (q + 1)) (by omega) (by repeat (first | exact agree_mix | refine agree_upd rfl ?_ | refine agree_updL rfl ?_ _ | refine agree_mixin rfl ?_)) ?_))
             exact ⟨q + 1, v, B, vi (by omega), by omega, rfl, by rw [wPart_n (by rw [hgs]; omega)]; exact hown2, hs⟩
          ·
           try simp only [zA, zB, zC, zD, zE, zF] at h135
           refine w_exit ?_
           refine q_then_exit ?_
           refine q_then_exit ?_
           refine q_blk_this ?_
           refine q_blk_normal ?_
           refine q_then (hK56 _ _ ?_)
           refine w_region ?_
           refine w_p (y_add rfl rfl rfl rfl (by omega) (by omega)) rfl ?_
           refine w_p (y_move (v := .int _ _) rfl rfl) rfl ?_
           refine w_nil ?_
           refine q_then (hN48 _ _ (Nx.intro (2 - (z + 1)) (by omega) (by repeat (first | exact agree_mix | refine agree_upd rfl ?_ | refine agree_updL rfl ?_ _ | refine agree_mixin rfl ?_)) ?_))
           first
             | exact ⟨z + 1, v, B, rfl, by omega, rfl, by rw [wTo_no (canZ_n (by omega) (by omega))]; exact hown, hs⟩
             | exact ⟨z + 1, v, B, rfl, by omega, rfl, by rw [wPart_all (canZ_y (by omega) (by omega)) (q := q) (by omega)]; exact hown2, hs.tail⟩
      ·
       try simp only [zA, zB, zC, zD, zE, zF] at h64
       refine w_skipop rfl rfl rfl ?_
       refine w_skipop rfl rfl rfl ?_
       refine w_skipop rfl rfl rfl ?_
       refine w_skipop rfl rfl rfl ?_
       refine w_skipop rfl rfl rfl ?_
       refine w_skipop rfl rfl rfl ?_
       refine w_skipop rfl rfl rfl ?_
       refine w_p (y_pickF (v := _) rfl rfl rfl rfl) rfl ?_
       refine w_p (y_move (v := .bool _) rfl rfl) rfl ?_
       refine w_y rfl rfl rfl (y_move (v := .int _ _) rfl rfl) rfl ?_
       refine w_y rfl rfl rfl (y_eql rfl rfl rfl rfl) rfl ?_
       refine w_y rfl rfl rfl (y_move (v := .bool _) rfl rfl) rfl ?_
       refine w_split (fun h162 => ?_) (fun h162 => ?_)
       ·
        try simp only [zA, zB, zC, zD, zE, zF] at h162
        refine w_y rfl rfl rfl (y_fieldAddr (o := 4) (i := 4) Try.underlying76 rfl Try.sizeOf39 rfl rfl rfl) rfl ?_
        refine w_y rfl rfl rfl (yd_slice hbz (y_load1 Try.isAgg39 hs rfl rfl (ats_own (i := 1) (vs := [_]) rfl rfl))) rfl ?_
        refine w_y rfl rfl rfl (y_fieldAddr (o := 1) (i := 1) Try.underlying154 rfl Try.sizeOf3 rfl rfl rfl) rfl ?_
        refine w_y rfl rfl rfl (y_load1 Try.isAgg3 hs rfl rfl (ats_own (i := 2) (vs := [_]) rfl rfl)) rfl ?_
        refine w_y rfl rfl rfl (y_indexS Try.underlying39 Try.sizeOf3 rfl rfl rfl rfl (i := a) rfl haz) rfl ?_
        refine w_y rfl rfl rfl (y_load1 Try.isAgg3 hs.tail.tail.tail.tail.drop rfl rfl hxz) rfl ?_
        refine w_y rfl rfl rfl (y_eql rfl rfl rfl rfl) rfl ?_
        refine w_y rfl rfl rfl (y_pickT (v := .bool _) rfl rfl rfl rfl) rfl ?_
        refine w_p (y_pickF (v := .bool _) rfl rfl rfl rfl) rfl ?_
        refine w_nil ?_
        refine q_then (hK62 _ _ ?_)
        refine w_cond rfl rfl (fun h163 => ?_) (fun h163 => ?_)
        ·
         try simp only [zA, zB, zC, zD, zE, zF] at h163
         refine w_exit ?_
         refine q_then_exit ?_
         refine q_blk_this ?_
         refine q_then (hK56 _ _ ?_)
         refine w_region ?_
         refine w_p (y_add rfl rfl rfl rfl (by omega) (by omega)) rfl ?_
         refine w_p (y_move (v := .int _ _) rfl rfl) rfl ?_
         refine w_nil ?_
         refine q_then (hN48 _ _ (Nx.intro (2 - (z + 1)) (by omega) (by repeat (first | exact agree_mix | refine agree_upd rfl ?_ | refine agree_updL rfl ?_ _ | refine agree_mixin rfl ?_)) ?_))
         first
           | exact ⟨z + 1, v, B, rfl, by omega, rfl, by rw [wTo_no (canZ_n (by omega) (by omega))]; exact hown, hs⟩
           | exact ⟨z + 1, v, B, rfl, by omega, rfl, by rw [wPart_all (canZ_y (by omega) (by omega)) (q := q) (by omega)]; exact hown2, hs.tail⟩
        ·
         try simp only [zA, zB, zC, zD, zE, zF] at h163
         refine w_skip ?_
         refine q_then (hK60 _ _ ?_)
         refine w_seq (fun K165 hK164 => ?_)
         refine w_region ?_
         refine w_p (y_loadN (vs := [_, _, _]) Try.isAgg154 Try.sizeOf154 hs rfl rfl (ats_own (i := 2) (vs := [_, _, _]) rfl rfl)) rfl ?_
         refine w_alloc (cs := [_, _, _]) want_none Try.zeroValue154 rfl hs (fun b166 w167 hs168 => ?_)
         refine w_store (i := 0) (v := .agg #[.int _ _, .int _ _, .int _ _]) (vs := [_, _, _]) want_none Try.sizeOf154 rfl rfl rfl rfl rfl (by simp [Value.oneCell']) hs168 rfl (Nat.le_of_ble_eq_true rfl) (fun w169 hs170 => ?_)
         refine w_nil ?_
         refine q_then (hK164 _ _ ?_)
         refine w_seq (fun K172 hK171 => ?_)
         have hmi := mul_in (s := s) (show z < 2 by omega) hs1
         refine w_region ?_
         refine w_p (y_fieldAddr (o := 2) (i := 2) Try.underlying154 rfl Try.sizeOf3 rfl rfl rfl) rfl ?_
         refine w_p (y_load1 Try.isAgg3 hs170 rfl rfl (ats_own (i := 0) (vs := [_]) rfl rfl)) rfl ?_
         refine w_p (y_move (v := .int _ _) rfl rfl) rfl ?_
         refine w_p (y_sub rfl rfl rfl rfl (by omega) (by omega)) rfl ?_
         refine w_p (y_mul rfl rfl rfl rfl (by omega) (by omega)) rfl ?_
         refine w_p (y_fieldAddr (o := 2) (i := 2) Try.underlying154 rfl Try.sizeOf3 rfl rfl rfl) rfl ?_
         refine w_store (i := 0) (v := .int _ _) (vs := [_]) want_none Try.sizeOf3 rfl rfl rfl rfl rfl (by simp [Value.oneCell']) hs170 rfl (Nat.le_of_ble_eq_true rfl) (fun w173 hs174 => ?_)
         refine w_nil ?_
         refine q_then (hK171 _ _ ?_)
         refine w_seq (fun K176 hK175 => ?_)
         refine w_region ?_
         refine w_p (y_fieldAddr (o := 0) (i := 0) Try.underlying31 rfl Try.sizeOf3 rfl rfl rfl) rfl ?_
         refine w_p (y_load1 Try.isAgg3 hs174 rfl rfl (ats_own (i := 1) (vs := [_]) rfl rfl)) rfl ?_
         refine w_p (y_fieldAddr (o := 1) (i := 1) Try.underlying76 rfl Try.sizeOf3 rfl rfl rfl) rfl ?_
         refine w_p (y_load1 Try.isAgg3 hs174 rfl rfl (ats_own (i := 2) (vs := [_]) rfl rfl)) rfl ?_
         refine w_p (y_sub rfl rfl rfl rfl (by omega) (by omega)) rfl ?_
         refine w_p (y_max2 rfl rfl rfl rfl) rfl ?_
         refine w_p (y_assign (v := .int _ _) rfl rfl) rfl ?_
         refine w_nil ?_
         refine q_then (hK175 _ _ ?_)
         refine w_block ?_
         refine w_loop [7, 12, 13, 14, 85, 86, 87, 88, 89, 90, 91, 92, 93, 94, 95, 96, 97, 98, 99, 100, 101, 102, 103, 104, 105, 106, 107, 108, 109, 110, 111, 112, 113, 114, 115, 116, 117, 118, 119] [7, 12] (fun kk vs w => ∃ (q : Nat) (v : Value) (B : List (Nat × Obj)), vs = [v, .int .i64 ((max 0 ((hourOf b a).lo - (ctrOf b c).skip)) + q)] ∧ q ≤ ((hourOf b a).hi + (ctrOf b c).twice + 1 - (max 0 ((hourOf b a).lo - (ctrOf b c).skip))).toNat ∧ kk = ((hourOf b a).hi + (ctrOf b c).twice + 1 - (max 0 ((hourOf b a).lo - (ctrOf b c).skip))).toNat - q ∧ Rt.Own v 140 3 ((wTo (ctrOf b c) (hourOf b a) a s z) ++ wPart (ctrOf b c) a s (decide (z = 1)) (max 0 ((hourOf b a).lo - (ctrOf b c).skip)) q).length (wrows ((wTo (ctrOf b c) (hourOf b a) a s z) ++ wPart (ctrOf b c) a s (decide (z = 1)) (max 0 ((hourOf b a).lo - (ctrOf b c).skip)) q)).flatten B ∧ St w0 w ((b166, blk 154 [.int .i64 (c : Int), .int .i64 (a : Int), .int .i64 (s * (1 - (z : Int)))]) :: (b9, blk 31 [.int .i64 (hourOf b a).lo, .int .i64 (hourOf b a).hi]) :: (b8, blk 76 ((ctrOf b c).cells (p.pc c))) :: (b3, blk 154 [.int .i64 (c : Int), .int .i64 (a : Int), .int .i64 s]) :: (mm, .map (ents (fun l : List Int => ia l) es).toArray ck) :: (B ++ F))) (((hourOf b a).hi + (ctrOf b c).twice + 1 - (max 0 ((hourOf b a).lo - (ctrOf b c).skip))).toNat) ?_ ?_
         ·
          exact ⟨0, v, B, vi (by omega), by omega, by omega, by rw [show wPart (ctrOf b c) a s (decide (z = 1)) (max 0 ((hourOf b a).lo - (ctrOf b c).skip)) 0 = [] from rfl, List.append_nil]; exact hown, hs174⟩
         ·
          intro k vs μ w179 hI K178 hN177
          obtain ⟨q, v, B, rfl, hqa, rfl, hown2, hs⟩ := hI
          have hpl := wPart_len (ctrOf b c) a s (max 0 ((hourOf b a).lo - (ctrOf b c).skip)) (decide (z = 1)) q
          have hpa : ((wTo (ctrOf b c) (hourOf b a) a s z) ++ wPart (ctrOf b c) a s (decide (z = 1)) (max 0 ((hourOf b a).lo - (ctrOf b c).skip)) q).length = (wTo (ctrOf b c) (hourOf b a) a s z).length + (wPart (ctrOf b c) a s (decide (z = 1)) (max 0 ((hourOf b a).lo - (ctrOf b c).skip)) q).length := List.length_append
          refine w_seq (fun K181 hK180 => ?_)
          refine w_seq (fun K183 hK182 => ?_)
          refine w_region ?_
          refine w_p (y_move (v := .int _ _) rfl rfl) rfl ?_
          refine w_p (y_fieldAddr (o := 1) (i := 1) Try.underlying31 rfl Try.sizeOf3 rfl rfl rfl) rfl ?_
          refine w_p (y_load1 Try.isAgg3 hs rfl rfl (ats_own (i := 1) (vs := [_]) rfl rfl)) rfl ?_
          refine w_p (y_fieldAddr (o := 2) (i := 2) Try.underlying76 rfl Try.sizeOf3 rfl rfl rfl) rfl ?_
          refine w_p (y_load1 Try.isAgg3 hs rfl rfl (ats_own (i := 2) (vs := [_]) rfl rfl)) rfl ?_
          refine w_p (y_add rfl rfl rfl rfl (by omega) (by omega)) rfl ?_
          refine w_p (y_leq rfl rfl rfl rfl) rfl ?_
          refine w_nil ?_
          refine q_then (hK182 _ _ ?_)
          refine w_cond rfl rfl (fun h184 => ?_) (fun h184 => ?_)
          ·
           try simp only [zA, zB, zC, zD, zE, zF] at h184
           refine w_skip ?_
           refine q_then (hK180 _ _ ?_)
           refine w_seq (fun K186 hK185 => ?_)
           refine w_block ?_
           refine w_seq (fun K188 hK187 => ?_)
           refine w_region ?_
           refine w_p (y_fieldAddr (o := 2) (i := 2) Try.underlying154 rfl Try.sizeOf3 rfl rfl rfl) rfl ?_
           refine w_p (y_load1 Try.isAgg3 hs rfl rfl (ats_own (i := 0) (vs := [_]) rfl rfl)) rfl ?_
           refine w_p (y_move (v := .int _ _) rfl rfl) rfl ?_
           refine w_p (y_add rfl rfl rfl rfl (by omega) (by omega)) rfl ?_
           refine w_p (y_rem rfl rfl rfl rfl (by omega) (by omega)) rfl ?_
           refine w_p (y_assign (v := .int _ _) rfl rfl) rfl ?_
           refine w_nil ?_
           refine q_then (hK187 _ _ ?_)
           refine w_seq (fun K190 hK189 => ?_)
           refine w_region ?_
           refine w_p (y_fieldAddr (o := 5) (i := 5) Try.underlying76 rfl Try.sizeOf39 rfl rfl rfl) rfl ?_
           refine w_p (yd_slice hbv (y_load1 Try.isAgg39 hs rfl rfl (ats_own (i := 2) (vs := [_]) rfl rfl))) rfl ?_
           refine w_p (y_fieldAddr (o := 1) (i := 1) Try.underlying154 rfl Try.sizeOf3 rfl rfl rfl) rfl ?_
           refine w_p (y_load1 Try.isAgg3 hs rfl rfl (ats_own (i := 3) (vs := [_]) rfl rfl)) rfl ?_
           refine w_p (y_indexS Try.underlying39 Try.sizeOf3 rfl rfl rfl rfl (i := a) rfl has) rfl ?_
           refine w_p (y_load1 Try.isAgg3 hs.tail.tail.tail.tail.tail.drop rfl rfl hxv) rfl ?_
           refine w_p (y_assign (v := .int _ _) rfl rfl) rfl ?_
           refine w_nil ?_
           refine q_then (hK189 _ _ ?_)
           refine w_seq (fun K192 hK191 => ?_)
           rw [sh_mul (by omega)]
           refine w_region ?_
           refine w_p (y_move (v := .int _ _) rfl rfl) rfl ?_
           refine w_p (y_eql rfl rfl rfl rfl) rfl ?_
           refine w_p (y_move (v := .bool _) rfl rfl) rfl ?_
           refine w_split (fun h193 => ?_) (fun h193 => ?_)
           ·
            try simp only [zA, zB, zC, zD, zE, zF] at h193
            refine w_skipop rfl rfl rfl ?_
            refine w_skipop rfl rfl rfl ?_
            refine w_skipop rfl rfl rfl ?_
            refine w_p (y_pickT (v := _) rfl rfl rfl rfl) rfl ?_
            refine w_nil ?_
            refine q_then (hK191 _ _ ?_)
            refine w_condT rfl rfl ?_
            refine w_region ?_
            refine w_p (y_move (v := v) rfl rfl) rfl ?_
            refine w_p (y_move (v := .int _ _) rfl rfl) rfl ?_
            refine w_p (y_move (v := .int _ _) rfl rfl) rfl ?_
            refine w_p (y_move (v := .int _ _) rfl rfl) rfl ?_
            refine w_p (y_eql rfl rfl rfl rfl) rfl ?_
            refine w_p (y_build (ps := [(0, _), (1, _), (2, _)]) (pv := [(0, .int _ _), (1, .int _ _), (2, .bool _)]) rfl rfl (fun w => Try_E_fb1 _ _ _ w)) rfl ?_
            refine w_bslice (ps := [(0, _)]) (pv := [(0, .agg #[.int _ _, .int _ _, .bool _])]) (cs := [_, _, _]) want_none rfl rfl (fun w => Try_E_fb2 _ _ _ w) hs (fun b194 w195 hs196 => ?_)
            refine w_append (X := (_ :: _ :: _ :: _ :: _ :: _ :: [])) (B := B) (rows := [[_, _, _]]) (sz := 3) (bytes := 24) want_none Try.underlying152 Try_info140 rfl rfl rfl rfl rfl rfl rfl rfl rfl hs196 hown2 (sl_own (i := 0) rfl (by simp) rfl) rfl (by simp) (by simp [Value.oneCell']) (by simp only [maxLen]; omega) (by omega) (fun v197 w198 B199 ho200 hs201 => ?_)
            replace hs201 := (show St _ _ (_ :: _ :: _ :: _ :: _ :: _ :: B199 ++ (F)) from hs201)
            refine w_p (y_assign (v := v197) rfl rfl) rfl ?_
            refine w_nil ?_
            refine q_blk_normal ?_
            refine q_then (hK185 _ _ ?_)
            refine w_region ?_
            refine w_p (y_move (v := .int _ _) rfl rfl) rfl ?_
            refine w_p (y_add rfl rfl rfl rfl (by omega) (by omega)) rfl ?_
            refine w_p (y_assign (v := .int _ _) rfl rfl) rfl ?_
            refine w_nil ?_
            refine q_then (hN177 _ _ (Nx.intro (((hourOf b a).hi + (ctrOf b c).twice + 1 - (max 0 ((hourOf b a).lo - (ctrOf b c).skip))).toNat - (q + 1)) (by omega) (by repeat (first | exact agree_mix | refine agree_upd rfl ?_ | refine agree_updL rfl ?_ _ | refine agree_mixin rfl ?_)) ?_))
            exact ⟨q + 1, _, _, vi (by omega), by omega, rfl, by rw [wPart_y (by rw [hgs]; omega), ← List.append_assoc]; exact own_way (by have h9 := ho200; rw [hzb] at h9; exact h9), hs201.tail⟩
           ·
            try simp only [zA, zB, zC, zD, zE, zF] at h193
            refine w_y rfl rfl rfl (y_move (v := .int _ _) rfl rfl) rfl ?_
            refine w_y rfl rfl rfl (y_move (v := .int _ _) rfl rfl) rfl ?_
            refine w_y rfl rfl rfl (y_eql rfl rfl rfl rfl) rfl ?_
            refine w_p (y_pickF (v := .bool _) rfl rfl rfl rfl) rfl ?_
            refine w_nil ?_
            refine q_then (hK191 _ _ ?_)
            refine w_cond rfl rfl (fun h202 => ?_) (fun h202 => ?_)
            ·
             try simp only [zA, zB, zC, zD, zE, zF] at h202
             refine w_region ?_
             refine w_p (y_move (v := v) rfl rfl) rfl ?_
             refine w_p (y_move (v := .int _ _) rfl rfl) rfl ?_
             refine w_p (y_move (v := .int _ _) rfl rfl) rfl ?_
             refine w_p (y_move (v := .int _ _) rfl rfl) rfl ?_
             refine w_p (y_eql rfl rfl rfl rfl) rfl ?_
             refine w_p (y_build (ps := [(0, _), (1, _), (2, _)]) (pv := [(0, .int _ _), (1, .int _ _), (2, .bool _)]) rfl rfl (fun w => Try_E_fb1 _ _ _ w)) rfl ?_
             refine w_bslice (ps := [(0, _)]) (pv := [(0, .agg #[.int _ _, .int _ _, .bool _])]) (cs := [_, _, _]) want_none rfl rfl (fun w => Try_E_fb2 _ _ _ w) hs (fun b203 w204 hs205 => ?_)
             refine w_append (X := (_ :: _ :: _ :: _ :: _ :: _ :: [])) (B := B) (rows := [[_, _, _]]) (sz := 3) (bytes := 24) want_none Try.underlying152 Try_info140 rfl rfl rfl rfl rfl rfl rfl rfl rfl hs205 hown2 (sl_own (i := 0) rfl (by simp) rfl) rfl (by simp) (by simp [Value.oneCell']) (by simp only [maxLen]; omega) (by omega) (fun v206 w207 B208 ho209 hs210 => ?_)
             replace hs210 := (show St _ _ (_ :: _ :: _ :: _ :: _ :: _ :: B208 ++ (F)) from hs210)
             refine w_p (y_assign (v := v206) rfl rfl) rfl ?_
             refine w_nil ?_
             refine q_blk_normal ?_
             refine q_then (hK185 _ _ ?_)
             refine w_region ?_
             refine w_p (y_move (v := .int _ _) rfl rfl) rfl ?_
             refine w_p (y_add rfl rfl rfl rfl (by omega) (by omega)) rfl ?_
             refine w_p (y_assign (v := .int _ _) rfl rfl) rfl ?_
             refine w_nil ?_
             refine q_then (hN177 _ _ (Nx.intro (((hourOf b a).hi + (ctrOf b c).twice + 1 - (max 0 ((hourOf b a).lo - (ctrOf b c).skip))).toNat - (q + 1)) (by omega) (by repeat (first | exact agree_mix | refine agree_upd rfl ?_ | refine agree_updL rfl ?_ _ | refine agree_mixin rfl ?_)) ?_))
             exact ⟨q + 1, _, _, vi (by omega), by omega, rfl, by rw [wPart_y (by rw [hgs]; omega), ← List.append_assoc]; exact own_way (by have h9 := ho209; rw [hzb] at h9; exact h9), hs210.tail⟩
            ·
             try simp only [zA, zB, zC, zD, zE, zF] at h202
             refine w_skip ?_
             refine q_blk_normal ?_
             refine q_then (hK185 _ _ ?_)
             refine w_region ?_
             refine w_p (y_move (v := .int _ _) rfl rfl) rfl ?_
             refine w_p (y_add rfl rfl rfl rfl (by omega) (by omega)) rfl ?_
             refine w_p (y_assign (v := .int _ _) rfl rfl) rfl ?_
             refine w_nil ?_
             refine q_then (hN177 _ _ (Nx.intro (((hourOf b a).hi + (ctrOf b c).twice + 1 - (max 0 ((hourOf b a).lo - (ctrOf b c).skip))).toNat - (q + 1)) (by omega) (by repeat (first | exact agree_mix | refine agree_upd rfl ?_ | refine agree_updL rfl ?_ _ | refine agree_mixin rfl ?_)) ?_))
             exact ⟨q + 1, v, B, vi (by omega), by omega, rfl, by rw [wPart_n (by rw [hgs]; omega)]; exact hown2, hs⟩
          ·
           try simp only [zA, zB, zC, zD, zE, zF] at h184
           refine w_exit ?_
           refine q_then_exit ?_
           refine q_then_exit ?_
           refine q_blk_this ?_
           refine q_blk_normal ?_
           refine q_then (hK56 _ _ ?_)
           refine w_region ?_
           refine w_p (y_add rfl rfl rfl rfl (by omega) (by omega)) rfl ?_
           refine w_p (y_move (v := .int _ _) rfl rfl) rfl ?_
           refine w_nil ?_
           refine q_then (hN48 _ _ (Nx.intro (2 - (z + 1)) (by omega) (by repeat (first | exact agree_mix | refine agree_upd rfl ?_ | refine agree_updL rfl ?_ _ | refine agree_mixin rfl ?_)) ?_))
           first
             | exact ⟨z + 1, v, B, rfl, by omega, rfl, by rw [wTo_no (canZ_n (by omega) (by omega))]; exact hown, hs⟩
             | exact ⟨z + 1, v, B, rfl, by omega, rfl, by rw [wPart_all (canZ_y (by omega) (by omega)) (q := q) (by omega)]; exact hown2, hs.tail⟩
       ·
        try simp only [zA, zB, zC, zD, zE, zF] at h162
        refine w_skipop rfl rfl rfl ?_
        refine w_skipop rfl rfl rfl ?_
        refine w_skipop rfl rfl rfl ?_
        refine w_skipop rfl rfl rfl ?_
        refine w_skipop rfl rfl rfl ?_
        refine w_skipop rfl rfl rfl ?_
        refine w_skipop rfl rfl rfl ?_
        refine w_y rfl rfl rfl (y_pickF (v := _) rfl rfl rfl rfl) rfl ?_
        refine w_p (y_pickF (v := .bool _) rfl rfl rfl rfl) rfl ?_
        refine w_nil ?_
        refine q_then (hK62 _ _ ?_)
        refine w_condF rfl rfl ?_
        refine w_skip ?_
        refine q_then (hK60 _ _ ?_)
        refine w_seq (fun K212 hK211 => ?_)
        refine w_region ?_
        refine w_p (y_loadN (vs := [_, _, _]) Try.isAgg154 Try.sizeOf154 hs rfl rfl (ats_own (i := 2) (vs := [_, _, _]) rfl rfl)) rfl ?_
        refine w_alloc (cs := [_, _, _]) want_none Try.zeroValue154 rfl hs (fun b213 w214 hs215 => ?_)
        refine w_store (i := 0) (v := .agg #[.int _ _, .int _ _, .int _ _]) (vs := [_, _, _]) want_none Try.sizeOf154 rfl rfl rfl rfl rfl (by simp [Value.oneCell']) hs215 rfl (Nat.le_of_ble_eq_true rfl) (fun w216 hs217 => ?_)
        refine w_nil ?_
        refine q_then (hK211 _ _ ?_)
        refine w_seq (fun K219 hK218 => ?_)
        have hmi := mul_in (s := s) (show z < 2 by omega) hs1
        refine w_region ?_
        refine w_p (y_fieldAddr (o := 2) (i := 2) Try.underlying154 rfl Try.sizeOf3 rfl rfl rfl) rfl ?_
        refine w_p (y_load1 Try.isAgg3 hs217 rfl rfl (ats_own (i := 0) (vs := [_]) rfl rfl)) rfl ?_
        refine w_p (y_move (v := .int _ _) rfl rfl) rfl ?_
        refine w_p (y_sub rfl rfl rfl rfl (by omega) (by omega)) rfl ?_
        refine w_p (y_mul rfl rfl rfl rfl (by omega) (by omega)) rfl ?_
        refine w_p (y_fieldAddr (o := 2) (i := 2) Try.underlying154 rfl Try.sizeOf3 rfl rfl rfl) rfl ?_
        refine w_store (i := 0) (v := .int _ _) (vs := [_]) want_none Try.sizeOf3 rfl rfl rfl rfl rfl (by simp [Value.oneCell']) hs217 rfl (Nat.le_of_ble_eq_true rfl) (fun w220 hs221 => ?_)
        refine w_nil ?_
        refine q_then (hK218 _ _ ?_)
        refine w_seq (fun K223 hK222 => ?_)
        refine w_region ?_
        refine w_p (y_fieldAddr (o := 0) (i := 0) Try.underlying31 rfl Try.sizeOf3 rfl rfl rfl) rfl ?_
        refine w_p (y_load1 Try.isAgg3 hs221 rfl rfl (ats_own (i := 1) (vs := [_]) rfl rfl)) rfl ?_
        refine w_p (y_fieldAddr (o := 1) (i := 1) Try.underlying76 rfl Try.sizeOf3 rfl rfl rfl) rfl ?_
        refine w_p (y_load1 Try.isAgg3 hs221 rfl rfl (ats_own (i := 2) (vs := [_]) rfl rfl)) rfl ?_
        refine w_p (y_sub rfl rfl rfl rfl (by omega) (by omega)) rfl ?_
        refine w_p (y_max2 rfl rfl rfl rfl) rfl ?_
        refine w_p (y_assign (v := .int _ _) rfl rfl) rfl ?_
        refine w_nil ?_
        refine q_then (hK222 _ _ ?_)
        refine w_block ?_
        refine w_loop [7, 12, 13, 14, 85, 86, 87, 88, 89, 90, 91, 92, 93, 94, 95, 96, 97, 98, 99, 100, 101, 102, 103, 104, 105, 106, 107, 108, 109, 110, 111, 112, 113, 114, 115, 116, 117, 118, 119] [7, 12] (fun kk vs w => ∃ (q : Nat) (v : Value) (B : List (Nat × Obj)), vs = [v, .int .i64 ((max 0 ((hourOf b a).lo - (ctrOf b c).skip)) + q)] ∧ q ≤ ((hourOf b a).hi + (ctrOf b c).twice + 1 - (max 0 ((hourOf b a).lo - (ctrOf b c).skip))).toNat ∧ kk = ((hourOf b a).hi + (ctrOf b c).twice + 1 - (max 0 ((hourOf b a).lo - (ctrOf b c).skip))).toNat - q ∧ Rt.Own v 140 3 ((wTo (ctrOf b c) (hourOf b a) a s z) ++ wPart (ctrOf b c) a s (decide (z = 1)) (max 0 ((hourOf b a).lo - (ctrOf b c).skip)) q).length (wrows ((wTo (ctrOf b c) (hourOf b a) a s z) ++ wPart (ctrOf b c) a s (decide (z = 1)) (max 0 ((hourOf b a).lo - (ctrOf b c).skip)) q)).flatten B ∧ St w0 w ((b213, blk 154 [.int .i64 (c : Int), .int .i64 (a : Int), .int .i64 (s * (1 - (z : Int)))]) :: (b9, blk 31 [.int .i64 (hourOf b a).lo, .int .i64 (hourOf b a).hi]) :: (b8, blk 76 ((ctrOf b c).cells (p.pc c))) :: (b3, blk 154 [.int .i64 (c : Int), .int .i64 (a : Int), .int .i64 s]) :: (mm, .map (ents (fun l : List Int => ia l) es).toArray ck) :: (B ++ F))) (((hourOf b a).hi + (ctrOf b c).twice + 1 - (max 0 ((hourOf b a).lo - (ctrOf b c).skip))).toNat) ?_ ?_
        ·
         exact ⟨0, v, B, vi (by omega), by omega, by omega, by rw [show wPart (ctrOf b c) a s (decide (z = 1)) (max 0 ((hourOf b a).lo - (ctrOf b c).skip)) 0 = [] from rfl, List.append_nil]; exact hown, hs221⟩
        ·
         intro k vs μ w226 hI K225 hN224
         obtain ⟨q, v, B, rfl, hqa, rfl, hown2, hs⟩ := hI
         have hpl := wPart_len (ctrOf b c) a s (max 0 ((hourOf b a).lo - (ctrOf b c).skip)) (decide (z = 1)) q
         have hpa : ((wTo (ctrOf b c) (hourOf b a) a s z) ++ wPart (ctrOf b c) a s (decide (z = 1)) (max 0 ((hourOf b a).lo - (ctrOf b c).skip)) q).length = (wTo (ctrOf b c) (hourOf b a) a s z).length + (wPart (ctrOf b c) a s (decide (z = 1)) (max 0 ((hourOf b a).lo - (ctrOf b c).skip)) q).length := List.length_append
         refine w_seq (fun K228 hK227 => ?_)
         refine w_seq (fun K230 hK229 => ?_)
         refine w_region ?_
         refine w_p (y_move (v := .int _ _) rfl rfl) rfl ?_
         refine w_p (y_fieldAddr (o := 1) (i := 1) Try.underlying31 rfl Try.sizeOf3 rfl rfl rfl) rfl ?_
         refine w_p (y_load1 Try.isAgg3 hs rfl rfl (ats_own (i := 1) (vs := [_]) rfl rfl)) rfl ?_
         refine w_p (y_fieldAddr (o := 2) (i := 2) Try.underlying76 rfl Try.sizeOf3 rfl rfl rfl) rfl ?_
         refine w_p (y_load1 Try.isAgg3 hs rfl rfl (ats_own (i := 2) (vs := [_]) rfl rfl)) rfl ?_
         refine w_p (y_add rfl rfl rfl rfl (by omega) (by omega)) rfl ?_
         refine w_p (y_leq rfl rfl rfl rfl) rfl ?_
         refine w_nil ?_
         refine q_then (hK229 _ _ ?_)
         refine w_cond rfl rfl (fun h231 => ?_) (fun h231 => ?_)
         ·
          try simp only [zA, zB, zC, zD, zE, zF] at h231
          refine w_skip ?_
          refine q_then (hK227 _ _ ?_)
          refine w_seq (fun K233 hK232 => ?_)
          refine w_block ?_
          refine w_seq (fun K235 hK234 => ?_)
          refine w_region ?_
          refine w_p (y_fieldAddr (o := 2) (i := 2) Try.underlying154 rfl Try.sizeOf3 rfl rfl rfl) rfl ?_
          refine w_p (y_load1 Try.isAgg3 hs rfl rfl (ats_own (i := 0) (vs := [_]) rfl rfl)) rfl ?_
          refine w_p (y_move (v := .int _ _) rfl rfl) rfl ?_
          refine w_p (y_add rfl rfl rfl rfl (by omega) (by omega)) rfl ?_
          refine w_p (y_rem rfl rfl rfl rfl (by omega) (by omega)) rfl ?_
          refine w_p (y_assign (v := .int _ _) rfl rfl) rfl ?_
          refine w_nil ?_
          refine q_then (hK234 _ _ ?_)
          refine w_seq (fun K237 hK236 => ?_)
          refine w_region ?_
          refine w_p (y_fieldAddr (o := 5) (i := 5) Try.underlying76 rfl Try.sizeOf39 rfl rfl rfl) rfl ?_
          refine w_p (yd_slice hbv (y_load1 Try.isAgg39 hs rfl rfl (ats_own (i := 2) (vs := [_]) rfl rfl))) rfl ?_
          refine w_p (y_fieldAddr (o := 1) (i := 1) Try.underlying154 rfl Try.sizeOf3 rfl rfl rfl) rfl ?_
          refine w_p (y_load1 Try.isAgg3 hs rfl rfl (ats_own (i := 3) (vs := [_]) rfl rfl)) rfl ?_
          refine w_p (y_indexS Try.underlying39 Try.sizeOf3 rfl rfl rfl rfl (i := a) rfl has) rfl ?_
          refine w_p (y_load1 Try.isAgg3 hs.tail.tail.tail.tail.tail.drop rfl rfl hxv) rfl ?_
          refine w_p (y_assign (v := .int _ _) rfl rfl) rfl ?_
          refine w_nil ?_
          refine q_then (hK236 _ _ ?_)
          refine w_seq (fun K239 hK238 => ?_)
          rw [sh_mul (by omega)]
          refine w_region ?_
          refine w_p (y_move (v := .int _ _) rfl rfl) rfl ?_
          refine w_p (y_eql rfl rfl rfl rfl) rfl ?_
          refine w_p (y_move (v := .bool _) rfl rfl) rfl ?_
          refine w_split (fun h240 => ?_) (fun h240 => ?_)
          ·
           try simp only [zA, zB, zC, zD, zE, zF] at h240
           refine w_skipop rfl rfl rfl ?_
           refine w_skipop rfl rfl rfl ?_
           refine w_skipop rfl rfl rfl ?_
           refine w_p (y_pickT (v := _) rfl rfl rfl rfl) rfl ?_
           refine w_nil ?_
           refine q_then (hK238 _ _ ?_)
           refine w_condT rfl rfl ?_
           refine w_region ?_
           refine w_p (y_move (v := v) rfl rfl) rfl ?_
           refine w_p (y_move (v := .int _ _) rfl rfl) rfl ?_
           refine w_p (y_move (v := .int _ _) rfl rfl) rfl ?_
           refine w_p (y_move (v := .int _ _) rfl rfl) rfl ?_
           refine w_p (y_eql rfl rfl rfl rfl) rfl ?_
           refine w_p (y_build (ps := [(0, _), (1, _), (2, _)]) (pv := [(0, .int _ _), (1, .int _ _), (2, .bool _)]) rfl rfl (fun w => Try_E_fb1 _ _ _ w)) rfl ?_
           refine w_bslice (ps := [(0, _)]) (pv := [(0, .agg #[.int _ _, .int _ _, .bool _])]) (cs := [_, _, _]) want_none rfl rfl (fun w => Try_E_fb2 _ _ _ w) hs (fun b241 w242 hs243 => ?_)
           refine w_append (X := (_ :: _ :: _ :: _ :: _ :: _ :: [])) (B := B) (rows := [[_, _, _]]) (sz := 3) (bytes := 24) want_none Try.underlying152 Try_info140 rfl rfl rfl rfl rfl rfl rfl rfl rfl hs243 hown2 (sl_own (i := 0) rfl (by simp) rfl) rfl (by simp) (by simp [Value.oneCell']) (by simp only [maxLen]; omega) (by omega) (fun v244 w245 B246 ho247 hs248 => ?_)
           replace hs248 := (show St _ _ (_ :: _ :: _ :: _ :: _ :: _ :: B246 ++ (F)) from hs248)
           refine w_p (y_assign (v := v244) rfl rfl) rfl ?_
           refine w_nil ?_
           refine q_blk_normal ?_
           refine q_then (hK232 _ _ ?_)
           refine w_region ?_
           refine w_p (y_move (v := .int _ _) rfl rfl) rfl ?_
           refine w_p (y_add rfl rfl rfl rfl (by omega) (by omega)) rfl ?_
           refine w_p (y_assign (v := .int _ _) rfl rfl) rfl ?_
           refine w_nil ?_
           refine q_then (hN224 _ _ (Nx.intro (((hourOf b a).hi + (ctrOf b c).twice + 1 - (max 0 ((hourOf b a).lo - (ctrOf b c).skip))).toNat - (q + 1)) (by omega) (by repeat (first | exact agree_mix | refine agree_upd rfl ?_ | refine agree_updL rfl ?_ _ | refine agree_mixin rfl ?_)) ?_))
           exact ⟨q + 1, _, _, vi (by omega), by omega, rfl, by rw [wPart_y (by rw [hgs]; omega), ← List.append_assoc]; exact own_way (by have h9 := ho247; rw [hzb] at h9; exact h9), hs248.tail⟩
          ·
           try simp only [zA, zB, zC, zD, zE, zF] at h240
           refine w_y rfl rfl rfl (y_move (v := .int _ _) rfl rfl) rfl ?_
           refine w_y rfl rfl rfl (y_move (v := .int _ _) rfl rfl) rfl ?_
           refine w_y rfl rfl rfl (y_eql rfl rfl rfl rfl) rfl ?_
           refine w_p (y_pickF (v := .bool _) rfl rfl rfl rfl) rfl ?_
           refine w_nil ?_
           refine q_then (hK238 _ _ ?_)
           refine w_cond rfl rfl (fun h249 => ?_) (fun h249 => ?_)
           ·
            try simp only [zA, zB, zC, zD, zE, zF] at h249
            refine w_region ?_
            refine w_p (y_move (v := v) rfl rfl) rfl ?_
            refine w_p (y_move (v := .int _ _) rfl rfl) rfl ?_
            refine w_p (y_move (v := .int _ _) rfl rfl) rfl ?_
            refine w_p (y_move (v := .int _ _) rfl rfl) rfl ?_
            refine w_p (y_eql rfl rfl rfl rfl) rfl ?_
            refine w_p (y_build (ps := [(0, _), (1, _), (2, _)]) (pv := [(0, .int _ _), (1, .int _ _), (2, .bool _)]) rfl rfl (fun w => Try_E_fb1 _ _ _ w)) rfl ?_
            refine w_bslice (ps := [(0, _)]) (pv := [(0, .agg #[.int _ _, .int _ _, .bool _])]) (cs := [_, _, _]) want_none rfl rfl (fun w => Try_E_fb2 _ _ _ w) hs (fun b250 w251 hs252 => ?_)
            refine w_append (X := (_ :: _ :: _ :: _ :: _ :: _ :: [])) (B := B) (rows := [[_, _, _]]) (sz := 3) (bytes := 24) want_none Try.underlying152 Try_info140 rfl rfl rfl rfl rfl rfl rfl rfl rfl hs252 hown2 (sl_own (i := 0) rfl (by simp) rfl) rfl (by simp) (by simp [Value.oneCell']) (by simp only [maxLen]; omega) (by omega) (fun v253 w254 B255 ho256 hs257 => ?_)
            replace hs257 := (show St _ _ (_ :: _ :: _ :: _ :: _ :: _ :: B255 ++ (F)) from hs257)
            refine w_p (y_assign (v := v253) rfl rfl) rfl ?_
            refine w_nil ?_
            refine q_blk_normal ?_
            refine q_then (hK232 _ _ ?_)
            refine w_region ?_
            refine w_p (y_move (v := .int _ _) rfl rfl) rfl ?_
            refine w_p (y_add rfl rfl rfl rfl (by omega) (by omega)) rfl ?_
            refine w_p (y_assign (v := .int _ _) rfl rfl) rfl ?_
            refine w_nil ?_
            refine q_then (hN224 _ _ (Nx.intro (((hourOf b a).hi + (ctrOf b c).twice + 1 - (max 0 ((hourOf b a).lo - (ctrOf b c).skip))).toNat - (q + 1)) (by omega) (by repeat (first | exact agree_mix | refine agree_upd rfl ?_ | refine agree_updL rfl ?_ _ | refine agree_mixin rfl ?_)) ?_))
            exact ⟨q + 1, _, _, vi (by omega), by omega, rfl, by rw [wPart_y (by rw [hgs]; omega), ← List.append_assoc]; exact own_way (by have h9 := ho256; rw [hzb] at h9; exact h9), hs257.tail⟩
           ·
            try simp only [zA, zB, zC, zD, zE, zF] at h249
            refine w_skip ?_
            refine q_blk_normal ?_
            refine q_then (hK232 _ _ ?_)
            refine w_region ?_
            refine w_p (y_move (v := .int _ _) rfl rfl) rfl ?_
            refine w_p (y_add rfl rfl rfl rfl (by omega) (by omega)) rfl ?_
            refine w_p (y_assign (v := .int _ _) rfl rfl) rfl ?_
            refine w_nil ?_
            refine q_then (hN224 _ _ (Nx.intro (((hourOf b a).hi + (ctrOf b c).twice + 1 - (max 0 ((hourOf b a).lo - (ctrOf b c).skip))).toNat - (q + 1)) (by omega) (by repeat (first | exact agree_mix | refine agree_upd rfl ?_ | refine agree_updL rfl ?_ _ | refine agree_mixin rfl ?_)) ?_))
            exact ⟨q + 1, v, B, vi (by omega), by omega, rfl, by rw [wPart_n (by rw [hgs]; omega)]; exact hown2, hs⟩
         ·
          try simp only [zA, zB, zC, zD, zE, zF] at h231
          refine w_exit ?_
          refine q_then_exit ?_
          refine q_then_exit ?_
          refine q_blk_this ?_
          refine q_blk_normal ?_
          refine q_then (hK56 _ _ ?_)
          refine w_region ?_
          refine w_p (y_add rfl rfl rfl rfl (by omega) (by omega)) rfl ?_
          refine w_p (y_move (v := .int _ _) rfl rfl) rfl ?_
          refine w_nil ?_
          refine q_then (hN48 _ _ (Nx.intro (2 - (z + 1)) (by omega) (by repeat (first | exact agree_mix | refine agree_upd rfl ?_ | refine agree_updL rfl ?_ _ | refine agree_mixin rfl ?_)) ?_))
          first
            | exact ⟨z + 1, v, B, rfl, by omega, rfl, by rw [wTo_no (canZ_n (by omega) (by omega))]; exact hown, hs⟩
            | exact ⟨z + 1, v, B, rfl, by omega, rfl, by rw [wPart_all (canZ_y (by omega) (by omega)) (q := q) (by omega)]; exact hown2, hs.tail⟩
     ·
      try simp only [zA, zB, zC, zD, zE, zF] at h55
      refine w_exit ?_
      refine q_then_exit ?_
      refine q_then_exit ?_
      refine q_blk_this ?_
      refine q_then (hK44 _ _ ?_)
      refine w_seq (fun K259 hK258 => ?_)
      refine w_draw [6] [(0, 0), (1, 0), (2, 0), (3, 1), (4, 1), (5, 0), (6, 3)] Try_mo (drawOK_of (by kernel_rfl)) hs (fun w260 hs261 => ?_)
      refine d_any rfl want_none rfl (fun _ => (y_move (v := .pointer _) rfl rfl)) ?_
      refine d_any rfl want_none rfl (fun _ => (y_nilCheck rfl rfl)) ?_
      refine d_any rfl want_none rfl (fun _ => (y_fieldAddr (o := 3) (i := 1) Try.underlying129 rfl Try.sizeOf127 rfl rfl rfl)) ?_
      refine d_take rfl want_none rfl hs261 (fun _ hq => (y_load1 Try.isAgg127 hq.tail.tail.tail.tail.drop rfl rfl (show Ats _ _ _ _ [_] from Ats.part hb 3 1))) ?_
      refine d_take rfl want_none rfl hs261 (fun _ hq => (y_loadN (vs := [_, _, _]) Try.isAgg154 Try.sizeOf154 hq rfl rfl (ats_own (i := 2) (vs := [_, _, _]) rfl rfl))) ?_
      refine d_any rfl want_none rfl (fun _ => (y_move (v := v) rfl rfl)) ?_
      refine d_late rfl ?_
      refine G_put (i := 3) (a := [(c : Int), (a : Int), s]) want_none Try.underlying127 (keyG_ia key154) rfl hes rfl rfl rfl rfl rfl rfl hs261 rfl (fun w262 hs263 => ?_)
      refine w_nil ?_
      refine qn ?_
      refine d_nil ?_
      refine q_then (hK258 _ _ ?_)
      refine w_seq (fun K265 hK264 => ?_)
      refine w_region ?_
      refine w_p (y_move (v := v) rfl rfl) rfl ?_
      refine w_p (y_assign (v := v) rfl rfl) rfl ?_
      refine w_nil ?_
      refine q_then (hK264 _ _ ?_)
      refine w_ret ?_
      refine q_ret (l := [.tmp 4]) (vs := [_]) rfl ⟨⟨rfl, show _ = (v : Value) from rfl⟩, trivial⟩ ?_
      have hz2 : z = 2 := by omega
      subst hz2
      rw [wTo_two] at hown
      obtain ⟨x, cap, rfl, hsl, _, _⟩ := own_rows0 (w0 := w0) hown (wrows_row _) (by simp [wrows]) rfl
      exact ⟨x, cap, B, rfl, hsl, hs263.tail.tail.tail⟩

theorem getA_mem {α : Type} [DecidableEq α] {a : α} {u : Value} : ∀ {l : List (α × Value × Nat)}, getA a l = some u → ∃ q ∈ l, q.1 = a ∧ q.2.1 = u
  | [], h => by simp [getA] at h
  | q :: l, h => by
    by_cases e : q.1 = a
    · simp only [getA, if_pos e] at h
      exact ⟨q, .head _, e, by simpa using h⟩
    · simp only [getA, if_neg e] at h
      obtain ⟨x, hx, h1, h2⟩ := getA_mem h
      exact ⟨x, .tail _ hx, h1, h2⟩
theorem ways_con {w0 w : World} {X M F : List (Nat × Obj)} (b : Board) (p : AtB) (bb mm : Nat) (hk : BK w0 F b p bb mm) (c a : Nat) (hc : c < b.ctrs.length) (ha : a < b.hours.length) (s : Int) (hs1 : 0 ≤ s ∧ s < 100) (hM : Memo w0 b mm M) (hs : St w0 w (X ++ (M ++ F))) :
    Con Try.prog 110 [.pointer (some ⟨bb, 0, none⟩), .agg #[.int .i64 (c : Int), .int .i64 (a : Int), .int .i64 s]] w fun v w' => ∃ (M' : List (Nat × Obj)) (x : Option Addr) (cap : Nat), v = .slice x (waysAt b c a s).length cap ∧ Sl w0 M' x 3 (wrows (waysAt b c a s)) ∧ Memo w0 b mm M' ∧ St w0 w' (X ++ (M' ++ F)) := by
  obtain ⟨es, ck, MB, rfl, hok, hlen, hes⟩ := hM
  have hs2 : St w0 w ((mm, .map (ents (fun l : List Int => ia l) es).toArray ck) :: (X ++ (MB ++ F))) := hs.perm (perm_mid X [_] (MB ++ F))
  cases hf : getA [(c : Int), (a : Int), s] es with
  | none =>
    refine (c110n b p bb mm hk.app.app c a hc ha s hs1 es ck hlen hf hs2).mono ?_
    rintro v w' ⟨x, cap, B, rfl, hsl, hs3⟩
    refine ⟨(mm, .map (ents (fun l : List Int => ia l) (putA [(c : Int), (a : Int), s] (.slice x (waysAt b c a s).length cap) ck es)).toArray (if idxA [(c : Int), (a : Int), s] es 0 = none then ck + 1 else ck)) :: (B ++ MB), x, cap, rfl, hsl.top.cons, ⟨_, _, B ++ MB, rfl, hok.put _ _, fun q hq => ?_, fun q hq => ?_⟩, ?_⟩
    · rcases mem_putA hq with ⟨h1, _⟩ | h
      · rw [h1]; rfl
      · exact hlen q h
    · rcases mem_putA hq with ⟨h1, h2⟩ | h
      · exact ⟨c, a, s, x, cap, h1, h2, hsl.top⟩
      · exact (hes q h).mono fun _ h => h.drop
    · have h4 := hs3.perm (perm_mid (_ :: B) X (MB ++ F))
      simpa only [List.append_assoc, List.cons_append] using h4
  | some u =>
    obtain ⟨q, hq, h1, h2⟩ := getA_mem hf
    obtain ⟨c', a', s', x, cap, h3, h4, h5⟩ := hes q hq
    rw [h1] at h3
    injection h3 with e1 h3
    injection h3 with e2 h3
    injection h3 with e3 _
    have e4 : c' = c := by omega
    have e5 : a' = a := by omega
    subst e4 e5 e3
    rw [h2] at h4
    refine (c110f b p bb mm hk.app.app c' a' hc ha s hs1 es ck hlen u x _ cap h4 hf hs2).mono ?_
    rintro v w' ⟨rfl, hs3⟩
    refine ⟨(mm, .map (ents (fun l : List Int => ia l) es).toArray ck) :: MB, x, cap, h4, h5.cons, ⟨es, ck, MB, rfl, hok, hlen, hes⟩, ?_⟩
    exact hs3.perm (perm_mid [_] X (MB ++ F))
end Go.Proofs
/- Walks of this seat, printed by gen.py over the engine: what each function returns, in whatever world. No conditions but those of each contract. -/
set_option linter.unusedVariables false
set_option linter.unusedSimpArgs false
set_option maxRecDepth 20000
namespace Go.Proofs
open Go.Rt Go.Rt.Ch
open Go.Rt.Ha (firstE firstE_step firstE_stop firstE_end failE nameE felt spanL upto span_mem listL fewest fewTo bit)
attribute [local irreducible] WL WC Con Yd At Ats Sl Agree DW
theorem Try_F_fb2 (x0 : Int) (x1 : Int) (x2 : Bool) (w : World) : (Instr.build 140 [(0, .int .i64 x0), (1, .int .i64 x1), (2, .bool x2)].toArray).run Try.prog w = .ok (.agg #[.int .i64 x0, .int .i64 x1, .bool x2]) w := by kernel_rfl
theorem Try_F_fb3 (x0 : Go.Fn) (a0 c0 : Array Value) (w : World) : (Instr.build 112 [(0, .func x0 a0 c0)].toArray).run Try.prog w = .ok (.agg #[.func x0 a0 c0]) w := by kernel_rfl
/-- A function that answers a question of ways. -/
def QIs (w0 : World) (F : List (Nat × Obj)) (fq : Value) (q : Quest) : Prop := ∀ (k : Nat) (load : Int) (x : Ch.Way) (X : List (Nat × Obj)) (w : World), St w0 w (X ++ F) → FCon Try.prog fq [.int .i64 (k : Int), .int .i64 load, .agg x.cells.toArray] w fun v w' => v = .bool (q k load x) ∧ St w0 w' (X ++ F)
theorem QIs.at {w0 w : World} {P X M F : List (Nat × Obj)} {fq : Value} {q : Quest} (h : QIs w0 F fq q) (k : Nat) (load : Int) (x : Ch.Way) (hs : St w0 w (P ++ (X ++ (M ++ F)))) : FCon Try.prog fq [.int .i64 (k : Int), .int .i64 load, .agg x.cells.toArray] w fun v w' => v = .bool (q k load x) ∧ St w0 w' (P ++ (X ++ (M ++ F))) :=
  (h k load x _ w (st_in hs)).mono fun _ _ h => ⟨h.1, st_out h.2⟩
theorem QIs.app {w0 : World} {B F : List (Nat × Obj)} {fq : Value} {q : Quest} (h : QIs w0 F fq q) : QIs w0 (B ++ F) fq q := fun k load x X w hs => by
  have h1 := h k load x (X ++ B) w (by rw [List.append_assoc]; exact hs)
  exact h1.mono fun _ _ h => ⟨h.1, by have h2 := h.2; rw [List.append_assoc] at h2; exact h2⟩
theorem iib140 : ∃ f0 f1 f2, IIB Try.prog 140 f0 f1 f2 := ⟨_, _, _, ⟨Try.underlying140, by kernel_rfl, by kernel_rfl, ⟨by decide, rfl, Try.underlying3⟩, ⟨by decide, rfl, Try.underlying3⟩, ⟨by decide, rfl, Try.underlying4⟩⟩⟩
theorem dec_slip {a b : Int} : (!decide (a = b)) = decide (a ≠ b) := by rw [Bool.eq_iff_iff]; simp
theorem c100 {w0 w : World} {F : List (Nat × Obj)} (k : Nat) (load : Int) (x : Ch.Way) (hs : St w0 w F) :
  Con Try.prog 100 [.int .i64 (k : Int), .int .i64 load, .agg x.cells.toArray] w fun v w' => v = .bool (slips k load x) ∧ St w0 w' F := by
  refine con_of_wc (n := 11) Try.func100 rfl rfl (Nat.le_of_ble_eq_true rfl) ?_
  refine w_seq (fun K2 hK1 => ?_)
  refine w_region ?_
  refine w_box (v := .agg #[.int _ _, .int _ _, .bool _]) (cs := [_, _, _]) want_none rfl rfl rfl hs (fun b3 w4 hs5 => ?_)
  refine w_p (y_assign (v := _) rfl rfl) rfl ?_
  refine w_nil ?_
  refine q_then (hK1 _ _ ?_)
  refine w_seq (fun K7 hK6 => ?_)
  refine w_region ?_
  refine w_p (y_fieldAddr (o := 0) (i := 0) Try.underlying140 rfl Try.sizeOf3 rfl rfl rfl) rfl ?_
  refine w_p (y_load1 Try.isAgg3 hs5 rfl rfl (ats_own (i := 0) (vs := [_]) rfl rfl)) rfl ?_
  refine w_p (y_move (v := .int _ _) rfl rfl) rfl ?_
  refine w_p (y_neq rfl rfl rfl rfl) rfl ?_
  refine w_p (y_assign (v := .bool _) rfl rfl) rfl ?_
  refine w_nil ?_
  refine q_then (hK6 _ _ ?_)
  refine w_ret ?_
  refine q_ret (l := [.tmp 6]) (vs := [_]) rfl ⟨⟨rfl, show _ = (.bool _ : Value) from rfl⟩, trivial⟩ ?_
  exact ⟨congrArg Value.bool dec_slip, hs5.tail⟩

theorem c103 {w0 w : World} {F : List (Nat × Obj)} (k a : Nat) (load : Int) (x : Ch.Way) (ba : Nat) (hb : Ats w0 F ba 0 [.int .i64 (a : Int)]) (hs : St w0 w F) :
  Con Try.prog 103 [.int .i64 (k : Int), .int .i64 load, .agg x.cells.toArray, .pointer (some ⟨ba, 0, none⟩)] w fun v w' => v = .bool (zeroed a k load x) ∧ St w0 w' F := by
  refine con_of_wc (n := 20) Try.func103 rfl rfl (Nat.le_of_ble_eq_true rfl) ?_
  obtain ⟨f0, f1, f2, hT⟩ := iib140
  refine w_seq (fun K2 hK1 => ?_)
  refine w_region ?_
  refine w_box (v := .agg #[.int _ _, .int _ _, .bool _]) (cs := [_, _, _]) want_none rfl rfl rfl hs (fun b3 w4 hs5 => ?_)
  refine w_p (y_assign (v := _) rfl rfl) rfl ?_
  refine w_nil ?_
  refine q_then (hK1 _ _ ?_)
  refine w_seq (fun K7 hK6 => ?_)
  refine w_region ?_
  refine w_p (y_move (v := .int _ _) rfl rfl) rfl ?_
  refine w_p (y_load1 Try.isAgg3 hs5.tail rfl rfl hb) rfl ?_
  refine w_p (y_eql rfl rfl rfl rfl) rfl ?_
  refine w_p (y_move (v := .bool _) rfl rfl) rfl ?_
  refine w_split (fun h8 => ?_) (fun h8 => ?_)
  ·
   try simp only [zA, zB, zC, zD, zE, zF] at h8
   refine w_y rfl rfl rfl (y_loadN (vs := [_, _, _]) Try.isAgg140 Try.sizeOf140 hs5 rfl rfl (ats_own (i := 0) (vs := [_, _, _]) rfl rfl)) rfl ?_
   refine w_y rfl rfl rfl (y_fieldAddr (o := 0) (i := 0) Try.underlying140 rfl Try.sizeOf3 rfl rfl rfl) rfl ?_
   refine w_y rfl rfl rfl (y_load1 Try.isAgg3 hs5 rfl rfl (ats_own (i := 0) (vs := [_]) rfl rfl)) rfl ?_
   refine w_y rfl rfl rfl (y_fieldAddr (o := 1) (i := 1) Try.underlying140 rfl Try.sizeOf3 rfl rfl rfl) rfl ?_
   refine w_y rfl rfl rfl (y_load1 Try.isAgg3 hs5 rfl rfl (ats_own (i := 0) (vs := [_]) rfl rfl)) rfl ?_
   refine w_y rfl rfl rfl (y_build (ps := [(0, _), (1, _), (2, _)]) (pv := [(0, .int _ _), (1, .int _ _), (2, .bool _)]) rfl rfl (fun w => Try_F_fb2 _ _ _ w)) rfl ?_
   refine w_y rfl rfl rfl (y_eqIIB hT rfl rfl rfl rfl) rfl ?_
   refine w_p (y_pickT (v := .bool _) rfl rfl rfl rfl) rfl ?_
   refine w_p (y_assign (v := .bool _) rfl rfl) rfl ?_
   refine w_nil ?_
   refine q_then (hK6 _ _ ?_)
   refine w_ret ?_
   refine q_ret (l := [.tmp 7]) (vs := [_]) rfl ⟨⟨rfl, show _ = (.bool _ : Value) from rfl⟩, trivial⟩ ?_
   first
     | (have hka : k = a := by omega
        subst hka
        exact ⟨congrArg Value.bool (by unfold zeroed; rw [Bool.eq_iff_iff]; simp), hs5.tail⟩)
     | (have hka : ¬ k = a := by omega
        exact ⟨congrArg Value.bool (by unfold zeroed; rw [Bool.eq_iff_iff]; simp [hka]), hs5.tail⟩)
  ·
   try simp only [zA, zB, zC, zD, zE, zF] at h8
   refine w_skipop rfl rfl rfl ?_
   refine w_skipop rfl rfl rfl ?_
   refine w_skipop rfl rfl rfl ?_
   refine w_skipop rfl rfl rfl ?_
   refine w_skipop rfl rfl rfl ?_
   refine w_skipop rfl rfl rfl ?_
   refine w_skipop rfl rfl rfl ?_
   refine w_p (y_pickF (v := _) rfl rfl rfl rfl) rfl ?_
   refine w_p (y_assign (v := .bool _) rfl rfl) rfl ?_
   refine w_nil ?_
   refine q_then (hK6 _ _ ?_)
   refine w_ret ?_
   refine q_ret (l := [.tmp 7]) (vs := [_]) rfl ⟨⟨rfl, show _ = (.bool _ : Value) from rfl⟩, trivial⟩ ?_
   first
     | (have hka : k = a := by omega
        subst hka
        exact ⟨congrArg Value.bool (by unfold zeroed; rw [Bool.eq_iff_iff]; simp), hs5.tail⟩)
     | (have hka : ¬ k = a := by omega
        exact ⟨congrArg Value.bool (by unfold zeroed; rw [Bool.eq_iff_iff]; simp [hka]), hs5.tail⟩)

theorem c73 {w0 w : World} {F : List (Nat × Obj)}  (hs : St w0 w F) :
  Con Try.prog 73 [] w fun v w' => v = .agg #[.func (.func 100) #[] #[]] ∧ St w0 w' F := by
  refine con_of_wc (n := 2) Try.func73 rfl rfl (Nat.le_of_ble_eq_true rfl) ?_
  refine w_seq (fun K2 hK1 => ?_)
  refine w_region ?_
  refine w_alloc (cs := [_]) want_none Try.zeroValue112 rfl hs (fun b3 w4 hs5 => ?_)
  refine w_nil ?_
  refine q_then (hK1 _ _ ?_)
  refine w_seq (fun K7 hK6 => ?_)
  refine w_region ?_
  refine w_p (y_build (ps := [(0, _)]) (pv := [(0, .func _ _ _)]) rfl rfl (fun w => Try_F_fb3 _ _ _ w)) rfl ?_
  refine w_store (i := 0) (v := .agg #[.func _ _ _]) (vs := [_]) want_none Try.sizeOf112 rfl rfl rfl rfl rfl (by simp [Value.oneCell']) hs5 rfl (Nat.le_of_ble_eq_true rfl) (fun w8 hs9 => ?_)
  refine w_nil ?_
  refine q_then (hK6 _ _ ?_)
  refine w_ret ?_
  refine q_ret (l := [.cell 0 112]) (vs := [_]) rfl ⟨⟨rfl, _, rfl, run_loadVarN (vs := [_]) Try.isAgg112 Try.sizeOf112 hs9 (ats_own (i := 0) (vs := [_]) rfl rfl)⟩, trivial⟩ ?_
  exact ⟨rfl, hs9.tail⟩

theorem c77 {w0 w : World} {F : List (Nat × Obj)} (a : Nat) (hs : St w0 w F) :
  Con Try.prog 77 [.int .i64 (a : Int)] w fun v w' => ∃ ba, v = .agg #[.func (.func 103) #[] #[.pointer (some ⟨ba, 0, none⟩)]] ∧ St w0 w' ((ba, blk 3 [.int .i64 (a : Int)]) :: F) := by
  refine con_of_wc (n := 5) Try.func77 rfl rfl (Nat.le_of_ble_eq_true rfl) ?_
  refine w_seq (fun K2 hK1 => ?_)
  refine w_region ?_
  refine w_box (v := .int _ _) (cs := [_]) want_none rfl rfl rfl hs (fun b3 w4 hs5 => ?_)
  refine w_alloc (cs := [_]) want_none Try.zeroValue112 rfl hs5 (fun b6 w7 hs8 => ?_)
  refine w_nil ?_
  refine q_then (hK1 _ _ ?_)
  refine w_seq (fun K10 hK9 => ?_)
  refine w_region ?_
  refine w_p (y_makeFunc (fv := []) (cv := [_]) rfl rfl rfl rfl) rfl ?_
  refine w_p (y_build (ps := [(0, _)]) (pv := [(0, .func _ _ _)]) rfl rfl (fun w => Try_F_fb3 _ _ _ w)) rfl ?_
  refine w_store (i := 0) (v := .agg #[.func _ _ _]) (vs := [_]) want_none Try.sizeOf112 rfl rfl rfl rfl rfl (by simp [Value.oneCell']) hs8 rfl (Nat.le_of_ble_eq_true rfl) (fun w11 hs12 => ?_)
  refine w_nil ?_
  refine q_then (hK9 _ _ ?_)
  refine w_ret ?_
  refine q_ret (l := [.cell 2 112]) (vs := [_]) rfl ⟨⟨rfl, _, rfl, run_loadVarN (vs := [_]) Try.isAgg112 Try.sizeOf112 hs12 (ats_own (i := 0) (vs := [_]) rfl rfl)⟩, trivial⟩ ?_
  exact ⟨_, rfl, hs12.tail⟩

theorem qis_slips {w0 : World} {F : List (Nat × Obj)} : QIs w0 F (.func (.func 100) #[] #[]) slips := fun k load x X w hs => fcon_fn Try.call100 (c100 k load x hs)
theorem qis_zeroed {w0 : World} {F : List (Nat × Obj)} {a ba : Nat} (hb : Ats w0 F ba 0 [.int .i64 (a : Int)]) : QIs w0 F (.func (.func 103) #[] #[.pointer (some ⟨ba, 0, none⟩)]) (zeroed a) := fun k load x X w hs => fcon_fn Try.call103 (c103 k a load x ba hb.app hs)
end Go.Proofs
/- Walks of this seat, printed by gen.py over the engine: what each function returns, in whatever world. No conditions but those of each contract. -/
set_option linter.unusedVariables false
set_option linter.unusedSimpArgs false
set_option maxRecDepth 20000
namespace Go.Proofs
open Go.Rt Go.Rt.Ch
open Go.Rt.Ha (firstE firstE_step firstE_stop firstE_end failE nameE felt spanL upto span_mem listL fewest fewTo bit)
attribute [local irreducible] WL WC Con Yd At Ats Sl Agree DW
theorem Try_G_fb2 (x0 : Int) (x1 : Int) (x2 : Int) (w : World) : (Instr.build 154 [(0, .int .i64 x0), (1, .int .i64 x1), (2, .int .i64 x2)].toArray).run Try.prog w = .ok (.agg #[.int .i64 x0, .int .i64 x1, .int .i64 x2]) w := by kernel_rfl
theorem Try_G_fb3 (x0 : Int) (w : World) : (Instr.buildSlice 39 1 [(0, .int .i64 x0)].toArray).run Try.prog w = .ok (.slice (some ⟨w.heap.size, 0, none⟩) 1 1) (w.alloc (Go.Rt.blk 3 [.int .i64 x0])) := by kernel_rfl
theorem sl_wrows {w0 : World} {F : List (Nat × Obj)} {a : Option Addr} {l : List Ch.Way} {i : Nat} (h : Sl w0 F a 3 (wrows l)) (hi : i < l.length) : ∃ b off, a = some ⟨b, off, none⟩ ∧ Ats w0 F b (off + i * 3) l[i].cells := by
  obtain ⟨b, off, ha, _, hat⟩ := h.at (i := i) (row := l[i].cells) (by simp [wrows, hi])
  exact ⟨b, off, ha, hat⟩
theorem c99 {w0 w : World} {X M F : List (Nat × Obj)} (b : Board) (p : AtB) (bb mm : Nat) (hk : BK w0 F b p bb mm) (c : Nat) (hc : c < b.ctrs.length) (l : List Int) (hl4 : l.length = 4) (hld : ∀ i (hi : i < b.hours.length), b.hours[i].lo ≤ ld l i ∧ ld l i ≤ b.hours[i].hi) (fk : FuncId) (f1 cp : Array Value) (q : Quest) (hq : QIs w0 F (.func (.func fk) f1 cp) q) (hM : Memo w0 b mm M) (hs : St w0 w (X ++ (M ++ F))) :
  Con Try.prog 99 [.pointer (some ⟨bb, 0, none⟩), .int .i64 (c : Int), ia l, .agg #[.func (.func fk) f1 cp]] w fun v w' => ∃ M', v = .tuple #[.bool (notF (ctrOf b c) l q b.hours.length), .bool (metF (ctrOf b c) l q b.hours.length)] ∧ Memo w0 b mm M' ∧ St w0 w' (X ++ (M' ++ F)) := by
  refine con_of_wc (n := 123) Try.func99 rfl rfl (Nat.le_of_ble_eq_true rfl) ?_
  have hb := hk.l
  have hcok := hk.ok.ctr _ (List.getElem_mem hc)
  obtain ⟨bx, ox, hbx, hxc⟩ := sl_krows hk.i.c hc
  rw [← ctr_at hc] at hcok hxc
  have hnh := hk.ok.lh
  have hsk := hcok.skip
  have htw := hcok.twice
  refine w_seq (fun K2 hK1 => ?_)
  refine w_region ?_
  refine w_boxI (l := _) want_none rfl rfl rfl hs (fun b3 w4 hs5 => ?_)
  refine w_box (v := .agg #[.func _ _ _]) (cs := [_]) want_none rfl rfl rfl hs5 (fun b6 w7 hs8 => ?_)
  refine w_p (y_assign (v := _) rfl rfl) rfl ?_
  refine w_p (y_assign (v := _) rfl rfl) rfl ?_
  refine w_nil ?_
  refine q_then (hK1 _ _ ?_)
  refine w_seq (fun K10 hK9 => ?_)
  refine w_region ?_
  refine w_makeMap want_none hs8 (fun b11 w12 hs13 => ?_)
  refine w_p (y_move (v := .pointer _) rfl rfl) rfl ?_
  refine w_p (y_nilCheck rfl rfl) rfl ?_
  refine w_p (y_fieldAddr (o := 0) (i := 0) Try.underlying129 rfl Try.sizeOf25 rfl rfl rfl) rfl ?_
  refine w_p (y_fieldAddr (o := 2) (i := 2) Try.underlying25 rfl Try.sizeOf23 rfl rfl rfl) rfl ?_
  refine w_p (yd_slice hbx (y_load1 Try.isAgg23 hs13.tail.tail.tail.drop.drop rfl rfl (show Ats _ _ _ _ [_] from Ats.part hb 2 1))) rfl ?_
  refine w_p (y_move (v := .int _ _) rfl rfl) rfl ?_
  refine w_p (y_indexS Try.underlying23 Try.sizeOf76 rfl rfl rfl rfl (i := c) rfl hc) rfl ?_
  refine w_p (y_fieldAddr (o := 3) (i := 3) Try.underlying76 rfl Try.sizeOf3 rfl rfl rfl) rfl ?_
  refine w_p (y_load1 Try.isAgg3 hs13.tail.tail.tail.drop.drop rfl rfl (show Ats _ _ _ _ [_] from Ats.part hxc 3 1)) rfl ?_
  refine G_insert (i := 0) (a := (ctrOf b c).start) (l := []) want_none Try.underlying150 (keyG_int Try.underlying3) trivial (by simp) rfl rfl rfl rfl rfl rfl hs13 rfl (fun w14 hs15 => ?_)
  refine w_p (y_move (v := .map _) rfl rfl) rfl ?_
  refine w_p (y_assign (v := .map _) rfl rfl) rfl ?_
  refine w_nil ?_
  refine q_then (hK9 _ _ ?_)
  refine w_seq (fun K17 hK16 => ?_)
  refine w_region ?_
  refine w_p (y_move (v := .pointer _) rfl rfl) rfl ?_
  refine w_p (y_makeFunc (fv := [_]) (cv := []) rfl rfl rfl rfl) rfl ?_
  refine w_p (y_assign (v := .func _ _ _) rfl rfl) rfl ?_
  refine w_nil ?_
  refine q_then (hK16 _ _ ?_)
  refine w_seq (fun K19 hK18 => ?_)
  refine w_seq (fun K21 hK20 => ?_)
  refine w_region ?_
  refine w_p (y_move (v := .pointer _) rfl rfl) rfl ?_
  refine w_p (y_nilCheck rfl rfl) rfl ?_
  refine w_p (y_fieldAddr (o := 0) (i := 0) Try.underlying129 rfl Try.sizeOf25 rfl rfl rfl) rfl ?_
  refine w_p (y_fieldAddr (o := 1) (i := 1) Try.underlying25 rfl Try.sizeOf22 rfl rfl rfl) rfl ?_
  refine w_p (y_load1 Try.isAgg22 hs15.tail.tail.tail.drop.drop rfl rfl (show Ats _ _ _ _ [_] from Ats.part hb 1 1)) rfl ?_
  refine w_p (y_lenS Try.underlying22 rfl rfl) rfl ?_
  refine w_p (y_move (v := _) rfl rfl) rfl ?_
  refine w_nil ?_
  refine q_then (hK20 _ _ ?_)
  refine w_block ?_
  refine w_loop [10, 12, 13, 14, 15, 17, 18, 39, 40, 41, 42, 43, 44, 45, 46, 47, 48, 49, 50, 51, 52, 53, 54, 55, 56, 57, 58, 59, 60, 61, 62, 63, 64, 65, 66, 67, 68, 69, 70, 71, 72, 73, 74, 75, 76, 77, 78, 79, 80, 81, 82, 83, 84, 85, 86, 87, 88, 89, 90, 91, 92, 93, 94, 95, 96, 97, 98, 99, 100, 101, 102, 103, 104] [10, 39] (fun kk vs w => ∃ (k mp : Nat) (es : List (Int × Value × Nat)) (ck : Nat) (M : List (Nat × Obj)), vs = [.map (some mp), .int .i64 k] ∧ k ≤ b.hours.length ∧ kk = b.hours.length - k ∧ MOk es ck ∧ KeysOf (es.map (·.1)) (fareTo (ctrOf b c) l q k) ∧ Memo w0 b mm M ∧ St w0 w ((mp, .map (ents kvI es).toArray (ck)) :: (b6, blk 112 [.func (.func fk) f1 cp]) :: (b3, blk 100 (iv l)) :: (X ++ (M ++ F)))) (b.hours.length) ?_ ?_
  ·
   exact ⟨0, _, _, _, M, rfl, by omega, by omega, mok_one, keys_zero (ctrOf b c) l q, hM, hs15⟩
  ·
   intro k vs μ w24 hI K23 hN22
   clear hs hM
   obtain ⟨k, mp, es, ck, M, rfl, hka, rfl, hok, hky, hM, hs⟩ := hI
   refine w_seq (fun K26 hK25 => ?_)
   refine w_region ?_
   refine w_p (y_lss rfl rfl rfl rfl) rfl ?_
   refine w_nil ?_
   refine q_then (hK25 _ _ ?_)
   refine w_seq (fun K28 hK27 => ?_)
   refine w_cond rfl rfl (fun h29 => ?_) (fun h29 => ?_)
   ·
    try simp only [zA, zB, zC, zD, zE, zF] at h29
    refine w_skip ?_
    refine q_then (hK27 _ _ ?_)
    refine w_seq (fun K31 hK30 => ?_)
    refine w_block ?_
    refine w_seq (fun K33 hK32 => ?_)
    refine w_region ?_
    refine w_p (y_move (v := .int _ _) rfl rfl) rfl ?_
    refine w_p (y_assign (v := .int _ _) rfl rfl) rfl ?_
    refine w_nil ?_
    refine q_then (hK32 _ _ ?_)
    refine w_seq (fun K35 hK34 => ?_)
    have hk2 : k < b.hours.length := by omega
    have hmany := keys_many hcok hok.key hky
    have hhok := hk.ok.hour _ (List.getElem_mem hk2)
    have hldk := hld k hk2
    have hldv : ld l k = l.getD k 0 := rfl
    rw [← hour_at hk2] at hhok hldk
    have hh1 := hhok.lo
    have hh2 := hhok.hi
    have hh3 := hhok.le
    refine w_region ?_
    refine w_p (y_move (v := .pointer _) rfl rfl) rfl ?_
    refine w_p (y_nilCheck rfl rfl) rfl ?_
    refine w_p (y_fieldAddr (o := 0) (i := 0) Try.underlying129 rfl Try.sizeOf25 rfl rfl rfl) rfl ?_
    refine w_p (y_fieldAddr (o := 2) (i := 2) Try.underlying25 rfl Try.sizeOf23 rfl rfl rfl) rfl ?_
    refine w_p (yd_slice hbx (y_load1 Try.isAgg23 hs.tail.tail.tail.drop.drop rfl rfl (show Ats _ _ _ _ [_] from Ats.part hb 2 1))) rfl ?_
    refine w_p (y_move (v := .int _ _) rfl rfl) rfl ?_
    refine w_p (y_indexS Try.underlying23 Try.sizeOf76 rfl rfl rfl rfl (i := c) rfl hc) rfl ?_
    refine w_p (y_loadN (vs := [_, _, _, _, _, _]) Try.isAgg76 Try.sizeOf76 hs.tail.tail.tail.drop.drop rfl rfl hxc) rfl ?_
    refine w_makeMap want_none hs (fun b36 w37 hs38 => ?_)
    refine w_alloc (cs := [_, _, _, _, _, _]) want_none Try.zeroValue76 rfl hs38 (fun b39 w40 hs41 => ?_)
    refine w_store (i := 0) (v := .agg #[.string _, .int _ _, .int _ _, .int _ _, .slice _ _ _, .slice _ _ _]) (vs := [_, _, _, _, _, _]) want_none Try.sizeOf76 rfl rfl rfl rfl rfl (by simp [Value.oneCell']) hs41 rfl (Nat.le_of_ble_eq_true rfl) (fun w42 hs43 => ?_)
    refine w_p (y_assign (v := .map _) rfl rfl) rfl ?_
    refine w_nil ?_
    refine q_then (hK34 _ _ ?_)
    refine w_seq (fun K45 hK44 => ?_)
    refine w_seq (fun K47 hK46 => ?_)
    refine w_region ?_
    refine w_p (y_move (v := .map (some mp)) rfl rfl) rfl ?_
    refine w_rangeMap (i := 2) want_none Try.underlying150 rfl rfl hs43 rfl (fun b48 w49 hs50 => ?_)
    refine w_nil ?_
    refine q_then (hK46 _ _ ?_)
    refine w_block ?_
    refine w_loop [15, 17, 18, 53, 54, 55, 56, 57, 58, 59, 60, 61, 62, 63, 64, 65, 66, 67, 68, 69, 70, 71, 72, 73, 74, 75, 76, 77, 78, 79, 80, 81, 82, 83, 84, 85, 86, 87, 88, 89, 90, 91, 92, 93, 94, 95, 96, 97, 98, 99, 100, 101, 102] [] (fun kk vs w => ∃ (seen : Array Nat) (nes : List (Int × Value × Nat)) (nck : Nat) (M : List (Nat × Obj)), vs = [] ∧ kk = remN es seen ∧ MOk nes nck ∧ IntsTo (20 * ((es.length : Int) - (remN es seen : Int))) nes ∧ (∀ z, z ∈ (nes : List (Int × Value × Nat)).map (·.1) ↔ ∃ x ∈ es, x.2.2 ∈ (seen).toList ∧ Ch.Good (ctrOf b c) (hourOf b k) l q k z x.1) ∧ Memo w0 b mm M ∧ St w0 w ((b48, .mapIter (some mp) ck seen ck) :: (b39, blk 76 ((ctrOf b c).cells (p.pc c))) :: (b36, .map (ents kvI nes).toArray (nck)) :: (mp, .map (ents kvI es).toArray (ck)) :: (b6, blk 112 [.func (.func fk) f1 cp]) :: (b3, blk 100 (iv l)) :: (X ++ (M ++ F)))) (es.length) ?_ ?_
    ·
     exact ⟨#[], [], 0, M, rfl, (rem_zero es).symm, mok_nil, ints_nil, keys_none _, hM, hs50⟩
    ·
     intro k vs μ w53 hI K52 hN51
     clear hs hM
     obtain ⟨seen, nes, nck, M, rfl, rfl, hok2, hIn, hky2, hM, hs⟩ := hI
     refine w_seq (fun K55 hK54 => ?_)
     refine w_region ?_
     refine w_nextMap (i := 0) (j := 3) want_none rfl rfl hs rfl rfl hok.born (Nat.le_refl _) (fun r hr hnr w57 hs58 => ?_) (fun hall => ?_)
     ·
      refine w_p (y_extract (v := .bool _) rfl rfl rfl) rfl ?_
      refine w_nil ?_
      refine q_then (hK54 _ _ ?_)
      refine w_seq (fun K60 hK59 => ?_)
      refine w_condT rfl rfl ?_
      refine w_skip ?_
      refine q_then (hK59 _ _ ?_)
      refine w_block ?_
      refine w_seq (fun K62 hK61 => ?_)
      refine w_region ?_
      refine w_p (y_entryG (i := 0) (j := 3) rfl rfl hs58 rfl rfl hr hok.bnd) rfl ?_
      refine w_p (y_extract (v := .int _ _) rfl rfl rfl) rfl ?_
      refine w_p (y_assign (v := .int _ _) rfl rfl) rfl ?_
      refine w_nil ?_
      refine q_then (hK61 _ _ ?_)
      refine w_seq (fun K64 hK63 => ?_)
      have hr2 := key_in hcok hky hr
      have hrm := rem_push hok.bnd hr hnr
      have hrl := rem_le es seen
      have hwl : (waysAt b c k (r.1 % 100)).length ≤ 20 := ways_len hcok hhok
      refine w_region ?_
      refine w_p (y_move (v := .func _ _ _) rfl rfl) rfl ?_
      refine w_p (y_move (v := .int _ _) rfl rfl) rfl ?_
      refine w_p (y_move (v := .int _ _) rfl rfl) rfl ?_
      refine w_p (y_move (v := .int _ _) rfl rfl) rfl ?_
      refine w_p (y_rem rfl rfl rfl rfl (by omega) (by omega)) rfl ?_
      refine w_p (y_build (ps := [(0, _), (1, _), (2, _)]) (pv := [(0, .int _ _), (1, .int _ _), (2, .int _ _)]) rfl rfl (fun w => Try_G_fb2 _ _ _ w)) rfl ?_
      refine w_call want_none Try.call110 rfl rfl rfl rfl (ways_con b p bb mm hk (X := [_, _, _, _, _, _] ++ X) (M := M) c k hc hk2 (r.1 % 100) (by omega) hM (show St _ _ (([_, _, _, _, _, _] ++ X) ++ (M ++ F)) from hs58)) ?_
      rintro _ w66 ⟨M2, x, cap, rfl, hsl, hM2, hs67⟩
      replace hs67 := (show St _ _ (_ :: _ :: _ :: _ :: _ :: _ :: X ++ (M2 ++ (F))) from hs67)
      refine w_p (y_lenS Try.underlying152 rfl rfl) rfl ?_
      refine w_p (y_move (v := _) rfl rfl) rfl ?_
      refine w_nil ?_
      refine q_then (hK63 _ _ ?_)
      refine w_block ?_
      refine w_loop [17, 18, 65, 66, 67, 68, 69, 70, 71, 72, 73, 74, 75, 76, 77, 78, 79, 80, 81, 82, 83, 84, 85, 86, 87, 88, 89, 90, 91, 92, 93, 94, 95, 96, 97, 98, 99, 100, 101, 102] [65] (fun kk vs w => ∃ (j : Nat) (nes : List (Int × Value × Nat)) (nck : Nat), vs = [.int .i64 j] ∧ j ≤ (waysAt b c k (r.1 % 100)).length ∧ kk = (waysAt b c k (r.1 % 100)).length - j ∧ MOk nes nck ∧ IntsTo (20 * ((es.length : Int) - (remN es seen : Int)) + (j : Int)) nes ∧ (∀ z, z ∈ (nes : List (Int × Value × Nat)).map (·.1) ↔ (∃ x ∈ es, x.2.2 ∈ seen.toList ∧ Ch.Good (ctrOf b c) (hourOf b k) l q k z x.1) ∨ GoodL (ctrOf b c) l q k r.1 ((waysAt b c k (r.1 % 100)).take j) z) ∧ St w0 w ((b48, .mapIter (some mp) ck (seen.push r.2.2) ck) :: (b39, blk 76 ((ctrOf b c).cells (p.pc c))) :: (b36, .map (ents kvI nes).toArray (nck)) :: (mp, .map (ents kvI es).toArray (ck)) :: (b6, blk 112 [.func (.func fk) f1 cp]) :: (b3, blk 100 (iv l)) :: (X ++ (M2 ++ F)))) ((waysAt b c k (r.1 % 100)).length) ?_ ?_
      ·
       exact ⟨0, nes, nck, rfl, by omega, by omega, hok2, hIn.le (by omega), keys_start hky2, hs67⟩
      ·
       intro k vs μ w70 hI K69 hN68
       clear hs hky2 hIn hok2
       obtain ⟨j, nes, nck, rfl, hja, rfl, hok2, hIn2, hky2, hs⟩ := hI
       refine w_seq (fun K72 hK71 => ?_)
       refine w_region ?_
       refine w_p (y_lss rfl rfl rfl rfl) rfl ?_
       refine w_nil ?_
       refine q_then (hK71 _ _ ?_)
       refine w_seq (fun K74 hK73 => ?_)
       refine w_cond rfl rfl (fun h75 => ?_) (fun h75 => ?_)
       ·
        try simp only [zA, zB, zC, zD, zE, zF] at h75
        refine w_skip ?_
        refine q_then (hK73 _ _ ?_)
        refine w_seq (fun K77 hK76 => ?_)
        refine w_block ?_
        refine w_seq (fun K79 hK78 => ?_)
        have hj2 : j < (waysAt b c k (r.1 % 100)).length := by omega
        obtain ⟨bw, ow, rfl, hw⟩ := sl_wrows hsl hj2
        have hwin := ways_in hcok.twice ⟨hhok.lo, hhok.hi⟩ (List.getElem_mem hj2)
        refine w_region ?_
        refine w_p (y_indexS Try.underlying152 Try.sizeOf140 rfl rfl rfl rfl (i := j) rfl hj2) rfl ?_
        refine w_p (y_loadN (vs := [_, _, _]) Try.isAgg140 Try.sizeOf140 hs.tail.tail.tail.tail.tail.tail.drop rfl rfl hw.top) rfl ?_
        refine w_alloc (cs := [_, _, _]) want_none Try.zeroValue140 rfl hs (fun b80 w81 hs82 => ?_)
        refine w_store (i := 0) (v := .agg #[.int _ _, .int _ _, .bool _]) (vs := [_, _, _]) want_none Try.sizeOf140 rfl rfl rfl rfl rfl (by simp [Value.oneCell']) hs82 rfl (Nat.le_of_ble_eq_true rfl) (fun w83 hs84 => ?_)
        refine w_nil ?_
        refine q_then (hK78 _ _ ?_)
        refine w_seq (fun K86 hK85 => ?_)
        refine w_seq (fun K88 hK87 => ?_)
        refine w_draw [] [(0, 0), (1, 1), (2, 0), (3, 0), (4, 1), (5, 0), (6, 1), (7, 0), (8, 0), (9, 1), (10, 0), (11, 2), (12, 2)] Try_mo (drawOK_of (by kernel_rfl)) hs84 (fun w89 hs90 => ?_)
        refine d_any rfl want_none rfl (fun _ => (y_fieldAddr (o := 1) (i := 1) Try.underlying76 rfl Try.sizeOf3 rfl rfl rfl)) ?_
        refine d_take rfl want_none rfl hs90 (fun _ hq => (y_load1 Try.isAgg3 hq rfl rfl (ats_own (i := 2) (vs := [_]) rfl rfl))) ?_
        refine d_any rfl want_none rfl (fun _ => (y_neg rfl rfl (by omega) (by omega))) ?_
        refine d_any rfl want_none rfl (fun _ => (y_fieldAddr (o := 2) (i := 2) Try.underlying76 rfl Try.sizeOf3 rfl rfl rfl)) ?_
        refine d_take rfl want_none rfl hs90 (fun _ hq => (y_load1 Try.isAgg3 hq rfl rfl (ats_own (i := 2) (vs := [_]) rfl rfl))) ?_
        refine d_any rfl want_none rfl (fun _ => (y_fieldAddr (o := 0) (i := 0) Try.underlying140 rfl Try.sizeOf3 rfl rfl rfl)) ?_
        refine d_take rfl want_none rfl hs90 (fun _ hq => (y_load1 Try.isAgg3 hq rfl rfl (ats_own (i := 0) (vs := [_]) rfl rfl))) ?_
        refine d_any rfl want_none rfl (fun _ => (y_move (v := .int _ _) rfl rfl)) ?_
        refine d_any rfl want_none rfl (fun _ => (y_indexA Try.underlying100 Try.sizeOf3 rfl rfl rfl rfl (i := k) (by first | rfl | omega) (by omega))) ?_
        refine d_take rfl want_none rfl hs90 (fun _ hq => (y_load1 Try.isAgg3 hq rfl rfl (ats_ints (i := 6) (j := k) rfl (by first | omega | rfl | (simp only [hl4, List.length_map, List.length_set, List.length_append, List.length_take, List.length_drop, List.length_replicate, List.length_cons, List.length_nil] <;> omega))))) ?_
        refine d_any rfl want_none rfl (fun _ => (y_sub rfl rfl rfl rfl (by omega) (by omega))) ?_
        refine d_eff rfl ?_
        refine w_bslice (ps := [(0, _)]) (pv := [(0, .int _ _)]) (cs := [_]) want_none rfl rfl (fun w => Try_G_fb3 _ w) hs90 (fun b91 w92 hs93 => ?_)
        refine w_nil ?_
        refine qn ⟨hs93.tail, ?_⟩
        refine d_eff rfl ?_
        refine w_call want_none Try.call51 rfl rfl rfl rfl (c51 _ _ _ [_] _ (by simp) (sl_own (i := 0) (rows := [[_]]) rfl (by simp) rfl) hs93) ?_
        rintro _ w95 ⟨rfl, hs96⟩
        refine w_nil ?_
        refine qn ⟨hs96.tail, ?_⟩
        refine d_nil ?_
        refine q_then (hK87 _ _ ?_)
        refine w_cond rfl rfl (fun h97 => ?_) (fun h97 => ?_)
        ·
         try simp only [zA, zB, zC, zD, zE, zF] at h97
         refine w_exit ?_
         refine q_then_exit ?_
         refine q_blk_this ?_
         refine q_then (hK76 _ _ ?_)
         refine w_region ?_
         refine w_p (y_add rfl rfl rfl rfl (by omega) (by omega)) rfl ?_
         refine w_p (y_move (v := .int _ _) rfl rfl) rfl ?_
         refine w_nil ?_
         refine q_then (hN68 _ _ (Nx.intro ((waysAt b c k (r.1 % 100)).length - (j + 1)) (by omega) (by repeat (first | exact agree_mix | refine agree_upd rfl ?_ | refine agree_updL rfl ?_ _ | refine agree_mixin rfl ?_)) ?_))
         first
           | exact ⟨j + 1, nes, nck, rfl, by omega, rfl, hok2, hIn2.le (by omega), keys_no hky2 hj2 (fit_not (by assumption)), hs96.tail.tail⟩
           | exact ⟨j + 1, _, _, rfl, by omega, rfl, hok2.put _ _, hIn2.put (by omega) (by omega) _, keys_yes hky2 hj2 (fit_of (by assumption)) (by first | exact kone_a (by omega) | exact kone_b (by assumption) | exact kone_c (by omega) (by assumption)) (fun z => keys_putA), hs96.tail.tail⟩
        ·
         try simp only [zA, zB, zC, zD, zE, zF] at h97
         refine w_skip ?_
         refine q_then (hK85 _ _ ?_)
         refine w_seq (fun K99 hK98 => ?_)
         refine w_region ?_
         refine w_p (y_fieldAddr (o := 1) (i := 1) Try.underlying140 rfl Try.sizeOf3 rfl rfl rfl) rfl ?_
         refine w_p (y_load1 Try.isAgg3 hs96 rfl rfl (ats_own (i := 1) (vs := [_]) rfl rfl)) rfl ?_
         refine w_p (y_assign (v := .int _ _) rfl rfl) rfl ?_
         refine w_nil ?_
         refine q_then (hK98 _ _ ?_)
         refine w_seq (fun K101 hK100 => ?_)
         refine w_seq (fun K103 hK102 => ?_)
         refine w_draw [] [(0, 0), (1, 0), (2, 0), (3, 0), (4, 1), (5, 0), (6, 0), (7, 0), (8, 1), (9, 1), (10, 2), (11, 0)] Try_mo (drawOK_of (by kernel_rfl)) hs96 (fun w104 hs105 => ?_)
         refine d_any rfl want_none rfl (fun _ => (y_move (v := .int _ _) rfl rfl)) ?_
         refine d_any rfl want_none rfl (fun _ => (y_geq rfl rfl rfl rfl)) ?_
         refine d_any rfl want_none rfl (fun _ => (y_move (v := .bool _) rfl rfl)) ?_
         refine d_split (fun h106 => ?_) (fun h106 => ?_)
         ·
          try simp only [zA, zB, zC, zD, zE, zF] at h106
          refine d_skip rfl rfl rfl rfl ?_
          refine d_skip1 rfl rfl rfl rfl hs105 ?_
          refine d_skip rfl rfl rfl rfl ?_
          refine d_skip rfl rfl rfl rfl ?_
          refine d_skip rfl rfl rfl rfl ?_
          refine d_skip1 rfl rfl rfl rfl hs105 ?_
          refine d_skip1 rfl rfl rfl rfl hs105 ?_
          refine d_eff rfl ?_
          refine w_skipop rfl rfl rfl ?_
          refine w_nil ?_
          refine qn ⟨hs105, ?_⟩
          refine d_any rfl want_none rfl (fun _ => (y_pickT (v := _) rfl rfl rfl rfl)) ?_
          refine d_nil ?_
          refine q_then (hK102 _ _ ?_)
          refine w_condT rfl rfl ?_
          refine w_region ?_
          refine w_p (y_move (v := .int _ _) rfl rfl) rfl ?_
          refine w_p (y_add rfl rfl rfl rfl (by omega) (by omega)) rfl ?_
          refine w_p (y_assign (v := .int _ _) rfl rfl) rfl ?_
          refine w_nil ?_
          refine q_then (hK100 _ _ ?_)
          refine w_region ?_
          refine w_p (y_move (v := .map _) rfl rfl) rfl ?_
          refine w_p (y_move (v := .int _ _) rfl rfl) rfl ?_
          have hva := valA_in hIn2 (by omega) (((waysAt b c k (r.1 % 100))[j]'hj2).shows + 100)
          refine w_p (G_lookI (i := 4) (a := ((waysAt b c k (r.1 % 100))[j]'hj2).shows + 100) (l := nes) (B := (20 * ((es.length : Int) - (remN es seen : Int)) + (j : Int))) Try.underlying150 (keyG_int Try.underlying3) trivial (by simp) hIn2 Try.zeroValue3 hs105 rfl rfl rfl rfl rfl) rfl ?_
          refine w_p (y_add rfl rfl rfl rfl (by omega) (by omega)) rfl ?_
          refine G_put (i := 4) (a := ((waysAt b c k (r.1 % 100))[j]'hj2).shows + 100) (l := nes) want_none Try.underlying150 (keyG_int Try.underlying3) trivial (by simp) rfl rfl rfl rfl rfl rfl hs105 rfl (fun w107 hs108 => ?_)
          refine w_nil ?_
          refine q_blk_normal ?_
          refine q_then (hK76 _ _ ?_)
          refine w_region ?_
          refine w_p (y_add rfl rfl rfl rfl (by omega) (by omega)) rfl ?_
          refine w_p (y_move (v := .int _ _) rfl rfl) rfl ?_
          refine w_nil ?_
          refine q_then (hN68 _ _ (Nx.intro ((waysAt b c k (r.1 % 100)).length - (j + 1)) (by omega) (by repeat (first | exact agree_mix | refine agree_upd rfl ?_ | refine agree_updL rfl ?_ _ | refine agree_mixin rfl ?_)) ?_))
          first
            | exact ⟨j + 1, nes, nck, rfl, by omega, rfl, hok2, hIn2.le (by omega), keys_no hky2 hj2 (fit_not (by assumption)), hs108.tail.tail⟩
            | exact ⟨j + 1, _, _, rfl, by omega, rfl, hok2.put _ _, hIn2.put (by omega) (by omega) _, keys_yes hky2 hj2 (fit_of (by assumption)) (by first | exact kone_a (by omega) | exact kone_b (by assumption) | exact kone_c (by omega) (by assumption)) (fun z => keys_putA), hs108.tail.tail⟩
         ·
          try simp only [zA, zB, zC, zD, zE, zF] at h106
          refine d_any rfl (want_yes rfl rfl rfl) rfl (fun _ => (y_fieldAddr (o := 0) (i := 0) Try.underlying112 rfl Try.sizeOf110 rfl rfl rfl)) ?_
          refine d_take rfl (want_yes rfl rfl rfl) rfl hs105 (fun _ hq => (y_load1 Try.isAgg110 hq rfl rfl (ats_own (i := 6) (vs := [_]) rfl rfl))) ?_
          refine d_any rfl (want_yes rfl rfl rfl) rfl (fun _ => (y_move (v := .int _ _) rfl rfl)) ?_
          refine d_any rfl (want_yes rfl rfl rfl) rfl (fun _ => (y_move (v := .int _ _) rfl rfl)) ?_
          refine d_any rfl (want_yes rfl rfl rfl) rfl (fun _ => (y_indexA Try.underlying100 Try.sizeOf3 rfl rfl rfl rfl (i := k) (by first | rfl | omega) (by omega))) ?_
          refine d_take rfl (want_yes rfl rfl rfl) rfl hs105 (fun _ hq => (y_load1 Try.isAgg3 hq rfl rfl (ats_ints (i := 7) (j := k) rfl (by first | omega | rfl | (simp only [hl4, List.length_map, List.length_set, List.length_append, List.length_take, List.length_drop, List.length_replicate, List.length_cons, List.length_nil] <;> omega))))) ?_
          refine d_take rfl (want_yes rfl rfl rfl) rfl hs105 (fun _ hq => (y_loadN (vs := [_, _, _]) Try.isAgg140 Try.sizeOf140 hq rfl rfl (ats_own (i := 1) (vs := [_, _, _]) rfl rfl))) ?_
          refine d_eff rfl ?_
          refine w_callV (want_yes rfl rfl rfl) rfl rfl rfl rfl (hq.at (P := [_, _, _, _, _, _, _, _]) (X := X) (M := M2) k _ ((waysAt b c k (r.1 % 100))[j]'hj2) hs105) ?_
          rintro _ w110 ⟨rfl, hs111⟩
          replace hs111 := (show St _ _ (_ :: _ :: _ :: _ :: _ :: _ :: _ :: _ :: X ++ (M2 ++ (F))) from hs111)
          refine w_nil ?_
          refine qn ⟨hs111, ?_⟩
          refine d_any rfl want_none rfl (fun _ => (y_pickF (v := .bool _) rfl rfl rfl rfl)) ?_
          refine d_nil ?_
          refine q_then (hK102 _ _ ?_)
          refine w_cond rfl rfl (fun h112 => ?_) (fun h112 => ?_)
          ·
           try simp only [zA, zB, zC, zD, zE, zF] at h112
           refine w_region ?_
           refine w_p (y_move (v := .int _ _) rfl rfl) rfl ?_
           refine w_p (y_add rfl rfl rfl rfl (by omega) (by omega)) rfl ?_
           refine w_p (y_assign (v := .int _ _) rfl rfl) rfl ?_
           refine w_nil ?_
           refine q_then (hK100 _ _ ?_)
           refine w_region ?_
           refine w_p (y_move (v := .map _) rfl rfl) rfl ?_
           refine w_p (y_move (v := .int _ _) rfl rfl) rfl ?_
           have hva := valA_in hIn2 (by omega) (((waysAt b c k (r.1 % 100))[j]'hj2).shows + 100)
           refine w_p (G_lookI (i := 4) (a := ((waysAt b c k (r.1 % 100))[j]'hj2).shows + 100) (l := nes) (B := (20 * ((es.length : Int) - (remN es seen : Int)) + (j : Int))) Try.underlying150 (keyG_int Try.underlying3) trivial (by simp) hIn2 Try.zeroValue3 hs111 rfl rfl rfl rfl rfl) rfl ?_
           refine w_p (y_add rfl rfl rfl rfl (by omega) (by omega)) rfl ?_
           refine G_put (i := 4) (a := ((waysAt b c k (r.1 % 100))[j]'hj2).shows + 100) (l := nes) want_none Try.underlying150 (keyG_int Try.underlying3) trivial (by simp) rfl rfl rfl rfl rfl rfl hs111 rfl (fun w113 hs114 => ?_)
           refine w_nil ?_
           refine q_blk_normal ?_
           refine q_then (hK76 _ _ ?_)
           refine w_region ?_
           refine w_p (y_add rfl rfl rfl rfl (by omega) (by omega)) rfl ?_
           refine w_p (y_move (v := .int _ _) rfl rfl) rfl ?_
           refine w_nil ?_
           refine q_then (hN68 _ _ (Nx.intro ((waysAt b c k (r.1 % 100)).length - (j + 1)) (by omega) (by repeat (first | exact agree_mix | refine agree_upd rfl ?_ | refine agree_updL rfl ?_ _ | refine agree_mixin rfl ?_)) ?_))
           first
             | exact ⟨j + 1, nes, nck, rfl, by omega, rfl, hok2, hIn2.le (by omega), keys_no hky2 hj2 (fit_not (by assumption)), hs114.tail.tail⟩
             | exact ⟨j + 1, _, _, rfl, by omega, rfl, hok2.put _ _, hIn2.put (by omega) (by omega) _, keys_yes hky2 hj2 (fit_of (by assumption)) (by first | exact kone_a (by omega) | exact kone_b (by assumption) | exact kone_c (by omega) (by assumption)) (fun z => keys_putA), hs114.tail.tail⟩
          ·
           try simp only [zA, zB, zC, zD, zE, zF] at h112
           refine w_skip ?_
           refine q_then (hK100 _ _ ?_)
           refine w_region ?_
           refine w_p (y_move (v := .map _) rfl rfl) rfl ?_
           refine w_p (y_move (v := .int _ _) rfl rfl) rfl ?_
           have hva := valA_in hIn2 (by omega) (((waysAt b c k (r.1 % 100))[j]'hj2).shows)
           refine w_p (G_lookI (i := 4) (a := ((waysAt b c k (r.1 % 100))[j]'hj2).shows) (l := nes) (B := (20 * ((es.length : Int) - (remN es seen : Int)) + (j : Int))) Try.underlying150 (keyG_int Try.underlying3) trivial (by simp) hIn2 Try.zeroValue3 hs111 rfl rfl rfl rfl rfl) rfl ?_
           refine w_p (y_add rfl rfl rfl rfl (by omega) (by omega)) rfl ?_
           refine G_put (i := 4) (a := ((waysAt b c k (r.1 % 100))[j]'hj2).shows) (l := nes) want_none Try.underlying150 (keyG_int Try.underlying3) trivial (by simp) rfl rfl rfl rfl rfl rfl hs111 rfl (fun w115 hs116 => ?_)
           refine w_nil ?_
           refine q_blk_normal ?_
           refine q_then (hK76 _ _ ?_)
           refine w_region ?_
           refine w_p (y_add rfl rfl rfl rfl (by omega) (by omega)) rfl ?_
           refine w_p (y_move (v := .int _ _) rfl rfl) rfl ?_
           refine w_nil ?_
           refine q_then (hN68 _ _ (Nx.intro ((waysAt b c k (r.1 % 100)).length - (j + 1)) (by omega) (by repeat (first | exact agree_mix | refine agree_upd rfl ?_ | refine agree_updL rfl ?_ _ | refine agree_mixin rfl ?_)) ?_))
           first
             | exact ⟨j + 1, nes, nck, rfl, by omega, rfl, hok2, hIn2.le (by omega), keys_no hky2 hj2 (fit_not (by assumption)), hs116.tail.tail⟩
             | exact ⟨j + 1, _, _, rfl, by omega, rfl, hok2.put _ _, hIn2.put (by omega) (by omega) _, keys_yes hky2 hj2 (fit_of (by assumption)) (by first | exact kone_a (by omega) | exact kone_b (by assumption) | exact kone_c (by omega) (by assumption)) (fun z => keys_putA), hs116.tail.tail⟩
       ·
        try simp only [zA, zB, zC, zD, zE, zF] at h75
        refine w_exit ?_
        refine q_then_exit ?_
        refine q_then_exit ?_
        refine q_blk_this ?_
        refine q_blk_normal ?_
        refine q_then (hN51 _ _ (Nx.intro (remN es (seen.push r.2.2)) (by omega) (by repeat (first | exact agree_mix | refine agree_upd rfl ?_ | refine agree_updL rfl ?_ _ | refine agree_mixin rfl ?_)) ?_))
        exact ⟨seen.push r.2.2, nes, nck, M2, rfl, rfl, hok2, hIn2.le (by omega), keys_round hok.bnd hr (by unfold waysAt at *; omega) hky2, hM2, hs⟩
     ·
      refine w_p (y_extract (v := .bool _) rfl rfl rfl) rfl ?_
      refine w_nil ?_
      refine q_then (hK54 _ _ ?_)
      refine w_seq (fun K118 hK117 => ?_)
      refine w_condF rfl rfl ?_
      refine w_exit ?_
      refine q_then_exit ?_
      refine q_then_exit ?_
      refine q_blk_this ?_
      refine q_then (hK44 _ _ ?_)
      refine w_region ?_
      refine w_p (y_move (v := .map _) rfl rfl) rfl ?_
      refine w_p (y_assign (v := .map _) rfl rfl) rfl ?_
      refine w_nil ?_
      refine q_blk_normal ?_
      refine q_then (hK30 _ _ ?_)
      refine w_region ?_
      refine w_p (y_add rfl rfl rfl rfl (by omega) (by omega)) rfl ?_
      refine w_p (y_move (v := .int _ _) rfl rfl) rfl ?_
      refine w_nil ?_
      refine q_then (hN22 _ _ (Nx.intro (b.hours.length - (k + 1)) (by omega) (by repeat (first | exact agree_mix | refine agree_upd rfl ?_ | refine agree_updL rfl ?_ _ | refine agree_mixin rfl ?_)) ?_))
      exact ⟨k + 1, b36, nes, nck, M, rfl, by omega, rfl, hok2, keys_end hcok hldk hhok.lo hky hall hky2, hM, (swp2 (show St _ _ (_ :: _ :: _) from hs.tail.tail)).tail⟩
   ·
    try simp only [zA, zB, zC, zD, zE, zF] at h29
    refine w_exit ?_
    refine q_then_exit ?_
    refine q_then_exit ?_
    refine q_blk_this ?_
    refine q_then (hK18 _ _ ?_)
    refine w_seq (fun K120 hK119 => ?_)
    refine w_seq (fun K122 hK121 => ?_)
    refine w_region ?_
    refine w_p (y_move (v := .map (some mp)) rfl rfl) rfl ?_
    refine w_rangeMap (i := 0) want_none Try.underlying150 rfl rfl hs rfl (fun b123 w124 hs125 => ?_)
    refine w_nil ?_
    refine q_then (hK121 _ _ ?_)
    refine w_block ?_
    refine w_loop [8, 9, 19, 107, 108, 109, 110, 111, 112, 113, 114, 115, 116, 117, 118, 119, 120] [8, 9] (fun kk vs w => ∃ (seen : Array Nat) (x y : Bool), vs = [.bool x, .bool y] ∧ kk = remN es seen ∧ (x = true ↔ ∃ r ∈ es, r.2.2 ∈ seen.toList ∧ r.1 < 100) ∧ (y = true ↔ ∃ r ∈ es, r.2.2 ∈ seen.toList ∧ 100 ≤ r.1) ∧ St w0 w ((b123, .mapIter (some mp) ck seen ck) :: (mp, .map (ents kvI es).toArray (ck)) :: (b6, blk 112 [.func (.func fk) f1 cp]) :: (b3, blk 100 (iv l)) :: (X ++ (M ++ F)))) (es.length) ?_ ?_
    ·
     exact ⟨#[], false, false, rfl, (rem_zero es).symm, seen_none (fun t => t < 100), seen_none (fun t => 100 ≤ t), hs125⟩
    ·
     intro k vs μ w128 hI K127 hN126
     clear hs
     obtain ⟨seen, x, y, rfl, rfl, hx, hy, hs⟩ := hI
     refine w_seq (fun K130 hK129 => ?_)
     refine w_region ?_
     refine w_nextMap (i := 0) (j := 1) want_none rfl rfl hs rfl rfl hok.born (Nat.le_refl _) (fun r hr hnr w132 hs133 => ?_) (fun hall => ?_)
     ·
      refine w_p (y_extract (v := .bool _) rfl rfl rfl) rfl ?_
      refine w_nil ?_
      refine q_then (hK129 _ _ ?_)
      refine w_seq (fun K135 hK134 => ?_)
      refine w_condT rfl rfl ?_
      refine w_skip ?_
      refine q_then (hK134 _ _ ?_)
      refine w_block ?_
      refine w_seq (fun K137 hK136 => ?_)
      refine w_region ?_
      refine w_p (y_entryG (i := 0) (j := 1) rfl rfl hs133 rfl rfl hr hok.bnd) rfl ?_
      refine w_p (y_extract (v := .int _ _) rfl rfl rfl) rfl ?_
      refine w_p (y_assign (v := .int _ _) rfl rfl) rfl ?_
      refine w_nil ?_
      refine q_then (hK136 _ _ ?_)
      refine w_seq (fun K139 hK138 => ?_)
      refine w_region ?_
      refine w_p (y_move (v := .bool _) rfl rfl) rfl ?_
      refine w_p (y_move (v := .bool _) rfl rfl) rfl ?_
      refine w_split (fun h140 => ?_) (fun h140 => ?_)
      ·
       try simp only [zA, zB, zC, zD, zE, zF] at h140
       refine w_skipop rfl rfl rfl ?_
       refine w_skipop rfl rfl rfl ?_
       refine w_p (y_pickT (v := _) rfl rfl rfl rfl) rfl ?_
       refine w_p (y_assign (v := .bool _) rfl rfl) rfl ?_
       refine w_nil ?_
       refine q_then (hK138 _ _ ?_)
       refine w_region ?_
       refine w_p (y_move (v := .bool _) rfl rfl) rfl ?_
       refine w_p (y_move (v := .bool _) rfl rfl) rfl ?_
       refine w_split (fun h141 => ?_) (fun h141 => ?_)
       ·
        try simp only [zA, zB, zC, zD, zE, zF] at h141
        refine w_skipop rfl rfl rfl ?_
        refine w_skipop rfl rfl rfl ?_
        refine w_p (y_pickT (v := _) rfl rfl rfl rfl) rfl ?_
        refine w_p (y_assign (v := .bool _) rfl rfl) rfl ?_
        refine w_nil ?_
        refine q_blk_normal ?_
        refine q_then (hN126 _ _ (Nx.intro (remN es (seen.push r.2.2)) (by have := rem_push hok.bnd hr hnr; omega) (by repeat (first | exact agree_mix | refine agree_upd rfl ?_ | refine agree_updL rfl ?_ _ | refine agree_mixin rfl ?_)) ?_))
        exact ⟨seen.push r.2.2, _, _, rfl, rfl, seen_or hok.bnd hr (fun t => t < 100) hx (by simp [*]), seen_or hok.bnd hr (fun t => 100 ≤ t) hy (by simp [*]), hs133⟩
       ·
        try simp only [zA, zB, zC, zD, zE, zF] at h141
        refine w_y rfl rfl rfl (y_move (v := .int _ _) rfl rfl) rfl ?_
        refine w_y rfl rfl rfl (y_geq rfl rfl rfl rfl) rfl ?_
        refine w_p (y_pickF (v := .bool _) rfl rfl rfl rfl) rfl ?_
        refine w_p (y_assign (v := .bool _) rfl rfl) rfl ?_
        refine w_nil ?_
        refine q_blk_normal ?_
        refine q_then (hN126 _ _ (Nx.intro (remN es (seen.push r.2.2)) (by have := rem_push hok.bnd hr hnr; omega) (by repeat (first | exact agree_mix | refine agree_upd rfl ?_ | refine agree_updL rfl ?_ _ | refine agree_mixin rfl ?_)) ?_))
        exact ⟨seen.push r.2.2, _, _, rfl, rfl, seen_or hok.bnd hr (fun t => t < 100) hx (by simp [*]), seen_or hok.bnd hr (fun t => 100 ≤ t) hy (by simp [*]), hs133⟩
      ·
       try simp only [zA, zB, zC, zD, zE, zF] at h140
       refine w_y rfl rfl rfl (y_move (v := .int _ _) rfl rfl) rfl ?_
       refine w_y rfl rfl rfl (y_lss rfl rfl rfl rfl) rfl ?_
       refine w_p (y_pickF (v := .bool _) rfl rfl rfl rfl) rfl ?_
       refine w_p (y_assign (v := .bool _) rfl rfl) rfl ?_
       refine w_nil ?_
       refine q_then (hK138 _ _ ?_)
       refine w_region ?_
       refine w_p (y_move (v := .bool _) rfl rfl) rfl ?_
       refine w_p (y_move (v := .bool _) rfl rfl) rfl ?_
       refine w_split (fun h142 => ?_) (fun h142 => ?_)
       ·
        try simp only [zA, zB, zC, zD, zE, zF] at h142
        refine w_skipop rfl rfl rfl ?_
        refine w_skipop rfl rfl rfl ?_
        refine w_p (y_pickT (v := _) rfl rfl rfl rfl) rfl ?_
        refine w_p (y_assign (v := .bool _) rfl rfl) rfl ?_
        refine w_nil ?_
        refine q_blk_normal ?_
        refine q_then (hN126 _ _ (Nx.intro (remN es (seen.push r.2.2)) (by have := rem_push hok.bnd hr hnr; omega) (by repeat (first | exact agree_mix | refine agree_upd rfl ?_ | refine agree_updL rfl ?_ _ | refine agree_mixin rfl ?_)) ?_))
        exact ⟨seen.push r.2.2, _, _, rfl, rfl, seen_or hok.bnd hr (fun t => t < 100) hx (by simp [*]), seen_or hok.bnd hr (fun t => 100 ≤ t) hy (by simp [*]), hs133⟩
       ·
        try simp only [zA, zB, zC, zD, zE, zF] at h142
        refine w_y rfl rfl rfl (y_move (v := .int _ _) rfl rfl) rfl ?_
        refine w_y rfl rfl rfl (y_geq rfl rfl rfl rfl) rfl ?_
        refine w_p (y_pickF (v := .bool _) rfl rfl rfl rfl) rfl ?_
        refine w_p (y_assign (v := .bool _) rfl rfl) rfl ?_
        refine w_nil ?_
        refine q_blk_normal ?_
        refine q_then (hN126 _ _ (Nx.intro (remN es (seen.push r.2.2)) (by have := rem_push hok.bnd hr hnr; omega) (by repeat (first | exact agree_mix | refine agree_upd rfl ?_ | refine agree_updL rfl ?_ _ | refine agree_mixin rfl ?_)) ?_))
        exact ⟨seen.push r.2.2, _, _, rfl, rfl, seen_or hok.bnd hr (fun t => t < 100) hx (by simp [*]), seen_or hok.bnd hr (fun t => 100 ≤ t) hy (by simp [*]), hs133⟩
     ·
      refine w_p (y_extract (v := .bool _) rfl rfl rfl) rfl ?_
      refine w_nil ?_
      refine q_then (hK129 _ _ ?_)
      refine w_seq (fun K144 hK143 => ?_)
      refine w_condF rfl rfl ?_
      refine w_exit ?_
      refine q_then_exit ?_
      refine q_then_exit ?_
      refine q_blk_this ?_
      refine q_then (hK119 _ _ ?_)
      refine w_seq (fun K146 hK145 => ?_)
      refine w_region ?_
      refine w_p (y_move (v := .bool _) rfl rfl) rfl ?_
      refine w_p (y_move (v := .bool _) rfl rfl) rfl ?_
      refine w_p (y_assign (v := .bool _) rfl rfl) rfl ?_
      refine w_p (y_assign (v := .bool _) rfl rfl) rfl ?_
      refine w_nil ?_
      refine q_then (hK145 _ _ ?_)
      refine w_ret ?_
      refine q_ret (l := [.tmp 8, .tmp 9]) (vs := [_, _]) rfl ⟨⟨rfl, show _ = (.bool _ : Value) from rfl⟩, ⟨rfl, show _ = (.bool _ : Value) from rfl⟩, trivial⟩ ?_
      have hkn : k = b.hours.length := by omega
      subst hkn
      exact ⟨M, by rw [not_end hcok hky hall hx, met_end hcok hky hall hy]; rfl, hM, hs.tail.tail.tail.tail⟩

end Go.Proofs
/- Walks of this seat, printed by gen.py over the engine: what each function returns, in whatever world. No conditions but those of each contract. -/
set_option linter.unusedVariables false
set_option linter.unusedSimpArgs false
set_option maxRecDepth 20000
namespace Go.Proofs
open Go.Rt Go.Rt.Ch
open Go.Rt.Ha (firstE firstE_step firstE_stop firstE_end failE nameE felt spanL upto span_mem listL fewest fewTo bit before fewStep drop_lt drop_get drop_next drop_done drop_notin set_take set_zero take_less)
attribute [local irreducible] WL WC Con Yd At Ats Sl Agree DW
theorem Try_flat100 : flatInts Try.prog 100 4 = true := by kernel_rfl
theorem fares_in {w0 w : World} {P X B M F : List (Nat × Obj)} (b : Board) (p : AtB) (bb mm : Nat) (hk : BK w0 F b p bb mm) (c : Nat) (hc : c < b.ctrs.length) (l : List Int) (hl4 : l.length = 4) (hld : ∀ i (hi : i < b.hours.length), b.hours[i].lo ≤ ld l i ∧ ld l i ≤ b.hours[i].hi) (fk : FuncId) (f1 cp : Array Value) (q : Quest) (hq : QIs w0 F (.func (.func fk) f1 cp) q) (hM : Memo w0 b mm M) (hs : St w0 w (P ++ (X ++ (B ++ (M ++ F))))) :
    Con Try.prog 99 [.pointer (some ⟨bb, 0, none⟩), .int .i64 (c : Int), ia l, .agg #[.func (.func fk) f1 cp]] w fun v w' => ∃ M', v = .tuple #[.bool (notF (ctrOf b c) l q b.hours.length), .bool (metF (ctrOf b c) l q b.hours.length)] ∧ Memo w0 b mm M' ∧ St w0 w' (P ++ (X ++ (B ++ (M' ++ F)))) :=
  (c99 b p bb mm hk c hc l hl4 hld fk f1 cp q hq hM (st_in hs)).mono fun _ _ ⟨M', h1, h2, h3⟩ => ⟨M', h1, h2, st_out h3⟩
def NextC (b : Board) (mm bp bl bla bY bn : Nat) (Ls : List (List Int)) (J : Nat → List (Nat × Obj) → Prop) (Js : List (Nat × Obj) → Prop) (yv : Value) (w0 : World) (F : List (Nat × Obj)) (rem : Nat) : Prop :=
  ∀ (d : Nat) (pre cur last : List Int) (i : Nat) (R RF : List (List Int)) (B M X : List (Nat × Obj)) (w : World), d + rem = b.hours.length → pre.length = d → (∀ j (hj : j < b.hours.length), j < d → b.hours[j].lo ≤ ld pre j ∧ ld pre j ≤ b.hours[j].hi) → cur.length = 4 → cur.take d = pre → (∀ j, b.hours.length ≤ j → cur.getD j 0 = 0) → i ≤ Ls.length →
    Ls.drop i = segK b d pre ++ R → last.length = 4 → (segF b d pre ++ RF).Nodup → last ∉ segF b d pre ++ RF → J i B → Memo w0 b mm M → St w0 w ((bn, blk 123 [.func (.func 107) #[] #[.pointer (some ⟨bp, 0, none⟩), .pointer (some ⟨bl, 0, none⟩), .pointer (some ⟨bla, 0, none⟩), .pointer (some ⟨bY, 0, none⟩), .pointer (some ⟨bn, 0, none⟩)]]) :: (bla, blk 100 (iv last)) :: (bl, blk 100 (iv cur)) :: (bY, blk 148 [yv]) :: (X ++ (B ++ (M ++ F)))) →
    Con Try.prog 107 [.int .i64 (d : Int), .pointer (some ⟨bp, 0, none⟩), .pointer (some ⟨bl, 0, none⟩), .pointer (some ⟨bla, 0, none⟩), .pointer (some ⟨bY, 0, none⟩), .pointer (some ⟨bn, 0, none⟩)] w fun v w' => ∃ (cur' last' : List Int) (B' M' : List (Nat × Obj)), cur'.length = 4 ∧ last'.length = 4 ∧ cur'.take d = pre ∧ (∀ j, b.hours.length ≤ j → cur'.getD j 0 = 0) ∧ Memo w0 b mm M' ∧ St w0 w' ((bn, blk 123 [.func (.func 107) #[] #[.pointer (some ⟨bp, 0, none⟩), .pointer (some ⟨bl, 0, none⟩), .pointer (some ⟨bla, 0, none⟩), .pointer (some ⟨bY, 0, none⟩), .pointer (some ⟨bn, 0, none⟩)]]) :: (bla, blk 100 (iv last')) :: (bl, blk 100 (iv cur')) :: (bY, blk 148 [yv]) :: (X ++ (B' ++ (M' ++ F)))) ∧
      ((v = .bool true ∧ ∃ i', i' ≤ Ls.length ∧ Ls.drop i' = R ∧ last' ∉ RF ∧ J i' B') ∨ (v = .bool false ∧ Js B'))
theorem leaf_none {Ls R : List (List Int)} {cur : List Int} {i : Nat} {b : Bool} (hpos : Ls.drop i = (if b = true then [cur] else []) ++ R) (h : b = false) : Ls.drop i = R := by rw [hpos, h]; rfl
theorem leaf_some {Ls R : List (List Int)} {cur : List Int} {i : Nat} {b : Bool} (hpos : Ls.drop i = (if b = true then [cur] else []) ++ R) (h : b = true) : Ls.drop i = cur :: R := by rw [hpos, h]; rfl
theorem fr5 {w0 w : World} {R : List (Nat × Obj)} {a b c e f : Nat × Obj} (hs : St w0 w (a :: b :: c :: e :: f :: R)) : St w0 w (b :: c :: e :: f :: a :: R) := hs.perm (perm_mid [a] [b, c, e, f] R)
theorem bk5 {w0 w : World} {R : List (Nat × Obj)} {a b c e f : Nat × Obj} (hs : St w0 w (b :: c :: e :: f :: a :: R)) : St w0 w (a :: b :: c :: e :: f :: R) := hs.perm (perm_mid [b, c, e, f] [a] R)
theorem c107 {w0 : World} {F : List (Nat × Obj)} (b : Board) (p : AtB) (bb mm : Nat) (hk : BK w0 F b p bb mm)  (bp bl bla bY bn : Nat) (h1 : Ats w0 F bp 0 [.pointer (some ⟨bb, 0, none⟩)]) (Ls : List (List Int)) (J : Nat → List (Nat × Obj) → Prop) (Js : List (Nat × Obj) → Prop) (yv : Value) (hy : ∀ (i : Nat) (x : List Int) (R : List (List Int)) (B M X : List (Nat × Obj)) (w : World), Ls.drop i = x :: R → J i B → Memo w0 b mm M → St w0 w (X ++ (B ++ (M ++ F))) → FCon Try.prog yv [ia x] w fun v w' => ∃ B' M', Memo w0 b mm M' ∧ St w0 w' (X ++ (B' ++ (M' ++ F))) ∧ (v = .bool true ∧ J (i + 1) B' ∨ v = .bool false ∧ Js B')) (rem : Nat) (ih : ∀ r, rem = r + 1 → NextC b mm bp bl bla bY bn Ls J Js yv w0 F r) : NextC b mm bp bl bla bY bn Ls J Js yv w0 F rem := by
  intro d pre cur last i R RF B M X w hdr hpl hpr hcl hkt hz hi hpos hll hnd hlast hJ hM hs
  have hb := hk.l
  have hlh := hk.ok.lh
  have hlc := hk.ok.lc
  refine con_of_wc (n := 77) Try.func107 rfl rfl (Nat.le_of_ble_eq_true rfl) ?_
  refine w_seq (fun K2 hK1 => ?_)
  refine w_region ?_
  refine w_p (y_assign (v := _) rfl rfl) rfl ?_
  refine w_nil ?_
  refine q_then (hK1 _ _ ?_)
  refine w_seq (fun K4 hK3 => ?_)
  refine w_seq (fun K6 hK5 => ?_)
  refine w_region ?_
  refine w_p (y_move (v := .int _ _) rfl rfl) rfl ?_
  refine w_p (y_load1 Try.isAgg95 hs.tail.tail.tail.tail.drop.drop.drop rfl rfl h1) rfl ?_
  refine w_p (y_nilCheck rfl rfl) rfl ?_
  refine w_p (y_fieldAddr (o := 0) (i := 0) Try.underlying129 rfl Try.sizeOf25 rfl rfl rfl) rfl ?_
  refine w_p (y_fieldAddr (o := 1) (i := 1) Try.underlying25 rfl Try.sizeOf22 rfl rfl rfl) rfl ?_
  refine w_p (y_load1 Try.isAgg22 hs.tail.tail.tail.tail.drop.drop.drop rfl rfl (show Ats _ _ _ _ [_] from Ats.part hb 1 1)) rfl ?_
  refine w_p (y_lenS Try.underlying22 rfl rfl) rfl ?_
  refine w_p (y_eql rfl rfl rfl rfl) rfl ?_
  refine w_nil ?_
  refine q_then (hK5 _ _ ?_)
  refine w_cond rfl rfl (fun h7 => ?_) (fun h7 => ?_)
  ·
   try simp only [zA, zB, zC, zD, zE, zF] at h7
   refine w_seq (fun K9 hK8 => ?_)
   refine w_seq (fun K11 hK10 => ?_)
   have hr0 : rem = 0 := by omega
   subst hr0
   have hcur := cur_pad4 hcl hpl (by omega) hkt (by have hdn : d = b.hours.length := (by omega); subst hdn; exact hz)
   have hld : ∀ i (hi : i < b.hours.length), b.hours[i].lo ≤ ld cur i ∧ ld cur i ≤ b.hours[i].hi := fun i hi => by rw [hcur, ld_pad]; exact hpr i hi (by omega)
   have hsp : canL b pre = canL b cur := by rw [hcur, can_pad]
   rw [segK_leaf (by omega), hsp, ← hcur] at hpos
   rw [segF_leaf (by omega), ← hcur] at hlast hnd
   have hne : ¬ cur = last := fun e => hlast (by rw [← e]; exact .head _)
   have hnc : cur ∉ RF := (List.nodup_cons.1 hnd).1
   refine w_region ?_
   refine w_p (y_loadI (i := 2) Try.isAgg100 Try.sizeOf100 (by first | omega | rfl | (simp only [hcl, hll, List.length_map, List.length_set, List.length_append, List.length_take, List.length_drop, List.length_replicate, List.length_cons, List.length_nil] <;> omega)) hs rfl rfl rfl) rfl ?_
   refine w_p (y_loadI (i := 1) Try.isAgg100 Try.sizeOf100 (by first | omega | rfl | (simp only [hcl, hll, List.length_map, List.length_set, List.length_append, List.length_take, List.length_drop, List.length_replicate, List.length_cons, List.length_nil] <;> omega)) hs rfl rfl rfl) rfl ?_
   refine w_p (y_eqFlat (l := _) (m := _) Try.eqGuardType100 Try_flat100 (by first | omega | rfl | (simp only [hcl, hll, List.length_map, List.length_set, List.length_append, List.length_take, List.length_drop, List.length_replicate, List.length_cons, List.length_nil] <;> omega)) (by first | omega | rfl | (simp only [hcl, hll, List.length_map, List.length_set, List.length_append, List.length_take, List.length_drop, List.length_replicate, List.length_cons, List.length_nil] <;> omega)) rfl rfl rfl rfl rfl rfl) rfl ?_
   refine w_nil ?_
   refine q_then (hK10 _ _ ?_)
   refine w_cond rfl rfl (fun h12 => ?_) (fun h12 => ?_)
   ·
    try simp only [zA, zB, zC, zD, zE, zF] at h12
    exact absurd (by assumption) hne
   ·
    try simp only [zA, zB, zC, zD, zE, zF] at h12
    refine w_skip ?_
    refine q_then (hK8 _ _ ?_)
    refine w_seq (fun K14 hK13 => ?_)
    refine w_region ?_
    refine w_p (y_loadI (i := 2) Try.isAgg100 Try.sizeOf100 (by first | omega | rfl | (simp only [hcl, hll, List.length_map, List.length_set, List.length_append, List.length_take, List.length_drop, List.length_replicate, List.length_cons, List.length_nil] <;> omega)) hs rfl rfl rfl) rfl ?_
    refine w_storeI (i := 1) (l := _) want_none Try.sizeOf100 (by first | omega | rfl | (simp only [hcl, hll, List.length_map, List.length_set, List.length_append, List.length_take, List.length_drop, List.length_replicate, List.length_cons, List.length_nil] <;> omega)) rfl rfl rfl rfl rfl hs rfl (by first | omega | rfl | (simp only [hcl, hll, List.length_map, List.length_set, List.length_append, List.length_take, List.length_drop, List.length_replicate, List.length_cons, List.length_nil] <;> omega)) (fun w15 hs16 => ?_)
    refine w_nil ?_
    refine q_then (hK13 _ _ ?_)
    refine w_seq (fun K18 hK17 => ?_)
    refine w_seq (fun K20 hK19 => ?_)
    refine w_region ?_
    refine w_p (y_load1 Try.isAgg95 hs16.tail.tail.tail.tail.drop.drop.drop rfl rfl h1) rfl ?_
    refine w_p (y_nilCheck rfl rfl) rfl ?_
    refine w_p (y_fieldAddr (o := 0) (i := 0) Try.underlying129 rfl Try.sizeOf25 rfl rfl rfl) rfl ?_
    refine w_p (y_fieldAddr (o := 2) (i := 2) Try.underlying25 rfl Try.sizeOf23 rfl rfl rfl) rfl ?_
    refine w_p (y_load1 Try.isAgg23 hs16.tail.tail.tail.tail.drop.drop.drop rfl rfl (show Ats _ _ _ _ [_] from Ats.part hb 2 1)) rfl ?_
    refine w_p (y_lenS Try.underlying23 rfl rfl) rfl ?_
    refine w_p (y_move (v := _) rfl rfl) rfl ?_
    refine w_nil ?_
    refine q_then (hK19 _ _ ?_)
    refine w_block ?_
    refine w_loop [7, 8, 9, 10, 31, 32, 33, 34, 35, 36, 37, 38, 39, 40, 41, 42, 43, 44, 45, 46, 47, 48] [31] (fun k vs w => ∃ (ci : Nat) (M : List (Nat × Obj)), vs = [.int .i64 ci] ∧ ci ≤ b.ctrs.length ∧ k = b.ctrs.length - ci ∧ canTo b cur ci = true ∧ Memo w0 b mm M ∧ St w0 w ((bn, blk 123 [.func (.func 107) #[] #[.pointer (some ⟨bp, 0, none⟩), .pointer (some ⟨bl, 0, none⟩), .pointer (some ⟨bla, 0, none⟩), .pointer (some ⟨bY, 0, none⟩), .pointer (some ⟨bn, 0, none⟩)]]) :: (bla, blk 100 (iv cur)) :: (bl, blk 100 (iv cur)) :: (bY, blk 148 [yv]) :: (X ++ (B ++ (M ++ F))))) (b.ctrs.length) ?_ ?_
    ·
     exact ⟨0, M, rfl, by omega, by omega, rfl, hM, hs16⟩
    ·
     intro k vs μ w23 hI K22 hN21
     clear hs hM
     obtain ⟨ci, M, rfl, hcia, rfl, hct, hM, hs⟩ := hI
     refine w_seq (fun K25 hK24 => ?_)
     refine w_region ?_
     refine w_p (y_lss rfl rfl rfl rfl) rfl ?_
     refine w_nil ?_
     refine q_then (hK24 _ _ ?_)
     refine w_seq (fun K27 hK26 => ?_)
     refine w_cond rfl rfl (fun h28 => ?_) (fun h28 => ?_)
     ·
      try simp only [zA, zB, zC, zD, zE, zF] at h28
      refine w_skip ?_
      refine q_then (hK26 _ _ ?_)
      refine w_seq (fun K30 hK29 => ?_)
      refine w_block ?_
      refine w_seq (fun K32 hK31 => ?_)
      refine w_region ?_
      refine w_p (y_move (v := .int _ _) rfl rfl) rfl ?_
      refine w_p (y_assign (v := .int _ _) rfl rfl) rfl ?_
      refine w_nil ?_
      refine q_then (hK31 _ _ ?_)
      refine w_seq (fun K34 hK33 => ?_)
      have hci2 : ci < b.ctrs.length := by omega
      refine w_drawC (C := fun w => ∃ M, Memo w0 b mm M ∧ St w0 w ((bn, blk 123 [.func (.func 107) #[] #[.pointer (some ⟨bp, 0, none⟩), .pointer (some ⟨bl, 0, none⟩), .pointer (some ⟨bla, 0, none⟩), .pointer (some ⟨bY, 0, none⟩), .pointer (some ⟨bn, 0, none⟩)]]) :: (bla, blk 100 (iv cur)) :: (bl, blk 100 (iv cur)) :: (bY, blk 148 [yv]) :: (X ++ (B ++ (M ++ F))))) [] [(0, 1), (1, 0), (2, 1), (3, 2), (4, 2), (5, 0), (6, 0), (7, 0), (8, 0), (9, 0)] Try_mo (drawOK_of (by kernel_rfl)) ⟨_, hM, hs⟩ (fun _ ⟨M, h1, h2⟩ => ⟨M, h1, h2.drew⟩) (fun w35 ⟨M, hM, hs36⟩ => ?_)
      refine d_takeC rfl want_none rfl ⟨_, hM, hs36⟩ (fun _ ⟨M, hM, hq⟩ => (y_load1 Try.isAgg95 hq.tail.tail.tail.tail.drop.drop.drop rfl rfl h1)) ?_
      refine d_any rfl want_none rfl (fun _ => (y_move (v := .int _ _) rfl rfl)) ?_
      refine d_takeC rfl want_none rfl ⟨_, hM, hs36⟩ (fun _ ⟨M, hM, hq⟩ => (y_loadI (i := 2) Try.isAgg100 Try.sizeOf100 (by first | omega | rfl | (simp only [hcl, hll, List.length_map, List.length_set, List.length_append, List.length_take, List.length_drop, List.length_replicate, List.length_cons, List.length_nil] <;> omega)) hq rfl rfl rfl)) ?_
      refine d_eff rfl ?_
      refine w_call want_none Try.call73 rfl rfl rfl rfl (c73 hs36) ?_
      rintro _ w38 ⟨rfl, hs39⟩
      refine w_nil ?_
      refine qn ⟨⟨_, hM, hs39⟩, ?_⟩
      refine d_eff rfl ?_
      refine w_call want_none Try.call99 rfl rfl rfl rfl (fares_in b p bb mm hk (P := [_, _, _, _]) (X := X) (B := B) (M := M) ci hci2 cur hcl hld 100 #[] #[] slips qis_slips hM hs39) ?_
      rintro _ w41 ⟨M2, rfl, hM2, hs42⟩
      replace hs42 := (show St _ _ (_ :: _ :: _ :: _ :: X ++ (B ++ (M2 ++ (F)))) from hs42)
      refine w_nil ?_
      refine qn ⟨⟨_, hM2, hs42⟩, ?_⟩
      refine d_any rfl want_none rfl (fun _ => (y_move (v := .tuple _) rfl rfl)) ?_
      refine d_any rfl want_none rfl (fun _ => (y_extract (v := .bool _) rfl rfl rfl)) ?_
      refine d_any rfl want_none rfl (fun _ => (y_extract (v := .bool _) rfl rfl rfl)) ?_
      refine d_any rfl want_none rfl (fun _ => (y_assign (v := .bool _) rfl rfl)) ?_
      refine d_any rfl want_none rfl (fun _ => (y_assign (v := .bool _) rfl rfl)) ?_
      refine d_nil ?_
      refine q_then (hK33 _ _ ?_)
      refine w_seq (fun K44 hK43 => ?_)
      refine w_region ?_
      refine w_p (y_move (v := .bool _) rfl rfl) rfl ?_
      refine w_p (y_not rfl rfl) rfl ?_
      refine w_p (y_move (v := .bool _) rfl rfl) rfl ?_
      refine w_split (fun h45 => ?_) (fun h45 => ?_)
      ·
       try simp only [zA, zB, zC, zD, zE, zF] at h45
       refine w_y rfl rfl rfl (y_move (v := .bool _) rfl rfl) rfl ?_
       refine w_y rfl rfl rfl (y_not rfl rfl) rfl ?_
       refine w_p (y_pickT (v := .bool _) rfl rfl rfl rfl) rfl ?_
       refine w_nil ?_
       refine q_then (hK43 _ _ ?_)
       refine w_cond rfl rfl (fun h46 => ?_) (fun h46 => ?_)
       ·
        try simp only [zA, zB, zC, zD, zE, zF] at h46
        refine w_seq (fun K48 hK47 => ?_)
        refine w_region ?_
        refine w_p (y_assign (v := _) rfl rfl) rfl ?_
        refine w_nil ?_
        refine q_then (hK47 _ _ ?_)
        refine w_ret ?_
        refine q_blk_ret ?_
        refine q_then_ret ?_
        refine q_then_ret ?_
        refine q_blk_ret ?_
        refine q_then_ret ?_
        refine q_then_ret ?_
        refine q_ret (l := [.tmp 7]) (vs := [_]) rfl ⟨⟨rfl, show _ = (.bool _ : Value) from rfl⟩, trivial⟩ ?_
        first
          | exact ⟨cur, cur, B, M2, hcl, hcl, hkt, hz, hM2, hs42, .inl ⟨rfl, i, hi, leaf_none hpos (can_n hci2 (by assumption) (by assumption)), hnc, hJ⟩⟩
          | exact ⟨cur, cur, B1, M1, hcl, hcl, hkt, hz, hM1, hs42, .inl ⟨rfl, i + 1, drop_lt hpos2, drop_next hpos2, hnc, hJ1⟩⟩
          | exact ⟨cur, cur, B1, M1, hcl, hcl, hkt, hz, hM1, hs42, .inr ⟨rfl, hJ1⟩⟩
          | exact ⟨cur2, last2, B2, M3, hc2, hl2, take_less hk2 hpl, hz2, hM3, hs42, .inr ⟨rfl, hJ2⟩⟩
          | (rw [restK_done (by omega), List.nil_append] at hpos
             rw [restF_done (by omega), List.nil_append] at hlast
             exact ⟨cur, last, B, M, hcl, hll, hkt, hz, hM, hs42, .inl ⟨rfl, i, hi, hpos, hlast, hJ⟩⟩)
       ·
        try simp only [zA, zB, zC, zD, zE, zF] at h46
        refine w_skip ?_
        refine q_blk_normal ?_
        refine q_then (hK29 _ _ ?_)
        refine w_region ?_
        refine w_p (y_add rfl rfl rfl rfl (by omega) (by omega)) rfl ?_
        refine w_p (y_move (v := .int _ _) rfl rfl) rfl ?_
        refine w_nil ?_
        refine q_then (hN21 _ _ (Nx.intro (b.ctrs.length - (ci + 1)) (by omega) (by repeat (first | exact agree_mix | refine agree_upd rfl ?_ | refine agree_updL rfl ?_ _ | refine agree_mixin rfl ?_)) ?_))
        exact ⟨ci + 1, M2, rfl, by omega, rfl, canTo_y hci2 hct (by first | exact .inl (by assumption) | exact .inr (by assumption)), hM2, hs42⟩
      ·
       try simp only [zA, zB, zC, zD, zE, zF] at h45
       refine w_skipop rfl rfl rfl ?_
       refine w_skipop rfl rfl rfl ?_
       refine w_p (y_pickF (v := _) rfl rfl rfl rfl) rfl ?_
       refine w_nil ?_
       refine q_then (hK43 _ _ ?_)
       refine w_condF rfl rfl ?_
       refine w_skip ?_
       refine q_blk_normal ?_
       refine q_then (hK29 _ _ ?_)
       refine w_region ?_
       refine w_p (y_add rfl rfl rfl rfl (by omega) (by omega)) rfl ?_
       refine w_p (y_move (v := .int _ _) rfl rfl) rfl ?_
       refine w_nil ?_
       refine q_then (hN21 _ _ (Nx.intro (b.ctrs.length - (ci + 1)) (by omega) (by repeat (first | exact agree_mix | refine agree_upd rfl ?_ | refine agree_updL rfl ?_ _ | refine agree_mixin rfl ?_)) ?_))
       exact ⟨ci + 1, M2, rfl, by omega, rfl, canTo_y hci2 hct (by first | exact .inl (by assumption) | exact .inr (by assumption)), hM2, hs42⟩
     ·
      try simp only [zA, zB, zC, zD, zE, zF] at h28
      refine w_exit ?_
      refine q_then_exit ?_
      refine q_then_exit ?_
      refine q_blk_this ?_
      refine q_then (hK17 _ _ ?_)
      refine w_seq (fun K50 hK49 => ?_)
      have hpos2 := leaf_some hpos (canTo_all (by omega) hct)
      refine w_region ?_
      refine w_p (y_load1 Try.isAgg148 hs rfl rfl (ats_own (i := 3) (vs := [_]) rfl rfl)) rfl ?_
      refine w_p (y_loadI (i := 2) Try.isAgg100 Try.sizeOf100 (by first | omega | rfl | (simp only [hcl, hll, List.length_map, List.length_set, List.length_append, List.length_take, List.length_drop, List.length_replicate, List.length_cons, List.length_nil] <;> omega)) hs rfl rfl rfl) rfl ?_
      refine w_callV want_none rfl rfl rfl rfl (hy i _ R B M (_ :: _ :: _ :: _ :: X) _ hpos2 hJ hM hs) ?_
      rintro _ w52 ⟨B1, M1, hM1, hs53, (⟨rfl, hJ1⟩ | ⟨rfl, hJ1⟩)⟩
      ·
       replace hs53 := (show St _ _ (_ :: _ :: _ :: _ :: X ++ (B1 ++ (M1 ++ (F)))) from hs53)
       refine w_p (y_assign (v := .bool _) rfl rfl) rfl ?_
       refine w_nil ?_
       refine q_then (hK49 _ _ ?_)
       refine w_ret ?_
       refine q_then_ret ?_
       refine q_ret (l := [.tmp 7]) (vs := [_]) rfl ⟨⟨rfl, show _ = (.bool _ : Value) from rfl⟩, trivial⟩ ?_
       first
         | exact ⟨cur, cur, B, M2, hcl, hcl, hkt, hz, hM2, hs53, .inl ⟨rfl, i, hi, leaf_none hpos (can_n hci2 (by assumption) (by assumption)), hnc, hJ⟩⟩
         | exact ⟨cur, cur, B1, M1, hcl, hcl, hkt, hz, hM1, hs53, .inl ⟨rfl, i + 1, drop_lt hpos2, drop_next hpos2, hnc, hJ1⟩⟩
         | exact ⟨cur, cur, B1, M1, hcl, hcl, hkt, hz, hM1, hs53, .inr ⟨rfl, hJ1⟩⟩
         | exact ⟨cur2, last2, B2, M3, hc2, hl2, take_less hk2 hpl, hz2, hM3, hs53, .inr ⟨rfl, hJ2⟩⟩
         | (rw [restK_done (by omega), List.nil_append] at hpos
            rw [restF_done (by omega), List.nil_append] at hlast
            exact ⟨cur, last, B, M, hcl, hll, hkt, hz, hM, hs53, .inl ⟨rfl, i, hi, hpos, hlast, hJ⟩⟩)
      ·
       replace hs53 := (show St _ _ (_ :: _ :: _ :: _ :: X ++ (B1 ++ (M1 ++ (F)))) from hs53)
       refine w_p (y_assign (v := .bool _) rfl rfl) rfl ?_
       refine w_nil ?_
       refine q_then (hK49 _ _ ?_)
       refine w_ret ?_
       refine q_then_ret ?_
       refine q_ret (l := [.tmp 7]) (vs := [_]) rfl ⟨⟨rfl, show _ = (.bool _ : Value) from rfl⟩, trivial⟩ ?_
       first
         | exact ⟨cur, cur, B, M2, hcl, hcl, hkt, hz, hM2, hs53, .inl ⟨rfl, i, hi, leaf_none hpos (can_n hci2 (by assumption) (by assumption)), hnc, hJ⟩⟩
         | exact ⟨cur, cur, B1, M1, hcl, hcl, hkt, hz, hM1, hs53, .inl ⟨rfl, i + 1, drop_lt hpos2, drop_next hpos2, hnc, hJ1⟩⟩
         | exact ⟨cur, cur, B1, M1, hcl, hcl, hkt, hz, hM1, hs53, .inr ⟨rfl, hJ1⟩⟩
         | exact ⟨cur2, last2, B2, M3, hc2, hl2, take_less hk2 hpl, hz2, hM3, hs53, .inr ⟨rfl, hJ2⟩⟩
         | (rw [restK_done (by omega), List.nil_append] at hpos
            rw [restF_done (by omega), List.nil_append] at hlast
            exact ⟨cur, last, B, M, hcl, hll, hkt, hz, hM, hs53, .inl ⟨rfl, i, hi, hpos, hlast, hJ⟩⟩)
  ·
   try simp only [zA, zB, zC, zD, zE, zF] at h7
   refine w_skip ?_
   refine q_then (hK3 _ _ ?_)
   refine w_seq (fun K55 hK54 => ?_)
   obtain ⟨r, rfl⟩ : ∃ r, rem = r + 1 := ⟨rem - 1, by omega⟩
   have ih2 := ih r rfl
   have hd2 : d < b.hours.length := by omega
   rw [segK_node hd2] at hpos
   rw [segF_node hd2] at hlast hnd
   have hhok := hk.ok.hour _ (List.getElem_mem hd2)
   have hh1 := hhok.lo
   have hh2 := hhok.hi
   have hh3 := hhok.le
   obtain ⟨bx, ox, hbx, hx⟩ := sl_hrows hk.i.h hd2
   refine w_region ?_
   refine w_p (y_load1 Try.isAgg95 hs.tail.tail.tail.tail.drop.drop.drop rfl rfl h1) rfl ?_
   refine w_p (y_nilCheck rfl rfl) rfl ?_
   refine w_p (y_fieldAddr (o := 0) (i := 0) Try.underlying129 rfl Try.sizeOf25 rfl rfl rfl) rfl ?_
   refine w_p (y_fieldAddr (o := 1) (i := 1) Try.underlying25 rfl Try.sizeOf22 rfl rfl rfl) rfl ?_
   refine w_p (yd_slice hbx (y_load1 Try.isAgg22 hs.tail.tail.tail.tail.drop.drop.drop rfl rfl (show Ats _ _ _ _ [_] from Ats.part hb 1 1))) rfl ?_
   refine w_p (y_move (v := .int _ _) rfl rfl) rfl ?_
   refine w_p (y_indexS Try.underlying22 Try.sizeOf70 rfl rfl rfl rfl (i := d) rfl hd2) rfl ?_
   refine w_p (y_fieldAddr (o := 1) (i := 1) Try.underlying70 rfl Try.sizeOf31 rfl rfl rfl) rfl ?_
   refine w_p (y_loadN (vs := [_, _]) Try.isAgg31 Try.sizeOf31 hs.tail.tail.tail.tail.drop.drop.drop rfl rfl (show Ats _ _ _ _ [_, _] from Ats.part hx 1 2)) rfl ?_
   refine w_alloc (cs := [_, _]) want_none Try.zeroValue31 rfl hs (fun b56 w57 hs58 => ?_)
   refine w_store (i := 0) (v := .agg #[.int _ _, .int _ _]) (vs := [_, _]) want_none Try.sizeOf31 rfl rfl rfl rfl rfl (by simp [Value.oneCell']) hs58 rfl (Nat.le_of_ble_eq_true rfl) (fun w59 hs60 => ?_)
   refine w_nil ?_
   refine q_then (hK54 _ _ ?_)
   refine w_seq (fun K62 hK61 => ?_)
   refine w_seq (fun K64 hK63 => ?_)
   refine w_region ?_
   refine w_p (y_fieldAddr (o := 0) (i := 0) Try.underlying31 rfl Try.sizeOf3 rfl rfl rfl) rfl ?_
   refine w_p (y_load1 Try.isAgg3 hs60 rfl rfl (ats_own (i := 0) (vs := [_]) rfl rfl)) rfl ?_
   refine w_p (y_assign (v := .int _ _) rfl rfl) rfl ?_
   refine w_nil ?_
   refine q_then (hK63 _ _ ?_)
   refine w_block ?_
   refine w_loop [7, 12, 63, 64, 65, 66, 67, 68, 69, 70, 71, 72, 73, 74, 75, 76] [12] (fun k vs w => ∃ (q : Nat) (cur last : List Int) (i : Nat) (B M : List (Nat × Obj)), vs = [.int .i64 ((b.hours[d]'hd2).lo + q)] ∧ (q : Int) ≤ (b.hours[d]'hd2).hi + 1 - (b.hours[d]'hd2).lo ∧ k = ((b.hours[d]'hd2).hi + 1 - (b.hours[d]'hd2).lo).toNat - q ∧ cur.length = 4 ∧ last.length = 4 ∧ cur.take d = pre ∧ (∀ j, b.hours.length ≤ j → cur.getD j 0 = 0) ∧ i ≤ Ls.length ∧ Ls.drop i = restK b d pre (upto ((b.hours[d]'hd2).lo + q) (((b.hours[d]'hd2).hi + 1 - (b.hours[d]'hd2).lo).toNat - q)) ++ R ∧ (restF b d pre (upto ((b.hours[d]'hd2).lo + q) (((b.hours[d]'hd2).hi + 1 - (b.hours[d]'hd2).lo).toNat - q)) ++ RF).Nodup ∧ last ∉ restF b d pre (upto ((b.hours[d]'hd2).lo + q) (((b.hours[d]'hd2).hi + 1 - (b.hours[d]'hd2).lo).toNat - q)) ++ RF ∧ J i B ∧ Memo w0 b mm M ∧ St w0 w ((b56, blk 31 [.int .i64 (b.hours[d]'hd2).lo, .int .i64 (b.hours[d]'hd2).hi]) :: (bn, blk 123 [.func (.func 107) #[] #[.pointer (some ⟨bp, 0, none⟩), .pointer (some ⟨bl, 0, none⟩), .pointer (some ⟨bla, 0, none⟩), .pointer (some ⟨bY, 0, none⟩), .pointer (some ⟨bn, 0, none⟩)]]) :: (bla, blk 100 (iv last)) :: (bl, blk 100 (iv cur)) :: (bY, blk 148 [yv]) :: (X ++ (B ++ (M ++ F))))) (((b.hours[d]'hd2).hi + 1 - (b.hours[d]'hd2).lo).toNat) ?_ ?_
   ·
    exact ⟨0, cur, last, i, B, M, iv1 (by omega), by omega, by omega, hcl, hll, hkt, hz, hi, by rw [show (b.hours[d]'hd2).lo + ((0 : Nat) : Int) = (b.hours[d]'hd2).lo by omega, Nat.sub_zero]; exact hpos, by rw [show (b.hours[d]'hd2).lo + ((0 : Nat) : Int) = (b.hours[d]'hd2).lo by omega, Nat.sub_zero]; exact hnd, by rw [show (b.hours[d]'hd2).lo + ((0 : Nat) : Int) = (b.hours[d]'hd2).lo by omega, Nat.sub_zero]; exact hlast, hJ, hM, hs60⟩
   ·
    intro k vs μ w67 hI K66 hN65
    clear hkt hz hi hpos hll hlast hnd hJ hs hcl hM
    obtain ⟨q, cur, last, i, B, M, rfl, hq, rfl, hcl, hll, hkt, hz, hi, hpos, hnd, hlast, hJ, hM, hs⟩ := hI
    refine w_seq (fun K69 hK68 => ?_)
    refine w_seq (fun K71 hK70 => ?_)
    refine w_region ?_
    refine w_p (y_move (v := .int _ _) rfl rfl) rfl ?_
    refine w_p (y_fieldAddr (o := 1) (i := 1) Try.underlying31 rfl Try.sizeOf3 rfl rfl rfl) rfl ?_
    refine w_p (y_load1 Try.isAgg3 hs rfl rfl (ats_own (i := 0) (vs := [_]) rfl rfl)) rfl ?_
    refine w_p (y_leq rfl rfl rfl rfl) rfl ?_
    refine w_nil ?_
    refine q_then (hK70 _ _ ?_)
    refine w_cond rfl rfl (fun h72 => ?_) (fun h72 => ?_)
    ·
     try simp only [zA, zB, zC, zD, zE, zF] at h72
     refine w_skip ?_
     refine q_then (hK68 _ _ ?_)
     refine w_seq (fun K74 hK73 => ?_)
     refine w_block ?_
     refine w_seq (fun K76 hK75 => ?_)
     refine w_region ?_
     refine w_p (y_move (v := .int _ _) rfl rfl) rfl ?_
     refine w_p (y_move (v := .int _ _) rfl rfl) rfl ?_
     refine w_p (y_indexA Try.underlying100 Try.sizeOf3 rfl rfl rfl rfl (i := d) (by first | rfl | omega) (by omega)) rfl ?_
     refine w_storeAtI (i := 3) (j := d) want_none Try.sizeOf3 rfl rfl rfl rfl hs rfl (by first | omega | rfl | (simp only [hcl, hll, List.length_map, List.length_set, List.length_append, List.length_take, List.length_drop, List.length_replicate, List.length_cons, List.length_nil] <;> omega)) (fun w77 hs78 => ?_)
     refine w_nil ?_
     refine q_then (hK75 _ _ ?_)
     refine w_seq (fun K80 hK79 => ?_)
     refine w_region ?_
     refine w_p (y_load1 Try.isAgg123 hs78 rfl rfl (ats_own (i := 1) (vs := [_]) rfl rfl)) rfl ?_
     refine w_p (y_move (v := .int _ _) rfl rfl) rfl ?_
     refine w_p (y_add rfl rfl rfl rfl (by omega) (by omega)) rfl ?_
     refine w_call want_none Try.call107 rfl rfl rfl rfl (ih2 (d + 1) (pre ++ [(b.hours[d]'hd2).lo + (q : Int)]) _ last i _ _ B M (_ :: X) _ (by omega) (by simp; omega) (pre_next hd2 hpl hpr (by omega)) (by rw [List.length_set]; exact hcl) (set_take hkt (by omega)) (set_zero (by omega) hz) hi (by rw [restK_next (by omega), List.append_assoc] at hpos; exact hpos) hll (by rw [restF_next (by omega), List.append_assoc] at hnd; exact hnd) (by rw [restF_next (by omega), List.append_assoc] at hlast; exact hlast) hJ hM (fr5 hs78)) ?_
     rintro _ w82 ⟨cur2, last2, B2, M3, hc2, hl2, hk2, hz2, hM3, hs83, (⟨rfl, i2, hi2, hp2, hn2, hJ2⟩ | ⟨rfl, hJ2⟩)⟩
     ·
      replace hs83 := bk5 (show St _ _ (_ :: _ :: _ :: _ :: _ :: (X ++ (B2 ++ (M3 ++ F)))) from hs83)
      refine w_p (y_not rfl rfl) rfl ?_
      refine w_nil ?_
      refine q_then (hK79 _ _ ?_)
      refine w_condF rfl rfl ?_
      refine w_skip ?_
      refine q_blk_normal ?_
      refine q_then (hK73 _ _ ?_)
      refine w_region ?_
      refine w_p (y_move (v := .int _ _) rfl rfl) rfl ?_
      refine w_p (y_add rfl rfl rfl rfl (by omega) (by omega)) rfl ?_
      refine w_p (y_assign (v := .int _ _) rfl rfl) rfl ?_
      refine w_nil ?_
      refine q_then (hN65 _ _ (Nx.intro (((b.hours[d]'hd2).hi + 1 - (b.hours[d]'hd2).lo).toNat - (q + 1)) (by omega) (by repeat (first | exact agree_mix | refine agree_upd rfl ?_ | refine agree_updL rfl ?_ _ | refine agree_mixin rfl ?_)) ?_))
      exact ⟨q + 1, cur2, last2, i2, B2, M3, iv1 (by omega), by omega, rfl, hc2, hl2, take_less hk2 hpl, hz2, hi2, hp2, (by rw [restF_next (by omega), List.append_assoc] at hnd; exact (List.nodup_append.1 hnd).2.1), hn2, hJ2, hM3, hs83⟩
     ·
      replace hs83 := bk5 (show St _ _ (_ :: _ :: _ :: _ :: _ :: (X ++ (B2 ++ (M3 ++ F)))) from hs83)
      refine w_p (y_not rfl rfl) rfl ?_
      refine w_nil ?_
      refine q_then (hK79 _ _ ?_)
      refine w_condT rfl rfl ?_
      refine w_seq (fun K85 hK84 => ?_)
      refine w_region ?_
      refine w_p (y_assign (v := _) rfl rfl) rfl ?_
      refine w_nil ?_
      refine q_then (hK84 _ _ ?_)
      refine w_ret ?_
      refine q_blk_ret ?_
      refine q_then_ret ?_
      refine q_then_ret ?_
      refine q_blk_ret ?_
      refine q_then_ret ?_
      refine q_ret (l := [.tmp 7]) (vs := [_]) rfl ⟨⟨rfl, show _ = (.bool _ : Value) from rfl⟩, trivial⟩ ?_
      first
        | exact ⟨cur, cur, B, M2, hcl, hcl, hkt, hz, hM2, hs83.tail, .inl ⟨rfl, i, hi, leaf_none hpos (can_n hci2 (by assumption) (by assumption)), hnc, hJ⟩⟩
        | exact ⟨cur, cur, B1, M1, hcl, hcl, hkt, hz, hM1, hs83.tail, .inl ⟨rfl, i + 1, drop_lt hpos2, drop_next hpos2, hnc, hJ1⟩⟩
        | exact ⟨cur, cur, B1, M1, hcl, hcl, hkt, hz, hM1, hs83.tail, .inr ⟨rfl, hJ1⟩⟩
        | exact ⟨cur2, last2, B2, M3, hc2, hl2, take_less hk2 hpl, hz2, hM3, hs83.tail, .inr ⟨rfl, hJ2⟩⟩
        | (rw [restK_done (by omega), List.nil_append] at hpos
           rw [restF_done (by omega), List.nil_append] at hlast
           exact ⟨cur, last, B, M, hcl, hll, hkt, hz, hM, hs83.tail, .inl ⟨rfl, i, hi, hpos, hlast, hJ⟩⟩)
    ·
     try simp only [zA, zB, zC, zD, zE, zF] at h72
     refine w_exit ?_
     refine q_then_exit ?_
     refine q_then_exit ?_
     refine q_blk_this ?_
     refine q_then (hK61 _ _ ?_)
     refine w_seq (fun K87 hK86 => ?_)
     refine w_region ?_
     refine w_p (y_assign (v := _) rfl rfl) rfl ?_
     refine w_nil ?_
     refine q_then (hK86 _ _ ?_)
     refine w_ret ?_
     refine q_ret (l := [.tmp 7]) (vs := [_]) rfl ⟨⟨rfl, show _ = (.bool _ : Value) from rfl⟩, trivial⟩ ?_
     first
       | exact ⟨cur, cur, B, M2, hcl, hcl, hkt, hz, hM2, hs.tail, .inl ⟨rfl, i, hi, leaf_none hpos (can_n hci2 (by assumption) (by assumption)), hnc, hJ⟩⟩
       | exact ⟨cur, cur, B1, M1, hcl, hcl, hkt, hz, hM1, hs.tail, .inl ⟨rfl, i + 1, drop_lt hpos2, drop_next hpos2, hnc, hJ1⟩⟩
       | exact ⟨cur, cur, B1, M1, hcl, hcl, hkt, hz, hM1, hs.tail, .inr ⟨rfl, hJ1⟩⟩
       | exact ⟨cur2, last2, B2, M3, hc2, hl2, take_less hk2 hpl, hz2, hM3, hs.tail, .inr ⟨rfl, hJ2⟩⟩
       | (rw [restK_done (by omega), List.nil_append] at hpos
          rw [restF_done (by omega), List.nil_append] at hlast
          exact ⟨cur, last, B, M, hcl, hll, hkt, hz, hM, hs.tail, .inl ⟨rfl, i, hi, hpos, hlast, hJ⟩⟩)

end Go.Proofs
/- Walks of this seat, printed by gen.py over the engine: what each function returns, in whatever world. No conditions but those of each contract. -/
set_option linter.unusedVariables false
set_option linter.unusedSimpArgs false
set_option maxRecDepth 20000
namespace Go.Proofs
open Go.Rt Go.Rt.Ch
open Go.Rt.Ha (firstE firstE_step firstE_stop firstE_end failE nameE felt spanL upto span_mem listL fewest fewTo bit before fewStep drop_lt drop_get drop_next drop_done drop_notin set_take set_zero take_less)
attribute [local irreducible] WL WC Con Yd At Ats Sl Agree DW

theorem next_all {w0 : World} {F : List (Nat × Obj)} (b : Board) (p : AtB) (bb mm : Nat) (hk : BK w0 F b p bb mm)  (bp bl bla bY bn : Nat) (h1 : Ats w0 F bp 0 [.pointer (some ⟨bb, 0, none⟩)]) (Ls : List (List Int)) (J : Nat → List (Nat × Obj) → Prop) (Js : List (Nat × Obj) → Prop) (yv : Value) (hy : ∀ (i : Nat) (x : List Int) (R : List (List Int)) (B M X : List (Nat × Obj)) (w : World), Ls.drop i = x :: R → J i B → Memo w0 b mm M → St w0 w (X ++ (B ++ (M ++ F))) → FCon Try.prog yv [ia x] w fun v w' => ∃ B' M', Memo w0 b mm M' ∧ St w0 w' (X ++ (B' ++ (M' ++ F))) ∧ (v = .bool true ∧ J (i + 1) B' ∨ v = .bool false ∧ Js B')) (rem : Nat) : NextC b mm bp bl bla bY bn Ls J Js yv w0 F rem := by
  induction rem with
  | zero => exact c107 b p bb mm hk bp bl bla bY bn h1 Ls J Js yv hy 0 (fun r h => by omega)
  | succ r ih => exact c107 b p bb mm hk bp bl bla bY bn h1 Ls J Js yv hy (r + 1) (fun q h => by have : q = r := (by omega); subst this; exact ih)
theorem iter_memo {w0 : World} {F : List (Nat × Obj)} {b : Board} {mm : Nat} {Ls : List (List Int)} {J : Nat → List (Nat × Obj) → Prop} {Js : List (Nat × Obj) → Prop} {J0 : Nat → List (Nat × Obj) → Prop} {Js0 : List (Nat × Obj) → Prop} (hJi : ∀ i Bx, J i Bx ↔ ∃ B M, Bx = B ++ M ∧ Memo w0 b mm M ∧ J0 i B) (hJs : ∀ Bx, Js Bx ↔ ∃ B M, Bx = B ++ M ∧ Memo w0 b mm M ∧ Js0 B) {yv : Value}
    (hy : ∀ i (hi : i < (Ls.map ia).length) B X w, J i B → St w0 w (X ++ (B ++ F)) → FCon Try.prog yv [(Ls.map ia)[i]] w fun v w' => ∃ B', St w0 w' (X ++ (B' ++ F)) ∧ (v = .bool true ∧ J (i + 1) B' ∨ v = .bool false ∧ Js B')) :
    ∀ (i : Nat) (x : List Int) (R : List (List Int)) (B M X : List (Nat × Obj)) (w : World), Ls.drop i = x :: R → J0 i B → Memo w0 b mm M → St w0 w (X ++ (B ++ (M ++ F))) → FCon Try.prog yv [ia x] w fun v w' => ∃ B' M', Memo w0 b mm M' ∧ St w0 w' (X ++ (B' ++ (M' ++ F))) ∧ (v = .bool true ∧ J0 (i + 1) B' ∨ v = .bool false ∧ Js0 B') := by
  intro i x R B M X w hd hJ hM hs
  have h := hy i (by simpa using drop_lt hd) (B ++ M) X w ((hJi _ _).2 ⟨B, M, rfl, hM, hJ⟩) (by rw [List.append_assoc]; exact hs)
  rw [List.getElem_map, drop_get hd] at h
  refine h.mono ?_
  rintro v w' ⟨Bx, hs', (⟨rfl, hj⟩ | ⟨rfl, hj⟩)⟩
  · obtain ⟨B', M', rfl, hM', hJ'⟩ := (hJi _ _).1 hj
    exact ⟨B', M', hM', by rw [List.append_assoc] at hs'; exact hs', .inl ⟨rfl, hJ'⟩⟩
  · obtain ⟨B', M', rfl, hM', hJ'⟩ := (hJs _).1 hj
    exact ⟨B', M', hM', by rw [List.append_assoc] at hs'; exact hs', .inr ⟨rfl, hJ'⟩⟩
theorem some_perm (p c : Nat × Obj) (X M F : List (Nat × Obj)) : (p :: c :: (X ++ (M ++ F))).Perm (([c] ++ M) ++ (p :: (X ++ F))) :=
  (perm_mid [p] [c] (X ++ (M ++ F))).trans (List.Perm.append_left [c] (perm_mid (p :: X) M F))
theorem mid_back {w0 w : World} {a : Nat × Obj} {X M F : List (Nat × Obj)} (h : St w0 w (M ++ (a :: (X ++ F)))) : St w0 w (X ++ (M ++ F)) := by
  have h1 := (h.perm (perm_mid M [a] (X ++ F))).tail
  exact St.perm (L := M ++ (X ++ F)) h1 (perm_mid M X F)
theorem truths_iter {w0 : World} {F : List (Nat × Obj)} (b : Board) (p : AtB) (bb mm : Nat) (hk : BK w0 F b p bb mm)  (bp : Nat) (h1 : Ats w0 F bp 0 [.pointer (some ⟨bb, 0, none⟩)]) : IterC Try.prog 106 [] [.pointer (some ⟨bp, 0, none⟩)] (((truths b).map pad4).map ia) w0 F (ClsM (Memo w0 b mm)) := by
  intro J Js hcl yv B X w hyv hy hJ hs
  obtain ⟨J0, Js0, hJi, hJs⟩ := hcl
  obtain ⟨yf, ya, yb, rfl⟩ := hyv
  obtain ⟨B0, M, rfl, hM, hJ0⟩ := (hJi 0 B).1 hJ
  replace hs : St w0 w (X ++ (B0 ++ (M ++ F))) := by rw [List.append_assoc] at hs; exact hs
  have hlh := hk.ok.lh
  show Con Try.prog 106 [.func yf ya yb, .pointer (some ⟨bp, 0, none⟩)] w _
  refine con_of_wc (n := 10) Try.func106 rfl rfl (Nat.le_of_ble_eq_true rfl) ?_
  refine w_seq (fun K2 hK1 => ?_)
  refine w_region ?_
  refine w_box (v := .func _ _ _) (cs := [_]) want_none rfl rfl rfl hs (fun b3 w4 hs5 => ?_)
  refine w_nil ?_
  refine q_then (hK1 _ _ ?_)
  refine w_seq (fun K7 hK6 => ?_)
  refine w_region ?_
  refine w_alloc (cs := iv [0, 0, 0, 0]) want_none Try.zeroValue100 rfl hs5 (fun b8 w9 hs10 => ?_)
  refine w_alloc (cs := iv [0, 0, 0, 0]) want_none Try.zeroValue100 rfl hs10 (fun b11 w12 hs13 => ?_)
  refine w_nil ?_
  refine q_then (hK6 _ _ ?_)
  refine w_seq (fun K15 hK14 => ?_)
  refine w_region ?_
  refine w_p (y_indexA Try.underlying100 Try.sizeOf3 rfl rfl rfl rfl (i := 0) rfl (by omega)) rfl ?_
  refine w_storeAtI (i := 0) (j := 0) want_none Try.sizeOf3 rfl rfl rfl rfl hs13 rfl (by first | omega | rfl | (simp only [List.length_map, List.length_set, List.length_append, List.length_take, List.length_drop, List.length_replicate, List.length_cons, List.length_nil] <;> omega)) (fun w16 hs17 => ?_)
  refine w_nil ?_
  refine q_then (hK14 _ _ ?_)
  refine w_seq (fun K19 hK18 => ?_)
  refine w_region ?_
  refine w_alloc (cs := [_]) want_none Try.zeroValue123 rfl hs17 (fun b20 w21 hs22 => ?_)
  refine w_nil ?_
  refine q_then (hK18 _ _ ?_)
  refine w_seq (fun K24 hK23 => ?_)
  refine w_region ?_
  refine w_p (y_makeFunc (fv := []) (cv := [_, _, _, _, _]) rfl rfl rfl rfl) rfl ?_
  refine w_store (i := 0) (v := .func _ _ _) (vs := [_]) want_none Try.sizeOf123 rfl rfl rfl rfl rfl (by simp [Value.oneCell']) hs22 rfl (Nat.le_of_ble_eq_true rfl) (fun w25 hs26 => ?_)
  refine w_nil ?_
  refine q_then (hK23 _ _ ?_)
  refine w_region ?_
  refine w_p (y_load1 Try.isAgg123 hs26 rfl rfl (ats_own (i := 0) (vs := [_]) rfl rfl)) rfl ?_
  refine w_call want_none Try.call107 rfl rfl rfl rfl (next_all b p bb mm hk bp b8 b11 b3 b20 h1 ((truths b).map pad4) J0 Js0 (.func yf ya yb) (iter_memo hJi hJs hy) b.hours.length 0 [] (List.replicate 4 0) [-1, 0, 0, 0] 0 [] [] B0 M X _ (by omega) rfl (fun j _ h => by omega) rfl rfl (fun j _ => by match j with | 0 => rfl | 1 => rfl | 2 => rfl | 3 => rfl | _ + 4 => rfl) (by omega) (by rw [List.append_nil, segK_all]; rfl) rfl (by rw [List.append_nil, segF_all]; exact pads_nodup b) (by rw [List.append_nil, segF_all]; exact start_last4 hk.ok) hJ0 hM hs26) ?_
  rintro _ w28 ⟨cur2, last2, B2, M2, _, _, _, _, hM2, hs29, hB2⟩
  refine w_nil ?_
  refine q_end (l := []) (vs := []) rfl trivial ?_
  refine ⟨B2 ++ M2, by rw [List.append_assoc]; exact hs29.tail.tail.tail.tail, ?_⟩
  rcases hB2 with ⟨_, i', hi', hd', _, hJ'⟩ | ⟨_, hJ'⟩
  · left; rw [List.length_map, ← drop_done hi' hd']; exact (hJi _ _).2 ⟨B2, M2, rfl, hM2, hJ'⟩
  · exact .inr ((hJs _).2 ⟨B2, M2, rfl, hM2, hJ'⟩)

theorem c80 {w0 w : World} {F : List (Nat × Obj)} (bb : Nat) (hs : St w0 w F) :
  Con Try.prog 80 [.pointer (some ⟨bb, 0, none⟩)] w fun v w' => ∃ bp, v = .func (.func 106) #[] #[.pointer (some ⟨bp, 0, none⟩)] ∧ St w0 w' ((bp, blk 95 [.pointer (some ⟨bb, 0, none⟩)]) :: F) := by
  refine con_of_wc (n := 4) Try.func80 rfl rfl (Nat.le_of_ble_eq_true rfl) ?_
  refine w_seq (fun K2 hK1 => ?_)
  refine w_region ?_
  refine w_box (v := .pointer _) (cs := [_]) want_none rfl rfl rfl hs (fun b3 w4 hs5 => ?_)
  refine w_p (y_assign (v := _) rfl rfl) rfl ?_
  refine w_nil ?_
  refine q_then (hK1 _ _ ?_)
  refine w_seq (fun K7 hK6 => ?_)
  refine w_region ?_
  refine w_p (y_makeFunc (fv := []) (cv := [_]) rfl rfl rfl rfl) rfl ?_
  refine w_p (y_assign (v := .func _ _ _) rfl rfl) rfl ?_
  refine w_nil ?_
  refine q_then (hK6 _ _ ?_)
  refine w_ret ?_
  refine q_ret (l := [.tmp 2]) (vs := [_]) rfl ⟨⟨rfl, show _ = (.func _ _ _ : Value) from rfl⟩, trivial⟩ ?_
  exact ⟨_, rfl, hs5⟩

theorem c87 {w0 w : World} {X M F : List (Nat × Obj)} (b : Board) (p : AtB) (bb mm : Nat) (hk : BK w0 F b p bb mm)  (hM : Memo w0 b mm M) (hs : St w0 w (X ++ (M ++ F))) :
  Con Try.prog 87 [.pointer (some ⟨bb, 0, none⟩)] w fun v w' => v = .bool (!(truths b).isEmpty) ∧ ∃ M', Memo w0 b mm M' ∧ St w0 w' (X ++ (M' ++ F)) := by
  refine con_of_wcM (n := 6) Try.func87 rfl rfl (Nat.le_of_ble_eq_true rfl) ?_
  refine w_seq (fun K2 hK1 => ?_)
  refine w_region ?_
  refine w_alloc (cs := [_]) want_none Try.zeroValue4 rfl hs (fun b3 w4 hs5 => ?_)
  refine w_nil ?_
  refine q_then (hK1 _ _ ?_)
  refine w_seq (fun K7 hK6 => ?_)
  refine w_seq (fun K9 hK8 => ?_)
  refine w_region ?_
  refine w_p (y_move (v := .pointer _) rfl rfl) rfl ?_
  refine w_call want_none Try.call80 rfl rfl rfl rfl (c80 _ hs5) ?_
  rintro _ w11 ⟨bp, rfl, hs12⟩
  refine w_nil ?_
  refine q_then (hK8 _ _ ?_)
  refine w_block ?_
  refine w_rangeC ([_] ++ M) (fun i Bx => ∃ B M, Bx = B ++ M ∧ Memo w0 b mm M ∧ i = 0 ∧ B = [(b3, blk 4 [.bool false])]) (fun c Bx => ∃ B M, Bx = B ++ M ∧ Memo w0 b mm M ∧ (c = .ret ∧ 0 < (truths b).length) ∧ B = [(b3, blk 4 [.bool true])]) rfl rfl rfl Try.call106 (truths_iter b p bb mm hk.app.cons bp (ats_own (i := 0) (vs := [_]) rfl rfl)) (clsM_range (fun i B => i = 0 ∧ B = [(b3, blk 4 [.bool false])]) (fun c B => (c = .ret ∧ 0 < (truths b).length) ∧ B = [(b3, blk 4 [.bool true])]) (fun i Bx => Iff.rfl) (fun c Bx => Iff.rfl)) hs12 (some_perm _ _ _ _ _) ⟨_, M, rfl, hM, rfl, rfl⟩ ?_ ?_ ?_
  ·
   intro lp i hi Bx Xr Xr2 w14 hJ hs K hK13
   obtain ⟨BB, M3, rfl, hM3, rfl, rfl⟩ := hJ
   have hi0 : 0 < (truths b).length := by simpa using hi
   replace hs := (show St _ _ (_ :: (M3 ++ (Xr ++ (_ :: (X ++ F))))) from hs)
   refine w_skip ?_
   refine q_then (hK13 _ _ (_ :: M3) hs (fun w15 hs16 => ?_))
   replace hs16 := (show St _ _ (_ :: M3 ++ (Xr2 ++ (_ :: X ++ (F)))) from hs16)
   refine w_block ?_
   refine w_seq (fun K18 hK17 => ?_)
   refine w_region ?_
   refine w_store (i := 0) (v := .bool _) (vs := [_]) want_none Try.sizeOf4 rfl rfl rfl rfl rfl (by simp [Value.oneCell']) hs16 rfl (Nat.le_of_ble_eq_true rfl) (fun w19 hs20 => ?_)
   refine w_nil ?_
   refine q_then (hK17 _ _ ?_)
   refine w_ret ?_
   refine q_blk_ret ?_
   refine rd_ret (_ :: M3) hs20 ?_
   exact ⟨[_], M3, rfl, hM3, ⟨rfl, hi0⟩, rfl⟩
  ·
   intro bd Bx w21 hJ hs
   obtain ⟨BB, M3, rfl, hM3, h0, rfl⟩ := hJ
   rw [List.length_map, List.length_map] at h0
   replace hs := (show St _ _ (_ :: _ :: (M3 ++ (_ :: (X ++ F)))) from hs)
   refine q_blk_normal ?_
   refine q_then (hK6 _ _ ?_)
   refine w_seq (fun K23 hK22 => ?_)
   refine w_region ?_
   refine w_store (i := 1) (v := .bool _) (vs := [_]) want_none Try.sizeOf4 rfl rfl rfl rfl rfl (by simp [Value.oneCell']) hs rfl (Nat.le_of_ble_eq_true rfl) (fun w24 hs25 => ?_)
   refine w_nil ?_
   refine q_then (hK22 _ _ ?_)
   refine w_ret ?_
   refine q_retM (i := 0) (l := [.cell 2 4]) (vs := [_]) hs25 rfl rfl (fun w26 hs27 => ⟨⟨⟨rfl, _, rfl, run_loadVar1 Try.isAgg4 hs27 (ats_own (i := 1) (vs := [_]) rfl rfl)⟩, trivial⟩, ?_⟩)
   first
     | exact ⟨congrArg Value.bool (by rw [List.length_eq_zero_iff.1 h0]; rfl), M3, hM3, mid_back hs27.tail.tail⟩
     | exact ⟨congrArg Value.bool (by cases hd : truths b with | nil => rw [hd] at h0; simp at h0 | cons _ _ => rfl), M3, hM3, mid_back hs27.tail.tail⟩
  ·
   intro bd c Bx w28 hJ hs
   obtain ⟨BB, M3, rfl, hM3, ⟨rfl, h0⟩, rfl⟩ := hJ
   replace hs := (show St _ _ (_ :: _ :: (M3 ++ (_ :: (X ++ F)))) from hs)
   refine w_ret ?_
   refine q_blk_ret ?_
   refine q_then_ret ?_
   refine q_retM (i := 0) (l := [.cell 2 4]) (vs := [_]) hs rfl rfl (fun w29 hs30 => ⟨⟨⟨rfl, _, rfl, run_loadVar1 Try.isAgg4 hs30 (ats_own (i := 1) (vs := [_]) rfl rfl)⟩, trivial⟩, ?_⟩)
   first
     | exact ⟨congrArg Value.bool (by rw [List.length_eq_zero_iff.1 h0]; rfl), M3, hM3, mid_back hs30.tail.tail⟩
     | exact ⟨congrArg Value.bool (by cases hd : truths b with | nil => rw [hd] at h0; simp at h0 | cons _ _ => rfl), M3, hM3, mid_back hs30.tail.tail⟩

end Go.Proofs
