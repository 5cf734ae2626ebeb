/- Own texts of this claim, joined. No conditions. -/
import Derived.Test.YtgndnnpadkoagaaRows
import Derived.OpenShut
import Derived.Test.YtgndnnpadkoagaaHChainKnowna
import Derived.Test.YtgndnnpadkoagaaHChainKnownb
/- Walks of this seat, printed by gen.py over the engine: what each function returns, in whatever world. No conditions but those of each contract. -/
set_option linter.unusedVariables false
set_option linter.unusedSimpArgs false
set_option maxRecDepth 20000
namespace Go.Proofs
open Go.Rt Go.Rt.Ch
open Go.Rt.Ha (firstE firstE_step firstE_stop firstE_end failE nameE felt spanL upto span_mem listL fewest fewTo bit)
attribute [local irreducible] WL WC Con Yd At Ats Sl Agree DW
theorem Try_info3 : Try.prog.info? 3 = some Try.t3 := by kernel_rfl
theorem Try_C_fb1 (x0 : Int) (w : World) : (Instr.buildSlice 39 1 [(0, .int .i64 x0)].toArray).run Try.prog w = .ok (.slice (some ⟨w.heap.size, 0, none⟩) 1 1) (w.alloc (Go.Rt.blk 3 [.int .i64 x0])) := by kernel_rfl
theorem Try_C_fb2 (x0 : Int) (x1 : Int) (w : World) : (Instr.buildSlice 39 2 [(0, .int .i64 x0), (1, .int .i64 x1)].toArray).run Try.prog w = .ok (.slice (some ⟨w.heap.size, 0, none⟩) 2 2) (w.alloc (Go.Rt.blk 3 [.int .i64 x0, .int .i64 x1])) := by kernel_rfl
theorem sl_hrows {w0 : World} {F : List (Nat × Obj)} {a : Option Addr} {l : List Hour} {i : Nat} (h : Sl w0 F a 3 (hrows l)) (hi : i < l.length) : ∃ b off, a = some ⟨b, off, none⟩ ∧ Ats w0 F b (off + i * 3) l[i].cells := by
  obtain ⟨b, off, ha, _, hat⟩ := h.at (i := i) (row := l[i].cells) (by simp [hrows, hi])
  exact ⟨b, off, ha, hat⟩
theorem krows_at {l : List Ctr} {q : Nat → AtC} {i : Nat} (hi : i < l.length) : (krows l q)[i]? = some (l[i].cells (q i)) := by simp [krows, hi]
theorem krows_len (l : List Ctr) (q : Nat → AtC) : (krows l q).length = l.length := by simp [krows]
theorem krows_row (l : List Ctr) (q : Nat → AtC) : ∀ row ∈ krows l q, row.length = 6 := by
  intro row h
  obtain ⟨i, hi, rfl⟩ := List.getElem_of_mem h
  simp [krows, Ctr.cells]
theorem sl_krows {w0 : World} {F : List (Nat × Obj)} {a : Option Addr} {l : List Ctr} {q : Nat → AtC} {i : Nat} (h : Sl w0 F a 6 (krows l q)) (hi : i < l.length) : ∃ b off, a = some ⟨b, off, none⟩ ∧ Ats w0 F b (off + i * 6) (l[i].cells (q i)) := by
  obtain ⟨b, off, ha, _, hat⟩ := h.at (i := i) (row := l[i].cells (q i)) (krows_at hi)
  exact ⟨b, off, ha, hat⟩
/-- What is known of a board that comes in. -/
structure BIn (w0 : World) (F : List (Nat × Obj)) (b : Board) (p : AtB) : Prop where
  h : Sl w0 F p.ah 3 (hrows b.hours)
  c : Sl w0 F p.ac 6 (krows b.ctrs p.pc)
  z : ∀ i (hi : i < b.ctrs.length), Sl w0 F (p.pc i).az 1 (b.ctrs[i].zero.map fun x => [Value.int .i64 x])
  s : ∀ i (hi : i < b.ctrs.length), Sl w0 F (p.pc i).as 1 (b.ctrs[i].shown.map fun x => [Value.int .i64 x])
  lh : b.hours.length ≤ 9223372036854775807
  lc : b.ctrs.length ≤ 9223372036854775807
  ch : b.hours.length ≤ p.ch
  cc : b.ctrs.length ≤ p.cc
  lz : ∀ i (hi : i < b.ctrs.length), b.ctrs[i].zero.length ≤ 9223372036854775807 ∧ b.ctrs[i].zero.length ≤ (p.pc i).cz
  ls : ∀ i (hi : i < b.ctrs.length), b.ctrs[i].shown.length ≤ 9223372036854775807 ∧ b.ctrs[i].shown.length ≤ (p.pc i).cs
  nm : ∀ x ∈ b.ctrs, x.name.size ≤ 9223372036854775807
theorem BIn.mono {w0 : World} {F F' : List (Nat × Obj)} {b : Board} {p : AtB} (h : BIn w0 F b p) (hs : ∀ w, St w0 w F' → St w0 w F) : BIn w0 F' b p := ⟨h.h.mono hs, h.c.mono hs, fun i hi => (h.z i hi).mono hs, fun i hi => (h.s i hi).mono hs, h.lh, h.lc, h.ch, h.cc, h.lz, h.ls, h.nm⟩
theorem BIn.cons {w0 : World} {F : List (Nat × Obj)} {x : Nat × Obj} {b : Board} {p : AtB} (h : BIn w0 F b p) : BIn w0 (x :: F) b p := h.mono fun _ h => h.tail
theorem BIn.app {w0 : World} {F B : List (Nat × Obj)} {b : Board} {p : AtB} (h : BIn w0 F b p) : BIn w0 (B ++ F) b p := h.mono fun _ h => h.drop
theorem tup3 {x : Int × Int × Int} {a b c : Int} (h : x = (a, b, c)) : Value.tuple #[.int .i64 a, .int .i64 b, .int .i64 c] = .tuple #[.int .i64 x.1, .int .i64 x.2.1, .int .i64 x.2.2] := by subst h; rfl
theorem out_nat (k : Int) (n : Nat) : out 0 k (n : Int) = decide (k < (n : Int)) := by unfold out; rw [Bool.eq_iff_iff]; simp; intro h; omega
theorem yd_cast {P : Program} {a : Act} {o : Oper} {w : World} {k : IntKind} {z z' : Int} (h : z = z') (hy : Yd P a o w (.int k z)) : Yd P a o w (.int k z') := h ▸ hy
theorem iv1 {a b : Int} (h : a = b) : [Value.int .i64 a] = [Value.int .i64 b] := by rw [h]
theorem iv2 {a b c d : Int} (h : a = b) (h2 : c = d) : [Value.int .i64 a, Value.int .i64 c] = [Value.int .i64 b, Value.int .i64 d] := by rw [h, h2]
theorem own_rows0 {w0 : World} {v : Value} {t : TypeId} {sz n : Nat} {xs : List Value} {B : List (Nat × Obj)} {rows : List (List Value)} (h : Rt.Own v t sz n xs B) (hr : ∀ row ∈ rows, row.length = sz) (hn : rows.length = n) (hx : xs = rows.flatten) : ∃ a c, v = .slice a n c ∧ Sl w0 B a sz rows ∧ n ≤ c ∧ (a = none → c = 0) := by
  subst hx
  rcases h.2 with ⟨h2, h0, rfl⟩ | ⟨b, cap, cs, h2, rfl, h4, _, _, h5⟩
  · have : rows = [] := List.length_eq_zero_iff.1 (by omega)
    subst this
    exact ⟨none, 0, by rw [h2, ← hn]; rfl, Sl.nil _ _, by omega, fun _ => rfl⟩
  · exact ⟨some ⟨b, 0, none⟩, cap, h2, sl_own (i := 0) rfl hr (by rw [hn]; exact h5), by omega, fun h => by cases h⟩
theorem _root_.Go.Rt.Sl.top {w0 : World} {B F : List (Nat × Obj)} {a : Option Addr} {sz : Nat} {rows : List (List Value)} (h : Sl w0 B a sz rows) : Sl w0 (B ++ F) a sz rows := h.mono fun _ h => h.front
theorem _root_.Go.Rt.Ats.top {w0 : World} {B F : List (Nat × Obj)} {b off : Nat} {vs : List Value} (h : Ats w0 B b off vs) : Ats w0 (B ++ F) b off vs := h.mono fun _ h => h.front
theorem yd_slice {P : Program} {a : Act} {o : Oper} {w : World} {x y : Option Addr} {l c : Nat} (h : x = y) (hy : Yd P a o w (.slice x l c)) : Yd P a o w (.slice y l c) := h ▸ hy
theorem swp2 {w0 w : World} {a b : Nat × Obj} {F : List (Nat × Obj)} (h : St w0 w (a :: b :: F)) : St w0 w (b :: a :: F) := h.perm (perm_mid [a] [b] F)
theorem vi {v : Value} {a b : Int} (h : a = b) : [v, Value.int .i64 a] = [v, Value.int .i64 b] := by rw [h]
/-- Where the first one with a property is. -/
def cidx (p : Ctr → Bool) : List Ctr → Int → Int
  | [], _ => -1
  | g :: l, i => if p g then i else cidx p l (i + 1)
theorem cidx_step {p : Ctr → Bool} {l : List Ctr} {i : Nat} (hi : i < l.length) (h : p l[i] = false) : cidx p (l.drop i) i = cidx p (l.drop (i + 1)) (i + 1 : Nat) := by
  rw [List.drop_eq_getElem_cons hi]; simp only [cidx, h]; rfl
theorem cidx_here {p : Ctr → Bool} {l : List Ctr} {i : Nat} (hi : i < l.length) (h : p l[i] = true) : cidx p (l.drop i) i = i := by
  rw [List.drop_eq_getElem_cons hi]; simp only [cidx, h]; rfl
theorem cidx_end {p : Ctr → Bool} {l : List Ctr} {i : Nat} (hi : l.length ≤ i) : cidx p (l.drop i) i = -1 := by
  rw [List.drop_of_length_le hi]; rfl
theorem cidx_any (p : Ctr → Bool) : ∀ (l : List Ctr) (i : Int), 0 ≤ i → decide (0 ≤ cidx p l i) = l.any p
  | [], i, h => by simp [cidx]
  | g :: l, i, h => by
    rw [List.any_cons, ← cidx_any p l (i + 1) (by omega), Bool.eq_iff_iff]
    by_cases hp : p g = true
    · simp [cidx, hp, h]
    · simp [cidx, hp]
theorem krows_take {l : List Ctr} {q : Nat → AtC} {i : Nat} : (krows l q).take i = krows (l.take i) q := by
  refine List.ext_getElem? fun k => ?_
  rw [List.getElem?_take]
  by_cases hk : k < i
  · rw [if_pos hk]; simp [krows, List.getElem?_take, hk]
  · rw [if_neg hk]; simp [krows, List.getElem?_take, hk]
theorem sl_takeK {w0 : World} {F : List (Nat × Obj)} {a : Option Addr} {l : List Ctr} {q : Nat → AtC} {i c : Nat} (h : Sl w0 F a 6 (krows l q)) (hi : i ≤ l.length) (hc : l.length ≤ c) : Sl w0 F (if c = 0 then a else a.map (·.add (0 * 6))) 6 (krows (l.take i) q) := by
  have := h.cut (l' := 0) (h' := i) (c := c) (by omega) (by rw [krows_len]; exact hi) (by rw [krows_len]; exact hc)
  simpa [krows_take] using this
theorem has_namesK (l : List Ctr) (s : ByteArray) : (l.any fun x => decide (x.name = s)) = has (l.map (·.name)) s := by
  simp [has, List.any_map, Function.comp_def]
theorem ctrE_a {n : Nat} {bf : List Ctr} {c : Ctr} (h : nmOk c.name = false) : ctrE n bf c = 6 := by unfold ctrE nameE; simp [h]
theorem ctrE_b {n : Nat} {bf : List Ctr} {c : Ctr} (h : nmOk c.name = true) (h2 : (bf.any fun x => decide (x.name = c.name)) = true) : ctrE n bf c = 5 := by
  rw [has_namesK] at h2
  unfold ctrE nameE; rw [h, h2]; rfl
theorem ctrE_c {n : Nat} {bf : List Ctr} {c : Ctr} (h : nmOk c.name = true) (h2 : (bf.any fun x => decide (x.name = c.name)) = false) : ctrE n bf c = if (out 0 3 c.skip || out 0 3 c.twice) || out 0 99 c.start then 7 else if c.zero.length ≠ n ∨ c.shown.length ≠ n then 3 else if c.zero.any (out 0 2) || c.shown.any (out (-1) 99) then 7 else 0 := by
  rw [has_namesK] at h2
  unfold ctrE nameE; rw [h, h2]; rfl
theorem ctrE_d {n : Nat} {bf : List Ctr} {c : Ctr} (h : nmOk c.name = true) (h2 : (bf.any fun x => decide (x.name = c.name)) = false) (h3 : ((out 0 3 c.skip || out 0 3 c.twice) || out 0 99 c.start) = false) (h4 : ¬ (c.zero.length = n ∧ c.shown.length = n)) : ctrE n bf c = 3 := by
  rw [ctrE_c h h2, h3, if_neg (by simp), if_pos (by omega)]
theorem ctrE_e {n : Nat} {bf : List Ctr} {c : Ctr} (h : nmOk c.name = true) (h2 : (bf.any fun x => decide (x.name = c.name)) = false) (h3 : ((out 0 3 c.skip || out 0 3 c.twice) || out 0 99 c.start) = false) (h4 : c.zero.length = n ∧ c.shown.length = n) : ctrE n bf c = if c.zero.any (out 0 2) || c.shown.any (out (-1) 99) then 7 else 0 := by
  rw [ctrE_c h h2, h3, if_neg (by simp), if_neg (by omega)]
theorem c52 {w0 w : World} {F : List (Nat × Obj)} (a : Option Addr) (c : Nat) (l : List Hour) (hl : l.length ≤ 9223372036854775807) (ha : Sl w0 F a 3 (hrows l)) (fv : Value) (err : List Hour → Hour → Int)
    (hp : ∀ (i : Nat) (hi : i < l.length) (X : List (Nat × Obj)) (w : World), St w0 w (X ++ F) → FCon Try.prog fv [.int .i64 i, .agg l[i].cells.toArray] w fun v w' => v = .int .i64 (err (l.take i) l[i]) ∧ St w0 w' (X ++ F)) (hs : St w0 w F) :
  Con Try.prog 52 [.slice a l.length c, fv] w fun v w' => v = .tuple #[.int .i64 (firstE err [] 0 l).1, .int .i64 (firstE err [] 0 l).2] ∧ St w0 w' F := by
  refine con_of_wc (n := 25) Try.func52 rfl rfl (Nat.le_of_ble_eq_true rfl) ?_
  refine w_seq (fun K2 hK1 => ?_)
  refine w_region ?_
  refine w_pure want_none (y_assign (v := _) rfl rfl) rfl ?_
  refine w_pure want_none (y_assign (v := _) rfl rfl) rfl ?_
  refine w_nil ?_
  refine q_then (hK1 _ _ ?_)
  refine w_seq (fun K4 hK3 => ?_)
  refine w_seq (fun K6 hK5 => ?_)
  refine w_region ?_
  refine w_pure want_none (y_move (v := .slice _ _ _) rfl rfl) rfl ?_
  refine w_pure want_none (y_lenS Try.underlying22 rfl rfl) rfl ?_
  refine w_pure want_none (y_move (v := _) rfl rfl) rfl ?_
  refine w_nil ?_
  refine q_then (hK5 _ _ ?_)
  refine w_block ?_
  refine w_loop [4, 5, 6, 7, 8, 11, 12, 13, 14, 15, 16, 17, 18, 19, 20, 21, 22, 23, 24] [11] (fun k vs w => ∃ (i : Nat), vs = [.int .i64 i] ∧ i ≤ l.length ∧ k = l.length - i ∧ firstE err [] 0 l = firstE err (l.take i) i (l.drop i) ∧ St w0 w F) (l.length) ?_ ?_
  ·
   exact ⟨0, rfl, by omega, by omega, by simp, hs⟩
  ·
   intro k vs μ w9 hI K8 hN7
   obtain ⟨i, rfl, hia, rfl, hinv, hs⟩ := hI
   refine w_seq (fun K11 hK10 => ?_)
   refine w_region ?_
   refine w_pure want_none (y_lss rfl rfl rfl rfl) rfl ?_
   refine w_nil ?_
   refine q_then (hK10 _ _ ?_)
   refine w_seq (fun K13 hK12 => ?_)
   refine w_cond rfl rfl (fun h14 => ?_) (fun h14 => ?_)
   ·
    try simp only [Bool.not_eq_true', Bool.not_eq_false', decide_eq_true_eq, decide_eq_false_iff_not, Int.not_lt, Int.not_le] at h14
    refine w_skip ?_
    refine q_then (hK12 _ _ ?_)
    refine w_seq (fun K16 hK15 => ?_)
    refine w_block ?_
    refine w_seq (fun K18 hK17 => ?_)
    have hi2 : i < l.length := by omega
    obtain ⟨bx, ox, rfl, hx⟩ := sl_hrows ha hi2
    refine w_region ?_
    refine w_pure want_none (y_move (v := .int _ _) rfl rfl) rfl ?_
    refine w_pure want_none (y_indexS Try.underlying22 Try.sizeOf70 rfl rfl rfl rfl (i := _) rfl (by omega)) rfl ?_
    refine w_pure want_none (y_loadN (vs := [_, _, _]) Try.isAgg70 Try.sizeOf70 hs rfl rfl hx) rfl ?_
    refine w_alloc (cs := [_, _, _]) want_none Try.zeroValue70 rfl hs (fun b19 w20 hs21 => ?_)
    refine w_pure want_none (y_assign (v := .int _ _) rfl rfl) rfl ?_
    refine w_store (i := 0) (v := .agg #[.int _ _, .int _ _, .int _ _]) (vs := [_, _, _]) want_none Try.sizeOf70 rfl rfl rfl rfl rfl (by simp [Value.oneCell']) hs21 rfl (Nat.le_of_ble_eq_true rfl) (fun w22 hs23 => ?_)
    refine w_nil ?_
    refine q_then (hK17 _ _ ?_)
    refine w_seq (fun K25 hK24 => ?_)
    refine w_region ?_
    refine w_pure want_none (y_move (v := fv) rfl rfl) rfl ?_
    refine w_pure want_none (y_move (v := .int _ _) rfl rfl) rfl ?_
    refine w_pure want_none (y_loadN (vs := [_, _, _]) Try.isAgg70 Try.sizeOf70 hs23 rfl rfl (ats_own (i := 0) (vs := [_, _, _]) rfl rfl)) rfl ?_
    refine w_callV want_none rfl rfl rfl rfl (hp i hi2 [_] _ hs23) ?_
    rintro _ w27 ⟨rfl, hs28⟩
    refine w_pure want_none (y_assign (v := .int _ _) rfl rfl) rfl ?_
    refine w_nil ?_
    refine q_then (hK24 _ _ ?_)
    refine w_seq (fun K30 hK29 => ?_)
    refine w_region ?_
    refine w_pure want_none (y_move (v := .int _ _) rfl rfl) rfl ?_
    refine w_pure want_none (y_neq rfl rfl rfl rfl) rfl ?_
    refine w_nil ?_
    refine q_then (hK29 _ _ ?_)
    refine w_cond rfl rfl (fun h31 => ?_) (fun h31 => ?_)
    ·
     try simp only [Bool.not_eq_true', Bool.not_eq_false', decide_eq_true_eq, decide_eq_false_iff_not, Int.not_lt, Int.not_le] at h31
     refine w_seq (fun K33 hK32 => ?_)
     refine w_region ?_
     refine w_pure want_none (y_move (v := .int _ _) rfl rfl) rfl ?_
     refine w_pure want_none (y_move (v := .int _ _) rfl rfl) rfl ?_
     refine w_pure want_none (y_assign (v := .int _ _) rfl rfl) rfl ?_
     refine w_pure want_none (y_assign (v := .int _ _) rfl rfl) rfl ?_
     refine w_nil ?_
     refine q_then (hK32 _ _ ?_)
     refine w_ret ?_
     refine q_blk_ret ?_
     refine q_then_ret ?_
     refine q_then_ret ?_
     refine q_blk_ret ?_
     refine q_then_ret ?_
     refine q_ret (l := [.tmp 4, .tmp 5]) (vs := [_, _]) rfl ⟨⟨rfl, show _ = (.int _ _ : Value) from rfl⟩, ⟨rfl, show _ = (.int _ _ : Value) from rfl⟩, trivial⟩ ?_
     first
       | (rw [hinv, firstE_stop hi2 (by assumption)]
          exact ⟨rfl, hs28.tail⟩)
       | (rw [hinv, firstE_end (by omega)]
          exact ⟨rfl, hs28⟩)
    ·
     try simp only [Bool.not_eq_true', Bool.not_eq_false', decide_eq_true_eq, decide_eq_false_iff_not, Int.not_lt, Int.not_le] at h31
     refine w_skip ?_
     refine q_blk_normal ?_
     refine q_then (hK15 _ _ ?_)
     refine w_region ?_
     refine w_pure want_none (y_add rfl rfl rfl rfl (by omega) (by omega)) rfl ?_
     refine w_pure want_none (y_move (v := .int _ _) rfl rfl) rfl ?_
     refine w_nil ?_
     refine q_then (hN7 _ _ (Nx.intro (l.length - (i + 1)) (by omega) (by repeat (first | exact agree_mix | refine agree_upd rfl ?_ | refine agree_updL rfl ?_ _ | refine agree_mixin rfl ?_)) ?_))
     exact ⟨i + 1, rfl, by omega, rfl, hinv.trans (firstE_step hi2 (by assumption)), hs28.tail⟩
   ·
    try simp only [Bool.not_eq_true', Bool.not_eq_false', decide_eq_true_eq, decide_eq_false_iff_not, Int.not_lt, Int.not_le] at h14
    refine w_exit ?_
    refine q_then_exit ?_
    refine q_then_exit ?_
    refine q_blk_this ?_
    refine q_then (hK3 _ _ ?_)
    refine w_seq (fun K35 hK34 => ?_)
    refine w_region ?_
    refine w_pure want_none (y_assign (v := _) rfl rfl) rfl ?_
    refine w_pure want_none (y_assign (v := _) rfl rfl) rfl ?_
    refine w_nil ?_
    refine q_then (hK34 _ _ ?_)
    refine w_ret ?_
    refine q_ret (l := [.tmp 4, .tmp 5]) (vs := [_, _]) rfl ⟨⟨rfl, show _ = (.int _ _ : Value) from rfl⟩, ⟨rfl, show _ = (.int _ _ : Value) from rfl⟩, trivial⟩ ?_
    first
      | (rw [hinv, firstE_stop hi2 (by assumption)]
         exact ⟨rfl, hs.tail⟩)
      | (rw [hinv, firstE_end (by omega)]
         exact ⟨rfl, hs⟩)

theorem c54 {w0 w : World} {F : List (Nat × Obj)} (a : Option Addr) (c : Nat) (l : List Ctr) (q : Nat → AtC) (hl : l.length ≤ 9223372036854775807) (ha : Sl w0 F a 6 (krows l q)) (fv : Value) (err : List Ctr → Ctr → Int)
    (hp : ∀ (i : Nat) (hi : i < l.length) (X : List (Nat × Obj)) (w : World), St w0 w (X ++ F) → FCon Try.prog fv [.int .i64 i, .agg (l[i].cells (q i)).toArray] w fun v w' => v = .int .i64 (err (l.take i) l[i]) ∧ St w0 w' (X ++ F)) (hs : St w0 w F) :
  Con Try.prog 54 [.slice a l.length c, fv] w fun v w' => v = .tuple #[.int .i64 (firstE err [] 0 l).1, .int .i64 (firstE err [] 0 l).2] ∧ St w0 w' F := by
  refine con_of_wc (n := 25) Try.func54 rfl rfl (Nat.le_of_ble_eq_true rfl) ?_
  refine w_seq (fun K2 hK1 => ?_)
  refine w_region ?_
  refine w_pure want_none (y_assign (v := _) rfl rfl) rfl ?_
  refine w_pure want_none (y_assign (v := _) rfl rfl) rfl ?_
  refine w_nil ?_
  refine q_then (hK1 _ _ ?_)
  refine w_seq (fun K4 hK3 => ?_)
  refine w_seq (fun K6 hK5 => ?_)
  refine w_region ?_
  refine w_pure want_none (y_move (v := .slice _ _ _) rfl rfl) rfl ?_
  refine w_pure want_none (y_lenS Try.underlying23 rfl rfl) rfl ?_
  refine w_pure want_none (y_move (v := _) rfl rfl) rfl ?_
  refine w_nil ?_
  refine q_then (hK5 _ _ ?_)
  refine w_block ?_
  refine w_loop [4, 5, 6, 7, 8, 11, 12, 13, 14, 15, 16, 17, 18, 19, 20, 21, 22, 23, 24] [11] (fun k vs w => ∃ (i : Nat), vs = [.int .i64 i] ∧ i ≤ l.length ∧ k = l.length - i ∧ firstE err [] 0 l = firstE err (l.take i) i (l.drop i) ∧ St w0 w F) (l.length) ?_ ?_
  ·
   exact ⟨0, rfl, by omega, by omega, by simp, hs⟩
  ·
   intro k vs μ w9 hI K8 hN7
   obtain ⟨i, rfl, hia, rfl, hinv, hs⟩ := hI
   refine w_seq (fun K11 hK10 => ?_)
   refine w_region ?_
   refine w_pure want_none (y_lss rfl rfl rfl rfl) rfl ?_
   refine w_nil ?_
   refine q_then (hK10 _ _ ?_)
   refine w_seq (fun K13 hK12 => ?_)
   refine w_cond rfl rfl (fun h14 => ?_) (fun h14 => ?_)
   ·
    try simp only [Bool.not_eq_true', Bool.not_eq_false', decide_eq_true_eq, decide_eq_false_iff_not, Int.not_lt, Int.not_le] at h14
    refine w_skip ?_
    refine q_then (hK12 _ _ ?_)
    refine w_seq (fun K16 hK15 => ?_)
    refine w_block ?_
    refine w_seq (fun K18 hK17 => ?_)
    have hi2 : i < l.length := by omega
    obtain ⟨bx, ox, rfl, hx⟩ := sl_krows ha hi2
    refine w_region ?_
    refine w_pure want_none (y_move (v := .int _ _) rfl rfl) rfl ?_
    refine w_pure want_none (y_indexS Try.underlying23 Try.sizeOf76 rfl rfl rfl rfl (i := _) rfl (by omega)) rfl ?_
    refine w_pure want_none (y_loadN (vs := [_, _, _, _, _, _]) Try.isAgg76 Try.sizeOf76 hs rfl rfl hx) rfl ?_
    refine w_alloc (cs := [_, _, _, _, _, _]) want_none Try.zeroValue76 rfl hs (fun b19 w20 hs21 => ?_)
    refine w_pure want_none (y_assign (v := .int _ _) rfl rfl) rfl ?_
    refine w_store (i := 0) (v := .agg #[.string _, .int _ _, .int _ _, .int _ _, .slice _ _ _, .slice _ _ _]) (vs := [_, _, _, _, _, _]) want_none Try.sizeOf76 rfl rfl rfl rfl rfl (by simp [Value.oneCell']) hs21 rfl (Nat.le_of_ble_eq_true rfl) (fun w22 hs23 => ?_)
    refine w_nil ?_
    refine q_then (hK17 _ _ ?_)
    refine w_seq (fun K25 hK24 => ?_)
    refine w_region ?_
    refine w_pure want_none (y_move (v := fv) rfl rfl) rfl ?_
    refine w_pure want_none (y_move (v := .int _ _) rfl rfl) rfl ?_
    refine w_pure want_none (y_loadN (vs := [_, _, _, _, _, _]) Try.isAgg76 Try.sizeOf76 hs23 rfl rfl (ats_own (i := 0) (vs := [_, _, _, _, _, _]) rfl rfl)) rfl ?_
    refine w_callV want_none rfl rfl rfl rfl (hp i hi2 [_] _ hs23) ?_
    rintro _ w27 ⟨rfl, hs28⟩
    refine w_pure want_none (y_assign (v := .int _ _) rfl rfl) rfl ?_
    refine w_nil ?_
    refine q_then (hK24 _ _ ?_)
    refine w_seq (fun K30 hK29 => ?_)
    refine w_region ?_
    refine w_pure want_none (y_move (v := .int _ _) rfl rfl) rfl ?_
    refine w_pure want_none (y_neq rfl rfl rfl rfl) rfl ?_
    refine w_nil ?_
    refine q_then (hK29 _ _ ?_)
    refine w_cond rfl rfl (fun h31 => ?_) (fun h31 => ?_)
    ·
     try simp only [Bool.not_eq_true', Bool.not_eq_false', decide_eq_true_eq, decide_eq_false_iff_not, Int.not_lt, Int.not_le] at h31
     refine w_seq (fun K33 hK32 => ?_)
     refine w_region ?_
     refine w_pure want_none (y_move (v := .int _ _) rfl rfl) rfl ?_
     refine w_pure want_none (y_move (v := .int _ _) rfl rfl) rfl ?_
     refine w_pure want_none (y_assign (v := .int _ _) rfl rfl) rfl ?_
     refine w_pure want_none (y_assign (v := .int _ _) rfl rfl) rfl ?_
     refine w_nil ?_
     refine q_then (hK32 _ _ ?_)
     refine w_ret ?_
     refine q_blk_ret ?_
     refine q_then_ret ?_
     refine q_then_ret ?_
     refine q_blk_ret ?_
     refine q_then_ret ?_
     refine q_ret (l := [.tmp 4, .tmp 5]) (vs := [_, _]) rfl ⟨⟨rfl, show _ = (.int _ _ : Value) from rfl⟩, ⟨rfl, show _ = (.int _ _ : Value) from rfl⟩, trivial⟩ ?_
     first
       | (rw [hinv, firstE_stop hi2 (by assumption)]
          exact ⟨rfl, hs28.tail⟩)
       | (rw [hinv, firstE_end (by omega)]
          exact ⟨rfl, hs28⟩)
    ·
     try simp only [Bool.not_eq_true', Bool.not_eq_false', decide_eq_true_eq, decide_eq_false_iff_not, Int.not_lt, Int.not_le] at h31
     refine w_skip ?_
     refine q_blk_normal ?_
     refine q_then (hK15 _ _ ?_)
     refine w_region ?_
     refine w_pure want_none (y_add rfl rfl rfl rfl (by omega) (by omega)) rfl ?_
     refine w_pure want_none (y_move (v := .int _ _) rfl rfl) rfl ?_
     refine w_nil ?_
     refine q_then (hN7 _ _ (Nx.intro (l.length - (i + 1)) (by omega) (by repeat (first | exact agree_mix | refine agree_upd rfl ?_ | refine agree_updL rfl ?_ _ | refine agree_mixin rfl ?_)) ?_))
     exact ⟨i + 1, rfl, by omega, rfl, hinv.trans (firstE_step hi2 (by assumption)), hs28.tail⟩
   ·
    try simp only [Bool.not_eq_true', Bool.not_eq_false', decide_eq_true_eq, decide_eq_false_iff_not, Int.not_lt, Int.not_le] at h14
    refine w_exit ?_
    refine q_then_exit ?_
    refine q_then_exit ?_
    refine q_blk_this ?_
    refine q_then (hK3 _ _ ?_)
    refine w_seq (fun K35 hK34 => ?_)
    refine w_region ?_
    refine w_pure want_none (y_assign (v := _) rfl rfl) rfl ?_
    refine w_pure want_none (y_assign (v := _) rfl rfl) rfl ?_
    refine w_nil ?_
    refine q_then (hK34 _ _ ?_)
    refine w_ret ?_
    refine q_ret (l := [.tmp 4, .tmp 5]) (vs := [_, _]) rfl ⟨⟨rfl, show _ = (.int _ _ : Value) from rfl⟩, ⟨rfl, show _ = (.int _ _ : Value) from rfl⟩, trivial⟩ ?_
    first
      | (rw [hinv, firstE_stop hi2 (by assumption)]
         exact ⟨rfl, hs.tail⟩)
      | (rw [hinv, firstE_end (by omega)]
         exact ⟨rfl, hs⟩)

theorem c95 {w0 w : World} {F : List (Nat × Obj)} (a : Option Addr) (l : List Ctr) (q : Nat → AtC) (c : Nat) (hla : l.length ≤ 9223372036854775807) (ha : Sl w0 F a 6 (krows l q)) {fk : FuncId} (hC : CF Try.prog fk) (first captured : Array Value) (p : Ctr → Bool)
    (hp : ∀ i (hi : i < l.length), ∀ w, St w0 w F → Con Try.prog fk (first.toList ++ ([.agg (l[i].cells (q i)).toArray] ++ captured.toList)) w fun v w' => v = .bool (p l[i]) ∧ St w0 w' F) (hs : St w0 w F) :
  Con Try.prog 95 [.slice a l.length c, .func (.func fk) first captured] w fun v w' => v = .int .i64 (cidx p l 0) ∧ St w0 w' F := by
  refine con_of_wc (n := 19) Try.func95 rfl rfl (Nat.le_of_ble_eq_true rfl) ?_
  refine w_seq (fun K2 hK1 => ?_)
  refine w_region ?_
  refine w_pure want_none (y_assign (v := _) rfl rfl) rfl ?_
  refine w_nil ?_
  refine q_then (hK1 _ _ ?_)
  refine w_seq (fun K4 hK3 => ?_)
  refine w_seq (fun K6 hK5 => ?_)
  refine w_region ?_
  refine w_pure want_none (y_move (v := .slice _ _ _) rfl rfl) rfl ?_
  refine w_pure want_none (y_lenS Try.underlying23 rfl rfl) rfl ?_
  refine w_pure want_none (y_move (v := _) rfl rfl) rfl ?_
  refine w_nil ?_
  refine q_then (hK5 _ _ ?_)
  refine w_block ?_
  refine w_loop [4, 5, 8, 9, 10, 11, 12, 13, 14, 15, 16, 17, 18] [8] (fun k vs w => ∃ i : Nat, vs = [.int .i64 i] ∧ i ≤ l.length ∧ k = l.length - i ∧ cidx p l 0 = cidx p (l.drop i) i ∧ St w0 w F) (l.length) ?_ ?_
  ·
   exact ⟨0, rfl, by omega, by omega, rfl, hs⟩
  ·
   intro k vs μ w9 hI K8 hN7
   obtain ⟨i, rfl, hia, rfl, hpre, hs⟩ := hI
   refine w_seq (fun K11 hK10 => ?_)
   refine w_region ?_
   refine w_pure want_none (y_lss rfl rfl rfl rfl) rfl ?_
   refine w_nil ?_
   refine q_then (hK10 _ _ ?_)
   refine w_seq (fun K13 hK12 => ?_)
   refine w_cond rfl rfl (fun h14 => ?_) (fun h14 => ?_)
   ·
    try simp only [Bool.not_eq_true', Bool.not_eq_false', decide_eq_true_eq, decide_eq_false_iff_not, Int.not_lt, Int.not_le] at h14
    refine w_skip ?_
    refine q_then (hK12 _ _ ?_)
    refine w_seq (fun K16 hK15 => ?_)
    refine w_block ?_
    refine w_seq (fun K18 hK17 => ?_)
    refine w_region ?_
    refine w_pure want_none (y_move (v := .int _ _) rfl rfl) rfl ?_
    refine w_pure want_none (y_assign (v := .int _ _) rfl rfl) rfl ?_
    refine w_nil ?_
    refine q_then (hK17 _ _ ?_)
    refine w_seq (fun K20 hK19 => ?_)
    have hi2 : i < l.length := by omega
    obtain ⟨bx, ox, rfl, hx⟩ := sl_krows ha hi2
    refine w_region ?_
    refine w_pure want_none (y_move (v := .func _ _ _) rfl rfl) rfl ?_
    refine w_pure want_none (y_move (v := .slice _ _ _) rfl rfl) rfl ?_
    refine w_pure want_none (y_move (v := .int _ _) rfl rfl) rfl ?_
    refine w_pure want_none (y_indexS Try.underlying23 Try.sizeOf76 rfl rfl rfl rfl (i := _) rfl (by omega)) rfl ?_
    refine w_pure want_none (y_loadN (vs := [_, _, _, _, _, _]) Try.isAgg76 Try.sizeOf76 hs rfl rfl hx) rfl ?_
    refine w_call want_none hC rfl rfl rfl rfl (hp i hi2 _ hs) ?_
    rintro _ w22 ⟨rfl, hs23⟩
    refine w_nil ?_
    refine q_then (hK19 _ _ ?_)
    refine w_cond rfl rfl (fun h24 => ?_) (fun h24 => ?_)
    ·
     try simp only [Bool.not_eq_true', Bool.not_eq_false', decide_eq_true_eq, decide_eq_false_iff_not, Int.not_lt, Int.not_le] at h24
     refine w_seq (fun K26 hK25 => ?_)
     refine w_region ?_
     refine w_pure want_none (y_move (v := .int _ _) rfl rfl) rfl ?_
     refine w_pure want_none (y_assign (v := .int _ _) rfl rfl) rfl ?_
     refine w_nil ?_
     refine q_then (hK25 _ _ ?_)
     refine w_ret ?_
     refine q_blk_ret ?_
     refine q_then_ret ?_
     refine q_then_ret ?_
     refine q_blk_ret ?_
     refine q_then_ret ?_
     refine q_ret (l := [.tmp 4]) (vs := [_]) rfl ⟨⟨rfl, show _ = (.int _ _ : Value) from rfl⟩, trivial⟩ ?_
     first
       | exact ⟨congrArg (Value.int .i64) (hpre.trans (cidx_end (by omega))).symm, hs23⟩
       | exact ⟨congrArg (Value.int .i64) (hpre.trans (cidx_here hi2 (by assumption))).symm, hs23⟩
    ·
     try simp only [Bool.not_eq_true', Bool.not_eq_false', decide_eq_true_eq, decide_eq_false_iff_not, Int.not_lt, Int.not_le] at h24
     refine w_skip ?_
     refine q_blk_normal ?_
     refine q_then (hK15 _ _ ?_)
     refine w_region ?_
     refine w_pure want_none (y_add rfl rfl rfl rfl (by omega) (by omega)) rfl ?_
     refine w_pure want_none (y_move (v := .int _ _) rfl rfl) rfl ?_
     refine w_nil ?_
     refine q_then (hN7 _ _ (Nx.intro (l.length - (i + 1)) (by omega) (by repeat (first | exact agree_mix | refine agree_upd rfl ?_ | refine agree_updL rfl ?_ _ | refine agree_mixin rfl ?_)) ?_))
     exact ⟨i + 1, rfl, by omega, rfl, hpre.trans (cidx_step hi2 (by assumption)), hs23⟩
   ·
    try simp only [Bool.not_eq_true', Bool.not_eq_false', decide_eq_true_eq, decide_eq_false_iff_not, Int.not_lt, Int.not_le] at h14
    refine w_exit ?_
    refine q_then_exit ?_
    refine q_then_exit ?_
    refine q_blk_this ?_
    refine q_then (hK3 _ _ ?_)
    refine w_seq (fun K28 hK27 => ?_)
    refine w_region ?_
    refine w_pure want_none (y_assign (v := _) rfl rfl) rfl ?_
    refine w_nil ?_
    refine q_then (hK27 _ _ ?_)
    refine w_ret ?_
    refine q_ret (l := [.tmp 4]) (vs := [_]) rfl ⟨⟨rfl, show _ = (.int _ _ : Value) from rfl⟩, trivial⟩ ?_
    first
      | exact ⟨congrArg (Value.int .i64) (hpre.trans (cidx_end (by omega))).symm, hs⟩
      | exact ⟨congrArg (Value.int .i64) (hpre.trans (cidx_here hi2 (by assumption))).symm, hs⟩

theorem c57 {w0 w : World} {F : List (Nat × Obj)} (a : Option Addr) (l : List Ctr) (q : Nat → AtC) (c : Nat) (hla : l.length ≤ 9223372036854775807) (ha : Sl w0 F a 6 (krows l q)) {fk : FuncId} (hC : CF Try.prog fk) (first captured : Array Value) (p : Ctr → Bool)
    (hp : ∀ i (hi : i < l.length), ∀ w, St w0 w F → Con Try.prog fk (first.toList ++ ([.agg (l[i].cells (q i)).toArray] ++ captured.toList)) w fun v w' => v = .bool (p l[i]) ∧ St w0 w' F) (hs : St w0 w F) :
  Con Try.prog 57 [.slice a l.length c, .func (.func fk) first captured] w fun v w' => v = .bool (l.any p) ∧ St w0 w' F := by
  refine con_of_wc (n := 9) Try.func57 rfl rfl (Nat.le_of_ble_eq_true rfl) ?_
  refine w_seq (fun K2 hK1 => ?_)
  refine w_region ?_
  refine w_pure want_none (y_assign (v := _) rfl rfl) rfl ?_
  refine w_nil ?_
  refine q_then (hK1 _ _ ?_)
  refine w_seq (fun K4 hK3 => ?_)
  refine w_region ?_
  refine w_pure want_none (y_move (v := .slice _ _ _) rfl rfl) rfl ?_
  refine w_pure want_none (y_move (v := .func _ _ _) rfl rfl) rfl ?_
  refine w_call want_none Try.call95 rfl rfl rfl rfl (c95 _ _ _ _ hla ha hC _ _ p hp hs) ?_
  rintro _ w6 ⟨rfl, hs7⟩
  refine w_pure want_none (y_geq rfl rfl rfl rfl) rfl ?_
  refine w_pure want_none (y_assign (v := .bool _) rfl rfl) rfl ?_
  refine w_nil ?_
  refine q_then (hK3 _ _ ?_)
  refine w_ret ?_
  refine q_ret (l := [.tmp 4]) (vs := [_]) rfl ⟨⟨rfl, show _ = (.bool _ : Value) from rfl⟩, trivial⟩ ?_
  exact ⟨congrArg Value.bool (cidx_any p l 0 (by omega)), hs7⟩

theorem c53 {w0 w : World} {F : List (Nat × Obj)} (b : Board) (p : AtB) (hh : 1 ≤ b.holds ∧ b.holds ≤ 3) (i : Int) (h : Hour) (bf : List Hour) (bm : Nat) (hb : Ats w0 F bm 0 (b.cells p)) (hs : St w0 w F) :
  Con Try.prog 53 [.int .i64 i, .agg h.cells.toArray, .pointer (some ⟨bm, 0, none⟩)] w fun v w' => v = .int .i64 (hourE b.holds bf h) ∧ St w0 w' F := by
  refine con_of_wc (n := 33) Try.func53 rfl rfl (Nat.le_of_ble_eq_true rfl) ?_
  refine w_seq (fun K2 hK1 => ?_)
  refine w_region ?_
  refine w_box (v := .agg #[.int _ _, .int _ _, .int _ _]) (cs := [_, _, _]) want_none rfl rfl rfl hs (fun b3 w4 hs5 => ?_)
  refine w_pure want_none (y_assign (v := _) rfl rfl) rfl ?_
  refine w_nil ?_
  refine q_then (hK1 _ _ ?_)
  refine w_seq (fun K7 hK6 => ?_)
  refine w_block ?_
  refine w_seq (fun K9 hK8 => ?_)
  refine w_region ?_
  refine w_pure want_none (y_fieldAddr (o := 0) (i := 0) Try.underlying25 rfl Try.sizeOf3 rfl rfl rfl) rfl ?_
  refine w_pure want_none (y_load1 Try.isAgg3 hs5.tail rfl rfl (show Ats _ _ _ _ [_] from Ats.part hb 0 1)) rfl ?_
  refine w_pure want_none (y_sub rfl rfl rfl rfl (by omega) (by omega)) rfl ?_
  refine w_pure want_none (y_fieldAddr (o := 0) (i := 0) Try.underlying70 rfl Try.sizeOf3 rfl rfl rfl) rfl ?_
  refine w_pure want_none (y_load1 Try.isAgg3 hs5 rfl rfl (ats_own (i := 0) (vs := [_]) rfl rfl)) rfl ?_
  refine w_bslice (ps := [(0, _)]) (pv := [(0, .int _ _)]) (cs := [_]) want_none rfl rfl (fun w => Try_C_fb1 _ w) hs5 (fun b10 w11 hs12 => ?_)
  refine w_call want_none Try.call51 rfl rfl rfl rfl (c51 _ _ _ [_] _ (by simp) (sl_own (i := 0) (rows := [[_]]) rfl (by simp) rfl) hs12) ?_
  rintro _ w14 ⟨rfl, hs15⟩
  refine w_pure want_none (y_assign (v := .bool _) rfl rfl) rfl ?_
  refine w_nil ?_
  refine q_then (hK8 _ _ ?_)
  refine w_cond rfl rfl (fun h16 => ?_) (fun h16 => ?_)
  ·
   try simp only [Bool.not_eq_true', Bool.not_eq_false', decide_eq_true_eq, decide_eq_false_iff_not, Int.not_lt, Int.not_le] at h16
   refine w_seq (fun K18 hK17 => ?_)
   refine w_region ?_
   refine w_pure want_none (y_assign (v := _) rfl rfl) rfl ?_
   refine w_nil ?_
   refine q_then (hK17 _ _ ?_)
   refine w_ret ?_
   refine q_blk_ret ?_
   refine q_then_ret ?_
   refine q_ret (l := [.tmp 5]) (vs := [_]) rfl ⟨⟨rfl, show _ = (.int _ _ : Value) from rfl⟩, trivial⟩ ?_
   try simp only [List.any_cons, List.any_nil, Bool.or_false, Bool.or_eq_false_iff] at h16
   exact ⟨congrArg (Value.int .i64) (by simp [hourE, h16]), hs15.tail.tail⟩
  ·
   try simp only [Bool.not_eq_true', Bool.not_eq_false', decide_eq_true_eq, decide_eq_false_iff_not, Int.not_lt, Int.not_le] at h16
   refine w_seq (fun K20 hK19 => ?_)
   refine w_region ?_
   refine w_pure want_none (y_fieldAddr (o := 1) (i := 1) Try.underlying70 rfl Try.sizeOf31 rfl rfl rfl) rfl ?_
   refine w_pure want_none (y_fieldAddr (o := 0) (i := 0) Try.underlying31 rfl Try.sizeOf3 rfl rfl rfl) rfl ?_
   refine w_pure want_none (y_load1 Try.isAgg3 hs15 rfl rfl (ats_own (i := 1) (vs := [_]) rfl rfl)) rfl ?_
   refine w_pure want_none (y_fieldAddr (o := 1) (i := 1) Try.underlying70 rfl Try.sizeOf31 rfl rfl rfl) rfl ?_
   refine w_pure want_none (y_fieldAddr (o := 1) (i := 1) Try.underlying31 rfl Try.sizeOf3 rfl rfl rfl) rfl ?_
   refine w_pure want_none (y_load1 Try.isAgg3 hs15 rfl rfl (ats_own (i := 1) (vs := [_]) rfl rfl)) rfl ?_
   refine w_bslice (ps := [(0, _), (1, _)]) (pv := [(0, .int _ _), (1, .int _ _)]) (cs := [_, _]) want_none rfl rfl (fun w => Try_C_fb2 _ _ w) hs15 (fun b21 w22 hs23 => ?_)
   refine w_call want_none Try.call51 rfl rfl rfl rfl (c51 _ _ _ [_, _] _ (by simp) (sl_own (i := 0) (rows := [[_], [_]]) rfl (by simp) rfl) hs23) ?_
   rintro _ w25 ⟨rfl, hs26⟩
   refine w_pure want_none (y_assign (v := .bool _) rfl rfl) rfl ?_
   refine w_nil ?_
   refine q_then (hK19 _ _ ?_)
   refine w_cond rfl rfl (fun h27 => ?_) (fun h27 => ?_)
   ·
    try simp only [Bool.not_eq_true', Bool.not_eq_false', decide_eq_true_eq, decide_eq_false_iff_not, Int.not_lt, Int.not_le] at h27
    refine w_seq (fun K29 hK28 => ?_)
    refine w_region ?_
    refine w_pure want_none (y_assign (v := _) rfl rfl) rfl ?_
    refine w_nil ?_
    refine q_then (hK28 _ _ ?_)
    refine w_ret ?_
    refine q_blk_ret ?_
    refine q_then_ret ?_
    refine q_ret (l := [.tmp 5]) (vs := [_]) rfl ⟨⟨rfl, show _ = (.int _ _ : Value) from rfl⟩, trivial⟩ ?_
    try simp only [List.any_cons, List.any_nil, Bool.or_false, Bool.or_eq_false_iff] at h16 h27
    exact ⟨congrArg (Value.int .i64) (by simp [hourE, h16, h27]), hs26.tail.tail.tail⟩
   ·
    try simp only [Bool.not_eq_true', Bool.not_eq_false', decide_eq_true_eq, decide_eq_false_iff_not, Int.not_lt, Int.not_le] at h27
    refine w_seq (fun K31 hK30 => ?_)
    have hbb : 0 ≤ h.lo ∧ h.lo ≤ 40 ∧ 0 ≤ h.hi ∧ h.hi ≤ 40 := by
      have hq : [h.lo, h.hi].any (out 0 40) = false := by assumption
      simp [out] at hq; omega
    refine w_region ?_
    refine w_pure want_none (y_fieldAddr (o := 1) (i := 1) Try.underlying70 rfl Try.sizeOf31 rfl rfl rfl) rfl ?_
    refine w_pure want_none (y_fieldAddr (o := 1) (i := 1) Try.underlying31 rfl Try.sizeOf3 rfl rfl rfl) rfl ?_
    refine w_pure want_none (y_load1 Try.isAgg3 hs26 rfl rfl (ats_own (i := 2) (vs := [_]) rfl rfl)) rfl ?_
    refine w_pure want_none (y_fieldAddr (o := 1) (i := 1) Try.underlying70 rfl Try.sizeOf31 rfl rfl rfl) rfl ?_
    refine w_pure want_none (y_fieldAddr (o := 0) (i := 0) Try.underlying31 rfl Try.sizeOf3 rfl rfl rfl) rfl ?_
    refine w_pure want_none (y_load1 Try.isAgg3 hs26 rfl rfl (ats_own (i := 2) (vs := [_]) rfl rfl)) rfl ?_
    refine w_pure want_none (y_sub rfl rfl rfl rfl (by omega) (by omega)) rfl ?_
    refine w_bslice (ps := [(0, _)]) (pv := [(0, .int _ _)]) (cs := [_]) want_none rfl rfl (fun w => Try_C_fb1 _ w) hs26 (fun b32 w33 hs34 => ?_)
    refine w_call want_none Try.call51 rfl rfl rfl rfl (c51 _ _ _ [_] _ (by simp) (sl_own (i := 0) (rows := [[_]]) rfl (by simp) rfl) hs34) ?_
    rintro _ w36 ⟨rfl, hs37⟩
    refine w_pure want_none (y_assign (v := .bool _) rfl rfl) rfl ?_
    refine w_nil ?_
    refine q_then (hK30 _ _ ?_)
    refine w_cond rfl rfl (fun h38 => ?_) (fun h38 => ?_)
    ·
     try simp only [Bool.not_eq_true', Bool.not_eq_false', decide_eq_true_eq, decide_eq_false_iff_not, Int.not_lt, Int.not_le] at h38
     refine w_seq (fun K40 hK39 => ?_)
     refine w_region ?_
     refine w_pure want_none (y_assign (v := _) rfl rfl) rfl ?_
     refine w_nil ?_
     refine q_then (hK39 _ _ ?_)
     refine w_ret ?_
     refine q_blk_ret ?_
     refine q_then_ret ?_
     refine q_ret (l := [.tmp 5]) (vs := [_]) rfl ⟨⟨rfl, show _ = (.int _ _ : Value) from rfl⟩, trivial⟩ ?_
     try simp only [List.any_cons, List.any_nil, Bool.or_false, Bool.or_eq_false_iff] at h16 h27 h38
     exact ⟨congrArg (Value.int .i64) (by simp [hourE, h16, h27, h38]), hs37.tail.tail.tail.tail⟩
    ·
     try simp only [Bool.not_eq_true', Bool.not_eq_false', decide_eq_true_eq, decide_eq_false_iff_not, Int.not_lt, Int.not_le] at h38
     refine w_skip ?_
     refine q_blk_normal ?_
     refine q_then (hK6 _ _ ?_)
     refine w_seq (fun K42 hK41 => ?_)
     refine w_region ?_
     refine w_pure want_none (y_assign (v := _) rfl rfl) rfl ?_
     refine w_nil ?_
     refine q_then (hK41 _ _ ?_)
     refine w_ret ?_
     refine q_ret (l := [.tmp 5]) (vs := [_]) rfl ⟨⟨rfl, show _ = (.int _ _ : Value) from rfl⟩, trivial⟩ ?_
     try simp only [List.any_cons, List.any_nil, Bool.or_false, Bool.or_eq_false_iff] at h16 h27 h38
     exact ⟨congrArg (Value.int .i64) (by simp [hourE, h16, h27, h38]), hs37.tail.tail.tail.tail⟩

theorem c58 {w0 w : World} {F : List (Nat × Obj)} (x c : Ctr) (px pc : AtC) (bm : Nat) (hb : Ats w0 F bm 0 (c.cells pc)) (hs : St w0 w F) :
  Con Try.prog 58 [.agg (x.cells px).toArray, .pointer (some ⟨bm, 0, none⟩)] w fun v w' => v = .bool (decide (x.name = c.name)) ∧ St w0 w' F := by
  refine con_of_wc (n := 9) Try.func58 rfl rfl (Nat.le_of_ble_eq_true rfl) ?_
  refine w_seq (fun K2 hK1 => ?_)
  refine w_region ?_
  refine w_box (v := .agg #[.string _, .int _ _, .int _ _, .int _ _, .slice _ _ _, .slice _ _ _]) (cs := [_, _, _, _, _, _]) want_none rfl rfl rfl hs (fun b3 w4 hs5 => ?_)
  refine w_pure want_none (y_assign (v := _) rfl rfl) rfl ?_
  refine w_nil ?_
  refine q_then (hK1 _ _ ?_)
  refine w_seq (fun K7 hK6 => ?_)
  refine w_region ?_
  refine w_pure want_none (y_fieldAddr (o := 0) (i := 0) Try.underlying76 rfl Try.sizeOf9 rfl rfl rfl) rfl ?_
  refine w_pure want_none (y_load1 Try.isAgg9 hs5 rfl rfl (ats_own (i := 0) (vs := [_]) rfl rfl)) rfl ?_
  refine w_pure want_none (y_fieldAddr (o := 0) (i := 0) Try.underlying76 rfl Try.sizeOf9 rfl rfl rfl) rfl ?_
  refine w_pure want_none (y_load1 Try.isAgg9 hs5.tail rfl rfl (show Ats _ _ _ _ [_] from Ats.part hb 0 1)) rfl ?_
  refine w_pure want_none (y_strEq rfl rfl rfl rfl) rfl ?_
  refine w_pure want_none (y_assign (v := .bool _) rfl rfl) rfl ?_
  refine w_nil ?_
  refine q_then (hK6 _ _ ?_)
  refine w_ret ?_
  refine q_ret (l := [.tmp 3]) (vs := [_]) rfl ⟨⟨rfl, show _ = (.bool _ : Value) from rfl⟩, trivial⟩ ?_
  exact ⟨rfl, hs5.tail⟩

theorem c55 {w0 w : World} {F : List (Nat × Obj)} (b : Board) (p : AtB) (hm : BIn w0 F b p) (i : Nat) (hi : i < b.ctrs.length) (bm bn : Nat) (hb : Ats w0 F bm 0 (b.cells p)) (hn : Ats w0 F bn 0 [.int .i64 (b.hours.length : Int)]) (hs : St w0 w F) :
  Con Try.prog 55 [.int .i64 (i : Int), .agg (b.ctrs[i].cells (p.pc i)).toArray, .pointer (some ⟨bm, 0, none⟩), .pointer (some ⟨bn, 0, none⟩)] w fun v w' => v = .int .i64 (ctrE b.hours.length (b.ctrs.take i) b.ctrs[i]) ∧ St w0 w' F := by
  refine con_of_wc (n := 54) Try.func55 rfl rfl (Nat.le_of_ble_eq_true rfl) ?_
  have hnm := hm.nm _ (List.getElem_mem hi)
  have hlz := hm.lz i hi
  have hls := hm.ls i hi
  have hlc := hm.lc
  have hcc := hm.cc
  refine w_seq (fun K2 hK1 => ?_)
  refine w_region ?_
  refine w_box (v := .agg #[.string _, .int _ _, .int _ _, .int _ _, .slice _ _ _, .slice _ _ _]) (cs := [_, _, _, _, _, _]) want_none rfl rfl rfl hs (fun b3 w4 hs5 => ?_)
  refine w_pure want_none (y_assign (v := _) rfl rfl) rfl ?_
  refine w_nil ?_
  refine q_then (hK1 _ _ ?_)
  refine w_seq (fun K7 hK6 => ?_)
  refine w_block ?_
  refine w_seq (fun K9 hK8 => ?_)
  refine w_region ?_
  refine w_pure want_none (y_fieldAddr (o := 0) (i := 0) Try.underlying76 rfl Try.sizeOf9 rfl rfl rfl) rfl ?_
  refine w_pure want_none (y_load1 Try.isAgg9 hs5 rfl rfl (ats_own (i := 0) (vs := [_]) rfl rfl)) rfl ?_
  refine w_call want_none Try.call56 rfl rfl rfl rfl (c56 _ hnm hs5) ?_
  rintro _ w11 ⟨rfl, hs12⟩
  refine w_pure want_none (y_not rfl rfl) rfl ?_
  refine w_pure want_none (y_assign (v := .bool _) rfl rfl) rfl ?_
  refine w_nil ?_
  refine q_then (hK8 _ _ ?_)
  refine w_cond rfl rfl (fun h13 => ?_) (fun h13 => ?_)
  ·
   try simp only [Bool.not_eq_true', Bool.not_eq_false', decide_eq_true_eq, decide_eq_false_iff_not, Int.not_lt, Int.not_le] at h13
   refine w_seq (fun K15 hK14 => ?_)
   refine w_region ?_
   refine w_pure want_none (y_assign (v := _) rfl rfl) rfl ?_
   refine w_nil ?_
   refine q_then (hK14 _ _ ?_)
   refine w_ret ?_
   refine q_blk_ret ?_
   refine q_then_ret ?_
   refine q_ret (l := [.tmp 6]) (vs := [_]) rfl ⟨⟨rfl, show _ = (.int _ _ : Value) from rfl⟩, trivial⟩ ?_
   try simp only [List.any_cons, List.any_nil, Bool.or_false, Bool.or_eq_false_iff] at h13
   first
     | exact ⟨congrArg (Value.int .i64) (ctrE_a (by assumption)).symm, hs12.tail⟩
     | exact ⟨congrArg (Value.int .i64) (ctrE_b (by assumption) (by assumption)).symm, hs12.tail⟩
     | exact ⟨congrArg (Value.int .i64) (ctrE_d (by assumption) (by assumption) (by simp [h13]; done) (by omega)).symm, hs12.tail⟩
     | exact ⟨congrArg (Value.int .i64) (by rw [ctrE_e (by assumption) (by assumption) (by simp [h13]; done) (by omega)]; simp [h13]), hs12.tail⟩
     | exact ⟨congrArg (Value.int .i64) (by rw [ctrE_c (by assumption) (by assumption)]; simp [h13]), hs12.tail⟩
  ·
   try simp only [Bool.not_eq_true', Bool.not_eq_false', decide_eq_true_eq, decide_eq_false_iff_not, Int.not_lt, Int.not_le] at h13
   refine w_seq (fun K17 hK16 => ?_)
   refine w_region ?_
   refine w_pure want_none (y_fieldAddr (o := 2) (i := 2) Try.underlying25 rfl Try.sizeOf23 rfl rfl rfl) rfl ?_
   refine w_pure want_none (y_load1 Try.isAgg23 hs12.tail rfl rfl (show Ats _ _ _ _ [_] from Ats.part hb 2 1)) rfl ?_
   refine w_pure want_none (y_move (v := .int _ _) rfl rfl) rfl ?_
   refine w_pure want_none (y_sliceS (l' := 0) (h' := i) Try.underlying23 Try.sizeOf76 rfl rfl rfl ⟨rfl, _, _, rfl, rfl⟩ (by omega) (by omega)) rfl ?_
   refine w_pure want_none (y_makeFunc (fv := []) (cv := [_]) rfl rfl rfl rfl) rfl ?_
   refine w_call want_none Try.call57 rfl rfl rfl rfl ((by have h := c57 _ (b.ctrs.take i) p.pc (p.cc - 0) (by rw [List.length_take]; omega) (sl_takeK hm.c.cons (by omega) hm.cc) Try.call58 #[] #[.pointer (some ⟨b3, 0, none⟩)] (fun x => decide (x.name = (b.ctrs[i]'hi).name)) (fun j hj w hs => c58 _ _ _ _ _ (ats_own (i := 0) (vs := Ctr.cells (b.ctrs[i]'hi) (p.pc i)) rfl rfl) hs) hs12; rw [show (b.ctrs.take i).length = i from by rw [List.length_take]; omega] at h; exact h)) ?_
   rintro _ w19 ⟨rfl, hs20⟩
   refine w_pure want_none (y_assign (v := .bool _) rfl rfl) rfl ?_
   refine w_nil ?_
   refine q_then (hK16 _ _ ?_)
   refine w_cond rfl rfl (fun h21 => ?_) (fun h21 => ?_)
   ·
    try simp only [Bool.not_eq_true', Bool.not_eq_false', decide_eq_true_eq, decide_eq_false_iff_not, Int.not_lt, Int.not_le] at h21
    refine w_seq (fun K23 hK22 => ?_)
    refine w_region ?_
    refine w_pure want_none (y_assign (v := _) rfl rfl) rfl ?_
    refine w_nil ?_
    refine q_then (hK22 _ _ ?_)
    refine w_ret ?_
    refine q_blk_ret ?_
    refine q_then_ret ?_
    refine q_ret (l := [.tmp 6]) (vs := [_]) rfl ⟨⟨rfl, show _ = (.int _ _ : Value) from rfl⟩, trivial⟩ ?_
    try simp only [List.any_cons, List.any_nil, Bool.or_false, Bool.or_eq_false_iff] at h13 h21
    first
      | exact ⟨congrArg (Value.int .i64) (ctrE_a (by assumption)).symm, hs20.tail⟩
      | exact ⟨congrArg (Value.int .i64) (ctrE_b (by assumption) (by assumption)).symm, hs20.tail⟩
      | exact ⟨congrArg (Value.int .i64) (ctrE_d (by assumption) (by assumption) (by simp [h13, h21]; done) (by omega)).symm, hs20.tail⟩
      | exact ⟨congrArg (Value.int .i64) (by rw [ctrE_e (by assumption) (by assumption) (by simp [h13, h21]; done) (by omega)]; simp [h13, h21]), hs20.tail⟩
      | exact ⟨congrArg (Value.int .i64) (by rw [ctrE_c (by assumption) (by assumption)]; simp [h13, h21]), hs20.tail⟩
   ·
    try simp only [Bool.not_eq_true', Bool.not_eq_false', decide_eq_true_eq, decide_eq_false_iff_not, Int.not_lt, Int.not_le] at h21
    refine w_seq (fun K25 hK24 => ?_)
    refine w_region ?_
    refine w_pure want_none (y_fieldAddr (o := 1) (i := 1) Try.underlying76 rfl Try.sizeOf3 rfl rfl rfl) rfl ?_
    refine w_pure want_none (y_load1 Try.isAgg3 hs20 rfl rfl (ats_own (i := 0) (vs := [_]) rfl rfl)) rfl ?_
    refine w_pure want_none (y_fieldAddr (o := 2) (i := 2) Try.underlying76 rfl Try.sizeOf3 rfl rfl rfl) rfl ?_
    refine w_pure want_none (y_load1 Try.isAgg3 hs20 rfl rfl (ats_own (i := 0) (vs := [_]) rfl rfl)) rfl ?_
    refine w_bslice (ps := [(0, _), (1, _)]) (pv := [(0, .int _ _), (1, .int _ _)]) (cs := [_, _]) want_none rfl rfl (fun w => Try_C_fb2 _ _ w) hs20 (fun b26 w27 hs28 => ?_)
    refine w_call want_none Try.call51 rfl rfl rfl rfl (c51 _ _ _ [_, _] _ (by simp) (sl_own (i := 0) (rows := [[_], [_]]) rfl (by simp) rfl) hs28) ?_
    rintro _ w30 ⟨rfl, hs31⟩
    refine w_pure want_none (y_move (v := .bool _) rfl rfl) rfl ?_
    refine w_split (fun h32 => ?_) (fun h32 => ?_)
    ·
     try simp only [Bool.not_eq_true', Bool.not_eq_false', decide_eq_true_eq, decide_eq_false_iff_not, Int.not_lt, Int.not_le] at h32
     refine w_skipop rfl rfl rfl ?_
     refine w_skipop rfl rfl rfl ?_
     refine w_skipop rfl rfl rfl ?_
     refine w_skipop rfl rfl rfl ?_
     refine w_pure want_none (y_pickT (v := _) rfl rfl rfl rfl) rfl ?_
     refine w_pure want_none (y_assign (v := .bool _) rfl rfl) rfl ?_
     refine w_nil ?_
     refine q_then (hK24 _ _ ?_)
     refine w_condT rfl rfl ?_
     refine w_seq (fun K34 hK33 => ?_)
     refine w_region ?_
     refine w_pure want_none (y_assign (v := _) rfl rfl) rfl ?_
     refine w_nil ?_
     refine q_then (hK33 _ _ ?_)
     refine w_ret ?_
     refine q_blk_ret ?_
     refine q_then_ret ?_
     refine q_ret (l := [.tmp 6]) (vs := [_]) rfl ⟨⟨rfl, show _ = (.int _ _ : Value) from rfl⟩, trivial⟩ ?_
     try simp only [List.any_cons, List.any_nil, Bool.or_false, Bool.or_eq_false_iff] at h13 h21 h32
     first
       | exact ⟨congrArg (Value.int .i64) (ctrE_a (by assumption)).symm, hs31.tail.tail⟩
       | exact ⟨congrArg (Value.int .i64) (ctrE_b (by assumption) (by assumption)).symm, hs31.tail.tail⟩
       | exact ⟨congrArg (Value.int .i64) (ctrE_d (by assumption) (by assumption) (by simp [h13, h21, h32]; done) (by omega)).symm, hs31.tail.tail⟩
       | exact ⟨congrArg (Value.int .i64) (by rw [ctrE_e (by assumption) (by assumption) (by simp [h13, h21, h32]; done) (by omega)]; simp [h13, h21, h32]), hs31.tail.tail⟩
       | exact ⟨congrArg (Value.int .i64) (by rw [ctrE_c (by assumption) (by assumption)]; simp [h13, h21, h32]), hs31.tail.tail⟩
    ·
     try simp only [Bool.not_eq_true', Bool.not_eq_false', decide_eq_true_eq, decide_eq_false_iff_not, Int.not_lt, Int.not_le] at h32
     refine w_pure (want_yes rfl rfl rfl) (y_fieldAddr (o := 3) (i := 3) Try.underlying76 rfl Try.sizeOf3 rfl rfl rfl) rfl ?_
     refine w_pure (want_yes rfl rfl rfl) (y_load1 Try.isAgg3 hs31 rfl rfl (ats_own (i := 1) (vs := [_]) rfl rfl)) rfl ?_
     refine w_bslice (ps := [(0, _)]) (pv := [(0, .int _ _)]) (cs := [_]) (want_yes rfl rfl rfl) rfl rfl (fun w => Try_C_fb1 _ w) hs31 (fun b35 w36 hs37 => ?_)
     refine w_call (want_yes rfl rfl rfl) Try.call51 rfl rfl rfl rfl (c51 _ _ _ [_] _ (by simp) (sl_own (i := 0) (rows := [[_]]) rfl (by simp) rfl) hs37) ?_
     rintro _ w39 ⟨rfl, hs40⟩
     refine w_pure want_none (y_pickF (v := .bool _) rfl rfl rfl rfl) rfl ?_
     refine w_pure want_none (y_assign (v := .bool _) rfl rfl) rfl ?_
     refine w_nil ?_
     refine q_then (hK24 _ _ ?_)
     refine w_cond rfl rfl (fun h41 => ?_) (fun h41 => ?_)
     ·
      try simp only [Bool.not_eq_true', Bool.not_eq_false', decide_eq_true_eq, decide_eq_false_iff_not, Int.not_lt, Int.not_le] at h41
      refine w_seq (fun K43 hK42 => ?_)
      refine w_region ?_
      refine w_pure want_none (y_assign (v := _) rfl rfl) rfl ?_
      refine w_nil ?_
      refine q_then (hK42 _ _ ?_)
      refine w_ret ?_
      refine q_blk_ret ?_
      refine q_then_ret ?_
      refine q_ret (l := [.tmp 6]) (vs := [_]) rfl ⟨⟨rfl, show _ = (.int _ _ : Value) from rfl⟩, trivial⟩ ?_
      try simp only [List.any_cons, List.any_nil, Bool.or_false, Bool.or_eq_false_iff] at h13 h21 h32 h41
      first
        | exact ⟨congrArg (Value.int .i64) (ctrE_a (by assumption)).symm, hs40.tail.tail.tail⟩
        | exact ⟨congrArg (Value.int .i64) (ctrE_b (by assumption) (by assumption)).symm, hs40.tail.tail.tail⟩
        | exact ⟨congrArg (Value.int .i64) (ctrE_d (by assumption) (by assumption) (by simp [h13, h21, h32, h41]; done) (by omega)).symm, hs40.tail.tail.tail⟩
        | exact ⟨congrArg (Value.int .i64) (by rw [ctrE_e (by assumption) (by assumption) (by simp [h13, h21, h32, h41]; done) (by omega)]; simp [h13, h21, h32, h41]), hs40.tail.tail.tail⟩
        | exact ⟨congrArg (Value.int .i64) (by rw [ctrE_c (by assumption) (by assumption)]; simp [h13, h21, h32, h41]), hs40.tail.tail.tail⟩
     ·
      try simp only [Bool.not_eq_true', Bool.not_eq_false', decide_eq_true_eq, decide_eq_false_iff_not, Int.not_lt, Int.not_le] at h41
      refine w_seq (fun K45 hK44 => ?_)
      refine w_region ?_
      refine w_pure want_none (y_fieldAddr (o := 4) (i := 4) Try.underlying76 rfl Try.sizeOf39 rfl rfl rfl) rfl ?_
      refine w_pure want_none (y_load1 Try.isAgg39 hs40 rfl rfl (ats_own (i := 2) (vs := [_]) rfl rfl)) rfl ?_
      refine w_pure want_none (y_lenS Try.underlying39 rfl rfl) rfl ?_
      refine w_pure want_none (y_load1 Try.isAgg3 hs40.tail.tail.tail rfl rfl hn) rfl ?_
      refine w_pure want_none (y_neq rfl rfl rfl rfl) rfl ?_
      refine w_pure want_none (y_move (v := .bool _) rfl rfl) rfl ?_
      refine w_split (fun h46 => ?_) (fun h46 => ?_)
      ·
       try simp only [Bool.not_eq_true', Bool.not_eq_false', decide_eq_true_eq, decide_eq_false_iff_not, Int.not_lt, Int.not_le] at h46
       refine w_skipop rfl rfl rfl ?_
       refine w_skipop rfl rfl rfl ?_
       refine w_skipop rfl rfl rfl ?_
       refine w_skipop rfl rfl rfl ?_
       refine w_skipop rfl rfl rfl ?_
       refine w_pure want_none (y_pickT (v := _) rfl rfl rfl rfl) rfl ?_
       refine w_pure want_none (y_assign (v := .bool _) rfl rfl) rfl ?_
       refine w_nil ?_
       refine q_then (hK44 _ _ ?_)
       refine w_condT rfl rfl ?_
       refine w_seq (fun K48 hK47 => ?_)
       refine w_region ?_
       refine w_pure want_none (y_assign (v := _) rfl rfl) rfl ?_
       refine w_nil ?_
       refine q_then (hK47 _ _ ?_)
       refine w_ret ?_
       refine q_blk_ret ?_
       refine q_then_ret ?_
       refine q_ret (l := [.tmp 6]) (vs := [_]) rfl ⟨⟨rfl, show _ = (.int _ _ : Value) from rfl⟩, trivial⟩ ?_
       try simp only [List.any_cons, List.any_nil, Bool.or_false, Bool.or_eq_false_iff] at h13 h21 h32 h41 h46
       first
         | exact ⟨congrArg (Value.int .i64) (ctrE_a (by assumption)).symm, hs40.tail.tail.tail⟩
         | exact ⟨congrArg (Value.int .i64) (ctrE_b (by assumption) (by assumption)).symm, hs40.tail.tail.tail⟩
         | exact ⟨congrArg (Value.int .i64) (ctrE_d (by assumption) (by assumption) (by simp [h13, h21, h32, h41, h46]; done) (by omega)).symm, hs40.tail.tail.tail⟩
         | exact ⟨congrArg (Value.int .i64) (by rw [ctrE_e (by assumption) (by assumption) (by simp [h13, h21, h32, h41, h46]; done) (by omega)]; simp [h13, h21, h32, h41, h46]), hs40.tail.tail.tail⟩
         | exact ⟨congrArg (Value.int .i64) (by rw [ctrE_c (by assumption) (by assumption)]; simp [h13, h21, h32, h41, h46]), hs40.tail.tail.tail⟩
      ·
       try simp only [Bool.not_eq_true', Bool.not_eq_false', decide_eq_true_eq, decide_eq_false_iff_not, Int.not_lt, Int.not_le] at h46
       refine w_pure (want_yes rfl rfl rfl) (y_fieldAddr (o := 5) (i := 5) Try.underlying76 rfl Try.sizeOf39 rfl rfl rfl) rfl ?_
       refine w_pure (want_yes rfl rfl rfl) (y_load1 Try.isAgg39 hs40 rfl rfl (ats_own (i := 2) (vs := [_]) rfl rfl)) rfl ?_
       refine w_pure (want_yes rfl rfl rfl) (y_lenS Try.underlying39 rfl rfl) rfl ?_
       refine w_pure (want_yes rfl rfl rfl) (y_load1 Try.isAgg3 hs40.tail.tail.tail rfl rfl hn) rfl ?_
       refine w_pure (want_yes rfl rfl rfl) (y_neq rfl rfl rfl rfl) rfl ?_
       refine w_pure want_none (y_pickF (v := .bool _) rfl rfl rfl rfl) rfl ?_
       refine w_pure want_none (y_assign (v := .bool _) rfl rfl) rfl ?_
       refine w_nil ?_
       refine q_then (hK44 _ _ ?_)
       refine w_cond rfl rfl (fun h49 => ?_) (fun h49 => ?_)
       ·
        try simp only [Bool.not_eq_true', Bool.not_eq_false', decide_eq_true_eq, decide_eq_false_iff_not, Int.not_lt, Int.not_le] at h49
        refine w_seq (fun K51 hK50 => ?_)
        refine w_region ?_
        refine w_pure want_none (y_assign (v := _) rfl rfl) rfl ?_
        refine w_nil ?_
        refine q_then (hK50 _ _ ?_)
        refine w_ret ?_
        refine q_blk_ret ?_
        refine q_then_ret ?_
        refine q_ret (l := [.tmp 6]) (vs := [_]) rfl ⟨⟨rfl, show _ = (.int _ _ : Value) from rfl⟩, trivial⟩ ?_
        try simp only [List.any_cons, List.any_nil, Bool.or_false, Bool.or_eq_false_iff] at h13 h21 h32 h41 h46 h49
        first
          | exact ⟨congrArg (Value.int .i64) (ctrE_a (by assumption)).symm, hs40.tail.tail.tail⟩
          | exact ⟨congrArg (Value.int .i64) (ctrE_b (by assumption) (by assumption)).symm, hs40.tail.tail.tail⟩
          | exact ⟨congrArg (Value.int .i64) (ctrE_d (by assumption) (by assumption) (by simp [h13, h21, h32, h41, h46, h49]; done) (by omega)).symm, hs40.tail.tail.tail⟩
          | exact ⟨congrArg (Value.int .i64) (by rw [ctrE_e (by assumption) (by assumption) (by simp [h13, h21, h32, h41, h46, h49]; done) (by omega)]; simp [h13, h21, h32, h41, h46, h49]), hs40.tail.tail.tail⟩
          | exact ⟨congrArg (Value.int .i64) (by rw [ctrE_c (by assumption) (by assumption)]; simp [h13, h21, h32, h41, h46, h49]), hs40.tail.tail.tail⟩
       ·
        try simp only [Bool.not_eq_true', Bool.not_eq_false', decide_eq_true_eq, decide_eq_false_iff_not, Int.not_lt, Int.not_le] at h49
        refine w_seq (fun K53 hK52 => ?_)
        refine w_region ?_
        refine w_pure want_none (y_fieldAddr (o := 4) (i := 4) Try.underlying76 rfl Try.sizeOf39 rfl rfl rfl) rfl ?_
        refine w_pure want_none (y_load1 Try.isAgg39 hs40 rfl rfl (ats_own (i := 2) (vs := [_]) rfl rfl)) rfl ?_
        refine w_call want_none Try.call51 rfl rfl rfl rfl (c51 _ _ _ (b.ctrs[i]'hi).zero _ (by omega) (hm.z i hi).cons.cons.cons hs40) ?_
        rintro _ w55 ⟨rfl, hs56⟩
        refine w_pure want_none (y_move (v := .bool _) rfl rfl) rfl ?_
        refine w_split (fun h57 => ?_) (fun h57 => ?_)
        ·
         try simp only [Bool.not_eq_true', Bool.not_eq_false', decide_eq_true_eq, decide_eq_false_iff_not, Int.not_lt, Int.not_le] at h57
         refine w_skipop rfl rfl rfl ?_
         refine w_skipop rfl rfl rfl ?_
         refine w_skipop rfl rfl rfl ?_
         refine w_pure want_none (y_pickT (v := _) rfl rfl rfl rfl) rfl ?_
         refine w_pure want_none (y_assign (v := .bool _) rfl rfl) rfl ?_
         refine w_nil ?_
         refine q_then (hK52 _ _ ?_)
         refine w_condT rfl rfl ?_
         refine w_seq (fun K59 hK58 => ?_)
         refine w_region ?_
         refine w_pure want_none (y_assign (v := _) rfl rfl) rfl ?_
         refine w_nil ?_
         refine q_then (hK58 _ _ ?_)
         refine w_ret ?_
         refine q_blk_ret ?_
         refine q_then_ret ?_
         refine q_ret (l := [.tmp 6]) (vs := [_]) rfl ⟨⟨rfl, show _ = (.int _ _ : Value) from rfl⟩, trivial⟩ ?_
         try simp only [List.any_cons, List.any_nil, Bool.or_false, Bool.or_eq_false_iff] at h13 h21 h32 h41 h46 h49 h57
         first
           | exact ⟨congrArg (Value.int .i64) (ctrE_a (by assumption)).symm, hs56.tail.tail.tail⟩
           | exact ⟨congrArg (Value.int .i64) (ctrE_b (by assumption) (by assumption)).symm, hs56.tail.tail.tail⟩
           | exact ⟨congrArg (Value.int .i64) (ctrE_d (by assumption) (by assumption) (by simp [h13, h21, h32, h41, h46, h49, h57]; done) (by omega)).symm, hs56.tail.tail.tail⟩
           | exact ⟨congrArg (Value.int .i64) (by rw [ctrE_e (by assumption) (by assumption) (by simp [h13, h21, h32, h41, h46, h49, h57]; done) (by omega)]; simp [h13, h21, h32, h41, h46, h49, h57]), hs56.tail.tail.tail⟩
           | exact ⟨congrArg (Value.int .i64) (by rw [ctrE_c (by assumption) (by assumption)]; simp [h13, h21, h32, h41, h46, h49, h57]), hs56.tail.tail.tail⟩
        ·
         try simp only [Bool.not_eq_true', Bool.not_eq_false', decide_eq_true_eq, decide_eq_false_iff_not, Int.not_lt, Int.not_le] at h57
         refine w_pure (want_yes rfl rfl rfl) (y_fieldAddr (o := 5) (i := 5) Try.underlying76 rfl Try.sizeOf39 rfl rfl rfl) rfl ?_
         refine w_pure (want_yes rfl rfl rfl) (y_load1 Try.isAgg39 hs56 rfl rfl (ats_own (i := 2) (vs := [_]) rfl rfl)) rfl ?_
         refine w_call (want_yes rfl rfl rfl) Try.call51 rfl rfl rfl rfl (c51 _ _ _ (b.ctrs[i]'hi).shown _ (by omega) (hm.s i hi).cons.cons.cons hs56) ?_
         rintro _ w61 ⟨rfl, hs62⟩
         refine w_pure want_none (y_pickF (v := .bool _) rfl rfl rfl rfl) rfl ?_
         refine w_pure want_none (y_assign (v := .bool _) rfl rfl) rfl ?_
         refine w_nil ?_
         refine q_then (hK52 _ _ ?_)
         refine w_cond rfl rfl (fun h63 => ?_) (fun h63 => ?_)
         ·
          try simp only [Bool.not_eq_true', Bool.not_eq_false', decide_eq_true_eq, decide_eq_false_iff_not, Int.not_lt, Int.not_le] at h63
          refine w_seq (fun K65 hK64 => ?_)
          refine w_region ?_
          refine w_pure want_none (y_assign (v := _) rfl rfl) rfl ?_
          refine w_nil ?_
          refine q_then (hK64 _ _ ?_)
          refine w_ret ?_
          refine q_blk_ret ?_
          refine q_then_ret ?_
          refine q_ret (l := [.tmp 6]) (vs := [_]) rfl ⟨⟨rfl, show _ = (.int _ _ : Value) from rfl⟩, trivial⟩ ?_
          try simp only [List.any_cons, List.any_nil, Bool.or_false, Bool.or_eq_false_iff] at h13 h21 h32 h41 h46 h49 h57 h63
          first
            | exact ⟨congrArg (Value.int .i64) (ctrE_a (by assumption)).symm, hs62.tail.tail.tail⟩
            | exact ⟨congrArg (Value.int .i64) (ctrE_b (by assumption) (by assumption)).symm, hs62.tail.tail.tail⟩
            | exact ⟨congrArg (Value.int .i64) (ctrE_d (by assumption) (by assumption) (by simp [h13, h21, h32, h41, h46, h49, h57, h63]; done) (by omega)).symm, hs62.tail.tail.tail⟩
            | exact ⟨congrArg (Value.int .i64) (by rw [ctrE_e (by assumption) (by assumption) (by simp [h13, h21, h32, h41, h46, h49, h57, h63]; done) (by omega)]; simp [h13, h21, h32, h41, h46, h49, h57, h63]), hs62.tail.tail.tail⟩
            | exact ⟨congrArg (Value.int .i64) (by rw [ctrE_c (by assumption) (by assumption)]; simp [h13, h21, h32, h41, h46, h49, h57, h63]), hs62.tail.tail.tail⟩
         ·
          try simp only [Bool.not_eq_true', Bool.not_eq_false', decide_eq_true_eq, decide_eq_false_iff_not, Int.not_lt, Int.not_le] at h63
          refine w_skip ?_
          refine q_blk_normal ?_
          refine q_then (hK6 _ _ ?_)
          refine w_seq (fun K67 hK66 => ?_)
          refine w_region ?_
          refine w_pure want_none (y_assign (v := _) rfl rfl) rfl ?_
          refine w_nil ?_
          refine q_then (hK66 _ _ ?_)
          refine w_ret ?_
          refine q_ret (l := [.tmp 6]) (vs := [_]) rfl ⟨⟨rfl, show _ = (.int _ _ : Value) from rfl⟩, trivial⟩ ?_
          try simp only [List.any_cons, List.any_nil, Bool.or_false, Bool.or_eq_false_iff] at h13 h21 h32 h41 h46 h49 h57 h63
          first
            | exact ⟨congrArg (Value.int .i64) (ctrE_a (by assumption)).symm, hs62.tail.tail.tail⟩
            | exact ⟨congrArg (Value.int .i64) (ctrE_b (by assumption) (by assumption)).symm, hs62.tail.tail.tail⟩
            | exact ⟨congrArg (Value.int .i64) (ctrE_d (by assumption) (by assumption) (by simp [h13, h21, h32, h41, h46, h49, h57, h63]; done) (by omega)).symm, hs62.tail.tail.tail⟩
            | exact ⟨congrArg (Value.int .i64) (by rw [ctrE_e (by assumption) (by assumption) (by simp [h13, h21, h32, h41, h46, h49, h57, h63]; done) (by omega)]; simp [h13, h21, h32, h41, h46, h49, h57, h63]), hs62.tail.tail.tail⟩
            | exact ⟨congrArg (Value.int .i64) (by rw [ctrE_c (by assumption) (by assumption)]; simp [h13, h21, h32, h41, h46, h49, h57, h63]), hs62.tail.tail.tail⟩

end Go.Proofs
/- The chain layer's arguments, opened; what a law that holds leaves behind. No conditions. -/
set_option maxRecDepth 100000
set_option linter.unusedSimpArgs false
set_option linter.unusedVariables false
namespace Go.Proofs.Ytgndnnpadkoagaa
open Go.Rt Go.Rt.Ch Go.RowKit Go.ChangeShapes Go.WideShapes Go.ChangeAt
instance : Inhabited Hour := ⟨⟨0, 0, 0⟩⟩
instance : Inhabited (Ctr × AtC) := ⟨(⟨ByteArray.empty, 0, 0, 0, [], []⟩, ⟨none, 0, none, 0⟩)⟩
theorem Try.own : ownKnob Try.prog.godebug = none := by kernel_rfl
variable {H : Type} {enc : TypeId × Value → H} {W : World} {sp : Nat → Bool} {held : Bool}
/-- What is known of a counter that comes in. -/
structure CIn (w0 : World) (c : Ctr × AtC) : Prop where
  nm : c.1.name.size ≤ 9223372036854775807
  z : Sl w0 [] c.2.az 1 (c.1.zero.map fun x => [Value.int .i64 x])
  s : Sl w0 [] c.2.as 1 (c.1.shown.map fun x => [Value.int .i64 x])
  lz : c.1.zero.length ≤ 9223372036854775807 ∧ c.1.zero.length ≤ c.2.cz
  ls : c.1.shown.length ≤ 9223372036854775807 ∧ c.1.shown.length ≤ c.2.cs
end Go.Proofs.Ytgndnnpadkoagaa
/- Arguments of flat types, opened. No conditions. -/
set_option maxRecDepth 100000
set_option linter.unusedSimpArgs false
set_option linter.unusedVariables false
namespace Go.Proofs.Ytgndnnpadkoagaa
open Go.Rt Go.RowKit Go.ChangeShapes Go.WideShapes Go.ChangeAt
variable {H : Type} {enc : TypeId × Value → H} {W : World} {sp : Nat → Bool} {held : Bool}
end Go.Proofs.Ytgndnnpadkoagaa
/- Walks of this seat, printed by gen.py over the engine: what each function returns, in whatever world. No conditions but those of each contract. -/
set_option linter.unusedVariables false
set_option linter.unusedSimpArgs false
set_option maxRecDepth 20000
namespace Go.Proofs
open Go.Rt Go.Rt.Ch
open Go.Rt.Ha (firstE firstE_step firstE_stop firstE_end failE nameE felt spanL upto span_mem listL fewest fewTo bit)
attribute [local irreducible] WL WC Con Yd At Ats Sl Agree DW
theorem Try_D_fb1 (x0 : Int) (w : World) : (Instr.buildSlice 39 1 [(0, .int .i64 x0)].toArray).run Try.prog w = .ok (.slice (some ⟨w.heap.size, 0, none⟩) 1 1) (w.alloc (Go.Rt.blk 3 [.int .i64 x0])) := by kernel_rfl
theorem ats_of {w0 w : World} {L : List (Nat × Obj)} {i b : Nat} {t : TypeId} {cs vs : List Value} (hs : St w0 w L) (hi : L[i]? = some (b, blk t cs)) (h : (cs.drop 0).take vs.length = vs) : Ats w0 L b 0 vs := ats_own hi h
theorem c16 {w0 w : World} {F : List (Nat × Obj)} (b : Board) (p : AtB) (hm : BIn w0 F b p)  (hs : St w0 w F) :
  Con Try.prog 16 [.agg (b.cells p).toArray] w fun v w' => v = .tuple #[.int .i64 (check b).1, .int .i64 (check b).2.1, .int .i64 (check b).2.2] ∧ St w0 w' F := by
  refine con_of_wc (n := 45) Try.func16 rfl rfl (Nat.le_of_ble_eq_true rfl) ?_
  have hlh := hm.lh
  have hlc := hm.lc
  refine w_seq (fun K2 hK1 => ?_)
  refine w_region ?_
  refine w_box (v := .agg #[.int _ _, .slice _ _ _, .slice _ _ _]) (cs := [_, _, _]) want_none rfl rfl rfl hs (fun b3 w4 hs5 => ?_)
  refine w_pure want_none (y_assign (v := _) rfl rfl) rfl ?_
  refine w_pure want_none (y_assign (v := _) rfl rfl) rfl ?_
  refine w_pure want_none (y_assign (v := _) rfl rfl) rfl ?_
  refine w_nil ?_
  refine q_then (hK1 _ _ ?_)
  refine w_seq (fun K7 hK6 => ?_)
  refine w_region ?_
  refine w_pure want_none (y_fieldAddr (o := 1) (i := 1) Try.underlying25 rfl Try.sizeOf22 rfl rfl rfl) rfl ?_
  refine w_pure want_none (y_load1 Try.isAgg22 hs5 rfl rfl (ats_own (i := 0) (vs := [_]) rfl rfl)) rfl ?_
  refine w_pure want_none (y_lenS Try.underlying22 rfl rfl) rfl ?_
  refine w_alloc (cs := [_]) want_none Try.zeroValue3 rfl hs5 (fun b8 w9 hs10 => ?_)
  refine w_store (i := 0) (v := .int _ _) (vs := [_]) want_none Try.sizeOf3 rfl rfl rfl rfl rfl (by simp [Value.oneCell']) hs10 rfl (Nat.le_of_ble_eq_true rfl) (fun w11 hs12 => ?_)
  refine w_nil ?_
  refine q_then (hK6 _ _ ?_)
  refine w_seq (fun K14 hK13 => ?_)
  refine w_block ?_
  refine w_seq (fun K16 hK15 => ?_)
  have hbx := ats_of (i := 1) (vs := b.cells p) hs12 rfl rfl
  have hbn := ats_of (i := 0) (vs := [.int .i64 (b.hours.length : Int)]) hs12 rfl rfl
  refine w_region ?_
  refine w_pure want_none (y_fieldAddr (o := 0) (i := 0) Try.underlying25 rfl Try.sizeOf3 rfl rfl rfl) rfl ?_
  refine w_pure want_none (y_load1 Try.isAgg3 hs12 rfl rfl (show Ats _ _ _ _ [_] from Ats.part hbx 0 1)) rfl ?_
  refine w_bslice (ps := [(0, _)]) (pv := [(0, .int _ _)]) (cs := [_]) want_none rfl rfl (fun w => Try_D_fb1 _ w) hs12 (fun b17 w18 hs19 => ?_)
  refine w_call want_none Try.call51 rfl rfl rfl rfl (c51 _ _ _ [_] _ (by simp) (sl_own (i := 0) (rows := [[_]]) rfl (by simp) rfl) hs19) ?_
  rintro _ w21 ⟨rfl, hs22⟩
  refine w_pure want_none (y_assign (v := .bool _) rfl rfl) rfl ?_
  refine w_nil ?_
  refine q_then (hK15 _ _ ?_)
  refine w_cond rfl rfl (fun h23 => ?_) (fun h23 => ?_)
  ·
   try simp only [Bool.not_eq_true', Bool.not_eq_false', decide_eq_true_eq, decide_eq_false_iff_not, Int.not_lt, Int.not_le] at h23
   refine w_seq (fun K25 hK24 => ?_)
   refine w_region ?_
   refine w_pure want_none (y_assign (v := _) rfl rfl) rfl ?_
   refine w_pure want_none (y_assign (v := _) rfl rfl) rfl ?_
   refine w_pure want_none (y_assign (v := _) rfl rfl) rfl ?_
   refine w_nil ?_
   refine q_then (hK24 _ _ ?_)
   refine w_ret ?_
   refine q_blk_ret ?_
   refine q_then_ret ?_
   refine q_ret (l := [.tmp 2, .tmp 3, .tmp 4]) (vs := [_, _, _]) rfl ⟨⟨rfl, show _ = (.int _ _ : Value) from rfl⟩, ⟨rfl, show _ = (.int _ _ : Value) from rfl⟩, ⟨rfl, show _ = (.int _ _ : Value) from rfl⟩, trivial⟩ ?_
   try simp only [List.any_cons, List.any_nil, Bool.or_false, Bool.or_eq_false_iff] at h23
   refine ⟨tup3 ?_, hs22.tail.tail.tail⟩; unfold check failE
   try have e1 : ¬ ((4:Int) < (b.hours.length : Int)) := by omega
   try have e2 : ¬ ((2:Int) < (b.ctrs.length : Int)) := by omega
   first
     | (simp [out_nat, h23, e1, e2]; done)
     | (simp [out_nat, h23, e1]; done)
     | (simp [out_nat, h23]; done)
  ·
   try simp only [Bool.not_eq_true', Bool.not_eq_false', decide_eq_true_eq, decide_eq_false_iff_not, Int.not_lt, Int.not_le] at h23
   refine w_seq (fun K27 hK26 => ?_)
   refine w_region ?_
   refine w_pure want_none (y_load1 Try.isAgg3 hs22.tail rfl rfl hbn) rfl ?_
   refine w_pure want_none (y_gtr rfl rfl rfl rfl) rfl ?_
   refine w_pure want_none (y_assign (v := .bool _) rfl rfl) rfl ?_
   refine w_nil ?_
   refine q_then (hK26 _ _ ?_)
   refine w_cond rfl rfl (fun h28 => ?_) (fun h28 => ?_)
   ·
    try simp only [Bool.not_eq_true', Bool.not_eq_false', decide_eq_true_eq, decide_eq_false_iff_not, Int.not_lt, Int.not_le] at h28
    refine w_seq (fun K30 hK29 => ?_)
    refine w_region ?_
    refine w_pure want_none (y_assign (v := _) rfl rfl) rfl ?_
    refine w_pure want_none (y_assign (v := _) rfl rfl) rfl ?_
    refine w_pure want_none (y_assign (v := _) rfl rfl) rfl ?_
    refine w_nil ?_
    refine q_then (hK29 _ _ ?_)
    refine w_ret ?_
    refine q_blk_ret ?_
    refine q_then_ret ?_
    refine q_ret (l := [.tmp 2, .tmp 3, .tmp 4]) (vs := [_, _, _]) rfl ⟨⟨rfl, show _ = (.int _ _ : Value) from rfl⟩, ⟨rfl, show _ = (.int _ _ : Value) from rfl⟩, ⟨rfl, show _ = (.int _ _ : Value) from rfl⟩, trivial⟩ ?_
    try simp only [List.any_cons, List.any_nil, Bool.or_false, Bool.or_eq_false_iff] at h23 h28
    refine ⟨tup3 ?_, hs22.tail.tail.tail⟩; unfold check failE
    try have e1 : ¬ ((4:Int) < (b.hours.length : Int)) := by omega
    try have e2 : ¬ ((2:Int) < (b.ctrs.length : Int)) := by omega
    first
      | (simp [out_nat, h23, h28, e1, e2]; done)
      | (simp [out_nat, h23, h28, e1]; done)
      | (simp [out_nat, h23, h28]; done)
   ·
    try simp only [Bool.not_eq_true', Bool.not_eq_false', decide_eq_true_eq, decide_eq_false_iff_not, Int.not_lt, Int.not_le] at h28
    refine w_skip ?_
    refine q_blk_normal ?_
    refine q_then (hK13 _ _ ?_)
    refine w_seq (fun K32 hK31 => ?_)
    have hho : 1 ≤ b.holds ∧ b.holds ≤ 3 := by
      have hq : [b.holds].any (out 1 3) = false := by assumption
      simp [out] at hq; omega
    refine w_region ?_
    refine w_pure want_none (y_fieldAddr (o := 1) (i := 1) Try.underlying25 rfl Try.sizeOf22 rfl rfl rfl) rfl ?_
    refine w_pure want_none (y_load1 Try.isAgg22 hs22.tail rfl rfl (show Ats _ _ _ _ [_] from Ats.part hbx 1 1)) rfl ?_
    refine w_pure want_none (y_makeFunc (fv := []) (cv := [_]) rfl rfl rfl rfl) rfl ?_
    refine w_call want_none Try.call52 rfl rfl rfl rfl (c52 _ _ b.hours hlh hm.h.cons.cons.cons (.func (.func 53) #[] #[.pointer (some ⟨b3, 0, none⟩)]) (hourE b.holds) (fun i hi X w hs => fcon_fn Try.call53 (c53 b p hho i b.hours[i] _ b3 (Ats.app hbx.cons) hs)) hs22) ?_
    rintro _ w34 ⟨rfl, hs35⟩
    refine w_pure want_none (y_move (v := .tuple _) rfl rfl) rfl ?_
    refine w_pure want_none (y_extract (v := .int _ _) rfl rfl rfl) rfl ?_
    refine w_pure want_none (y_extract (v := .int _ _) rfl rfl rfl) rfl ?_
    refine w_pure want_none (y_assign (v := .int _ _) rfl rfl) rfl ?_
    refine w_pure want_none (y_assign (v := .int _ _) rfl rfl) rfl ?_
    refine w_nil ?_
    refine q_then (hK31 _ _ ?_)
    refine w_seq (fun K37 hK36 => ?_)
    refine w_block ?_
    refine w_seq (fun K39 hK38 => ?_)
    refine w_region ?_
    refine w_pure want_none (y_move (v := .int _ _) rfl rfl) rfl ?_
    refine w_pure want_none (y_neq rfl rfl rfl rfl) rfl ?_
    refine w_pure want_none (y_assign (v := .bool _) rfl rfl) rfl ?_
    refine w_nil ?_
    refine q_then (hK38 _ _ ?_)
    refine w_cond rfl rfl (fun h40 => ?_) (fun h40 => ?_)
    ·
     try simp only [Bool.not_eq_true', Bool.not_eq_false', decide_eq_true_eq, decide_eq_false_iff_not, Int.not_lt, Int.not_le] at h40
     refine w_seq (fun K42 hK41 => ?_)
     refine w_region ?_
     refine w_pure want_none (y_move (v := .int _ _) rfl rfl) rfl ?_
     refine w_pure want_none (y_move (v := .int _ _) rfl rfl) rfl ?_
     refine w_pure want_none (y_assign (v := _) rfl rfl) rfl ?_
     refine w_pure want_none (y_assign (v := .int _ _) rfl rfl) rfl ?_
     refine w_pure want_none (y_assign (v := .int _ _) rfl rfl) rfl ?_
     refine w_nil ?_
     refine q_then (hK41 _ _ ?_)
     refine w_ret ?_
     refine q_blk_ret ?_
     refine q_then_ret ?_
     refine q_ret (l := [.tmp 2, .tmp 3, .tmp 4]) (vs := [_, _, _]) rfl ⟨⟨rfl, show _ = (.int _ _ : Value) from rfl⟩, ⟨rfl, show _ = (.int _ _ : Value) from rfl⟩, ⟨rfl, show _ = (.int _ _ : Value) from rfl⟩, trivial⟩ ?_
     try simp only [List.any_cons, List.any_nil, Bool.or_false, Bool.or_eq_false_iff] at h23 h28 h40
     refine ⟨tup3 ?_, hs35.tail.tail.tail⟩; unfold check failE
     try have e1 : ¬ ((4:Int) < (b.hours.length : Int)) := by omega
     try have e2 : ¬ ((2:Int) < (b.ctrs.length : Int)) := by omega
     first
       | (simp [out_nat, h23, h28, h40, e1, e2]; done)
       | (simp [out_nat, h23, h28, h40, e1]; done)
       | (simp [out_nat, h23, h28, h40]; done)
    ·
     try simp only [Bool.not_eq_true', Bool.not_eq_false', decide_eq_true_eq, decide_eq_false_iff_not, Int.not_lt, Int.not_le] at h40
     refine w_seq (fun K44 hK43 => ?_)
     refine w_region ?_
     refine w_pure want_none (y_fieldAddr (o := 2) (i := 2) Try.underlying25 rfl Try.sizeOf23 rfl rfl rfl) rfl ?_
     refine w_pure want_none (y_load1 Try.isAgg23 hs35.tail rfl rfl (show Ats _ _ _ _ [_] from Ats.part hbx 2 1)) rfl ?_
     refine w_pure want_none (y_lenS Try.underlying23 rfl rfl) rfl ?_
     refine w_pure want_none (y_gtr rfl rfl rfl rfl) rfl ?_
     refine w_pure want_none (y_assign (v := .bool _) rfl rfl) rfl ?_
     refine w_nil ?_
     refine q_then (hK43 _ _ ?_)
     refine w_cond rfl rfl (fun h45 => ?_) (fun h45 => ?_)
     ·
      try simp only [Bool.not_eq_true', Bool.not_eq_false', decide_eq_true_eq, decide_eq_false_iff_not, Int.not_lt, Int.not_le] at h45
      refine w_seq (fun K47 hK46 => ?_)
      refine w_region ?_
      refine w_pure want_none (y_assign (v := _) rfl rfl) rfl ?_
      refine w_pure want_none (y_assign (v := _) rfl rfl) rfl ?_
      refine w_pure want_none (y_assign (v := _) rfl rfl) rfl ?_
      refine w_nil ?_
      refine q_then (hK46 _ _ ?_)
      refine w_ret ?_
      refine q_blk_ret ?_
      refine q_then_ret ?_
      refine q_ret (l := [.tmp 2, .tmp 3, .tmp 4]) (vs := [_, _, _]) rfl ⟨⟨rfl, show _ = (.int _ _ : Value) from rfl⟩, ⟨rfl, show _ = (.int _ _ : Value) from rfl⟩, ⟨rfl, show _ = (.int _ _ : Value) from rfl⟩, trivial⟩ ?_
      try simp only [List.any_cons, List.any_nil, Bool.or_false, Bool.or_eq_false_iff] at h23 h28 h40 h45
      refine ⟨tup3 ?_, hs35.tail.tail.tail⟩; unfold check failE
      try have e1 : ¬ ((4:Int) < (b.hours.length : Int)) := by omega
      try have e2 : ¬ ((2:Int) < (b.ctrs.length : Int)) := by omega
      first
        | (simp [out_nat, h23, h28, h40, h45, e1, e2]; done)
        | (simp [out_nat, h23, h28, h40, h45, e1]; done)
        | (simp [out_nat, h23, h28, h40, h45]; done)
     ·
      try simp only [Bool.not_eq_true', Bool.not_eq_false', decide_eq_true_eq, decide_eq_false_iff_not, Int.not_lt, Int.not_le] at h45
      refine w_skip ?_
      refine q_blk_normal ?_
      refine q_then (hK36 _ _ ?_)
      refine w_seq (fun K49 hK48 => ?_)
      refine w_region ?_
      refine w_pure want_none (y_fieldAddr (o := 2) (i := 2) Try.underlying25 rfl Try.sizeOf23 rfl rfl rfl) rfl ?_
      refine w_pure want_none (y_load1 Try.isAgg23 hs35.tail rfl rfl (show Ats _ _ _ _ [_] from Ats.part hbx 2 1)) rfl ?_
      refine w_pure want_none (y_makeFunc (fv := []) (cv := [_, _]) rfl rfl rfl rfl) rfl ?_
      refine w_call want_none Try.call54 rfl rfl rfl rfl (c54 _ _ b.ctrs p.pc hlc hm.c.cons.cons.cons (.func (.func 55) #[] #[.pointer (some ⟨b3, 0, none⟩), .pointer (some ⟨b8, 0, none⟩)]) (ctrE b.hours.length) (fun i hi X w hs => fcon_fn Try.call55 (c55 b p (BIn.app hm.cons.cons.cons) i hi b3 b8 (Ats.app hbx.cons) (Ats.app hbn.cons) hs)) hs35) ?_
      rintro _ w51 ⟨rfl, hs52⟩
      refine w_pure want_none (y_move (v := .tuple _) rfl rfl) rfl ?_
      refine w_pure want_none (y_extract (v := .int _ _) rfl rfl rfl) rfl ?_
      refine w_pure want_none (y_extract (v := .int _ _) rfl rfl rfl) rfl ?_
      refine w_pure want_none (y_assign (v := .int _ _) rfl rfl) rfl ?_
      refine w_pure want_none (y_assign (v := .int _ _) rfl rfl) rfl ?_
      refine w_nil ?_
      refine q_then (hK48 _ _ ?_)
      refine w_seq (fun K54 hK53 => ?_)
      refine w_seq (fun K56 hK55 => ?_)
      refine w_region ?_
      refine w_pure want_none (y_move (v := .int _ _) rfl rfl) rfl ?_
      refine w_pure want_none (y_neq rfl rfl rfl rfl) rfl ?_
      refine w_nil ?_
      refine q_then (hK55 _ _ ?_)
      refine w_cond rfl rfl (fun h57 => ?_) (fun h57 => ?_)
      ·
       try simp only [Bool.not_eq_true', Bool.not_eq_false', decide_eq_true_eq, decide_eq_false_iff_not, Int.not_lt, Int.not_le] at h57
       refine w_seq (fun K59 hK58 => ?_)
       refine w_region ?_
       refine w_pure want_none (y_move (v := .int _ _) rfl rfl) rfl ?_
       refine w_pure want_none (y_move (v := .int _ _) rfl rfl) rfl ?_
       refine w_pure want_none (y_assign (v := _) rfl rfl) rfl ?_
       refine w_pure want_none (y_assign (v := .int _ _) rfl rfl) rfl ?_
       refine w_pure want_none (y_assign (v := .int _ _) rfl rfl) rfl ?_
       refine w_nil ?_
       refine q_then (hK58 _ _ ?_)
       refine w_ret ?_
       refine q_then_ret ?_
       refine q_ret (l := [.tmp 2, .tmp 3, .tmp 4]) (vs := [_, _, _]) rfl ⟨⟨rfl, show _ = (.int _ _ : Value) from rfl⟩, ⟨rfl, show _ = (.int _ _ : Value) from rfl⟩, ⟨rfl, show _ = (.int _ _ : Value) from rfl⟩, trivial⟩ ?_
       try simp only [List.any_cons, List.any_nil, Bool.or_false, Bool.or_eq_false_iff] at h23 h28 h40 h45 h57
       refine ⟨tup3 ?_, hs52.tail.tail.tail⟩; unfold check failE
       try have e1 : ¬ ((4:Int) < (b.hours.length : Int)) := by omega
       try have e2 : ¬ ((2:Int) < (b.ctrs.length : Int)) := by omega
       first
         | (simp [out_nat, h23, h28, h40, h45, h57, e1, e2]; done)
         | (simp [out_nat, h23, h28, h40, h45, h57, e1]; done)
         | (simp [out_nat, h23, h28, h40, h45, h57]; done)
      ·
       try simp only [Bool.not_eq_true', Bool.not_eq_false', decide_eq_true_eq, decide_eq_false_iff_not, Int.not_lt, Int.not_le] at h57
       refine w_skip ?_
       refine q_then (hK53 _ _ ?_)
       refine w_seq (fun K61 hK60 => ?_)
       refine w_region ?_
       refine w_pure want_none (y_assign (v := _) rfl rfl) rfl ?_
       refine w_pure want_none (y_assign (v := _) rfl rfl) rfl ?_
       refine w_pure want_none (y_assign (v := _) rfl rfl) rfl ?_
       refine w_nil ?_
       refine q_then (hK60 _ _ ?_)
       refine w_ret ?_
       refine q_ret (l := [.tmp 2, .tmp 3, .tmp 4]) (vs := [_, _, _]) rfl ⟨⟨rfl, show _ = (.int _ _ : Value) from rfl⟩, ⟨rfl, show _ = (.int _ _ : Value) from rfl⟩, ⟨rfl, show _ = (.int _ _ : Value) from rfl⟩, trivial⟩ ?_
       try simp only [List.any_cons, List.any_nil, Bool.or_false, Bool.or_eq_false_iff] at h23 h28 h40 h45 h57
       refine ⟨tup3 ?_, hs52.tail.tail.tail⟩; unfold check failE
       try have e1 : ¬ ((4:Int) < (b.hours.length : Int)) := by omega
       try have e2 : ¬ ((2:Int) < (b.ctrs.length : Int)) := by omega
       first
         | (simp [out_nat, h23, h28, h40, h45, h57, e1, e2]; done)
         | (simp [out_nat, h23, h28, h40, h45, h57, e1]; done)
         | (simp [out_nat, h23, h28, h40, h45, h57]; done)

end Go.Proofs
/- Plain words of the chain layer: ways, step by step; what counters make of loads, as sets of numbers. No conditions. -/
set_option linter.unusedSimpArgs false
set_option linter.unusedVariables false
namespace Go.Rt.Ch
open Go.Rt.Ha
def wrows (l : List Way) : List (List Value) := l.map Way.cells
def hourOf (b : Board) (a : Nat) : Hour := b.hours.getD a ⟨0, 0, 0⟩
def waysAt (b : Board) (c a : Nat) (s : Int) : List Way := waysC (ctrOf b c) (hourOf b a) a s
theorem ctr_at {b : Board} {c : Nat} (h : c < b.ctrs.length) : ctrOf b c = b.ctrs[c] := by simp [ctrOf, List.getD, h]
theorem hour_at {b : Board} {a : Nat} (h : a < b.hours.length) : hourOf b a = b.hours[a] := by simp [hourOf, List.getD, h]
/-- The ways of the first so many of: not set to 0, set to 0. -/
def wTo (c : Ctr) (h : Hour) (a : Nat) (s : Int) : Nat → List Way
  | 0 => []
  | n + 1 => wTo c h a s n ++ waysZ c h a s (decide (n = 1))
theorem wTo_two (c : Ctr) (h : Hour) (a : Nat) (s : Int) : wTo c h a s 2 = waysC c h a s := by
  show ([] ++ waysZ c h a s (decide (0 = 1))) ++ waysZ c h a s (decide (1 = 1)) = _
  rfl
theorem wTo_no {c : Ctr} {h : Hour} {a : Nat} {s : Int} {n : Nat} (hz : canZ c a (decide (n = 1)) = false) : wTo c h a s (n + 1) = wTo c h a s n := by
  rw [wTo, waysZ, hz]; simp
def wPart (c : Ctr) (a : Nat) (s : Int) (z : Bool) (lo : Int) (q : Nat) : List Way := (upto lo q).flatMap (wayR c a s z)
theorem upto_end : ∀ (n : Nat) (lo : Int), upto lo (n + 1) = upto lo n ++ [lo + n]
  | 0, lo => by simp [upto]
  | n + 1, lo => by
    rw [upto, upto_end n (lo + 1), upto]
    simp only [List.cons_append]
    rw [show lo + 1 + (n : Int) = lo + (n + 1 : Nat) by omega]
theorem wPart_y {c : Ctr} {a : Nat} {s lo : Int} {z : Bool} {q : Nat} (h : c.shown.getD a 0 = -1 ∨ c.shown.getD a 0 = shOf s z (lo + q)) : wPart c a s z lo (q + 1) = wPart c a s z lo q ++ [⟨lo + q, shOf s z (lo + q), z⟩] := by
  unfold wPart
  rw [upto_end, List.flatMap_append]
  simp only [List.flatMap_cons, List.flatMap_nil, List.append_nil, wayR, if_pos h]
theorem wPart_n {c : Ctr} {a : Nat} {s lo : Int} {z : Bool} {q : Nat} (h : ¬ (c.shown.getD a 0 = -1 ∨ c.shown.getD a 0 = shOf s z (lo + q))) : wPart c a s z lo (q + 1) = wPart c a s z lo q := by
  unfold wPart
  rw [upto_end, List.flatMap_append]
  simp only [List.flatMap_cons, List.flatMap_nil, List.append_nil, wayR, if_neg h]
theorem wPart_len (c : Ctr) (a : Nat) (s lo : Int) (z : Bool) : ∀ q, (wPart c a s z lo q).length ≤ q
  | 0 => by simp [wPart, upto]
  | q + 1 => by
    have ih := wPart_len c a s lo z q
    by_cases h : c.shown.getD a 0 = -1 ∨ c.shown.getD a 0 = shOf s z (lo + q)
    · rw [wPart_y h, List.length_append]; simp; omega
    · rw [wPart_n h]; omega
theorem wPart_all {c : Ctr} {h : Hour} {a : Nat} {s : Int} {n q : Nat} (hz : canZ c a (decide (n = 1)) = true) (hq : q = (h.hi + c.twice + 1 - max 0 (h.lo - c.skip)).toNat) : wTo c h a s (n + 1) = wTo c h a s n ++ wPart c a s (decide (n = 1)) (max 0 (h.lo - c.skip)) q := by
  subst hq
  rw [wTo, waysZ, hz]; rfl
theorem waysZ_len {c : Ctr} {h : Hour} {a : Nat} {s : Int} {z : Bool} {n : Nat} (hc : c.Ok n) {k : Int} (hh : h.Ok k) : (waysZ c h a s z).length ≤ 10 := by
  unfold waysZ
  split
  · have := wPart_len c a s (max 0 (h.lo - c.skip)) z (h.hi + c.twice + 1 - max 0 (h.lo - c.skip)).toNat
    have h1 := hc.skip
    have h2 := hc.twice
    have h3 := hh.w
    have h4 := hh.lo
    have h5 := hh.le
    refine Nat.le_trans this ?_
    omega
  · simp
theorem wTo_len {c : Ctr} {h : Hour} {a : Nat} {s : Int} {n : Nat} (hc : c.Ok n) {k : Int} (hh : h.Ok k) : ∀ m, (wTo c h a s m).length ≤ 10 * m
  | 0 => by simp [wTo]
  | m + 1 => by
    have ih := wTo_len (a := a) (s := s) hc hh m
    have := waysZ_len (a := a) (s := s) (z := decide (m = 1)) hc hh
    rw [wTo, List.length_append]; omega
theorem canZ_n {c : Ctr} {a n : Nat} (hn : n < 2) (h : (n = 0 ∧ c.zero.getD a 0 = 1) ∨ (n = 1 ∧ c.zero.getD a 0 = 0)) : canZ c a (decide (n = 1)) = false := by
  unfold canZ
  rcases h with ⟨h1, h2⟩ | ⟨h1, h2⟩
  · subst h1; simp only [show decide (0 = 1) = false from rfl, Bool.false_eq_true, if_false]; simp only [h2]; rfl
  · subst h1; simp only [show decide (1 = 1) = true from rfl, if_true]; simp only [h2]; rfl
theorem canZ_y {c : Ctr} {a n : Nat} (hn : n < 2) (h : ¬ ((n = 0 ∧ c.zero.getD a 0 = 1) ∨ (n = 1 ∧ c.zero.getD a 0 = 0))) : canZ c a (decide (n = 1)) = true := by
  unfold canZ
  by_cases e : n = 1
  · subst e
    rw [decide_eq_true rfl, if_pos rfl, decide_eq_true_eq]
    intro h2; exact h (.inr ⟨rfl, h2⟩)
  · rw [decide_eq_false e, if_neg (by simp), decide_eq_true_eq]
    intro h2; exact h (.inl ⟨by omega, h2⟩)
theorem sh_mul {s k : Int} {n : Nat} (hn : n < 2) : (s * (1 - (n : Int)) + k) % 100 = shOf s (decide (n = 1)) k := by
  unfold shOf
  by_cases e : n = 1
  · subst e; simp
  · have : n = 0 := by omega
    subst this; simp
theorem mul_in {s : Int} {n : Nat} (hn : n < 2) (hs : 0 ≤ s ∧ s < 100) : 0 ≤ s * (1 - (n : Int)) ∧ s * (1 - (n : Int)) < 100 := by
  by_cases e : n = 1
  · subst e; simp
  · have : n = 0 := by omega
    subst this; simp; omega
end Go.Rt.Ch
/- Walks of this seat, printed by gen.py over the engine: what each function returns, in whatever world. No conditions but those of each contract. -/
set_option linter.unusedVariables false
set_option linter.unusedSimpArgs false
set_option maxRecDepth 20000
namespace Go.Proofs
open Go.Rt Go.Rt.Ch
open Go.Rt.Ha (firstE firstE_step firstE_stop firstE_end failE nameE felt spanL upto span_mem listL fewest fewTo bit)
attribute [local irreducible] WL WC Con Yd At Ats Sl Agree DW
theorem Try_E_fb1 (x0 : Int) (x1 : Int) (x2 : Bool) (w : World) : (Instr.build 140 [(0, .int .i64 x0), (1, .int .i64 x1), (2, .bool x2)].toArray).run Try.prog w = .ok (.agg #[.int .i64 x0, .int .i64 x1, .bool x2]) w := by kernel_rfl
theorem Try_E_fb2 (x0 : Int) (x1 : Int) (x2 : Bool) (w : World) : (Instr.buildSlice 152 1 [(0, .agg #[.int .i64 x0, .int .i64 x1, .bool x2])].toArray).run Try.prog w = .ok (.slice (some ⟨w.heap.size, 0, none⟩) 1 1) (w.alloc (Go.Rt.blk 140 [.int .i64 x0, .int .i64 x1, .bool x2])) := by kernel_rfl
theorem Try_info140 : Try.prog.info? 140 = some Try.t140 := by kernel_rfl
/-- A board that lies opened in memory. -/
structure BK (w0 : World) (F : List (Nat × Obj)) (b : Board) (p : AtB) (bb mm : Nat) : Prop where
  i : BIn w0 F b p
  l : Ats w0 F bb 0 [.int .i64 b.holds, .slice p.ah b.hours.length p.ch, .slice p.ac b.ctrs.length p.cc, .map (some mm)]
  ok : b.Ok
theorem BK.mono {w0 : World} {F F' : List (Nat × Obj)} {b : Board} {p : AtB} {bb mm : Nat} (h : BK w0 F b p bb mm) (hs : ∀ w, St w0 w F' → St w0 w F) : BK w0 F' b p bb mm := ⟨h.i.mono hs, h.l.mono hs, h.ok⟩
theorem BK.cons {w0 : World} {F : List (Nat × Obj)} {x : Nat × Obj} {b : Board} {p : AtB} {bb mm : Nat} (h : BK w0 F b p bb mm) : BK w0 (x :: F) b p bb mm := h.mono fun _ h => h.tail
theorem BK.app {w0 : World} {F B : List (Nat × Obj)} {b : Board} {p : AtB} {bb mm : Nat} (h : BK w0 F b p bb mm) : BK w0 (B ++ F) b p bb mm := h.mono fun _ h => h.drop
theorem key_zip {P : Program} {t k : Nat} {fs : Array Field} (ks : List Nat) (hu : P.underlying t = some (.struct fs)) (hp : P.stoodInHeld t = false) (h1 : fs.toList = (fs.toList.zip ks).map Prod.fst) (h2 : ∀ q ∈ fs.toList.zip ks, FF P q.1 q.2 ∧ q.1.offset + q.2 ≤ k)
    (h3 : ∀ q ∈ fs.toList.zip ks, P.underlying q.1.type = some (.int .i64) ∨ ∃ el, P.underlying q.1.type = some (.array q.2 el) ∧ P.underlying el = some (.int .i64) ∧ ∀ w, (sizeOf el).run P w = .ok 1 w)
    (h4 : ∀ l m : List Int, l.length = k → m.length = k → ((fs.toList.zip ks).all fun q => decide ((l.drop q.1.offset).take q.2 = (m.drop q.1.offset).take q.2)) = decide (l = m)) : KeyTy P t k := keyTy_struct _ hu hp h1 h2 h3 h4
theorem key154_cov : ∀ l m : List Int, l.length = 3 → m.length = 3 → (decide ((l.drop 0).take 1 = (m.drop 0).take 1) && (decide ((l.drop 1).take 1 = (m.drop 1).take 1) && (decide ((l.drop 2).take 1 = (m.drop 2).take 1) && true))) = decide (l = m) := by
  intro l m hl hm
  match l, hl with
  | [a, b, c], _ =>
    match m, hm with
    | [a', b', c'], _ => rw [Bool.eq_iff_iff]; simp
theorem key154 : KeyTy Try.prog 154 3 := by
  refine key_zip [1, 1, 1] Try.underlying154 (by kernel_rfl) rfl ?_ ?_ ?_
  · intro q hq
    simp only [List.zip_cons_cons, List.zip_nil_right, List.mem_cons, List.not_mem_nil, or_false] at hq
    rcases hq with rfl | rfl | rfl
    · exact ⟨⟨by decide, .inl ⟨Try.underlying3, rfl⟩⟩, by decide⟩
    · exact ⟨⟨by decide, .inl ⟨Try.underlying3, rfl⟩⟩, by decide⟩
    · exact ⟨⟨by decide, .inl ⟨Try.underlying3, rfl⟩⟩, by decide⟩
  · intro q hq
    simp only [List.zip_cons_cons, List.zip_nil_right, List.mem_cons, List.not_mem_nil, or_false] at hq
    rcases hq with rfl | rfl | rfl
    · exact .inl Try.underlying3
    · exact .inl Try.underlying3
    · exact .inl Try.underlying3
  · exact key154_cov
/-- An entry of the memo: how a counter stands before an hour, and its ways. -/
def Ent (w0 : World) (b : Board) (MB : List (Nat × Obj)) (q : List Int × Value × Nat) : Prop :=
  ∃ (c a : Nat) (s : Int) (x : Option Addr) (cap : Nat), q.1 = [(c : Int), (a : Int), s] ∧ q.2.1 = .slice x (waysAt b c a s).length cap ∧ Sl w0 MB x 3 (wrows (waysAt b c a s))
theorem Ent.mono {w0 : World} {b : Board} {M M' : List (Nat × Obj)} {q : List Int × Value × Nat} (h : Ent w0 b M q) (hs : ∀ w, St w0 w M' → St w0 w M) : Ent w0 b M' q := by
  obtain ⟨c, a, s, x, cap, h1, h2, h3⟩ := h
  exact ⟨c, a, s, x, cap, h1, h2, h3.mono hs⟩
/-- What the memo of a board that is looked at holds. -/
def Memo (w0 : World) (b : Board) (mm : Nat) (M : List (Nat × Obj)) : Prop :=
  ∃ (es : List (List Int × Value × Nat)) (ck : Nat) (MB : List (Nat × Obj)), M = (mm, .map (ents (fun l : List Int => ia l) es).toArray ck) :: MB ∧ MOk es ck ∧ (∀ q ∈ es, q.1.length = 3) ∧ ∀ q ∈ es, Ent w0 b MB q
theorem memo_new (w0 : World) (b : Board) (mm : Nat) : Memo w0 b mm [(mm, .map #[] 0)] := ⟨[], 0, [], rfl, mok_nil, by simp, by simp⟩
theorem flat_wrows (l : List Ch.Way) (x : Ch.Way) : (wrows (l ++ [x])).flatten = (wrows l).flatten ++ [x.cells].flatten := by simp [wrows]
theorem own_way {v : Value} {l : List Ch.Way} {x : Ch.Way} {B : List (Nat × Obj)} (h : Rt.Own v 140 3 (l.length + 1) ((wrows l).flatten ++ [x.cells].flatten) B) : Rt.Own v 140 3 (l ++ [x]).length (wrows (l ++ [x])).flatten B := by
  rw [flat_wrows, List.length_append]; exact h
theorem wrows_row (l : List Ch.Way) : ∀ row ∈ wrows l, row.length = 3 := by intro row h; obtain ⟨q, _, rfl⟩ := List.mem_map.1 h; rfl
theorem c110f {w0 w : World} {F : List (Nat × Obj)} (b : Board) (p : AtB) (bb mm : Nat) (hk : BK w0 F b p bb mm) (c a : Nat) (hc : c < b.ctrs.length) (ha : a < b.hours.length) (s : Int) (hs1 : 0 ≤ s ∧ s < 100) (es : List (List Int × Value × Nat)) (ck : Nat) (hes : ∀ q ∈ es, q.1.length = 3) (u : Value) (a9 : Option Addr) (n9 c9 : Nat) (hu : u = .slice a9 n9 c9) (hf : getA [(c : Int), (a : Int), s] es = some u) (hs : St w0 w ((mm, .map (ents (fun l : List Int => ia l) es).toArray ck) :: F)) :
  Con Try.prog 110 [.pointer (some ⟨bb, 0, none⟩), .agg #[.int .i64 (c : Int), .int .i64 (a : Int), .int .i64 s]] w fun v w' => v = u ∧ St w0 w' ((mm, .map (ents (fun l : List Int => ia l) es).toArray ck) :: F) := by
  refine con_of_wc (n := 128) Try.func110 rfl rfl (Nat.le_of_ble_eq_true rfl) ?_
  subst hu
  have hb := hk.l
  refine w_seq (fun K2 hK1 => ?_)
  refine w_region ?_
  refine w_box (v := .agg #[.int _ _, .int _ _, .int _ _]) (cs := [_, _, _]) want_none rfl rfl rfl hs (fun b3 w4 hs5 => ?_)
  refine w_pure want_none (y_assign (v := _) rfl rfl) rfl ?_
  refine w_nil ?_
  refine q_then (hK1 _ _ ?_)
  refine w_seq (fun K7 hK6 => ?_)
  refine w_seq (fun K9 hK8 => ?_)
  refine w_draw [] [(0, 0), (1, 0), (2, 0), (3, 1), (4, 1), (5, 1), (6, 0), (7, 0), (8, 0), (9, 0), (10, 0)] Try_mo (drawOK_of (by kernel_rfl)) hs5 (fun w10 hs11 => ?_)
  refine d_any rfl want_none rfl (fun _ => (y_move (v := .pointer _) rfl rfl)) ?_
  refine d_any rfl want_none rfl (fun _ => (y_nilCheck rfl rfl)) ?_
  refine d_any rfl want_none rfl (fun _ => (y_fieldAddr (o := 3) (i := 1) Try.underlying129 rfl Try.sizeOf127 rfl rfl rfl)) ?_
  refine d_take rfl want_none rfl hs11 (fun _ hq => (y_load1 Try.isAgg127 hq.tail.tail rfl rfl (show Ats _ _ _ _ [_] from Ats.part hb 3 1))) ?_
  refine d_take rfl want_none rfl hs11 (fun _ hq => (y_loadN (vs := [_, _, _]) Try.isAgg154 Try.sizeOf154 hq rfl rfl (ats_own (i := 0) (vs := [_, _, _]) rfl rfl))) ?_
  refine d_take rfl want_none rfl hs11 (fun _ hq => (G_look2S (i := 1) (a := [(c : Int), (a : Int), s]) Try.underlying127 (keyG_ia key154) rfl hes hq rfl rfl rfl rfl rfl hf)) ?_
  refine d_any rfl want_none rfl (fun _ => (y_move (v := .tuple _) rfl rfl)) ?_
  refine d_any rfl want_none rfl (fun _ => (y_extract (v := .slice _ _ _) rfl rfl rfl)) ?_
  refine d_any rfl want_none rfl (fun _ => (y_extract (v := .bool _) rfl rfl rfl)) ?_
  refine d_any rfl want_none rfl (fun _ => (y_assign (v := .slice _ _ _) rfl rfl)) ?_
  refine d_any rfl want_none rfl (fun _ => (y_assign (v := .bool _) rfl rfl)) ?_
  refine d_nil ?_
  refine q_then (hK8 _ _ ?_)
  refine w_seq (fun K13 hK12 => ?_)
  refine w_region ?_
  refine w_pure want_none (y_move (v := .bool _) rfl rfl) rfl ?_
  refine w_nil ?_
  refine q_then (hK12 _ _ ?_)
  refine w_cond rfl rfl (fun h14 => ?_) (fun h14 => ?_)
  ·
   try simp only [Bool.not_eq_true', Bool.not_eq_false', decide_eq_true_eq, decide_eq_false_iff_not, Int.not_lt, Int.not_le] at h14
   refine w_seq (fun K16 hK15 => ?_)
   refine w_region ?_
   refine w_pure want_none (y_move (v := .slice _ _ _) rfl rfl) rfl ?_
   refine w_pure want_none (y_assign (v := .slice _ _ _) rfl rfl) rfl ?_
   refine w_nil ?_
   refine q_then (hK15 _ _ ?_)
   refine w_ret ?_
   refine q_then_ret ?_
   refine q_ret (l := [.tmp 4]) (vs := [_]) rfl ⟨⟨rfl, show _ = (.slice _ _ _ : Value) from rfl⟩, trivial⟩ ?_
   exact ⟨rfl, hs11.tail⟩
  ·
   exfalso; simp at h14

theorem c110n {w0 w : World} {F : List (Nat × Obj)} (b : Board) (p : AtB) (bb mm : Nat) (hk : BK w0 F b p bb mm) (c a : Nat) (hc : c < b.ctrs.length) (ha : a < b.hours.length) (s : Int) (hs1 : 0 ≤ s ∧ s < 100) (es : List (List Int × Value × Nat)) (ck : Nat) (hes : ∀ q ∈ es, q.1.length = 3) (hf : getA [(c : Int), (a : Int), s] es = none) (hs : St w0 w ((mm, .map (ents (fun l : List Int => ia l) es).toArray ck) :: F)) :
  Con Try.prog 110 [.pointer (some ⟨bb, 0, none⟩), .agg #[.int .i64 (c : Int), .int .i64 (a : Int), .int .i64 s]] w fun v w' => ∃ (x : Option Addr) (cap : Nat) (B : List (Nat × Obj)), v = .slice x (waysAt b c a s).length cap ∧ Sl w0 B x 3 (wrows (waysAt b c a s)) ∧ St w0 w' ((mm, .map (ents (fun l : List Int => ia l) (putA [(c : Int), (a : Int), s] v ck es)).toArray (if idxA [(c : Int), (a : Int), s] es 0 = none then ck + 1 else ck)) :: (B ++ F)) := by
  refine con_of_wc (n := 128) Try.func110 rfl rfl (Nat.le_of_ble_eq_true rfl) ?_
  have hb := hk.l
  have hcok := hk.ok.ctr _ (List.getElem_mem hc)
  have hhok := hk.ok.hour _ (List.getElem_mem ha)
  obtain ⟨bx, ox, hbx, hxc⟩ := sl_krows hk.i.c hc
  obtain ⟨by_, oy, hby, hxh⟩ := sl_hrows hk.i.h ha
  have hz0 := hk.i.z c hc
  have hs0 := hk.i.s c hc
  rw [← ctr_at hc] at hcok hxc hz0 hs0
  rw [← hour_at ha] at hhok hxh
  have k1 := hcok.skip
  have k2 := hcok.twice
  have k3 := hhok.lo
  have k4 := hhok.le
  have k5 := hhok.hi
  have k6 := hhok.w
  have k7 := hcok.lz
  have k8 := hcok.ls
  have k9 := hk.ok.lh
  have haz : a < (ctrOf b c).zero.length := by omega
  have has : a < (ctrOf b c).shown.length := by omega
  obtain ⟨bz, oz, hbz, hxz⟩ := sl_ints hz0 haz
  obtain ⟨bv, ov, hbv, hxv⟩ := sl_ints hs0 has
  have hgz : (ctrOf b c).zero.getD a 0 = (ctrOf b c).zero[a] := by simp [List.getD, haz]
  have hgs : (ctrOf b c).shown.getD a 0 = (ctrOf b c).shown[a] := by simp [List.getD, has]
  have hsr := hcok.shown _ (List.getElem_mem has)
  refine w_seq (fun K2 hK1 => ?_)
  refine w_region ?_
  refine w_box (v := .agg #[.int _ _, .int _ _, .int _ _]) (cs := [_, _, _]) want_none rfl rfl rfl hs (fun b3 w4 hs5 => ?_)
  refine w_pure want_none (y_assign (v := _) rfl rfl) rfl ?_
  refine w_nil ?_
  refine q_then (hK1 _ _ ?_)
  refine w_seq (fun K7 hK6 => ?_)
  refine w_seq (fun K9 hK8 => ?_)
  refine w_draw [] [(0, 0), (1, 0), (2, 0), (3, 1), (4, 1), (5, 1), (6, 0), (7, 0), (8, 0), (9, 0), (10, 0)] Try_mo (drawOK_of (by kernel_rfl)) hs5 (fun w10 hs11 => ?_)
  refine d_any rfl want_none rfl (fun _ => (y_move (v := .pointer _) rfl rfl)) ?_
  refine d_any rfl want_none rfl (fun _ => (y_nilCheck rfl rfl)) ?_
  refine d_any rfl want_none rfl (fun _ => (y_fieldAddr (o := 3) (i := 1) Try.underlying129 rfl Try.sizeOf127 rfl rfl rfl)) ?_
  refine d_take rfl want_none rfl hs11 (fun _ hq => (y_load1 Try.isAgg127 hq.tail.tail rfl rfl (show Ats _ _ _ _ [_] from Ats.part hb 3 1))) ?_
  refine d_take rfl want_none rfl hs11 (fun _ hq => (y_loadN (vs := [_, _, _]) Try.isAgg154 Try.sizeOf154 hq rfl rfl (ats_own (i := 0) (vs := [_, _, _]) rfl rfl))) ?_
  refine d_take rfl want_none rfl hs11 (fun _ hq => (G_look2N (i := 1) (a := [(c : Int), (a : Int), s]) Try.underlying127 (keyG_ia key154) rfl hes Try.zeroValue152 hq rfl rfl rfl rfl rfl hf)) ?_
  refine d_any rfl want_none rfl (fun _ => (y_move (v := .tuple _) rfl rfl)) ?_
  refine d_any rfl want_none rfl (fun _ => (y_extract (v := .slice _ _ _) rfl rfl rfl)) ?_
  refine d_any rfl want_none rfl (fun _ => (y_extract (v := .bool _) rfl rfl rfl)) ?_
  refine d_any rfl want_none rfl (fun _ => (y_assign (v := .slice _ _ _) rfl rfl)) ?_
  refine d_any rfl want_none rfl (fun _ => (y_assign (v := .bool _) rfl rfl)) ?_
  refine d_nil ?_
  refine q_then (hK8 _ _ ?_)
  refine w_seq (fun K13 hK12 => ?_)
  refine w_region ?_
  refine w_pure want_none (y_move (v := .bool _) rfl rfl) rfl ?_
  refine w_nil ?_
  refine q_then (hK12 _ _ ?_)
  refine w_cond rfl rfl (fun h14 => ?_) (fun h14 => ?_)
  ·
   exfalso
   try simp only [Bool.not_eq_true', Bool.not_eq_false', decide_eq_true_eq, decide_eq_false_iff_not, Int.not_lt, Int.not_le] at h14
   simp at h14
  ·
   try simp only [Bool.not_eq_true', Bool.not_eq_false', decide_eq_true_eq, decide_eq_false_iff_not, Int.not_lt, Int.not_le] at h14
   refine w_skip ?_
   refine q_then (hK6 _ _ ?_)
   refine w_seq (fun K16 hK15 => ?_)
   refine w_region ?_
   refine w_pure want_none (y_assign (v := _) rfl rfl) rfl ?_
   refine w_nil ?_
   refine q_then (hK15 _ _ ?_)
   refine w_seq (fun K18 hK17 => ?_)
   refine w_cut [8, 9, 26, 27, 28, 29, 30, 31, 32, 33, 34, 35, 36, 37, 38, 39, 40, 41, 42, 43, 44] [8, 9] (fun vs w => ∃ b8 b9, vs = [.pointer (some ⟨b8, 0, none⟩), .pointer (some ⟨b9, 0, none⟩)] ∧ St w0 w ((b9, blk 31 [.int .i64 (hourOf b a).lo, .int .i64 (hourOf b a).hi]) :: (b8, blk 76 ((ctrOf b c).cells (p.pc c))) :: (b3, blk 154 [.int .i64 (c : Int), .int .i64 (a : Int), .int .i64 s]) :: (mm, .map (ents (fun l : List Int => ia l) es).toArray ck) :: F)) (fun K20 hC19 => ?_) ?_
   ·
    refine w_drawT (C := fun w => St w0 w _) [] (.two [(0, 0), (1, 0), (2, 0), (3, 0), (4, 1), (5, 0), (6, 1), (7, 0), (8, 1), (9, 0), (10, 0), (11, 0), (12, 0), (13, 1), (14, 0), (15, 1), (16, 0), (17, 0), (18, 1)] 19 20 (.done [(20, 2), (21, 2), (22, 2)]) (.done [(19, 2), (21, 2), (22, 2)])) Try_mo (by kernel_rfl) hs11 (fun _ h => h.drew) (fun w21 hs22 => ?_)
    refine dt_two ?_
    refine d_any rfl want_none rfl (fun _ => (y_move (v := .pointer _) rfl rfl)) ?_
    refine d_any rfl want_none rfl (fun _ => (y_nilCheck rfl rfl)) ?_
    refine d_any rfl want_none rfl (fun _ => (y_fieldAddr (o := 0) (i := 0) Try.underlying129 rfl Try.sizeOf25 rfl rfl rfl)) ?_
    refine d_any rfl want_none rfl (fun _ => (y_fieldAddr (o := 2) (i := 2) Try.underlying25 rfl Try.sizeOf23 rfl rfl rfl)) ?_
    refine d_take rfl want_none rfl hs22 (fun _ hq => (yd_slice hbx (y_load1 Try.isAgg23 hq.tail.tail rfl rfl (show Ats _ _ _ _ [_] from Ats.part hb 2 1)))) ?_
    refine d_any rfl want_none rfl (fun _ => (y_fieldAddr (o := 0) (i := 0) Try.underlying154 rfl Try.sizeOf3 rfl rfl rfl)) ?_
    refine d_take rfl want_none rfl hs22 (fun _ hq => (y_load1 Try.isAgg3 hq rfl rfl (ats_own (i := 0) (vs := [_]) rfl rfl))) ?_
    refine d_any rfl want_none rfl (fun _ => (y_indexS Try.underlying23 Try.sizeOf76 rfl rfl rfl rfl (i := c) rfl hc)) ?_
    refine d_take rfl want_none rfl hs22 (fun _ hq => (y_loadN (vs := [_, _, _, _, _, _]) Try.isAgg76 Try.sizeOf76 hq.tail.tail rfl rfl hxc)) ?_
    refine d_any rfl want_none rfl (fun _ => (y_move (v := .pointer _) rfl rfl)) ?_
    refine d_any rfl want_none rfl (fun _ => (y_nilCheck rfl rfl)) ?_
    refine d_any rfl want_none rfl (fun _ => (y_fieldAddr (o := 0) (i := 0) Try.underlying129 rfl Try.sizeOf25 rfl rfl rfl)) ?_
    refine d_any rfl want_none rfl (fun _ => (y_fieldAddr (o := 1) (i := 1) Try.underlying25 rfl Try.sizeOf22 rfl rfl rfl)) ?_
    refine d_take rfl want_none rfl hs22 (fun _ hq => (yd_slice hby (y_load1 Try.isAgg22 hq.tail.tail rfl rfl (show Ats _ _ _ _ [_] from Ats.part hb 1 1)))) ?_
    refine d_any rfl want_none rfl (fun _ => (y_fieldAddr (o := 1) (i := 1) Try.underlying154 rfl Try.sizeOf3 rfl rfl rfl)) ?_
    refine d_take rfl want_none rfl hs22 (fun _ hq => (y_load1 Try.isAgg3 hq rfl rfl (ats_own (i := 0) (vs := [_]) rfl rfl))) ?_
    refine d_any rfl want_none rfl (fun _ => (y_indexS Try.underlying22 Try.sizeOf70 rfl rfl rfl rfl (i := a) rfl ha)) ?_
    refine d_any rfl want_none rfl (fun _ => (y_fieldAddr (o := 1) (i := 1) Try.underlying70 rfl Try.sizeOf31 rfl rfl rfl)) ?_
    refine d_take rfl want_none rfl hs22 (fun _ hq => (y_loadN (vs := [_, _]) Try.isAgg31 Try.sizeOf31 hq.tail.tail rfl rfl (show Ats _ _ _ _ [_, _] from Ats.part hxh 1 2))) ?_
    refine d_two rfl rfl ?_ ?_
    ·
     refine w_alloc (cs := [_, _, _, _, _, _]) want_none Try.zeroValue76 rfl hs22 (fun b23 w24 hs25 => ?_)
     refine w_nil ?_
     refine qn ⟨hs25.tail, ?_⟩
     refine dt_done ?_
     refine d_eff rfl ?_
     refine w_alloc (cs := [_, _]) want_none Try.zeroValue31 rfl hs25 (fun b26 w27 hs28 => ?_)
     refine w_nil ?_
     refine qn ⟨hs28.tail.tail, ?_⟩
     refine d_eff rfl ?_
     refine w_store (i := 1) (v := .agg #[.string _, .int _ _, .int _ _, .int _ _, .slice _ _ _, .slice _ _ _]) (vs := [_, _, _, _, _, _]) want_none Try.sizeOf76 rfl rfl rfl rfl rfl (by simp [Value.oneCell']) hs28 rfl (Nat.le_of_ble_eq_true rfl) (fun w29 hs30 => ?_)
     refine w_nil ?_
     refine qn ⟨hs30.tail.tail, ?_⟩
     refine d_eff rfl ?_
     refine w_store (i := 0) (v := .agg #[.int _ _, .int _ _]) (vs := [_, _]) want_none Try.sizeOf31 rfl rfl rfl rfl rfl (by simp [Value.oneCell']) hs30 rfl (Nat.le_of_ble_eq_true rfl) (fun w31 hs32 => ?_)
     refine w_nil ?_
     refine qn ⟨hs32.tail.tail, ?_⟩
     refine d_nil ?_
     refine q_then (hC19 _ _ (Md.intro (by repeat (first | exact agree_refl | exact agree_mix | refine agree_upd rfl ?_ | refine agree_updL rfl ?_ _ | refine agree_mixin rfl ?_)) ?_))
     first
       | exact ⟨_, _, rfl, hs32⟩
       | exact ⟨_, _, rfl, swp2 (show St _ _ (_ :: _ :: _) from hs32)⟩
    ·
     refine w_alloc (cs := [_, _]) want_none Try.zeroValue31 rfl hs22 (fun b33 w34 hs35 => ?_)
     refine w_nil ?_
     refine qn ⟨hs35.tail, ?_⟩
     refine dt_done ?_
     refine d_eff rfl ?_
     refine w_alloc (cs := [_, _, _, _, _, _]) want_none Try.zeroValue76 rfl hs35 (fun b36 w37 hs38 => ?_)
     refine w_nil ?_
     refine qn ⟨hs38.tail.tail, ?_⟩
     refine d_eff rfl ?_
     refine w_store (i := 0) (v := .agg #[.string _, .int _ _, .int _ _, .int _ _, .slice _ _ _, .slice _ _ _]) (vs := [_, _, _, _, _, _]) want_none Try.sizeOf76 rfl rfl rfl rfl rfl (by simp [Value.oneCell']) hs38 rfl (Nat.le_of_ble_eq_true rfl) (fun w39 hs40 => ?_)
     refine w_nil ?_
     refine qn ⟨hs40.tail.tail, ?_⟩
     refine d_eff rfl ?_
     refine w_store (i := 1) (v := .agg #[.int _ _, .int _ _]) (vs := [_, _]) want_none Try.sizeOf31 rfl rfl rfl rfl rfl (by simp [Value.oneCell']) hs40 rfl (Nat.le_of_ble_eq_true rfl) (fun w41 hs42 => ?_)
     refine w_nil ?_
     refine qn ⟨hs42.tail.tail, ?_⟩
     refine d_nil ?_
     refine q_then (hC19 _ _ (Md.intro (by repeat (first | exact agree_refl | exact agree_mix | refine agree_upd rfl ?_ | refine agree_updL rfl ?_ _ | refine agree_mixin rfl ?_)) ?_))
     first
       | exact ⟨_, _, rfl, hs42⟩
       | exact ⟨_, _, rfl, swp2 (show St _ _ (_ :: _ :: _) from hs42)⟩
   ·
    intro vs μ w43 hM
    obtain ⟨b8, b9, rfl, hs⟩ := hM
    refine q_then (hK17 _ _ ?_)
    refine w_seq (fun K45 hK44 => ?_)
    refine w_seq (fun K47 hK46 => ?_)
    refine w_region ?_
    refine w_pure want_none (y_move (v := _) rfl rfl) rfl ?_
    refine w_nil ?_
    refine q_then (hK46 _ _ ?_)
    refine w_block ?_
    refine w_loop [7, 10, 11, 12, 13, 14, 45, 46, 47, 48, 49, 50, 51, 52, 53, 54, 55, 56, 57, 58, 59, 60, 61, 62, 63, 64, 65, 66, 67, 68, 69, 70, 71, 72, 73, 74, 75, 76, 77, 78, 79, 80, 81, 82, 83, 84, 85, 86, 87, 88, 89, 90, 91, 92, 93, 94, 95, 96, 97, 98, 99, 100, 101, 102, 103, 104, 105, 106, 107, 108, 109, 110, 111, 112, 113, 114, 115, 116, 117, 118, 119, 120] [7, 45] (fun kk vs w => ∃ (z : Nat) (v : Value) (B : List (Nat × Obj)), vs = [v, .int .i64 z] ∧ z ≤ 2 ∧ kk = 2 - z ∧ Rt.Own v 140 3 (wTo (ctrOf b c) (hourOf b a) a s z).length (wrows (wTo (ctrOf b c) (hourOf b a) a s z)).flatten B ∧ St w0 w ((b9, blk 31 [.int .i64 (hourOf b a).lo, .int .i64 (hourOf b a).hi]) :: (b8, blk 76 ((ctrOf b c).cells (p.pc c))) :: (b3, blk 154 [.int .i64 (c : Int), .int .i64 (a : Int), .int .i64 s]) :: (mm, .map (ents (fun l : List Int => ia l) es).toArray ck) :: (B ++ F))) (2) ?_ ?_
    ·
     exact ⟨0, _, [], rfl, by omega, by omega, own_nil 140 3, hs⟩
    ·
     intro k vs μ w50 hI K49 hN48
     obtain ⟨z, v, B, rfl, hza, rfl, hown, hs⟩ := hI
     have hzb : decide ((z : Int) = 1) = decide (z = 1) := by rw [Bool.eq_iff_iff]; simp; omega
     have hwl := wTo_len (a := a) (s := s) hcok hhok z
     refine w_seq (fun K52 hK51 => ?_)
     refine w_region ?_
     refine w_pure want_none (y_lss rfl rfl rfl rfl) rfl ?_
     refine w_nil ?_
     refine q_then (hK51 _ _ ?_)
     refine w_seq (fun K54 hK53 => ?_)
     refine w_cond rfl rfl (fun h55 => ?_) (fun h55 => ?_)
     ·
      try simp only [Bool.not_eq_true', Bool.not_eq_false', decide_eq_true_eq, decide_eq_false_iff_not, Int.not_lt, Int.not_le] at h55
      refine w_skip ?_
      refine q_then (hK53 _ _ ?_)
      refine w_seq (fun K57 hK56 => ?_)
      refine w_block ?_
      refine w_seq (fun K59 hK58 => ?_)
      refine w_region ?_
      refine w_pure want_none (y_move (v := .int _ _) rfl rfl) rfl ?_
      refine w_pure want_none (y_assign (v := .int _ _) rfl rfl) rfl ?_
      refine w_nil ?_
      refine q_then (hK58 _ _ ?_)
      refine w_seq (fun K61 hK60 => ?_)
      refine w_seq (fun K63 hK62 => ?_)
      refine w_region ?_
      refine w_pure want_none (y_move (v := .int _ _) rfl rfl) rfl ?_
      refine w_pure want_none (y_eql rfl rfl rfl rfl) rfl ?_
      refine w_pure want_none (y_move (v := .bool _) rfl rfl) rfl ?_
      refine w_split (fun h64 => ?_) (fun h64 => ?_)
      ·
       try simp only [Bool.not_eq_true', Bool.not_eq_false', decide_eq_true_eq, decide_eq_false_iff_not, Int.not_lt, Int.not_le] at h64
       refine w_pure (want_yes rfl rfl rfl) (y_fieldAddr (o := 4) (i := 4) Try.underlying76 rfl Try.sizeOf39 rfl rfl rfl) rfl ?_
       refine w_pure (want_yes rfl rfl rfl) (yd_slice hbz (y_load1 Try.isAgg39 hs rfl rfl (ats_own (i := 1) (vs := [_]) rfl rfl))) rfl ?_
       refine w_pure (want_yes rfl rfl rfl) (y_fieldAddr (o := 1) (i := 1) Try.underlying154 rfl Try.sizeOf3 rfl rfl rfl) rfl ?_
       refine w_pure (want_yes rfl rfl rfl) (y_load1 Try.isAgg3 hs rfl rfl (ats_own (i := 2) (vs := [_]) rfl rfl)) rfl ?_
       refine w_pure (want_yes rfl rfl rfl) (y_indexS Try.underlying39 Try.sizeOf3 rfl rfl rfl rfl (i := a) rfl haz) rfl ?_
       refine w_pure (want_yes rfl rfl rfl) (y_load1 Try.isAgg3 hs.tail.tail.tail.tail.drop rfl rfl hxz) rfl ?_
       refine w_pure (want_yes rfl rfl rfl) (y_eql rfl rfl rfl rfl) rfl ?_
       refine w_pure want_none (y_pickT (v := .bool _) rfl rfl rfl rfl) rfl ?_
       refine w_pure want_none (y_move (v := .bool _) rfl rfl) rfl ?_
       refine w_split (fun h65 => ?_) (fun h65 => ?_)
       ·
        try simp only [Bool.not_eq_true', Bool.not_eq_false', decide_eq_true_eq, decide_eq_false_iff_not, Int.not_lt, Int.not_le] at h65
        refine w_skipop rfl rfl rfl ?_
        refine w_skipop rfl rfl rfl ?_
        refine w_skipop rfl rfl rfl ?_
        refine w_skipop' rfl rfl rfl ?_
        refine w_skipop' rfl rfl rfl ?_
        refine w_skipop' rfl rfl rfl ?_
        refine w_skipop' rfl rfl rfl ?_
        refine w_skipop' rfl rfl rfl ?_
        refine w_skipop' rfl rfl rfl ?_
        refine w_skipop' rfl rfl rfl ?_
        refine w_skipop rfl rfl rfl ?_
        refine w_pure want_none (y_pickT (v := _) rfl rfl rfl rfl) rfl ?_
        refine w_nil ?_
        refine q_then (hK62 _ _ ?_)
        refine w_condT rfl rfl ?_
        refine w_exit ?_
        refine q_then_exit ?_
        refine q_blk_this ?_
        refine q_then (hK56 _ _ ?_)
        refine w_region ?_
        refine w_pure want_none (y_add rfl rfl rfl rfl (by omega) (by omega)) rfl ?_
        refine w_pure want_none (y_move (v := .int _ _) rfl rfl) rfl ?_
        refine w_nil ?_
        refine q_then (hN48 _ _ (Nx.intro (2 - (z + 1)) (by omega) (by repeat (first | exact agree_mix | refine agree_upd rfl ?_ | refine agree_updL rfl ?_ _ | refine agree_mixin rfl ?_)) ?_))
        first
          | exact ⟨z + 1, v, B, rfl, by omega, rfl, by rw [wTo_no (canZ_n (by omega) (by omega))]; exact hown, hs⟩
          | exact ⟨z + 1, v, B, rfl, by omega, rfl, by rw [wPart_all (canZ_y (by omega) (by omega)) (q := q) (by omega)]; exact hown2, hs.tail⟩
       ·
        try simp only [Bool.not_eq_true', Bool.not_eq_false', decide_eq_true_eq, decide_eq_false_iff_not, Int.not_lt, Int.not_le] at h65
        refine w_pure (want_yes rfl rfl rfl) (y_move (v := .int _ _) rfl rfl) rfl ?_
        refine w_pure (want_yes rfl rfl rfl) (y_eql rfl rfl rfl rfl) rfl ?_
        refine w_pure (want_yes rfl rfl rfl) (y_move (v := .bool _) rfl rfl) rfl ?_
        refine w_split (fun h66 => ?_) (fun h66 => ?_)
        ·
         try simp only [Bool.not_eq_true', Bool.not_eq_false', decide_eq_true_eq, decide_eq_false_iff_not, Int.not_lt, Int.not_le] at h66
         refine w_pure (want_yes rfl rfl rfl) (y_fieldAddr (o := 4) (i := 4) Try.underlying76 rfl Try.sizeOf39 rfl rfl rfl) rfl ?_
         refine w_pure (want_yes rfl rfl rfl) (yd_slice hbz (y_load1 Try.isAgg39 hs rfl rfl (ats_own (i := 1) (vs := [_]) rfl rfl))) rfl ?_
         refine w_pure (want_yes rfl rfl rfl) (y_fieldAddr (o := 1) (i := 1) Try.underlying154 rfl Try.sizeOf3 rfl rfl rfl) rfl ?_
         refine w_pure (want_yes rfl rfl rfl) (y_load1 Try.isAgg3 hs rfl rfl (ats_own (i := 2) (vs := [_]) rfl rfl)) rfl ?_
         refine w_pure (want_yes rfl rfl rfl) (y_indexS Try.underlying39 Try.sizeOf3 rfl rfl rfl rfl (i := a) rfl haz) rfl ?_
         refine w_pure (want_yes rfl rfl rfl) (y_load1 Try.isAgg3 hs.tail.tail.tail.tail.drop rfl rfl hxz) rfl ?_
         refine w_pure (want_yes rfl rfl rfl) (y_eql rfl rfl rfl rfl) rfl ?_
         refine w_pure (want_yes rfl rfl rfl) (y_pickT (v := .bool _) rfl rfl rfl rfl) rfl ?_
         refine w_pure want_none (y_pickF (v := .bool _) rfl rfl rfl rfl) rfl ?_
         refine w_nil ?_
         refine q_then (hK62 _ _ ?_)
         refine w_cond rfl rfl (fun h67 => ?_) (fun h67 => ?_)
         ·
          try simp only [Bool.not_eq_true', Bool.not_eq_false', decide_eq_true_eq, decide_eq_false_iff_not, Int.not_lt, Int.not_le] at h67
          refine w_exit ?_
          refine q_then_exit ?_
          refine q_blk_this ?_
          refine q_then (hK56 _ _ ?_)
          refine w_region ?_
          refine w_pure want_none (y_add rfl rfl rfl rfl (by omega) (by omega)) rfl ?_
          refine w_pure want_none (y_move (v := .int _ _) rfl rfl) rfl ?_
          refine w_nil ?_
          refine q_then (hN48 _ _ (Nx.intro (2 - (z + 1)) (by omega) (by repeat (first | exact agree_mix | refine agree_upd rfl ?_ | refine agree_updL rfl ?_ _ | refine agree_mixin rfl ?_)) ?_))
          first
            | exact ⟨z + 1, v, B, rfl, by omega, rfl, by rw [wTo_no (canZ_n (by omega) (by omega))]; exact hown, hs⟩
            | exact ⟨z + 1, v, B, rfl, by omega, rfl, by rw [wPart_all (canZ_y (by omega) (by omega)) (q := q) (by omega)]; exact hown2, hs.tail⟩
         ·
          try simp only [Bool.not_eq_true', Bool.not_eq_false', decide_eq_true_eq, decide_eq_false_iff_not, Int.not_lt, Int.not_le] at h67
          refine w_skip ?_
          refine q_then (hK60 _ _ ?_)
          refine w_seq (fun K69 hK68 => ?_)
          refine w_region ?_
          refine w_pure want_none (y_loadN (vs := [_, _, _]) Try.isAgg154 Try.sizeOf154 hs rfl rfl (ats_own (i := 2) (vs := [_, _, _]) rfl rfl)) rfl ?_
          refine w_alloc (cs := [_, _, _]) want_none Try.zeroValue154 rfl hs (fun b70 w71 hs72 => ?_)
          refine w_store (i := 0) (v := .agg #[.int _ _, .int _ _, .int _ _]) (vs := [_, _, _]) want_none Try.sizeOf154 rfl rfl rfl rfl rfl (by simp [Value.oneCell']) hs72 rfl (Nat.le_of_ble_eq_true rfl) (fun w73 hs74 => ?_)
          refine w_nil ?_
          refine q_then (hK68 _ _ ?_)
          refine w_seq (fun K76 hK75 => ?_)
          have hmi := mul_in (s := s) (show z < 2 by omega) hs1
          refine w_region ?_
          refine w_pure want_none (y_fieldAddr (o := 2) (i := 2) Try.underlying154 rfl Try.sizeOf3 rfl rfl rfl) rfl ?_
          refine w_pure want_none (y_load1 Try.isAgg3 hs74 rfl rfl (ats_own (i := 0) (vs := [_]) rfl rfl)) rfl ?_
          refine w_pure want_none (y_move (v := .int _ _) rfl rfl) rfl ?_
          refine w_pure want_none (y_sub rfl rfl rfl rfl (by omega) (by omega)) rfl ?_
          refine w_pure want_none (y_mul rfl rfl rfl rfl (by omega) (by omega)) rfl ?_
          refine w_pure want_none (y_fieldAddr (o := 2) (i := 2) Try.underlying154 rfl Try.sizeOf3 rfl rfl rfl) rfl ?_
          refine w_store (i := 0) (v := .int _ _) (vs := [_]) want_none Try.sizeOf3 rfl rfl rfl rfl rfl (by simp [Value.oneCell']) hs74 rfl (Nat.le_of_ble_eq_true rfl) (fun w77 hs78 => ?_)
          refine w_nil ?_
          refine q_then (hK75 _ _ ?_)
          refine w_seq (fun K80 hK79 => ?_)
          refine w_region ?_
          refine w_pure want_none (y_fieldAddr (o := 0) (i := 0) Try.underlying31 rfl Try.sizeOf3 rfl rfl rfl) rfl ?_
          refine w_pure want_none (y_load1 Try.isAgg3 hs78 rfl rfl (ats_own (i := 1) (vs := [_]) rfl rfl)) rfl ?_
          refine w_pure want_none (y_fieldAddr (o := 1) (i := 1) Try.underlying76 rfl Try.sizeOf3 rfl rfl rfl) rfl ?_
          refine w_pure want_none (y_load1 Try.isAgg3 hs78 rfl rfl (ats_own (i := 2) (vs := [_]) rfl rfl)) rfl ?_
          refine w_pure want_none (y_sub rfl rfl rfl rfl (by omega) (by omega)) rfl ?_
          refine w_pure want_none (y_max2 rfl rfl rfl rfl) rfl ?_
          refine w_pure want_none (y_assign (v := .int _ _) rfl rfl) rfl ?_
          refine w_nil ?_
          refine q_then (hK79 _ _ ?_)
          refine w_block ?_
          refine w_loop [7, 12, 13, 14, 85, 86, 87, 88, 89, 90, 91, 92, 93, 94, 95, 96, 97, 98, 99, 100, 101, 102, 103, 104, 105, 106, 107, 108, 109, 110, 111, 112, 113, 114, 115, 116, 117, 118, 119] [7, 12] (fun kk vs w => ∃ (q : Nat) (v : Value) (B : List (Nat × Obj)), vs = [v, .int .i64 ((max 0 ((hourOf b a).lo - (ctrOf b c).skip)) + q)] ∧ q ≤ ((hourOf b a).hi + (ctrOf b c).twice + 1 - (max 0 ((hourOf b a).lo - (ctrOf b c).skip))).toNat ∧ kk = ((hourOf b a).hi + (ctrOf b c).twice + 1 - (max 0 ((hourOf b a).lo - (ctrOf b c).skip))).toNat - q ∧ Rt.Own v 140 3 ((wTo (ctrOf b c) (hourOf b a) a s z) ++ wPart (ctrOf b c) a s (decide (z = 1)) (max 0 ((hourOf b a).lo - (ctrOf b c).skip)) q).length (wrows ((wTo (ctrOf b c) (hourOf b a) a s z) ++ wPart (ctrOf b c) a s (decide (z = 1)) (max 0 ((hourOf b a).lo - (ctrOf b c).skip)) q)).flatten B ∧ St w0 w ((b70, blk 154 [.int .i64 (c : Int), .int .i64 (a : Int), .int .i64 (s * (1 - (z : Int)))]) :: (b9, blk 31 [.int .i64 (hourOf b a).lo, .int .i64 (hourOf b a).hi]) :: (b8, blk 76 ((ctrOf b c).cells (p.pc c))) :: (b3, blk 154 [.int .i64 (c : Int), .int .i64 (a : Int), .int .i64 s]) :: (mm, .map (ents (fun l : List Int => ia l) es).toArray ck) :: (B ++ F))) (((hourOf b a).hi + (ctrOf b c).twice + 1 - (max 0 ((hourOf b a).lo - (ctrOf b c).skip))).toNat) ?_ ?_
          ·
           exact ⟨0, v, B, vi (by omega), by omega, by omega, by rw [show wPart (ctrOf b c) a s (decide (z = 1)) (max 0 ((hourOf b a).lo - (ctrOf b c).skip)) 0 = [] from rfl, List.append_nil]; exact hown, hs78⟩
          ·
           intro k vs μ w83 hI K82 hN81
           obtain ⟨q, v, B, rfl, hqa, rfl, hown2, hs⟩ := hI
           have hpl := wPart_len (ctrOf b c) a s (max 0 ((hourOf b a).lo - (ctrOf b c).skip)) (decide (z = 1)) q
           have hpa : ((wTo (ctrOf b c) (hourOf b a) a s z) ++ wPart (ctrOf b c) a s (decide (z = 1)) (max 0 ((hourOf b a).lo - (ctrOf b c).skip)) q).length = (wTo (ctrOf b c) (hourOf b a) a s z).length + (wPart (ctrOf b c) a s (decide (z = 1)) (max 0 ((hourOf b a).lo - (ctrOf b c).skip)) q).length := List.length_append
           refine w_seq (fun K85 hK84 => ?_)
           refine w_seq (fun K87 hK86 => ?_)
           refine w_region ?_
           refine w_pure want_none (y_move (v := .int _ _) rfl rfl) rfl ?_
           refine w_pure want_none (y_fieldAddr (o := 1) (i := 1) Try.underlying31 rfl Try.sizeOf3 rfl rfl rfl) rfl ?_
           refine w_pure want_none (y_load1 Try.isAgg3 hs rfl rfl (ats_own (i := 1) (vs := [_]) rfl rfl)) rfl ?_
           refine w_pure want_none (y_fieldAddr (o := 2) (i := 2) Try.underlying76 rfl Try.sizeOf3 rfl rfl rfl) rfl ?_
           refine w_pure want_none (y_load1 Try.isAgg3 hs rfl rfl (ats_own (i := 2) (vs := [_]) rfl rfl)) rfl ?_
           refine w_pure want_none (y_add rfl rfl rfl rfl (by omega) (by omega)) rfl ?_
           refine w_pure want_none (y_leq rfl rfl rfl rfl) rfl ?_
           refine w_nil ?_
           refine q_then (hK86 _ _ ?_)
           refine w_cond rfl rfl (fun h88 => ?_) (fun h88 => ?_)
           ·
            try simp only [Bool.not_eq_true', Bool.not_eq_false', decide_eq_true_eq, decide_eq_false_iff_not, Int.not_lt, Int.not_le] at h88
            refine w_skip ?_
            refine q_then (hK84 _ _ ?_)
            refine w_seq (fun K90 hK89 => ?_)
            refine w_block ?_
            refine w_seq (fun K92 hK91 => ?_)
            refine w_region ?_
            refine w_pure want_none (y_fieldAddr (o := 2) (i := 2) Try.underlying154 rfl Try.sizeOf3 rfl rfl rfl) rfl ?_
            refine w_pure want_none (y_load1 Try.isAgg3 hs rfl rfl (ats_own (i := 0) (vs := [_]) rfl rfl)) rfl ?_
            refine w_pure want_none (y_move (v := .int _ _) rfl rfl) rfl ?_
            refine w_pure want_none (y_add rfl rfl rfl rfl (by omega) (by omega)) rfl ?_
            refine w_pure want_none (y_rem rfl rfl rfl rfl (by omega) (by omega)) rfl ?_
            refine w_pure want_none (y_assign (v := .int _ _) rfl rfl) rfl ?_
            refine w_nil ?_
            refine q_then (hK91 _ _ ?_)
            refine w_seq (fun K94 hK93 => ?_)
            refine w_region ?_
            refine w_pure want_none (y_fieldAddr (o := 5) (i := 5) Try.underlying76 rfl Try.sizeOf39 rfl rfl rfl) rfl ?_
            refine w_pure want_none (yd_slice hbv (y_load1 Try.isAgg39 hs rfl rfl (ats_own (i := 2) (vs := [_]) rfl rfl))) rfl ?_
            refine w_pure want_none (y_fieldAddr (o := 1) (i := 1) Try.underlying154 rfl Try.sizeOf3 rfl rfl rfl) rfl ?_
            refine w_pure want_none (y_load1 Try.isAgg3 hs rfl rfl (ats_own (i := 3) (vs := [_]) rfl rfl)) rfl ?_
            refine w_pure want_none (y_indexS Try.underlying39 Try.sizeOf3 rfl rfl rfl rfl (i := a) rfl has) rfl ?_
            refine w_pure want_none (y_load1 Try.isAgg3 hs.tail.tail.tail.tail.tail.drop rfl rfl hxv) rfl ?_
            refine w_pure want_none (y_assign (v := .int _ _) rfl rfl) rfl ?_
            refine w_nil ?_
            refine q_then (hK93 _ _ ?_)
            refine w_seq (fun K96 hK95 => ?_)
            rw [sh_mul (by omega)]
            refine w_region ?_
            refine w_pure want_none (y_move (v := .int _ _) rfl rfl) rfl ?_
            refine w_pure want_none (y_eql rfl rfl rfl rfl) rfl ?_
            refine w_pure want_none (y_move (v := .bool _) rfl rfl) rfl ?_
            refine w_split (fun h97 => ?_) (fun h97 => ?_)
            ·
             try simp only [Bool.not_eq_true', Bool.not_eq_false', decide_eq_true_eq, decide_eq_false_iff_not, Int.not_lt, Int.not_le] at h97
             refine w_skipop rfl rfl rfl ?_
             refine w_skipop rfl rfl rfl ?_
             refine w_skipop rfl rfl rfl ?_
             refine w_pure want_none (y_pickT (v := _) rfl rfl rfl rfl) rfl ?_
             refine w_nil ?_
             refine q_then (hK95 _ _ ?_)
             refine w_condT rfl rfl ?_
             refine w_region ?_
             refine w_pure want_none (y_move (v := v) rfl rfl) rfl ?_
             refine w_pure want_none (y_move (v := .int _ _) rfl rfl) rfl ?_
             refine w_pure want_none (y_move (v := .int _ _) rfl rfl) rfl ?_
             refine w_pure want_none (y_move (v := .int _ _) rfl rfl) rfl ?_
             refine w_pure want_none (y_eql rfl rfl rfl rfl) rfl ?_
             refine w_pure want_none (y_build (ps := [(0, _), (1, _), (2, _)]) (pv := [(0, .int _ _), (1, .int _ _), (2, .bool _)]) rfl rfl (fun w => Try_E_fb1 _ _ _ w)) rfl ?_
             refine w_bslice (ps := [(0, _)]) (pv := [(0, .agg #[.int _ _, .int _ _, .bool _])]) (cs := [_, _, _]) want_none rfl rfl (fun w => Try_E_fb2 _ _ _ w) hs (fun b98 w99 hs100 => ?_)
             refine w_append (X := (_ :: _ :: _ :: _ :: _ :: _ :: [])) (B := B) (rows := [[_, _, _]]) (sz := 3) (bytes := 24) want_none Try.underlying152 Try_info140 rfl rfl rfl rfl rfl rfl rfl rfl rfl hs100 hown2 (sl_own (i := 0) rfl (by simp) rfl) rfl (by simp) (by simp [Value.oneCell']) (by simp only [maxLen]; omega) (by omega) (fun v101 w102 B103 ho104 hs105 => ?_)
             replace hs105 := (show St _ _ (_ :: _ :: _ :: _ :: _ :: _ :: B103 ++ (F)) from hs105)
             refine w_pure want_none (y_assign (v := v101) rfl rfl) rfl ?_
             refine w_nil ?_
             refine q_blk_normal ?_
             refine q_then (hK89 _ _ ?_)
             refine w_region ?_
             refine w_pure want_none (y_move (v := .int _ _) rfl rfl) rfl ?_
             refine w_pure want_none (y_add rfl rfl rfl rfl (by omega) (by omega)) rfl ?_
             refine w_pure want_none (y_assign (v := .int _ _) rfl rfl) rfl ?_
             refine w_nil ?_
             refine q_then (hN81 _ _ (Nx.intro (((hourOf b a).hi + (ctrOf b c).twice + 1 - (max 0 ((hourOf b a).lo - (ctrOf b c).skip))).toNat - (q + 1)) (by omega) (by repeat (first | exact agree_mix | refine agree_upd rfl ?_ | refine agree_updL rfl ?_ _ | refine agree_mixin rfl ?_)) ?_))
             exact ⟨q + 1, _, _, vi (by omega), by omega, rfl, by rw [wPart_y (by rw [hgs]; omega), ← List.append_assoc]; exact own_way (by have h9 := ho104; rw [hzb] at h9; exact h9), hs105.tail⟩
            ·
             try simp only [Bool.not_eq_true', Bool.not_eq_false', decide_eq_true_eq, decide_eq_false_iff_not, Int.not_lt, Int.not_le] at h97
             refine w_pure (want_yes rfl rfl rfl) (y_move (v := .int _ _) rfl rfl) rfl ?_
             refine w_pure (want_yes rfl rfl rfl) (y_move (v := .int _ _) rfl rfl) rfl ?_
             refine w_pure (want_yes rfl rfl rfl) (y_eql rfl rfl rfl rfl) rfl ?_
             refine w_pure want_none (y_pickF (v := .bool _) rfl rfl rfl rfl) rfl ?_
             refine w_nil ?_
             refine q_then (hK95 _ _ ?_)
             refine w_cond rfl rfl (fun h106 => ?_) (fun h106 => ?_)
             ·
              try simp only [Bool.not_eq_true', Bool.not_eq_false', decide_eq_true_eq, decide_eq_false_iff_not, Int.not_lt, Int.not_le] at h106
              refine w_region ?_
              refine w_pure want_none (y_move (v := v) rfl rfl) rfl ?_
              refine w_pure want_none (y_move (v := .int _ _) rfl rfl) rfl ?_
              refine w_pure want_none (y_move (v := .int _ _) rfl rfl) rfl ?_
              refine w_pure want_none (y_move (v := .int _ _) rfl rfl) rfl ?_
              refine w_pure want_none (y_eql rfl rfl rfl rfl) rfl ?_
              refine w_pure want_none (y_build (ps := [(0, _), (1, _), (2, _)]) (pv := [(0, .int _ _), (1, .int _ _), (2, .bool _)]) rfl rfl (fun w => Try_E_fb1 _ _ _ w)) rfl ?_
              refine w_bslice (ps := [(0, _)]) (pv := [(0, .agg #[.int _ _, .int _ _, .bool _])]) (cs := [_, _, _]) want_none rfl rfl (fun w => Try_E_fb2 _ _ _ w) hs (fun b107 w108 hs109 => ?_)
              refine w_append (X := (_ :: _ :: _ :: _ :: _ :: _ :: [])) (B := B) (rows := [[_, _, _]]) (sz := 3) (bytes := 24) want_none Try.underlying152 Try_info140 rfl rfl rfl rfl rfl rfl rfl rfl rfl hs109 hown2 (sl_own (i := 0) rfl (by simp) rfl) rfl (by simp) (by simp [Value.oneCell']) (by simp only [maxLen]; omega) (by omega) (fun v110 w111 B112 ho113 hs114 => ?_)
              replace hs114 := (show St _ _ (_ :: _ :: _ :: _ :: _ :: _ :: B112 ++ (F)) from hs114)
              refine w_pure want_none (y_assign (v := v110) rfl rfl) rfl ?_
              refine w_nil ?_
              refine q_blk_normal ?_
              refine q_then (hK89 _ _ ?_)
              refine w_region ?_
              refine w_pure want_none (y_move (v := .int _ _) rfl rfl) rfl ?_
              refine w_pure want_none (y_add rfl rfl rfl rfl (by omega) (by omega)) rfl ?_
              refine w_pure want_none (y_assign (v := .int _ _) rfl rfl) rfl ?_
              refine w_nil ?_
              refine q_then (hN81 _ _ (Nx.intro (((hourOf b a).hi + (ctrOf b c).twice + 1 - (max 0 ((hourOf b a).lo - (ctrOf b c).skip))).toNat - (q + 1)) (by omega) (by repeat (first | exact agree_mix | refine agree_upd rfl ?_ | refine agree_updL rfl ?_ _ | refine agree_mixin rfl ?_)) ?_))
              exact ⟨q + 1, _, _, vi (by omega), by omega, rfl, by rw [wPart_y (by rw [hgs]; omega), ← List.append_assoc]; exact own_way (by have h9 := ho113; rw [hzb] at h9; exact h9), hs114.tail⟩
             ·
              try simp only [Bool.not_eq_true', Bool.not_eq_false', decide_eq_true_eq, decide_eq_false_iff_not, Int.not_lt, Int.not_le] at h106
              refine w_skip ?_
              refine q_blk_normal ?_
              refine q_then (hK89 _ _ ?_)
              refine w_region ?_
              refine w_pure want_none (y_move (v := .int _ _) rfl rfl) rfl ?_
              refine w_pure want_none (y_add rfl rfl rfl rfl (by omega) (by omega)) rfl ?_
              refine w_pure want_none (y_assign (v := .int _ _) rfl rfl) rfl ?_
              refine w_nil ?_
              refine q_then (hN81 _ _ (Nx.intro (((hourOf b a).hi + (ctrOf b c).twice + 1 - (max 0 ((hourOf b a).lo - (ctrOf b c).skip))).toNat - (q + 1)) (by omega) (by repeat (first | exact agree_mix | refine agree_upd rfl ?_ | refine agree_updL rfl ?_ _ | refine agree_mixin rfl ?_)) ?_))
              exact ⟨q + 1, v, B, vi (by omega), by omega, rfl, by rw [wPart_n (by rw [hgs]; omega)]; exact hown2, hs⟩
           ·
            try simp only [Bool.not_eq_true', Bool.not_eq_false', decide_eq_true_eq, decide_eq_false_iff_not, Int.not_lt, Int.not_le] at h88
            refine w_exit ?_
            refine q_then_exit ?_
            refine q_then_exit ?_
            refine q_blk_this ?_
            refine q_blk_normal ?_
            refine q_then (hK56 _ _ ?_)
            refine w_region ?_
            refine w_pure want_none (y_add rfl rfl rfl rfl (by omega) (by omega)) rfl ?_
            refine w_pure want_none (y_move (v := .int _ _) rfl rfl) rfl ?_
            refine w_nil ?_
            refine q_then (hN48 _ _ (Nx.intro (2 - (z + 1)) (by omega) (by repeat (first | exact agree_mix | refine agree_upd rfl ?_ | refine agree_updL rfl ?_ _ | refine agree_mixin rfl ?_)) ?_))
            first
              | exact ⟨z + 1, v, B, rfl, by omega, rfl, by rw [wTo_no (canZ_n (by omega) (by omega))]; exact hown, hs⟩
              | exact ⟨z + 1, v, B, rfl, by omega, rfl, by rw [wPart_all (canZ_y (by omega) (by omega)) (q := q) (by omega)]; exact hown2, hs.tail⟩
        ·
         try simp only [Bool.not_eq_true', Bool.not_eq_false', decide_eq_true_eq, decide_eq_false_iff_not, Int.not_lt, Int.not_le] at h66
         refine w_skipop rfl rfl rfl ?_
         refine w_skipop rfl rfl rfl ?_
         refine w_skipop rfl rfl rfl ?_
         refine w_skipop rfl rfl rfl ?_
         refine w_skipop rfl rfl rfl ?_
         refine w_skipop rfl rfl rfl ?_
         refine w_skipop rfl rfl rfl ?_
         refine w_pure (want_yes rfl rfl rfl) (y_pickF (v := _) rfl rfl rfl rfl) rfl ?_
         refine w_pure want_none (y_pickF (v := .bool _) rfl rfl rfl rfl) rfl ?_
         refine w_nil ?_
         refine q_then (hK62 _ _ ?_)
         refine w_condF rfl rfl ?_
         refine w_skip ?_
         refine q_then (hK60 _ _ ?_)
         refine w_seq (fun K116 hK115 => ?_)
         refine w_region ?_
         refine w_pure want_none (y_loadN (vs := [_, _, _]) Try.isAgg154 Try.sizeOf154 hs rfl rfl (ats_own (i := 2) (vs := [_, _, _]) rfl rfl)) rfl ?_
         refine w_alloc (cs := [_, _, _]) want_none Try.zeroValue154 rfl hs (fun b117 w118 hs119 => ?_)
         refine w_store (i := 0) (v := .agg #[.int _ _, .int _ _, .int _ _]) (vs := [_, _, _]) want_none Try.sizeOf154 rfl rfl rfl rfl rfl (by simp [Value.oneCell']) hs119 rfl (Nat.le_of_ble_eq_true rfl) (fun w120 hs121 => ?_)
         refine w_nil ?_
         refine q_then (hK115 _ _ ?_)
         refine w_seq (fun K123 hK122 => ?_)
         have hmi := mul_in (s := s) (show z < 2 by omega) hs1
         refine w_region ?_
         refine w_pure want_none (y_fieldAddr (o := 2) (i := 2) Try.underlying154 rfl Try.sizeOf3 rfl rfl rfl) rfl ?_
         refine w_pure want_none (y_load1 Try.isAgg3 hs121 rfl rfl (ats_own (i := 0) (vs := [_]) rfl rfl)) rfl ?_
         refine w_pure want_none (y_move (v := .int _ _) rfl rfl) rfl ?_
         refine w_pure want_none (y_sub rfl rfl rfl rfl (by omega) (by omega)) rfl ?_
         refine w_pure want_none (y_mul rfl rfl rfl rfl (by omega) (by omega)) rfl ?_
         refine w_pure want_none (y_fieldAddr (o := 2) (i := 2) Try.underlying154 rfl Try.sizeOf3 rfl rfl rfl) rfl ?_
         refine w_store (i := 0) (v := .int _ _) (vs := [_]) want_none Try.sizeOf3 rfl rfl rfl rfl rfl (by simp [Value.oneCell']) hs121 rfl (Nat.le_of_ble_eq_true rfl) (fun w124 hs125 => ?_)
         refine w_nil ?_
         refine q_then (hK122 _ _ ?_)
         refine w_seq (fun K127 hK126 => ?_)
         refine w_region ?_
         refine w_pure want_none (y_fieldAddr (o := 0) (i := 0) Try.underlying31 rfl Try.sizeOf3 rfl rfl rfl) rfl ?_
         refine w_pure want_none (y_load1 Try.isAgg3 hs125 rfl rfl (ats_own (i := 1) (vs := [_]) rfl rfl)) rfl ?_
         refine w_pure want_none (y_fieldAddr (o := 1) (i := 1) Try.underlying76 rfl Try.sizeOf3 rfl rfl rfl) rfl ?_
         refine w_pure want_none (y_load1 Try.isAgg3 hs125 rfl rfl (ats_own (i := 2) (vs := [_]) rfl rfl)) rfl ?_
         refine w_pure want_none (y_sub rfl rfl rfl rfl (by omega) (by omega)) rfl ?_
         refine w_pure want_none (y_max2 rfl rfl rfl rfl) rfl ?_
         refine w_pure want_none (y_assign (v := .int _ _) rfl rfl) rfl ?_
         refine w_nil ?_
         refine q_then (hK126 _ _ ?_)
         refine w_block ?_
         refine w_loop [7, 12, 13, 14, 85, 86, 87, 88, 89, 90, 91, 92, 93, 94, 95, 96, 97, 98, 99, 100, 101, 102, 103, 104, 105, 106, 107, 108, 109, 110, 111, 112, 113, 114, 115, 116, 117, 118, 119] [7, 12] (fun kk vs w => ∃ (q : Nat) (v : Value) (B : List (Nat × Obj)), vs = [v, .int .i64 ((max 0 ((hourOf b a).lo - (ctrOf b c).skip)) + q)] ∧ q ≤ ((hourOf b a).hi + (ctrOf b c).twice + 1 - (max 0 ((hourOf b a).lo - (ctrOf b c).skip))).toNat ∧ kk = ((hourOf b a).hi + (ctrOf b c).twice + 1 - (max 0 ((hourOf b a).lo - (ctrOf b c).skip))).toNat - q ∧ Rt.Own v 140 3 ((wTo (ctrOf b c) (hourOf b a) a s z) ++ wPart (ctrOf b c) a s (decide (z = 1)) (max 0 ((hourOf b a).lo - (ctrOf b c).skip)) q).length (wrows ((wTo (ctrOf b c) (hourOf b a) a s z) ++ wPart (ctrOf b c) a s (decide (z = 1)) (max 0 ((hourOf b a).lo - (ctrOf b c).skip)) q)).flatten B ∧ St w0 w ((b117, blk 154 [.int .i64 (c : Int), .int .i64 (a : Int), .int .i64 (s * (1 - (z : Int)))]) :: (b9, blk 31 [.int .i64 (hourOf b a).lo, .int .i64 (hourOf b a).hi]) :: (b8, blk 76 ((ctrOf b c).cells (p.pc c))) :: (b3, blk 154 [.int .i64 (c : Int), .int .i64 (a : Int), .int .i64 s]) :: (mm, .map (ents (fun l : List Int => ia l) es).toArray ck) :: (B ++ F))) (((hourOf b a).hi + (ctrOf b c).twice + 1 - (max 0 ((hourOf b a).lo - (ctrOf b c).skip))).toNat) ?_ ?_
         ·
          exact ⟨0, v, B, vi (by omega), by omega, by omega, by rw [show wPart (ctrOf b c) a s (decide (z = 1)) (max 0 ((hourOf b a).lo - (ctrOf b c).skip)) 0 = [] from rfl, List.append_nil]; exact hown, hs125⟩
         ·
          intro k vs μ w130 hI K129 hN128
          obtain ⟨q, v, B, rfl, hqa, rfl, hown2, hs⟩ := hI
          have hpl := wPart_len (ctrOf b c) a s (max 0 ((hourOf b a).lo - (ctrOf b c).skip)) (decide (z = 1)) q
          have hpa : ((wTo (ctrOf b c) (hourOf b a) a s z) ++ wPart (ctrOf b c) a s (decide (z = 1)) (max 0 ((hourOf b a).lo - (ctrOf b c).skip)) q).length = (wTo (ctrOf b c) (hourOf b a) a s z).length + (wPart (ctrOf b c) a s (decide (z = 1)) (max 0 ((hourOf b a).lo - (ctrOf b c).skip)) q).length := List.length_append
          refine w_seq (fun K132 hK131 => ?_)
          refine w_seq (fun K134 hK133 => ?_)
          refine w_region ?_
          refine w_pure want_none (y_move (v := .int _ _) rfl rfl) rfl ?_
          refine w_pure want_none (y_fieldAddr (o := 1) (i := 1) Try.underlying31 rfl Try.sizeOf3 rfl rfl rfl) rfl ?_
          refine w_pure want_none (y_load1 Try.isAgg3 hs rfl rfl (ats_own (i := 1) (vs := [_]) rfl rfl)) rfl ?_
          refine w_pure want_none (y_fieldAddr (o := 2) (i := 2) Try.underlying76 rfl Try.sizeOf3 rfl rfl rfl) rfl ?_
          refine w_pure want_none (y_load1 Try.isAgg3 hs rfl rfl (ats_own (i := 2) (vs := [_]) rfl rfl)) rfl ?_
          refine w_pure want_none (y_add rfl rfl rfl rfl (by omega) (by omega)) rfl ?_
          refine w_pure want_none (y_leq rfl rfl rfl rfl) rfl ?_
          refine w_nil ?_
          refine q_then (hK133 _ _ ?_)
          refine w_cond rfl rfl (fun h135 => ?_) (fun h135 => ?_)
          ·
           try simp only [Bool.not_eq_true', Bool.not_eq_false', decide_eq_true_eq, decide_eq_false_iff_not, Int.not_lt, Int.not_le] at h135
           refine w_skip ?_
           refine q_then (hK131 _ _ ?_)
           refine w_seq (fun K137 hK136 => ?_)
           refine w_block ?_
           refine w_seq (fun K139 hK138 => ?_)
           refine w_region ?_
           refine w_pure want_none (y_fieldAddr (o := 2) (i := 2) Try.underlying154 rfl Try.sizeOf3 rfl rfl rfl) rfl ?_
           refine w_pure want_none (y_load1 Try.isAgg3 hs rfl rfl (ats_own (i := 0) (vs := [_]) rfl rfl)) rfl ?_
           refine w_pure want_none (y_move (v := .int _ _) rfl rfl) rfl ?_
           refine w_pure want_none (y_add rfl rfl rfl rfl (by omega) (by omega)) rfl ?_
           refine w_pure want_none (y_rem rfl rfl rfl rfl (by omega) (by omega)) rfl ?_
           refine w_pure want_none (y_assign (v := .int _ _) rfl rfl) rfl ?_
           refine w_nil ?_
           refine q_then (hK138 _ _ ?_)
           refine w_seq (fun K141 hK140 => ?_)
           refine w_region ?_
           refine w_pure want_none (y_fieldAddr (o := 5) (i := 5) Try.underlying76 rfl Try.sizeOf39 rfl rfl rfl) rfl ?_
           refine w_pure want_none (yd_slice hbv (y_load1 Try.isAgg39 hs rfl rfl (ats_own (i := 2) (vs := [_]) rfl rfl))) rfl ?_
           refine w_pure want_none (y_fieldAddr (o := 1) (i := 1) Try.underlying154 rfl Try.sizeOf3 rfl rfl rfl) rfl ?_
           refine w_pure want_none (y_load1 Try.isAgg3 hs rfl rfl (ats_own (i := 3) (vs := [_]) rfl rfl)) rfl ?_
           refine w_pure want_none (y_indexS Try.underlying39 Try.sizeOf3 rfl rfl rfl rfl (i := a) rfl has) rfl ?_
           refine w_pure want_none (y_load1 Try.isAgg3 hs.tail.tail.tail.tail.tail.drop rfl rfl hxv) rfl ?_
           refine w_pure want_none (y_assign (v := .int _ _) rfl rfl) rfl ?_
           refine w_nil ?_
           refine q_then (hK140 _ _ ?_)
           refine w_seq (fun K143 hK142 => ?_)
           rw [sh_mul (by omega)]
           refine w_region ?_
           refine w_pure want_none (y_move (v := .int _ _) rfl rfl) rfl ?_
           refine w_pure want_none (y_eql rfl rfl rfl rfl) rfl ?_
           refine w_pure want_none (y_move (v := .bool _) rfl rfl) rfl ?_
           refine w_split (fun h144 => ?_) (fun h144 => ?_)
           ·
            try simp only [Bool.not_eq_true', Bool.not_eq_false', decide_eq_true_eq, decide_eq_false_iff_not, Int.not_lt, Int.not_le] at h144
            refine w_skipop rfl rfl rfl ?_
            refine w_skipop rfl rfl rfl ?_
            refine w_skipop rfl rfl rfl ?_
            refine w_pure want_none (y_pickT (v := _) rfl rfl rfl rfl) rfl ?_
            refine w_nil ?_
            refine q_then (hK142 _ _ ?_)
            refine w_condT rfl rfl ?_
            refine w_region ?_
            refine w_pure want_none (y_move (v := v) rfl rfl) rfl ?_
            refine w_pure want_none (y_move (v := .int _ _) rfl rfl) rfl ?_
            refine w_pure want_none (y_move (v := .int _ _) rfl rfl) rfl ?_
            refine w_pure want_none (y_move (v := .int _ _) rfl rfl) rfl ?_
            refine w_pure want_none (y_eql rfl rfl rfl rfl) rfl ?_
            refine w_pure want_none (y_build (ps := [(0, _), (1, _), (2, _)]) (pv := [(0, .int _ _), (1, .int _ _), (2, .bool _)]) rfl rfl (fun w => Try_E_fb1 _ _ _ w)) rfl ?_
            refine w_bslice (ps := [(0, _)]) (pv := [(0, .agg #[.int _ _, .int _ _, .bool _])]) (cs := [_, _, _]) want_none rfl rfl (fun w => Try_E_fb2 _ _ _ w) hs (fun b145 w146 hs147 => ?_)
            refine w_append (X := (_ :: _ :: _ :: _ :: _ :: _ :: [])) (B := B) (rows := [[_, _, _]]) (sz := 3) (bytes := 24) want_none Try.underlying152 Try_info140 rfl rfl rfl rfl rfl rfl rfl rfl rfl hs147 hown2 (sl_own (i := 0) rfl (by simp) rfl) rfl (by simp) (by simp [Value.oneCell']) (by simp only [maxLen]; omega) (by omega) (fun v148 w149 B150 ho151 hs152 => ?_)
            replace hs152 := (show St _ _ (_ :: _ :: _ :: _ :: _ :: _ :: B150 ++ (F)) from hs152)
            refine w_pure want_none (y_assign (v := v148) rfl rfl) rfl ?_
            refine w_nil ?_
            refine q_blk_normal ?_
            refine q_then (hK136 _ _ ?_)
            refine w_region ?_
            refine w_pure want_none (y_move (v := .int _ _) rfl rfl) rfl ?_
            refine w_pure want_none (y_add rfl rfl rfl rfl (by omega) (by omega)) rfl ?_
            refine w_pure want_none (y_assign (v := .int _ _) rfl rfl) rfl ?_
            refine w_nil ?_
            refine q_then (hN128 _ _ (Nx.intro (((hourOf b a).hi + (ctrOf b c).twice + 1 - (max 0 ((hourOf b a).lo - (ctrOf b c).skip))).toNat - (q + 1)) (by omega) (by repeat (first | exact agree_mix | refine agree_upd rfl ?_ | refine agree_updL rfl ?_ _ | refine agree_mixin rfl ?_)) ?_))
            exact ⟨q + 1, _, _, vi (by omega), by omega, rfl, by rw [wPart_y (by rw [hgs]; omega), ← List.append_assoc]; exact own_way (by have h9 := ho151; rw [hzb] at h9; exact h9), hs152.tail⟩
           ·
            try simp only [Bool.not_eq_true', Bool.not_eq_false', decide_eq_true_eq, decide_eq_false_iff_not, Int.not_lt, Int.not_le] at h144
            refine w_pure (want_yes rfl rfl rfl) (y_move (v := .int _ _) rfl rfl) rfl ?_
            refine w_pure (want_yes rfl rfl rfl) (y_move (v := .int _ _) rfl rfl) rfl ?_
            refine w_pure (want_yes rfl rfl rfl) (y_eql rfl rfl rfl rfl) rfl ?_
            refine w_pure want_none (y_pickF (v := .bool _) rfl rfl rfl rfl) rfl ?_
            refine w_nil ?_
            refine q_then (hK142 _ _ ?_)
            refine w_cond rfl rfl (fun h153 => ?_) (fun h153 => ?_)
            ·
             try simp only [Bool.not_eq_true', Bool.not_eq_false', decide_eq_true_eq, decide_eq_false_iff_not, Int.not_lt, Int.not_le] at h153
             refine w_region ?_
             refine w_pure want_none (y_move (v := v) rfl rfl) rfl ?_
             refine w_pure want_none (y_move (v := .int _ _) rfl rfl) rfl ?_
             refine w_pure want_none (y_move (v := .int _ _) rfl rfl) rfl ?_
             refine w_pure want_none (y_move (v := .int _ _) rfl rfl) rfl ?_
             refine w_pure want_none (y_eql rfl rfl rfl rfl) rfl ?_
             refine w_pure want_none (y_build (ps := [(0, _), (1, _), (2, _)]) (pv := [(0, .int _ _), (1, .int _ _), (2, .bool _)]) rfl rfl (fun w => Try_E_fb1 _ _ _ w)) rfl ?_
             refine w_bslice (ps := [(0, _)]) (pv := [(0, .agg #[.int _ _, .int _ _, .bool _])]) (cs := [_, _, _]) want_none rfl rfl (fun w => Try_E_fb2 _ _ _ w) hs (fun b154 w155 hs156 => ?_)
             refine w_append (X := (_ :: _ :: _ :: _ :: _ :: _ :: [])) (B := B) (rows := [[_, _, _]]) (sz := 3) (bytes := 24) want_none Try.underlying152 Try_info140 rfl rfl rfl rfl rfl rfl rfl rfl rfl hs156 hown2 (sl_own (i := 0) rfl (by simp) rfl) rfl (by simp) (by simp [Value.oneCell']) (by simp only [maxLen]; omega) (by omega) (fun v157 w158 B159 ho160 hs161 => ?_)
             replace hs161 := (show St _ _ (_ :: _ :: _ :: _ :: _ :: _ :: B159 ++ (F)) from hs161)
             refine w_pure want_none (y_assign (v := v157) rfl rfl) rfl ?_
             refine w_nil ?_
             refine q_blk_normal ?_
             refine q_then (hK136 _ _ ?_)
             refine w_region ?_
             refine w_pure want_none (y_move (v := .int _ _) rfl rfl) rfl ?_
             refine w_pure want_none (y_add rfl rfl rfl rfl (by omega) (by omega)) rfl ?_
             refine w_pure want_none (y_assign (v := .int _ _) rfl rfl) rfl ?_
             refine w_nil ?_
             refine q_then (hN128 _ _ (Nx.intro (((hourOf b a).hi + (ctrOf b c).twice + 1 - (max 0 ((hourOf b a).lo - (ctrOf b c).skip))).toNat - (q + 1)) (by omega) (by repeat (first | exact agree_mix | refine agree_upd rfl ?_ | refine agree_updL rfl ?_ _ | refine agree_mixin rfl ?_)) ?_))
             exact ⟨q + 1, _, _, vi (by omega), by omega, rfl, by rw [wPart_y (by rw [hgs]; omega), ← List.append_assoc]; exact own_way (by have h9 := ho160; rw [hzb] at h9; exact h9), hs161.tail⟩
            ·
             try simp only [Bool.not_eq_true', Bool.not_eq_false', decide_eq_true_eq, decide_eq_false_iff_not, Int.not_lt, Int.not_le] at h153
             refine w_skip ?_
             refine q_blk_normal ?_
             refine q_then (hK136 _ _ ?_)
             refine w_region ?_
             refine w_pure want_none (y_move (v := .int _ _) rfl rfl) rfl ?_
             refine w_pure want_none (y_add rfl rfl rfl rfl (by omega) (by omega)) rfl ?_
             refine w_pure want_none (y_assign (v := .int _ _) rfl rfl) rfl ?_
             refine w_nil ?_
             refine q_then (hN128 _ _ (Nx.intro (((hourOf b a).hi + (ctrOf b c).twice + 1 - (max 0 ((hourOf b a).lo - (ctrOf b c).skip))).toNat - (q + 1)) (by omega) (by repeat (first | exact agree_mix | refine agree_upd rfl ?_ | refine agree_updL rfl ?_ _ | refine agree_mixin rfl ?_)) ?_))
             exact ⟨q + 1, v, B, vi (by omega), by omega, rfl, by rw [wPart_n (by rw [hgs]; omega)]; exact hown2, hs⟩
          ·
           try simp only [Bool.not_eq_true', Bool.not_eq_false', decide_eq_true_eq, decide_eq_false_iff_not, Int.not_lt, Int.not_le] at h135
           refine w_exit ?_
           refine q_then_exit ?_
           refine q_then_exit ?_
           refine q_blk_this ?_
           refine q_blk_normal ?_
           refine q_then (hK56 _ _ ?_)
           refine w_region ?_
           refine w_pure want_none (y_add rfl rfl rfl rfl (by omega) (by omega)) rfl ?_
           refine w_pure want_none (y_move (v := .int _ _) rfl rfl) rfl ?_
           refine w_nil ?_
           refine q_then (hN48 _ _ (Nx.intro (2 - (z + 1)) (by omega) (by repeat (first | exact agree_mix | refine agree_upd rfl ?_ | refine agree_updL rfl ?_ _ | refine agree_mixin rfl ?_)) ?_))
           first
             | exact ⟨z + 1, v, B, rfl, by omega, rfl, by rw [wTo_no (canZ_n (by omega) (by omega))]; exact hown, hs⟩
             | exact ⟨z + 1, v, B, rfl, by omega, rfl, by rw [wPart_all (canZ_y (by omega) (by omega)) (q := q) (by omega)]; exact hown2, hs.tail⟩
      ·
       try simp only [Bool.not_eq_true', Bool.not_eq_false', decide_eq_true_eq, decide_eq_false_iff_not, Int.not_lt, Int.not_le] at h64
       refine w_skipop rfl rfl rfl ?_
       refine w_skipop rfl rfl rfl ?_
       refine w_skipop rfl rfl rfl ?_
       refine w_skipop rfl rfl rfl ?_
       refine w_skipop rfl rfl rfl ?_
       refine w_skipop rfl rfl rfl ?_
       refine w_skipop rfl rfl rfl ?_
       refine w_pure want_none (y_pickF (v := _) rfl rfl rfl rfl) rfl ?_
       refine w_pure want_none (y_move (v := .bool _) rfl rfl) rfl ?_
       refine w_pure (want_yes rfl rfl rfl) (y_move (v := .int _ _) rfl rfl) rfl ?_
       refine w_pure (want_yes rfl rfl rfl) (y_eql rfl rfl rfl rfl) rfl ?_
       refine w_pure (want_yes rfl rfl rfl) (y_move (v := .bool _) rfl rfl) rfl ?_
       refine w_split (fun h162 => ?_) (fun h162 => ?_)
       ·
        try simp only [Bool.not_eq_true', Bool.not_eq_false', decide_eq_true_eq, decide_eq_false_iff_not, Int.not_lt, Int.not_le] at h162
        refine w_pure (want_yes rfl rfl rfl) (y_fieldAddr (o := 4) (i := 4) Try.underlying76 rfl Try.sizeOf39 rfl rfl rfl) rfl ?_
        refine w_pure (want_yes rfl rfl rfl) (yd_slice hbz (y_load1 Try.isAgg39 hs rfl rfl (ats_own (i := 1) (vs := [_]) rfl rfl))) rfl ?_
        refine w_pure (want_yes rfl rfl rfl) (y_fieldAddr (o := 1) (i := 1) Try.underlying154 rfl Try.sizeOf3 rfl rfl rfl) rfl ?_
        refine w_pure (want_yes rfl rfl rfl) (y_load1 Try.isAgg3 hs rfl rfl (ats_own (i := 2) (vs := [_]) rfl rfl)) rfl ?_
        refine w_pure (want_yes rfl rfl rfl) (y_indexS Try.underlying39 Try.sizeOf3 rfl rfl rfl rfl (i := a) rfl haz) rfl ?_
        refine w_pure (want_yes rfl rfl rfl) (y_load1 Try.isAgg3 hs.tail.tail.tail.tail.drop rfl rfl hxz) rfl ?_
        refine w_pure (want_yes rfl rfl rfl) (y_eql rfl rfl rfl rfl) rfl ?_
        refine w_pure (want_yes rfl rfl rfl) (y_pickT (v := .bool _) rfl rfl rfl rfl) rfl ?_
        refine w_pure want_none (y_pickF (v := .bool _) rfl rfl rfl rfl) rfl ?_
        refine w_nil ?_
        refine q_then (hK62 _ _ ?_)
        refine w_cond rfl rfl (fun h163 => ?_) (fun h163 => ?_)
        ·
         try simp only [Bool.not_eq_true', Bool.not_eq_false', decide_eq_true_eq, decide_eq_false_iff_not, Int.not_lt, Int.not_le] at h163
         refine w_exit ?_
         refine q_then_exit ?_
         refine q_blk_this ?_
         refine q_then (hK56 _ _ ?_)
         refine w_region ?_
         refine w_pure want_none (y_add rfl rfl rfl rfl (by omega) (by omega)) rfl ?_
         refine w_pure want_none (y_move (v := .int _ _) rfl rfl) rfl ?_
         refine w_nil ?_
         refine q_then (hN48 _ _ (Nx.intro (2 - (z + 1)) (by omega) (by repeat (first | exact agree_mix | refine agree_upd rfl ?_ | refine agree_updL rfl ?_ _ | refine agree_mixin rfl ?_)) ?_))
         first
           | exact ⟨z + 1, v, B, rfl, by omega, rfl, by rw [wTo_no (canZ_n (by omega) (by omega))]; exact hown, hs⟩
           | exact ⟨z + 1, v, B, rfl, by omega, rfl, by rw [wPart_all (canZ_y (by omega) (by omega)) (q := q) (by omega)]; exact hown2, hs.tail⟩
        ·
         try simp only [Bool.not_eq_true', Bool.not_eq_false', decide_eq_true_eq, decide_eq_false_iff_not, Int.not_lt, Int.not_le] at h163
         refine w_skip ?_
         refine q_then (hK60 _ _ ?_)
         refine w_seq (fun K165 hK164 => ?_)
         refine w_region ?_
         refine w_pure want_none (y_loadN (vs := [_, _, _]) Try.isAgg154 Try.sizeOf154 hs rfl rfl (ats_own (i := 2) (vs := [_, _, _]) rfl rfl)) rfl ?_
         refine w_alloc (cs := [_, _, _]) want_none Try.zeroValue154 rfl hs (fun b166 w167 hs168 => ?_)
         refine w_store (i := 0) (v := .agg #[.int _ _, .int _ _, .int _ _]) (vs := [_, _, _]) want_none Try.sizeOf154 rfl rfl rfl rfl rfl (by simp [Value.oneCell']) hs168 rfl (Nat.le_of_ble_eq_true rfl) (fun w169 hs170 => ?_)
         refine w_nil ?_
         refine q_then (hK164 _ _ ?_)
         refine w_seq (fun K172 hK171 => ?_)
         have hmi := mul_in (s := s) (show z < 2 by omega) hs1
         refine w_region ?_
         refine w_pure want_none (y_fieldAddr (o := 2) (i := 2) Try.underlying154 rfl Try.sizeOf3 rfl rfl rfl) rfl ?_
         refine w_pure want_none (y_load1 Try.isAgg3 hs170 rfl rfl (ats_own (i := 0) (vs := [_]) rfl rfl)) rfl ?_
         refine w_pure want_none (y_move (v := .int _ _) rfl rfl) rfl ?_
         refine w_pure want_none (y_sub rfl rfl rfl rfl (by omega) (by omega)) rfl ?_
         refine w_pure want_none (y_mul rfl rfl rfl rfl (by omega) (by omega)) rfl ?_
         refine w_pure want_none (y_fieldAddr (o := 2) (i := 2) Try.underlying154 rfl Try.sizeOf3 rfl rfl rfl) rfl ?_
         refine w_store (i := 0) (v := .int _ _) (vs := [_]) want_none Try.sizeOf3 rfl rfl rfl rfl rfl (by simp [Value.oneCell']) hs170 rfl (Nat.le_of_ble_eq_true rfl) (fun w173 hs174 => ?_)
         refine w_nil ?_
         refine q_then (hK171 _ _ ?_)
         refine w_seq (fun K176 hK175 => ?_)
         refine w_region ?_
         refine w_pure want_none (y_fieldAddr (o := 0) (i := 0) Try.underlying31 rfl Try.sizeOf3 rfl rfl rfl) rfl ?_
         refine w_pure want_none (y_load1 Try.isAgg3 hs174 rfl rfl (ats_own (i := 1) (vs := [_]) rfl rfl)) rfl ?_
         refine w_pure want_none (y_fieldAddr (o := 1) (i := 1) Try.underlying76 rfl Try.sizeOf3 rfl rfl rfl) rfl ?_
         refine w_pure want_none (y_load1 Try.isAgg3 hs174 rfl rfl (ats_own (i := 2) (vs := [_]) rfl rfl)) rfl ?_
         refine w_pure want_none (y_sub rfl rfl rfl rfl (by omega) (by omega)) rfl ?_
         refine w_pure want_none (y_max2 rfl rfl rfl rfl) rfl ?_
         refine w_pure want_none (y_assign (v := .int _ _) rfl rfl) rfl ?_
         refine w_nil ?_
         refine q_then (hK175 _ _ ?_)
         refine w_block ?_
         refine w_loop [7, 12, 13, 14, 85, 86, 87, 88, 89, 90, 91, 92, 93, 94, 95, 96, 97, 98, 99, 100, 101, 102, 103, 104, 105, 106, 107, 108, 109, 110, 111, 112, 113, 114, 115, 116, 117, 118, 119] [7, 12] (fun kk vs w => ∃ (q : Nat) (v : Value) (B : List (Nat × Obj)), vs = [v, .int .i64 ((max 0 ((hourOf b a).lo - (ctrOf b c).skip)) + q)] ∧ q ≤ ((hourOf b a).hi + (ctrOf b c).twice + 1 - (max 0 ((hourOf b a).lo - (ctrOf b c).skip))).toNat ∧ kk = ((hourOf b a).hi + (ctrOf b c).twice + 1 - (max 0 ((hourOf b a).lo - (ctrOf b c).skip))).toNat - q ∧ Rt.Own v 140 3 ((wTo (ctrOf b c) (hourOf b a) a s z) ++ wPart (ctrOf b c) a s (decide (z = 1)) (max 0 ((hourOf b a).lo - (ctrOf b c).skip)) q).length (wrows ((wTo (ctrOf b c) (hourOf b a) a s z) ++ wPart (ctrOf b c) a s (decide (z = 1)) (max 0 ((hourOf b a).lo - (ctrOf b c).skip)) q)).flatten B ∧ St w0 w ((b166, blk 154 [.int .i64 (c : Int), .int .i64 (a : Int), .int .i64 (s * (1 - (z : Int)))]) :: (b9, blk 31 [.int .i64 (hourOf b a).lo, .int .i64 (hourOf b a).hi]) :: (b8, blk 76 ((ctrOf b c).cells (p.pc c))) :: (b3, blk 154 [.int .i64 (c : Int), .int .i64 (a : Int), .int .i64 s]) :: (mm, .map (ents (fun l : List Int => ia l) es).toArray ck) :: (B ++ F))) (((hourOf b a).hi + (ctrOf b c).twice + 1 - (max 0 ((hourOf b a).lo - (ctrOf b c).skip))).toNat) ?_ ?_
         ·
          exact ⟨0, v, B, vi (by omega), by omega, by omega, by rw [show wPart (ctrOf b c) a s (decide (z = 1)) (max 0 ((hourOf b a).lo - (ctrOf b c).skip)) 0 = [] from rfl, List.append_nil]; exact hown, hs174⟩
         ·
          intro k vs μ w179 hI K178 hN177
          obtain ⟨q, v, B, rfl, hqa, rfl, hown2, hs⟩ := hI
          have hpl := wPart_len (ctrOf b c) a s (max 0 ((hourOf b a).lo - (ctrOf b c).skip)) (decide (z = 1)) q
          have hpa : ((wTo (ctrOf b c) (hourOf b a) a s z) ++ wPart (ctrOf b c) a s (decide (z = 1)) (max 0 ((hourOf b a).lo - (ctrOf b c).skip)) q).length = (wTo (ctrOf b c) (hourOf b a) a s z).length + (wPart (ctrOf b c) a s (decide (z = 1)) (max 0 ((hourOf b a).lo - (ctrOf b c).skip)) q).length := List.length_append
          refine w_seq (fun K181 hK180 => ?_)
          refine w_seq (fun K183 hK182 => ?_)
          refine w_region ?_
          refine w_pure want_none (y_move (v := .int _ _) rfl rfl) rfl ?_
          refine w_pure want_none (y_fieldAddr (o := 1) (i := 1) Try.underlying31 rfl Try.sizeOf3 rfl rfl rfl) rfl ?_
          refine w_pure want_none (y_load1 Try.isAgg3 hs rfl rfl (ats_own (i := 1) (vs := [_]) rfl rfl)) rfl ?_
          refine w_pure want_none (y_fieldAddr (o := 2) (i := 2) Try.underlying76 rfl Try.sizeOf3 rfl rfl rfl) rfl ?_
          refine w_pure want_none (y_load1 Try.isAgg3 hs rfl rfl (ats_own (i := 2) (vs := [_]) rfl rfl)) rfl ?_
          refine w_pure want_none (y_add rfl rfl rfl rfl (by omega) (by omega)) rfl ?_
          refine w_pure want_none (y_leq rfl rfl rfl rfl) rfl ?_
          refine w_nil ?_
          refine q_then (hK182 _ _ ?_)
          refine w_cond rfl rfl (fun h184 => ?_) (fun h184 => ?_)
          ·
           try simp only [Bool.not_eq_true', Bool.not_eq_false', decide_eq_true_eq, decide_eq_false_iff_not, Int.not_lt, Int.not_le] at h184
           refine w_skip ?_
           refine q_then (hK180 _ _ ?_)
           refine w_seq (fun K186 hK185 => ?_)
           refine w_block ?_
           refine w_seq (fun K188 hK187 => ?_)
           refine w_region ?_
           refine w_pure want_none (y_fieldAddr (o := 2) (i := 2) Try.underlying154 rfl Try.sizeOf3 rfl rfl rfl) rfl ?_
           refine w_pure want_none (y_load1 Try.isAgg3 hs rfl rfl (ats_own (i := 0) (vs := [_]) rfl rfl)) rfl ?_
           refine w_pure want_none (y_move (v := .int _ _) rfl rfl) rfl ?_
           refine w_pure want_none (y_add rfl rfl rfl rfl (by omega) (by omega)) rfl ?_
           refine w_pure want_none (y_rem rfl rfl rfl rfl (by omega) (by omega)) rfl ?_
           refine w_pure want_none (y_assign (v := .int _ _) rfl rfl) rfl ?_
           refine w_nil ?_
           refine q_then (hK187 _ _ ?_)
           refine w_seq (fun K190 hK189 => ?_)
           refine w_region ?_
           refine w_pure want_none (y_fieldAddr (o := 5) (i := 5) Try.underlying76 rfl Try.sizeOf39 rfl rfl rfl) rfl ?_
           refine w_pure want_none (yd_slice hbv (y_load1 Try.isAgg39 hs rfl rfl (ats_own (i := 2) (vs := [_]) rfl rfl))) rfl ?_
           refine w_pure want_none (y_fieldAddr (o := 1) (i := 1) Try.underlying154 rfl Try.sizeOf3 rfl rfl rfl) rfl ?_
           refine w_pure want_none (y_load1 Try.isAgg3 hs rfl rfl (ats_own (i := 3) (vs := [_]) rfl rfl)) rfl ?_
           refine w_pure want_none (y_indexS Try.underlying39 Try.sizeOf3 rfl rfl rfl rfl (i := a) rfl has) rfl ?_
           refine w_pure want_none (y_load1 Try.isAgg3 hs.tail.tail.tail.tail.tail.drop rfl rfl hxv) rfl ?_
           refine w_pure want_none (y_assign (v := .int _ _) rfl rfl) rfl ?_
           refine w_nil ?_
           refine q_then (hK189 _ _ ?_)
           refine w_seq (fun K192 hK191 => ?_)
           rw [sh_mul (by omega)]
           refine w_region ?_
           refine w_pure want_none (y_move (v := .int _ _) rfl rfl) rfl ?_
           refine w_pure want_none (y_eql rfl rfl rfl rfl) rfl ?_
           refine w_pure want_none (y_move (v := .bool _) rfl rfl) rfl ?_
           refine w_split (fun h193 => ?_) (fun h193 => ?_)
           ·
            try simp only [Bool.not_eq_true', Bool.not_eq_false', decide_eq_true_eq, decide_eq_false_iff_not, Int.not_lt, Int.not_le] at h193
            refine w_skipop rfl rfl rfl ?_
            refine w_skipop rfl rfl rfl ?_
            refine w_skipop rfl rfl rfl ?_
            refine w_pure want_none (y_pickT (v := _) rfl rfl rfl rfl) rfl ?_
            refine w_nil ?_
            refine q_then (hK191 _ _ ?_)
            refine w_condT rfl rfl ?_
            refine w_region ?_
            refine w_pure want_none (y_move (v := v) rfl rfl) rfl ?_
            refine w_pure want_none (y_move (v := .int _ _) rfl rfl) rfl ?_
            refine w_pure want_none (y_move (v := .int _ _) rfl rfl) rfl ?_
            refine w_pure want_none (y_move (v := .int _ _) rfl rfl) rfl ?_
            refine w_pure want_none (y_eql rfl rfl rfl rfl) rfl ?_
            refine w_pure want_none (y_build (ps := [(0, _), (1, _), (2, _)]) (pv := [(0, .int _ _), (1, .int _ _), (2, .bool _)]) rfl rfl (fun w => Try_E_fb1 _ _ _ w)) rfl ?_
            refine w_bslice (ps := [(0, _)]) (pv := [(0, .agg #[.int _ _, .int _ _, .bool _])]) (cs := [_, _, _]) want_none rfl rfl (fun w => Try_E_fb2 _ _ _ w) hs (fun b194 w195 hs196 => ?_)
            refine w_append (X := (_ :: _ :: _ :: _ :: _ :: _ :: [])) (B := B) (rows := [[_, _, _]]) (sz := 3) (bytes := 24) want_none Try.underlying152 Try_info140 rfl rfl rfl rfl rfl rfl rfl rfl rfl hs196 hown2 (sl_own (i := 0) rfl (by simp) rfl) rfl (by simp) (by simp [Value.oneCell']) (by simp only [maxLen]; omega) (by omega) (fun v197 w198 B199 ho200 hs201 => ?_)
            replace hs201 := (show St _ _ (_ :: _ :: _ :: _ :: _ :: _ :: B199 ++ (F)) from hs201)
            refine w_pure want_none (y_assign (v := v197) rfl rfl) rfl ?_
            refine w_nil ?_
            refine q_blk_normal ?_
            refine q_then (hK185 _ _ ?_)
            refine w_region ?_
            refine w_pure want_none (y_move (v := .int _ _) rfl rfl) rfl ?_
            refine w_pure want_none (y_add rfl rfl rfl rfl (by omega) (by omega)) rfl ?_
            refine w_pure want_none (y_assign (v := .int _ _) rfl rfl) rfl ?_
            refine w_nil ?_
            refine q_then (hN177 _ _ (Nx.intro (((hourOf b a).hi + (ctrOf b c).twice + 1 - (max 0 ((hourOf b a).lo - (ctrOf b c).skip))).toNat - (q + 1)) (by omega) (by repeat (first | exact agree_mix | refine agree_upd rfl ?_ | refine agree_updL rfl ?_ _ | refine agree_mixin rfl ?_)) ?_))
            exact ⟨q + 1, _, _, vi (by omega), by omega, rfl, by rw [wPart_y (by rw [hgs]; omega), ← List.append_assoc]; exact own_way (by have h9 := ho200; rw [hzb] at h9; exact h9), hs201.tail⟩
           ·
            try simp only [Bool.not_eq_true', Bool.not_eq_false', decide_eq_true_eq, decide_eq_false_iff_not, Int.not_lt, Int.not_le] at h193
            refine w_pure (want_yes rfl rfl rfl) (y_move (v := .int _ _) rfl rfl) rfl ?_
            refine w_pure (want_yes rfl rfl rfl) (y_move (v := .int _ _) rfl rfl) rfl ?_
            refine w_pure (want_yes rfl rfl rfl) (y_eql rfl rfl rfl rfl) rfl ?_
            refine w_pure want_none (y_pickF (v := .bool _) rfl rfl rfl rfl) rfl ?_
            refine w_nil ?_
            refine q_then (hK191 _ _ ?_)
            refine w_cond rfl rfl (fun h202 => ?_) (fun h202 => ?_)
            ·
             try simp only [Bool.not_eq_true', Bool.not_eq_false', decide_eq_true_eq, decide_eq_false_iff_not, Int.not_lt, Int.not_le] at h202
             refine w_region ?_
             refine w_pure want_none (y_move (v := v) rfl rfl) rfl ?_
             refine w_pure want_none (y_move (v := .int _ _) rfl rfl) rfl ?_
             refine w_pure want_none (y_move (v := .int _ _) rfl rfl) rfl ?_
             refine w_pure want_none (y_move (v := .int _ _) rfl rfl) rfl ?_
             refine w_pure want_none (y_eql rfl rfl rfl rfl) rfl ?_
             refine w_pure want_none (y_build (ps := [(0, _), (1, _), (2, _)]) (pv := [(0, .int _ _), (1, .int _ _), (2, .bool _)]) rfl rfl (fun w => Try_E_fb1 _ _ _ w)) rfl ?_
             refine w_bslice (ps := [(0, _)]) (pv := [(0, .agg #[.int _ _, .int _ _, .bool _])]) (cs := [_, _, _]) want_none rfl rfl (fun w => Try_E_fb2 _ _ _ w) hs (fun b203 w204 hs205 => ?_)
             refine w_append (X := (_ :: _ :: _ :: _ :: _ :: _ :: [])) (B := B) (rows := [[_, _, _]]) (sz := 3) (bytes := 24) want_none Try.underlying152 Try_info140 rfl rfl rfl rfl rfl rfl rfl rfl rfl hs205 hown2 (sl_own (i := 0) rfl (by simp) rfl) rfl (by simp) (by simp [Value.oneCell']) (by simp only [maxLen]; omega) (by omega) (fun v206 w207 B208 ho209 hs210 => ?_)
             replace hs210 := (show St _ _ (_ :: _ :: _ :: _ :: _ :: _ :: B208 ++ (F)) from hs210)
             refine w_pure want_none (y_assign (v := v206) rfl rfl) rfl ?_
             refine w_nil ?_
             refine q_blk_normal ?_
             refine q_then (hK185 _ _ ?_)
             refine w_region ?_
             refine w_pure want_none (y_move (v := .int _ _) rfl rfl) rfl ?_
             refine w_pure want_none (y_add rfl rfl rfl rfl (by omega) (by omega)) rfl ?_
             refine w_pure want_none (y_assign (v := .int _ _) rfl rfl) rfl ?_
             refine w_nil ?_
             refine q_then (hN177 _ _ (Nx.intro (((hourOf b a).hi + (ctrOf b c).twice + 1 - (max 0 ((hourOf b a).lo - (ctrOf b c).skip))).toNat - (q + 1)) (by omega) (by repeat (first | exact agree_mix | refine agree_upd rfl ?_ | refine agree_updL rfl ?_ _ | refine agree_mixin rfl ?_)) ?_))
             exact ⟨q + 1, _, _, vi (by omega), by omega, rfl, by rw [wPart_y (by rw [hgs]; omega), ← List.append_assoc]; exact own_way (by have h9 := ho209; rw [hzb] at h9; exact h9), hs210.tail⟩
            ·
             try simp only [Bool.not_eq_true', Bool.not_eq_false', decide_eq_true_eq, decide_eq_false_iff_not, Int.not_lt, Int.not_le] at h202
             refine w_skip ?_
             refine q_blk_normal ?_
             refine q_then (hK185 _ _ ?_)
             refine w_region ?_
             refine w_pure want_none (y_move (v := .int _ _) rfl rfl) rfl ?_
             refine w_pure want_none (y_add rfl rfl rfl rfl (by omega) (by omega)) rfl ?_
             refine w_pure want_none (y_assign (v := .int _ _) rfl rfl) rfl ?_
             refine w_nil ?_
             refine q_then (hN177 _ _ (Nx.intro (((hourOf b a).hi + (ctrOf b c).twice + 1 - (max 0 ((hourOf b a).lo - (ctrOf b c).skip))).toNat - (q + 1)) (by omega) (by repeat (first | exact agree_mix | refine agree_upd rfl ?_ | refine agree_updL rfl ?_ _ | refine agree_mixin rfl ?_)) ?_))
             exact ⟨q + 1, v, B, vi (by omega), by omega, rfl, by rw [wPart_n (by rw [hgs]; omega)]; exact hown2, hs⟩
          ·
           try simp only [Bool.not_eq_true', Bool.not_eq_false', decide_eq_true_eq, decide_eq_false_iff_not, Int.not_lt, Int.not_le] at h184
           refine w_exit ?_
           refine q_then_exit ?_
           refine q_then_exit ?_
           refine q_blk_this ?_
           refine q_blk_normal ?_
           refine q_then (hK56 _ _ ?_)
           refine w_region ?_
           refine w_pure want_none (y_add rfl rfl rfl rfl (by omega) (by omega)) rfl ?_
           refine w_pure want_none (y_move (v := .int _ _) rfl rfl) rfl ?_
           refine w_nil ?_
           refine q_then (hN48 _ _ (Nx.intro (2 - (z + 1)) (by omega) (by repeat (first | exact agree_mix | refine agree_upd rfl ?_ | refine agree_updL rfl ?_ _ | refine agree_mixin rfl ?_)) ?_))
           first
             | exact ⟨z + 1, v, B, rfl, by omega, rfl, by rw [wTo_no (canZ_n (by omega) (by omega))]; exact hown, hs⟩
             | exact ⟨z + 1, v, B, rfl, by omega, rfl, by rw [wPart_all (canZ_y (by omega) (by omega)) (q := q) (by omega)]; exact hown2, hs.tail⟩
       ·
        try simp only [Bool.not_eq_true', Bool.not_eq_false', decide_eq_true_eq, decide_eq_false_iff_not, Int.not_lt, Int.not_le] at h162
        refine w_skipop rfl rfl rfl ?_
        refine w_skipop rfl rfl rfl ?_
        refine w_skipop rfl rfl rfl ?_
        refine w_skipop rfl rfl rfl ?_
        refine w_skipop rfl rfl rfl ?_
        refine w_skipop rfl rfl rfl ?_
        refine w_skipop rfl rfl rfl ?_
        refine w_pure (want_yes rfl rfl rfl) (y_pickF (v := _) rfl rfl rfl rfl) rfl ?_
        refine w_pure want_none (y_pickF (v := .bool _) rfl rfl rfl rfl) rfl ?_
        refine w_nil ?_
        refine q_then (hK62 _ _ ?_)
        refine w_condF rfl rfl ?_
        refine w_skip ?_
        refine q_then (hK60 _ _ ?_)
        refine w_seq (fun K212 hK211 => ?_)
        refine w_region ?_
        refine w_pure want_none (y_loadN (vs := [_, _, _]) Try.isAgg154 Try.sizeOf154 hs rfl rfl (ats_own (i := 2) (vs := [_, _, _]) rfl rfl)) rfl ?_
        refine w_alloc (cs := [_, _, _]) want_none Try.zeroValue154 rfl hs (fun b213 w214 hs215 => ?_)
        refine w_store (i := 0) (v := .agg #[.int _ _, .int _ _, .int _ _]) (vs := [_, _, _]) want_none Try.sizeOf154 rfl rfl rfl rfl rfl (by simp [Value.oneCell']) hs215 rfl (Nat.le_of_ble_eq_true rfl) (fun w216 hs217 => ?_)
        refine w_nil ?_
        refine q_then (hK211 _ _ ?_)
        refine w_seq (fun K219 hK218 => ?_)
        have hmi := mul_in (s := s) (show z < 2 by omega) hs1
        refine w_region ?_
        refine w_pure want_none (y_fieldAddr (o := 2) (i := 2) Try.underlying154 rfl Try.sizeOf3 rfl rfl rfl) rfl ?_
        refine w_pure want_none (y_load1 Try.isAgg3 hs217 rfl rfl (ats_own (i := 0) (vs := [_]) rfl rfl)) rfl ?_
        refine w_pure want_none (y_move (v := .int _ _) rfl rfl) rfl ?_
        refine w_pure want_none (y_sub rfl rfl rfl rfl (by omega) (by omega)) rfl ?_
        refine w_pure want_none (y_mul rfl rfl rfl rfl (by omega) (by omega)) rfl ?_
        refine w_pure want_none (y_fieldAddr (o := 2) (i := 2) Try.underlying154 rfl Try.sizeOf3 rfl rfl rfl) rfl ?_
        refine w_store (i := 0) (v := .int _ _) (vs := [_]) want_none Try.sizeOf3 rfl rfl rfl rfl rfl (by simp [Value.oneCell']) hs217 rfl (Nat.le_of_ble_eq_true rfl) (fun w220 hs221 => ?_)
        refine w_nil ?_
        refine q_then (hK218 _ _ ?_)
        refine w_seq (fun K223 hK222 => ?_)
        refine w_region ?_
        refine w_pure want_none (y_fieldAddr (o := 0) (i := 0) Try.underlying31 rfl Try.sizeOf3 rfl rfl rfl) rfl ?_
        refine w_pure want_none (y_load1 Try.isAgg3 hs221 rfl rfl (ats_own (i := 1) (vs := [_]) rfl rfl)) rfl ?_
        refine w_pure want_none (y_fieldAddr (o := 1) (i := 1) Try.underlying76 rfl Try.sizeOf3 rfl rfl rfl) rfl ?_
        refine w_pure want_none (y_load1 Try.isAgg3 hs221 rfl rfl (ats_own (i := 2) (vs := [_]) rfl rfl)) rfl ?_
        refine w_pure want_none (y_sub rfl rfl rfl rfl (by omega) (by omega)) rfl ?_
        refine w_pure want_none (y_max2 rfl rfl rfl rfl) rfl ?_
        refine w_pure want_none (y_assign (v := .int _ _) rfl rfl) rfl ?_
        refine w_nil ?_
        refine q_then (hK222 _ _ ?_)
        refine w_block ?_
        refine w_loop [7, 12, 13, 14, 85, 86, 87, 88, 89, 90, 91, 92, 93, 94, 95, 96, 97, 98, 99, 100, 101, 102, 103, 104, 105, 106, 107, 108, 109, 110, 111, 112, 113, 114, 115, 116, 117, 118, 119] [7, 12] (fun kk vs w => ∃ (q : Nat) (v : Value) (B : List (Nat × Obj)), vs = [v, .int .i64 ((max 0 ((hourOf b a).lo - (ctrOf b c).skip)) + q)] ∧ q ≤ ((hourOf b a).hi + (ctrOf b c).twice + 1 - (max 0 ((hourOf b a).lo - (ctrOf b c).skip))).toNat ∧ kk = ((hourOf b a).hi + (ctrOf b c).twice + 1 - (max 0 ((hourOf b a).lo - (ctrOf b c).skip))).toNat - q ∧ Rt.Own v 140 3 ((wTo (ctrOf b c) (hourOf b a) a s z) ++ wPart (ctrOf b c) a s (decide (z = 1)) (max 0 ((hourOf b a).lo - (ctrOf b c).skip)) q).length (wrows ((wTo (ctrOf b c) (hourOf b a) a s z) ++ wPart (ctrOf b c) a s (decide (z = 1)) (max 0 ((hourOf b a).lo - (ctrOf b c).skip)) q)).flatten B ∧ St w0 w ((b213, blk 154 [.int .i64 (c : Int), .int .i64 (a : Int), .int .i64 (s * (1 - (z : Int)))]) :: (b9, blk 31 [.int .i64 (hourOf b a).lo, .int .i64 (hourOf b a).hi]) :: (b8, blk 76 ((ctrOf b c).cells (p.pc c))) :: (b3, blk 154 [.int .i64 (c : Int), .int .i64 (a : Int), .int .i64 s]) :: (mm, .map (ents (fun l : List Int => ia l) es).toArray ck) :: (B ++ F))) (((hourOf b a).hi + (ctrOf b c).twice + 1 - (max 0 ((hourOf b a).lo - (ctrOf b c).skip))).toNat) ?_ ?_
        ·
         exact ⟨0, v, B, vi (by omega), by omega, by omega, by rw [show wPart (ctrOf b c) a s (decide (z = 1)) (max 0 ((hourOf b a).lo - (ctrOf b c).skip)) 0 = [] from rfl, List.append_nil]; exact hown, hs221⟩
        ·
         intro k vs μ w226 hI K225 hN224
         obtain ⟨q, v, B, rfl, hqa, rfl, hown2, hs⟩ := hI
         have hpl := wPart_len (ctrOf b c) a s (max 0 ((hourOf b a).lo - (ctrOf b c).skip)) (decide (z = 1)) q
         have hpa : ((wTo (ctrOf b c) (hourOf b a) a s z) ++ wPart (ctrOf b c) a s (decide (z = 1)) (max 0 ((hourOf b a).lo - (ctrOf b c).skip)) q).length = (wTo (ctrOf b c) (hourOf b a) a s z).length + (wPart (ctrOf b c) a s (decide (z = 1)) (max 0 ((hourOf b a).lo - (ctrOf b c).skip)) q).length := List.length_append
         refine w_seq (fun K228 hK227 => ?_)
         refine w_seq (fun K230 hK229 => ?_)
         refine w_region ?_
         refine w_pure want_none (y_move (v := .int _ _) rfl rfl) rfl ?_
         refine w_pure want_none (y_fieldAddr (o := 1) (i := 1) Try.underlying31 rfl Try.sizeOf3 rfl rfl rfl) rfl ?_
         refine w_pure want_none (y_load1 Try.isAgg3 hs rfl rfl (ats_own (i := 1) (vs := [_]) rfl rfl)) rfl ?_
         refine w_pure want_none (y_fieldAddr (o := 2) (i := 2) Try.underlying76 rfl Try.sizeOf3 rfl rfl rfl) rfl ?_
         refine w_pure want_none (y_load1 Try.isAgg3 hs rfl rfl (ats_own (i := 2) (vs := [_]) rfl rfl)) rfl ?_
         refine w_pure want_none (y_add rfl rfl rfl rfl (by omega) (by omega)) rfl ?_
         refine w_pure want_none (y_leq rfl rfl rfl rfl) rfl ?_
         refine w_nil ?_
         refine q_then (hK229 _ _ ?_)
         refine w_cond rfl rfl (fun h231 => ?_) (fun h231 => ?_)
         ·
          try simp only [Bool.not_eq_true', Bool.not_eq_false', decide_eq_true_eq, decide_eq_false_iff_not, Int.not_lt, Int.not_le] at h231
          refine w_skip ?_
          refine q_then (hK227 _ _ ?_)
          refine w_seq (fun K233 hK232 => ?_)
          refine w_block ?_
          refine w_seq (fun K235 hK234 => ?_)
          refine w_region ?_
          refine w_pure want_none (y_fieldAddr (o := 2) (i := 2) Try.underlying154 rfl Try.sizeOf3 rfl rfl rfl) rfl ?_
          refine w_pure want_none (y_load1 Try.isAgg3 hs rfl rfl (ats_own (i := 0) (vs := [_]) rfl rfl)) rfl ?_
          refine w_pure want_none (y_move (v := .int _ _) rfl rfl) rfl ?_
          refine w_pure want_none (y_add rfl rfl rfl rfl (by omega) (by omega)) rfl ?_
          refine w_pure want_none (y_rem rfl rfl rfl rfl (by omega) (by omega)) rfl ?_
          refine w_pure want_none (y_assign (v := .int _ _) rfl rfl) rfl ?_
          refine w_nil ?_
          refine q_then (hK234 _ _ ?_)
          refine w_seq (fun K237 hK236 => ?_)
          refine w_region ?_
          refine w_pure want_none (y_fieldAddr (o := 5) (i := 5) Try.underlying76 rfl Try.sizeOf39 rfl rfl rfl) rfl ?_
          refine w_pure want_none (yd_slice hbv (y_load1 Try.isAgg39 hs rfl rfl (ats_own (i := 2) (vs := [_]) rfl rfl))) rfl ?_
          refine w_pure want_none (y_fieldAddr (o := 1) (i := 1) Try.underlying154 rfl Try.sizeOf3 rfl rfl rfl) rfl ?_
          refine w_pure want_none (y_load1 Try.isAgg3 hs rfl rfl (ats_own (i := 3) (vs := [_]) rfl rfl)) rfl ?_
          refine w_pure want_none (y_indexS Try.underlying39 Try.sizeOf3 rfl rfl rfl rfl (i := a) rfl has) rfl ?_
          refine w_pure want_none (y_load1 Try.isAgg3 hs.tail.tail.tail.tail.tail.drop rfl rfl hxv) rfl ?_
          refine w_pure want_none (y_assign (v := .int _ _) rfl rfl) rfl ?_
          refine w_nil ?_
          refine q_then (hK236 _ _ ?_)
          refine w_seq (fun K239 hK238 => ?_)
          rw [sh_mul (by omega)]
          refine w_region ?_
          refine w_pure want_none (y_move (v := .int _ _) rfl rfl) rfl ?_
          refine w_pure want_none (y_eql rfl rfl rfl rfl) rfl ?_
          refine w_pure want_none (y_move (v := .bool _) rfl rfl) rfl ?_
          refine w_split (fun h240 => ?_) (fun h240 => ?_)
          ·
           try simp only [Bool.not_eq_true', Bool.not_eq_false', decide_eq_true_eq, decide_eq_false_iff_not, Int.not_lt, Int.not_le] at h240
           refine w_skipop rfl rfl rfl ?_
           refine w_skipop rfl rfl rfl ?_
           refine w_skipop rfl rfl rfl ?_
           refine w_pure want_none (y_pickT (v := _) rfl rfl rfl rfl) rfl ?_
           refine w_nil ?_
           refine q_then (hK238 _ _ ?_)
           refine w_condT rfl rfl ?_
           refine w_region ?_
           refine w_pure want_none (y_move (v := v) rfl rfl) rfl ?_
           refine w_pure want_none (y_move (v := .int _ _) rfl rfl) rfl ?_
           refine w_pure want_none (y_move (v := .int _ _) rfl rfl) rfl ?_
           refine w_pure want_none (y_move (v := .int _ _) rfl rfl) rfl ?_
           refine w_pure want_none (y_eql rfl rfl rfl rfl) rfl ?_
           refine w_pure want_none (y_build (ps := [(0, _), (1, _), (2, _)]) (pv := [(0, .int _ _), (1, .int _ _), (2, .bool _)]) rfl rfl (fun w => Try_E_fb1 _ _ _ w)) rfl ?_
           refine w_bslice (ps := [(0, _)]) (pv := [(0, .agg #[.int _ _, .int _ _, .bool _])]) (cs := [_, _, _]) want_none rfl rfl (fun w => Try_E_fb2 _ _ _ w) hs (fun b241 w242 hs243 => ?_)
           refine w_append (X := (_ :: _ :: _ :: _ :: _ :: _ :: [])) (B := B) (rows := [[_, _, _]]) (sz := 3) (bytes := 24) want_none Try.underlying152 Try_info140 rfl rfl rfl rfl rfl rfl rfl rfl rfl hs243 hown2 (sl_own (i := 0) rfl (by simp) rfl) rfl (by simp) (by simp [Value.oneCell']) (by simp only [maxLen]; omega) (by omega) (fun v244 w245 B246 ho247 hs248 => ?_)
           replace hs248 := (show St _ _ (_ :: _ :: _ :: _ :: _ :: _ :: B246 ++ (F)) from hs248)
           refine w_pure want_none (y_assign (v := v244) rfl rfl) rfl ?_
           refine w_nil ?_
           refine q_blk_normal ?_
           refine q_then (hK232 _ _ ?_)
           refine w_region ?_
           refine w_pure want_none (y_move (v := .int _ _) rfl rfl) rfl ?_
           refine w_pure want_none (y_add rfl rfl rfl rfl (by omega) (by omega)) rfl ?_
           refine w_pure want_none (y_assign (v := .int _ _) rfl rfl) rfl ?_
           refine w_nil ?_
           refine q_then (hN224 _ _ (Nx.intro (((hourOf b a).hi + (ctrOf b c).twice + 1 - (max 0 ((hourOf b a).lo - (ctrOf b c).skip))).toNat - (q + 1)) (by omega) (by repeat (first | exact agree_mix | refine agree_upd rfl ?_ | refine agree_updL rfl ?_ _ | refine agree_mixin rfl ?_)) ?_))
           exact ⟨q + 1, _, _, vi (by omega), by omega, rfl, by rw [wPart_y (by rw [hgs]; omega), ← List.append_assoc]; exact own_way (by have h9 := ho247; rw [hzb] at h9; exact h9), hs248.tail⟩
          ·
           try simp only [Bool.not_eq_true', Bool.not_eq_false', decide_eq_true_eq, decide_eq_false_iff_not, Int.not_lt, Int.not_le] at h240
           refine w_pure (want_yes rfl rfl rfl) (y_move (v := .int _ _) rfl rfl) rfl ?_
           refine w_pure (want_yes rfl rfl rfl) (y_move (v := .int _ _) rfl rfl) rfl ?_
           refine w_pure (want_yes rfl rfl rfl) (y_eql rfl rfl rfl rfl) rfl ?_
           refine w_pure want_none (y_pickF (v := .bool _) rfl rfl rfl rfl) rfl ?_
           refine w_nil ?_
           refine q_then (hK238 _ _ ?_)
           refine w_cond rfl rfl (fun h249 => ?_) (fun h249 => ?_)
           ·
            try simp only [Bool.not_eq_true', Bool.not_eq_false', decide_eq_true_eq, decide_eq_false_iff_not, Int.not_lt, Int.not_le] at h249
            refine w_region ?_
            refine w_pure want_none (y_move (v := v) rfl rfl) rfl ?_
            refine w_pure want_none (y_move (v := .int _ _) rfl rfl) rfl ?_
            refine w_pure want_none (y_move (v := .int _ _) rfl rfl) rfl ?_
            refine w_pure want_none (y_move (v := .int _ _) rfl rfl) rfl ?_
            refine w_pure want_none (y_eql rfl rfl rfl rfl) rfl ?_
            refine w_pure want_none (y_build (ps := [(0, _), (1, _), (2, _)]) (pv := [(0, .int _ _), (1, .int _ _), (2, .bool _)]) rfl rfl (fun w => Try_E_fb1 _ _ _ w)) rfl ?_
            refine w_bslice (ps := [(0, _)]) (pv := [(0, .agg #[.int _ _, .int _ _, .bool _])]) (cs := [_, _, _]) want_none rfl rfl (fun w => Try_E_fb2 _ _ _ w) hs (fun b250 w251 hs252 => ?_)
            refine w_append (X := (_ :: _ :: _ :: _ :: _ :: _ :: [])) (B := B) (rows := [[_, _, _]]) (sz := 3) (bytes := 24) want_none Try.underlying152 Try_info140 rfl rfl rfl rfl rfl rfl rfl rfl rfl hs252 hown2 (sl_own (i := 0) rfl (by simp) rfl) rfl (by simp) (by simp [Value.oneCell']) (by simp only [maxLen]; omega) (by omega) (fun v253 w254 B255 ho256 hs257 => ?_)
            replace hs257 := (show St _ _ (_ :: _ :: _ :: _ :: _ :: _ :: B255 ++ (F)) from hs257)
            refine w_pure want_none (y_assign (v := v253) rfl rfl) rfl ?_
            refine w_nil ?_
            refine q_blk_normal ?_
            refine q_then (hK232 _ _ ?_)
            refine w_region ?_
            refine w_pure want_none (y_move (v := .int _ _) rfl rfl) rfl ?_
            refine w_pure want_none (y_add rfl rfl rfl rfl (by omega) (by omega)) rfl ?_
            refine w_pure want_none (y_assign (v := .int _ _) rfl rfl) rfl ?_
            refine w_nil ?_
            refine q_then (hN224 _ _ (Nx.intro (((hourOf b a).hi + (ctrOf b c).twice + 1 - (max 0 ((hourOf b a).lo - (ctrOf b c).skip))).toNat - (q + 1)) (by omega) (by repeat (first | exact agree_mix | refine agree_upd rfl ?_ | refine agree_updL rfl ?_ _ | refine agree_mixin rfl ?_)) ?_))
            exact ⟨q + 1, _, _, vi (by omega), by omega, rfl, by rw [wPart_y (by rw [hgs]; omega), ← List.append_assoc]; exact own_way (by have h9 := ho256; rw [hzb] at h9; exact h9), hs257.tail⟩
           ·
            try simp only [Bool.not_eq_true', Bool.not_eq_false', decide_eq_true_eq, decide_eq_false_iff_not, Int.not_lt, Int.not_le] at h249
            refine w_skip ?_
            refine q_blk_normal ?_
            refine q_then (hK232 _ _ ?_)
            refine w_region ?_
            refine w_pure want_none (y_move (v := .int _ _) rfl rfl) rfl ?_
            refine w_pure want_none (y_add rfl rfl rfl rfl (by omega) (by omega)) rfl ?_
            refine w_pure want_none (y_assign (v := .int _ _) rfl rfl) rfl ?_
            refine w_nil ?_
            refine q_then (hN224 _ _ (Nx.intro (((hourOf b a).hi + (ctrOf b c).twice + 1 - (max 0 ((hourOf b a).lo - (ctrOf b c).skip))).toNat - (q + 1)) (by omega) (by repeat (first | exact agree_mix | refine agree_upd rfl ?_ | refine agree_updL rfl ?_ _ | refine agree_mixin rfl ?_)) ?_))
            exact ⟨q + 1, v, B, vi (by omega), by omega, rfl, by rw [wPart_n (by rw [hgs]; omega)]; exact hown2, hs⟩
         ·
          try simp only [Bool.not_eq_true', Bool.not_eq_false', decide_eq_true_eq, decide_eq_false_iff_not, Int.not_lt, Int.not_le] at h231
          refine w_exit ?_
          refine q_then_exit ?_
          refine q_then_exit ?_
          refine q_blk_this ?_
          refine q_blk_normal ?_
          refine q_then (hK56 _ _ ?_)
          refine w_region ?_
          refine w_pure want_none (y_add rfl rfl rfl rfl (by omega) (by omega)) rfl ?_
          refine w_pure want_none (y_move (v := .int _ _) rfl rfl) rfl ?_
          refine w_nil ?_
          refine q_then (hN48 _ _ (Nx.intro (2 - (z + 1)) (by omega) (by repeat (first | exact agree_mix | refine agree_upd rfl ?_ | refine agree_updL rfl ?_ _ | refine agree_mixin rfl ?_)) ?_))
          first
            | exact ⟨z + 1, v, B, rfl, by omega, rfl, by rw [wTo_no (canZ_n (by omega) (by omega))]; exact hown, hs⟩
            | exact ⟨z + 1, v, B, rfl, by omega, rfl, by rw [wPart_all (canZ_y (by omega) (by omega)) (q := q) (by omega)]; exact hown2, hs.tail⟩
     ·
      try simp only [Bool.not_eq_true', Bool.not_eq_false', decide_eq_true_eq, decide_eq_false_iff_not, Int.not_lt, Int.not_le] at h55
      refine w_exit ?_
      refine q_then_exit ?_
      refine q_then_exit ?_
      refine q_blk_this ?_
      refine q_then (hK44 _ _ ?_)
      refine w_seq (fun K259 hK258 => ?_)
      refine w_draw [6] [(0, 0), (1, 0), (2, 0), (3, 1), (4, 1), (5, 0), (6, 3)] Try_mo (drawOK_of (by kernel_rfl)) hs (fun w260 hs261 => ?_)
      refine d_any rfl want_none rfl (fun _ => (y_move (v := .pointer _) rfl rfl)) ?_
      refine d_any rfl want_none rfl (fun _ => (y_nilCheck rfl rfl)) ?_
      refine d_any rfl want_none rfl (fun _ => (y_fieldAddr (o := 3) (i := 1) Try.underlying129 rfl Try.sizeOf127 rfl rfl rfl)) ?_
      refine d_take rfl want_none rfl hs261 (fun _ hq => (y_load1 Try.isAgg127 hq.tail.tail.tail.tail.drop rfl rfl (show Ats _ _ _ _ [_] from Ats.part hb 3 1))) ?_
      refine d_take rfl want_none rfl hs261 (fun _ hq => (y_loadN (vs := [_, _, _]) Try.isAgg154 Try.sizeOf154 hq rfl rfl (ats_own (i := 2) (vs := [_, _, _]) rfl rfl))) ?_
      refine d_any rfl want_none rfl (fun _ => (y_move (v := v) rfl rfl)) ?_
      refine d_late rfl ?_
      refine G_put (i := 3) (a := [(c : Int), (a : Int), s]) want_none Try.underlying127 (keyG_ia key154) rfl hes rfl rfl rfl rfl rfl rfl hs261 rfl (fun w262 hs263 => ?_)
      refine w_nil ?_
      refine qn ?_
      refine d_nil ?_
      refine q_then (hK258 _ _ ?_)
      refine w_seq (fun K265 hK264 => ?_)
      refine w_region ?_
      refine w_pure want_none (y_move (v := v) rfl rfl) rfl ?_
      refine w_pure want_none (y_assign (v := v) rfl rfl) rfl ?_
      refine w_nil ?_
      refine q_then (hK264 _ _ ?_)
      refine w_ret ?_
      refine q_ret (l := [.tmp 4]) (vs := [_]) rfl ⟨⟨rfl, show _ = (v : Value) from rfl⟩, trivial⟩ ?_
      have hz2 : z = 2 := by omega
      subst hz2
      rw [wTo_two] at hown
      obtain ⟨x, cap, rfl, hsl, _, _⟩ := own_rows0 (w0 := w0) hown (wrows_row _) (by simp [wrows]) rfl
      exact ⟨x, cap, B, rfl, hsl, hs263.tail.tail.tail⟩

theorem getA_mem {α : Type} [DecidableEq α] {a : α} {u : Value} : ∀ {l : List (α × Value × Nat)}, getA a l = some u → ∃ q ∈ l, q.1 = a ∧ q.2.1 = u
  | [], h => by simp [getA] at h
  | q :: l, h => by
    by_cases e : q.1 = a
    · simp only [getA, if_pos e] at h
      exact ⟨q, .head _, e, by simpa using h⟩
    · simp only [getA, if_neg e] at h
      obtain ⟨x, hx, h1, h2⟩ := getA_mem h
      exact ⟨x, .tail _ hx, h1, h2⟩
theorem ways_con {w0 w : World} {X M F : List (Nat × Obj)} (b : Board) (p : AtB) (bb mm : Nat) (hk : BK w0 F b p bb mm) (c a : Nat) (hc : c < b.ctrs.length) (ha : a < b.hours.length) (s : Int) (hs1 : 0 ≤ s ∧ s < 100) (hM : Memo w0 b mm M) (hs : St w0 w (X ++ (M ++ F))) :
    Con Try.prog 110 [.pointer (some ⟨bb, 0, none⟩), .agg #[.int .i64 (c : Int), .int .i64 (a : Int), .int .i64 s]] w fun v w' => ∃ (M' : List (Nat × Obj)) (x : Option Addr) (cap : Nat), v = .slice x (waysAt b c a s).length cap ∧ Sl w0 M' x 3 (wrows (waysAt b c a s)) ∧ Memo w0 b mm M' ∧ St w0 w' (X ++ (M' ++ F)) := by
  obtain ⟨es, ck, MB, rfl, hok, hlen, hes⟩ := hM
  have hs2 : St w0 w ((mm, .map (ents (fun l : List Int => ia l) es).toArray ck) :: (X ++ (MB ++ F))) := hs.perm (perm_mid X [_] (MB ++ F))
  cases hf : getA [(c : Int), (a : Int), s] es with
  | none =>
    refine (c110n b p bb mm hk.app.app c a hc ha s hs1 es ck hlen hf hs2).mono ?_
    rintro v w' ⟨x, cap, B, rfl, hsl, hs3⟩
    refine ⟨(mm, .map (ents (fun l : List Int => ia l) (putA [(c : Int), (a : Int), s] (.slice x (waysAt b c a s).length cap) ck es)).toArray (if idxA [(c : Int), (a : Int), s] es 0 = none then ck + 1 else ck)) :: (B ++ MB), x, cap, rfl, hsl.top.cons, ⟨_, _, B ++ MB, rfl, hok.put _ _, fun q hq => ?_, fun q hq => ?_⟩, ?_⟩
    · rcases mem_putA hq with ⟨h1, _⟩ | h
      · rw [h1]; rfl
      · exact hlen q h
    · rcases mem_putA hq with ⟨h1, h2⟩ | h
      · exact ⟨c, a, s, x, cap, h1, h2, hsl.top⟩
      · exact (hes q h).mono fun _ h => h.drop
    · have h4 := hs3.perm (perm_mid (_ :: B) X (MB ++ F))
      simpa only [List.append_assoc, List.cons_append] using h4
  | some u =>
    obtain ⟨q, hq, h1, h2⟩ := getA_mem hf
    obtain ⟨c', a', s', x, cap, h3, h4, h5⟩ := hes q hq
    rw [h1] at h3
    injection h3 with e1 h3
    injection h3 with e2 h3
    injection h3 with e3 _
    have e4 : c' = c := by omega
    have e5 : a' = a := by omega
    subst e4 e5 e3
    rw [h2] at h4
    refine (c110f b p bb mm hk.app.app c' a' hc ha s hs1 es ck hlen u x _ cap h4 hf hs2).mono ?_
    rintro v w' ⟨rfl, hs3⟩
    refine ⟨(mm, .map (ents (fun l : List Int => ia l) es).toArray ck) :: MB, x, cap, h4, h5.cons, ⟨es, ck, MB, rfl, hok, hlen, hes⟩, ?_⟩
    exact hs3.perm (perm_mid [_] X (MB ++ F))
end Go.Proofs
/- Plain words of the chain layer: what counters make of loads, as sets of numbers. No conditions. -/
set_option linter.unusedSimpArgs false
set_option linter.unusedVariables false
namespace Go.Rt.Ch
open Go.Rt.Ha
/-- What a way makes of a counter that stands so. -/
def kOne (l : List Int) (q : Quest) (k : Nat) (t : Int) (w : Way) : Int := w.shows + if decide (100 ≤ t) || q k (ld l k) w then 100 else 0
def kFit (c : Ctr) (l : List Int) (k : Nat) (w : Way) : Prop := 0 - c.skip ≤ w.counts - ld l k ∧ w.counts - ld l k ≤ c.twice
def GoodL (c : Ctr) (l : List Int) (q : Quest) (k : Nat) (t : Int) (ws : List Way) (z : Int) : Prop := ∃ w ∈ ws, kFit c l k w ∧ z = kOne l q k t w
def Good (c : Ctr) (h : Hour) (l : List Int) (q : Quest) (k : Nat) (z t : Int) : Prop := GoodL c l q k t (waysC c h k (t % 100)) z
def KeysOf (ks : List Int) (xs : List (Int × Bool)) : Prop := ∀ z, z ∈ ks ↔ ∃ x ∈ xs, enc x = z
theorem good_zero (c : Ctr) (l : List Int) (q : Quest) (k : Nat) (t : Int) (ws : List Way) (z : Int) : ¬ GoodL c l q k t (ws.take 0) z := by rintro ⟨w, h, _⟩; simp at h
theorem good_no {c : Ctr} {l : List Int} {q : Quest} {k : Nat} {t : Int} {ws : List Way} {j : Nat} (hj : j < ws.length) (h : ¬ kFit c l k ws[j]) (z : Int) : GoodL c l q k t (ws.take (j + 1)) z ↔ GoodL c l q k t (ws.take j) z := by
  rw [List.take_succ_eq_append_getElem hj]
  unfold GoodL
  constructor
  · rintro ⟨w, hw, h1, h2⟩
    rcases List.mem_append.1 hw with hw | hw
    · exact ⟨w, hw, h1, h2⟩
    · rw [List.mem_singleton] at hw; subst hw; exact absurd h1 h
  · rintro ⟨w, hw, h1, h2⟩; exact ⟨w, List.mem_append_left _ hw, h1, h2⟩
theorem good_yes {c : Ctr} {l : List Int} {q : Quest} {k : Nat} {t : Int} {ws : List Way} {j : Nat} (hj : j < ws.length) (h : kFit c l k ws[j]) (z : Int) : GoodL c l q k t (ws.take (j + 1)) z ↔ GoodL c l q k t (ws.take j) z ∨ z = kOne l q k t ws[j] := by
  rw [List.take_succ_eq_append_getElem hj]
  unfold GoodL
  constructor
  · rintro ⟨w, hw, h1, h2⟩
    rcases List.mem_append.1 hw with hw | hw
    · exact .inl ⟨w, hw, h1, h2⟩
    · rw [List.mem_singleton] at hw; subst hw; exact .inr h2
  · rintro (⟨w, hw, h1, h2⟩ | h2)
    · exact ⟨w, List.mem_append_left _ hw, h1, h2⟩
    · exact ⟨_, List.mem_append_right _ (.head _), h, h2⟩
theorem good_all (c : Ctr) (l : List Int) (q : Quest) (k : Nat) (t : Int) (ws : List Way) (z : Int) {j : Nat} (hj : ws.length ≤ j) : GoodL c l q k t (ws.take j) z ↔ GoodL c l q k t ws z := by rw [List.take_of_length_le hj]
theorem keys_zero (c : Ctr) (l : List Int) (q : Quest) : KeysOf [c.start] (fareTo c l q 0) := by
  intro z
  rw [List.mem_singleton]
  constructor
  · rintro rfl; exact ⟨_, .head _, by unfold enc; simp⟩
  · rintro ⟨x, hx, rfl⟩
    simp only [fareTo, List.mem_singleton] at hx
    subst hx; unfold enc; simp
theorem keys_next {c : Ctr} {n : Nat} (hc : c.Ok n) {h : Hour} {l : List Int} {q : Quest} {k : Nat} (hl : h.lo ≤ ld l k ∧ ld l k ≤ h.hi) (h0 : 0 ≤ h.lo) {ks nx : List Int} (hk : KeysOf ks (fareTo c l q k)) (hn : ∀ z, z ∈ nx ↔ ∃ t ∈ ks, Good c h l q k z t) : KeysOf nx (fareTo c l q (k + 1)) := by
  intro z
  rw [hn]
  constructor
  · rintro ⟨t, ht, w, hw, h1, h2⟩
    obtain ⟨x, hx, rfl⟩ := (hk t).1 ht
    have hr := fare_in hc k hx
    rw [enc_mod hr] at hw
    refine ⟨(w.shows, x.2 || q k (ld l k) w), ?_, ?_⟩
    · simp only [fareTo, List.mem_flatMap, List.mem_map]
      exact ⟨x, hx, w, (steps_ways hl h0).2 ⟨hw, h1⟩, rfl⟩
    · rw [h2]
      unfold kOne enc
      simp only
      have : decide (100 ≤ x.1 + if x.2 = true then 100 else 0) = x.2 := by
        have := enc_ge hr
        unfold enc at this
        rw [Bool.eq_iff_iff, decide_eq_true_eq]; exact this
      rw [this]
  · rintro ⟨x, hx, rfl⟩
    simp only [fareTo, List.mem_flatMap, List.mem_map] at hx
    obtain ⟨y, hy, w, hw, rfl⟩ := hx
    have hr := fare_in hc k hy
    have hsw := (steps_ways (c := c) (h := h) (a := k) (s := y.1) hl h0).1 hw
    refine ⟨enc y, (hk _).2 ⟨y, hy, rfl⟩, w, by rw [enc_mod hr]; exact hsw.1, hsw.2, ?_⟩
    unfold kOne
    have : decide (100 ≤ enc y) = y.2 := by rw [Bool.eq_iff_iff, decide_eq_true_eq]; exact enc_ge hr
    rw [this]
    rfl
theorem keys_in {c : Ctr} {n : Nat} (hc : c.Ok n) {l : List Int} {q : Quest} {k : Nat} {ks : List Int} (hk : KeysOf ks (fareTo c l q k)) {z : Int} (hz : z ∈ ks) : 0 ≤ z ∧ z < 200 := by
  obtain ⟨x, hx, rfl⟩ := (hk z).1 hz
  have := fare_in hc k hx
  unfold enc
  split <;> omega
theorem keys_not {c : Ctr} {n : Nat} (hc : c.Ok n) {l : List Int} {q : Quest} {k : Nat} {ks : List Int} (hk : KeysOf ks (fareTo c l q k)) : (ks.any fun z => decide (z < 100)) = notF c l q k := by
  unfold notF
  rw [Bool.eq_iff_iff, List.any_eq_true, List.any_eq_true]
  constructor
  · rintro ⟨z, hz, h⟩
    obtain ⟨x, hx, rfl⟩ := (hk z).1 hz
    have h2 := enc_ge (fare_in hc k hx)
    refine ⟨x, hx, ?_⟩
    cases hb : x.2 with
    | false => rfl
    | true => have := h2.2 hb; simp at h; omega
  · rintro ⟨x, hx, h⟩
    have h2 := enc_ge (fare_in hc k hx)
    refine ⟨enc x, (hk _).2 ⟨x, hx, rfl⟩, ?_⟩
    simp only [decide_eq_true_eq]
    refine Int.not_le.1 fun h3 => ?_
    rw [h2.1 h3] at h; cases h
theorem keys_met {c : Ctr} {n : Nat} (hc : c.Ok n) {l : List Int} {q : Quest} {k : Nat} {ks : List Int} (hk : KeysOf ks (fareTo c l q k)) : (ks.any fun z => decide (100 ≤ z)) = metF c l q k := by
  unfold metF
  rw [Bool.eq_iff_iff, List.any_eq_true, List.any_eq_true]
  constructor
  · rintro ⟨z, hz, h⟩
    obtain ⟨x, hx, rfl⟩ := (hk z).1 hz
    exact ⟨x, hx, (enc_ge (fare_in hc k hx)).1 (by simpa using h)⟩
  · rintro ⟨x, hx, h⟩
    exact ⟨enc x, (hk _).2 ⟨x, hx, rfl⟩, by simpa using (enc_ge (fare_in hc k hx)).2 h⟩
theorem ways_len {c : Ctr} {h : Hour} {a : Nat} {s : Int} {n : Nat} (hc : c.Ok n) {k : Int} (hh : h.Ok k) : (waysC c h a s).length ≤ 20 := by
  have := wTo_len (a := a) (s := s) hc hh 2
  rw [wTo_two] at this; exact this
end Go.Rt.Ch
/- Plain laws of maps as lists: what is left of a range, values that are ints. No conditions. -/
set_option linter.unusedSimpArgs false
set_option linter.unusedVariables false
set_option linter.unusedSectionVars false
namespace Go.Rt
open Go.RowKit
section
variable {α : Type} [DecidableEq α]
/-- How many entries have not been handed out. -/
def remN (es : List (α × Value × Nat)) (seen : Array Nat) : Nat := (es.filter fun r => !decide (r.2.2 ∈ seen.toList)).length
theorem rem_zero (es : List (α × Value × Nat)) : remN es #[] = es.length := by
  unfold remN
  rw [List.filter_eq_self.2 (by intro a _; simp)]
theorem rem_le (es : List (α × Value × Nat)) (seen : Array Nat) : remN es seen ≤ es.length := List.length_filter_le _ _
theorem rem_push : ∀ {es : List (α × Value × Nat)} {seen : Array Nat} {q : α × Value × Nat}, (es.map (·.2.2)).Nodup → q ∈ es → q.2.2 ∉ seen.toList → remN es (seen.push q.2.2) + 1 = remN es seen
  | [], _, _, _, h, _ => by cases h
  | x :: es, seen, q, hn, hq, hs => by
    rw [List.map_cons, List.nodup_cons] at hn
    have hnot : ∀ r ∈ es, r.2.2 ≠ x.2.2 := fun r hr e => hn.1 (by rw [← e]; exact List.mem_map_of_mem (f := fun r : α × Value × Nat => r.2.2) hr)
    unfold remN
    by_cases e : q.2.2 = x.2.2
    · have h1 : (es.filter fun r => !decide (r.2.2 ∈ (seen.push q.2.2).toList)) = es.filter fun r => !decide (r.2.2 ∈ seen.toList) := by
        refine List.filter_congr fun r hr => ?_
        have := hnot r hr
        rw [← e] at this
        simp [this]
      rw [List.filter_cons, List.filter_cons, if_neg (by simp [e]), if_pos (by rw [← e]; simpa using hs), h1, List.length_cons]
    · have hq2 : q ∈ es := by
        rcases List.mem_cons.1 hq with rfl | h
        · exact absurd rfl e
        · exact h
      have ih := rem_push hn.2 hq2 hs
      unfold remN at ih
      have hx : (!decide (x.2.2 ∈ (seen.push q.2.2).toList)) = !decide (x.2.2 ∈ seen.toList) := by
        have : x.2.2 ≠ q.2.2 := fun h => e h.symm
        simp [this]
      rw [List.filter_cons, List.filter_cons, hx]
      split
      · rw [List.length_cons, List.length_cons]; omega
      · exact ih
/-- The entries that have been handed out, with one more. -/
theorem seen_push {es : List (α × Value × Nat)} {seen : Array Nat} {q : α × Value × Nat} (hn : (es.map (·.2.2)).Nodup) (hq : q ∈ es) (G : α → Prop) :
    (∃ r ∈ es, r.2.2 ∈ (seen.push q.2.2).toList ∧ G r.1) ↔ (∃ r ∈ es, r.2.2 ∈ seen.toList ∧ G r.1) ∨ G q.1 := by
  have inj : ∀ {es : List (α × Value × Nat)}, (es.map (·.2.2)).Nodup → ∀ a ∈ es, ∀ b ∈ es, a.2.2 = b.2.2 → a = b := by
    intro es
    induction es with
    | nil => intro _ a h; cases h
    | cons x es ih =>
      intro hn a ha b hb e
      rw [List.map_cons, List.nodup_cons] at hn
      have hnot : ∀ r ∈ es, r.2.2 ≠ x.2.2 := fun r hr e => hn.1 (by rw [← e]; exact List.mem_map_of_mem (f := fun r : α × Value × Nat => r.2.2) hr)
      rcases List.mem_cons.1 ha with ea | ha2
      · rcases List.mem_cons.1 hb with eb | hb2
        · rw [ea, eb]
        · exact absurd (by rw [← ea]; exact e.symm) (hnot b hb2)
      · rcases List.mem_cons.1 hb with eb | hb2
        · exact absurd (by rw [← eb]; exact e) (hnot a ha2)
        · exact ih hn.2 a ha2 b hb2 e
  constructor
  · rintro ⟨r, hr, hs, hG⟩
    rw [Array.toList_push, List.mem_append, List.mem_singleton] at hs
    rcases hs with hs | hs
    · exact .inl ⟨r, hr, hs, hG⟩
    · right
      have := inj hn r hr q hq hs
      subst this; exact hG
  · rintro (⟨r, hr, hs, hG⟩ | hG)
    · exact ⟨r, hr, by rw [Array.toList_push]; exact List.mem_append_left _ hs, hG⟩
    · exact ⟨q, hq, by simp, hG⟩
/-- A map's value that is an int; 0 where there is none. -/
def valA (a : α) (l : List (α × Value × Nat)) : Int := match getA a l with | some (.int _ z) => z | _ => 0
/-- A map's values are ints, from 0 to a number. -/
def IntsTo (B : Int) (l : List (α × Value × Nat)) : Prop := ∀ q ∈ l, ∃ z : Int, q.2.1 = .int .i64 z ∧ 0 ≤ z ∧ z ≤ B
theorem getA_in {a : α} {u : Value} : ∀ {l : List (α × Value × Nat)}, getA a l = some u → ∃ q ∈ l, q.1 = a ∧ q.2.1 = u
  | [], h => by simp [getA] at h
  | q :: l, h => by
    by_cases e : q.1 = a
    · simp only [getA, if_pos e] at h
      exact ⟨q, .head _, e, by simpa using h⟩
    · simp only [getA, if_neg e] at h
      obtain ⟨x, hx, h1, h2⟩ := getA_in h
      exact ⟨x, .tail _ hx, h1, h2⟩
theorem valA_in {B : Int} {l : List (α × Value × Nat)} (h : IntsTo B l) (hB : 0 ≤ B) (a : α) : 0 ≤ valA a l ∧ valA a l ≤ B := by
  unfold valA
  cases hg : getA a l with
  | none => exact ⟨Int.le_refl _, hB⟩
  | some u =>
    obtain ⟨q, hq, _, h2⟩ := getA_in hg
    obtain ⟨z, h3, h4⟩ := h q hq
    rw [← h2, h3]; exact h4
theorem IntsTo.put {B B' : Int} {l : List (α × Value × Nat)} (h : IntsTo B l) (hB : B ≤ B') {a : α} {z : Int} (hz : 0 ≤ z ∧ z ≤ B') (ck : Nat) : IntsTo B' (putA a (.int .i64 z) ck l) := by
  intro q hq
  rcases mem_putA hq with ⟨_, h2⟩ | h2
  · exact ⟨z, h2, hz⟩
  · obtain ⟨y, h3, h4⟩ := h q h2
    exact ⟨y, h3, by omega⟩
theorem IntsTo.le {B B' : Int} {l : List (α × Value × Nat)} (h : IntsTo B l) (hB : B ≤ B') : IntsTo B' l := fun q hq => by
  obtain ⟨y, h3, h4⟩ := h q hq
  exact ⟨y, h3, by omega⟩
end
/-- So many numbers, each once, from 0 to below a number. -/
theorem nodup_bound : ∀ (n : Nat) (l : List Int), l.Nodup → (∀ z ∈ l, 0 ≤ z ∧ z < (n : Int)) → l.length ≤ n
  | 0, l, _, h => by
    cases l with
    | nil => simp
    | cons z l => have := h z (.head _); omega
  | n + 1, l, hn, h => by
    by_cases hm : (n : Int) ∈ l
    · have h1 := nodup_bound n (l.erase n) (hn.erase _) fun z hz => by
        have h2 := List.mem_of_mem_erase hz
        have h3 := h z h2
        have h4 : z ≠ (n : Int) := fun e => by
          subst e
          exact (List.Nodup.not_mem_erase hn) hz
        omega
      have h2 := List.length_erase_of_mem hm
      have h3 : 0 < l.length := List.length_pos_of_mem hm
      omega
    · have := nodup_bound n l hn fun z hz => by
        have h3 := h z hz
        have : z ≠ (n : Int) := fun e => hm (e ▸ hz)
        omega
      omega
section
variable {P : Program} {n : Nat} {ρ : Nat → Value} {ds : List Deferred} {w w0 : World} {L : List (Nat × Obj)} {d : Option Tmp} {ty : TypeId} {p : String} {e : Array Edge} {g : Option (Nat × Bool)} {α : Type} [DecidableEq α] {kv : α → Value} {ok : α → Prop}
/-- A lookup in a map of ints. -/
theorem G_lookI {mt kt el : TypeId} {x y : Operand} {a : α} {l : List (α × Value × Nat)} {m i ck : Nat} {B : Int} (hU : P.underlying mt = some (.map kt el)) (hK : KeyG P kt kv ok) (hok : ok a) (hall : ∀ q ∈ l, ok q.1) (hB : IntsTo B l)
    (hz : ∀ w, (zeroValue el).run P w = .ok (.int .i64 0) w) (hst : St w0 w L) (ho : okO n x = true) (ho1 : okO n y = true) (hx : ev ρ x = .map (some m)) (hy : ev ρ y = kv a) (hi : L[i]? = some (m, .map (ents kv l).toArray ck)) :
    Yd P (A n ρ ds) ⟨d, .lookup mt x y false, ty, p, e, g⟩ w (.int .i64 (valA a l)) := by
  cases hg : getA a l with
  | none =>
    have := G_look1N (d := d) (ty := ty) (p := p) (e := e) (g := g) (ds := ds) hU hK hok hall hz hst ho ho1 hx hy hi hg
    unfold valA; rw [hg]; exact this
  | some u =>
    have := G_look1S (d := d) (ty := ty) (p := p) (e := e) (g := g) (ds := ds) hU hK hok hall hst ho ho1 hx hy hi hg
    obtain ⟨q, hq, _, h2⟩ := getA_in hg
    obtain ⟨z, h3, _⟩ := hB q hq
    unfold valA; rw [hg, ← h2, h3]
    rw [← h2, h3] at this
    exact this
end
end Go.Rt
