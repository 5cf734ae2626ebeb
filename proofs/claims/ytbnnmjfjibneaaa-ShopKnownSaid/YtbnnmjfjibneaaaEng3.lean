/- The walking engine, part 3: loops, cuts, slices that are read, slices that a call makes and appends to. No conditions. -/
import Derived.Test.YtbnnmjfjibneaaaEng2
import Derived.Deep.LoopGhost
set_option linter.unusedSimpArgs false
set_option linter.unusedVariables false
namespace Go.Rt
open Go.RowKit

/-! ### Frames that agree but for some slots -/
def mix (D : List Nat) (ρ0 μ : Nat → Value) : Nat → Value := fun i => bif D.elem i then μ i else ρ0 i
def Agree (D : List Nat) (ρ0 ρ : Nat → Value) : Prop := ∀ i, D.elem i = false → ρ i = ρ0 i
def updL (ρ : Nat → Value) : List Nat → List Value → Nat → Value
  | s :: S, v :: vs => upd (updL ρ S vs) s v
  | _, _ => ρ
theorem agree_refl {D : List Nat} {ρ : Nat → Value} : Agree D ρ ρ := fun _ _ => rfl
theorem agree_mix {D : List Nat} {ρ0 μ : Nat → Value} : Agree D ρ0 (mix D ρ0 μ) := fun i h => by simp only [mix, h, cond_false]
theorem agree_upd {D : List Nat} {ρ0 ρ : Nat → Value} {d : Nat} {v : Value} (hd : D.elem d = true) (h : Agree D ρ0 ρ) : Agree D ρ0 (upd ρ d v) := fun i hi => by
  have : i ≠ d := fun e => by subst e; rw [hi] at hd; cases hd
  rw [upd_ne this]; exact h i hi
theorem agree_updO {D : List Nat} {ρ0 ρ : Nat → Value} {d : Nat} {v : Value} (hd : D.elem d = true) (h : Agree D ρ0 ρ) : Agree D ρ0 (updO ρ (some d) v) := agree_upd hd h
theorem agree_updL {D S : List Nat} {ρ0 ρ : Nat → Value} (hS : S.all (D.elem ·) = true) (h : Agree D ρ0 ρ) : ∀ vs, Agree D ρ0 (updL ρ S vs) := by
  induction S with
  | nil => intro vs; exact h
  | cons s S ih =>
    intro vs
    simp only [List.all_cons, Bool.and_eq_true] at hS
    cases vs with
    | nil => exact h
    | cons v vs => exact agree_upd hS.1 (ih hS.2 vs)
theorem agree_mixL {D S : List Nat} {ρ0 μ : Nat → Value} (hS : S.all (D.elem ·) = true) (vs : List Value) : Agree D ρ0 (updL (mix D ρ0 μ) S vs) := agree_updL hS agree_mix vs
theorem agree_trans {D : List Nat} {a b c : Nat → Value} (h : Agree D a b) (k : Agree D b c) : Agree D a c := fun i hi => (k i hi).trans (h i hi)
theorem agree_sub {D D' : List Nat} {a b : Nat → Value} (hs : D'.all (D.elem ·) = true) (h : Agree D' a b) : Agree D a b := fun i hi => h i (by
  cases hb : D'.elem i
  · rfl
  · have hm : i ∈ D' := by simpa using hb
    have := List.all_eq_true.1 hs i hm
    rw [hi] at this; cases this)
theorem upd_self (ρ : Nat → Value) (s : Nat) : upd ρ s (ρ s) = ρ := by
  funext i
  by_cases h : i = s
  · subst h; exact upd_same _ _ _
  · exact upd_ne h
theorem updL_self (ρ : Nat → Value) (S : List Nat) : updL ρ S (S.map ρ) = ρ := by
  induction S with
  | nil => rfl
  | cons s S ih => simp only [List.map_cons, updL, ih, upd_self]
theorem mix_self {D : List Nat} {ρ0 ρ : Nat → Value} (h : Agree D ρ0 ρ) : mix D ρ0 ρ = ρ := by
  funext i
  unfold mix
  cases hb : D.elem i
  · exact (h i hb).symm
  · rfl
theorem mixL_self {D : List Nat} {ρ0 ρ : Nat → Value} (S : List Nat) (h : Agree D ρ0 ρ) : updL (mix D ρ0 ρ) S (S.map ρ) = ρ := by rw [mix_self h, updL_self]

variable {r : Option Nat} {P : Program} {ops : Array Oper} {Q : Exit → Act → World → Prop} {rest : List Oper} {n : Nat} {ρ : Nat → Value} {ds : List Deferred} {w w0 : World} {L : List (Nat × Obj)}

/-! ### Loops and cuts -/
/-- What a round must hand on. -/
def Nx (n : Nat) (ds : List Deferred) (D S : List Nat) (ρ : Nat → Value) (I : Nat → List Value → World → Prop) (k : Nat) (a : Act) (w : World) : Prop :=
  ∃ ρ' k', a = A n ρ' ds ∧ Agree D ρ ρ' ∧ k' < k ∧ I k' (S.map ρ') w
theorem Nx.intro {D S : List Nat} {I : Nat → List Value → World → Prop} {k : Nat} {ρ' : Nat → Value} (k' : Nat) (hk : k' < k) (ha : Agree D ρ ρ') (hI : I k' (S.map ρ') w) : Nx n ds D S ρ I k (A n ρ' ds) w :=
  ⟨ρ', k', rfl, ha, hk, hI⟩
open Classical in
theorem w_loop {c : Code} (D S : List Nat) (I : Nat → List Value → World → Prop) (k0 : Nat) (h0 : I k0 (S.map ρ) w)
    (round : ∀ k vs μ w, I k vs w → ∀ K : Act → World → Prop, (∀ a w, Nx n ds D S ρ I k a w → K a w) → WC r P c (Exit.then K Q) (A n (updL (mix D ρ μ) S vs) ds) w) :
    WC r P (.loop c) Q (A n ρ ds) w := by
  let J : Nat → Act → World → Prop := fun k a w => ∃ vs μ, a = A n (updL (mix D ρ μ) S vs) ds ∧ I k vs w
  refine wpIn_loop (fun a w => ∃ k, J k a w) (fun a w => leastOf fun k => J k a w) ⟨k0, S.map ρ, ρ, by rw [mixL_self S agree_refl], h0⟩ ?_
  intro a w hI
  obtain ⟨vs, μ, ha, hi⟩ := (leastOf_spec hI).1
  subst ha
  refine wpIn_mono (round _ vs μ w hi _ fun _ _ h => h) ?_
  intro e a' w' hq
  cases e with
  | normal =>
    obtain ⟨ρ', k', rfl, hag, hlt, hI'⟩ := hq
    have hJ : J k' (A n ρ' ds) w' := ⟨S.map ρ', ρ', by rw [mixL_self S hag], hI'⟩
    exact show (∃ k, J k (A n ρ' ds) w') ∧ leastOf (fun k => J k (A n ρ' ds) w') < leastOf (fun k => J k _ w) from ⟨⟨k', hJ⟩, Nat.lt_of_le_of_lt ((leastOf_spec ⟨k', hJ⟩).2 k' hJ) hlt⟩
  | exit id => exact hq
  | goto l => exact hq
  | ret => exact hq
  | panic ch => exact hq
  | outgrown => exact hq
/-- What a piece of code that comes to its end has done. -/
def Md (n : Nat) (ds : List Deferred) (D S : List Nat) (ρ : Nat → Value) (M : List Value → World → Prop) (a : Act) (w : World) : Prop :=
  ∃ ρ', a = A n ρ' ds ∧ Agree D ρ ρ' ∧ M (S.map ρ') w
theorem Md.intro {D S : List Nat} {M : List Value → World → Prop} {ρ' : Nat → Value} (ha : Agree D ρ ρ') (hM : M (S.map ρ') w) : Md n ds D S ρ M (A n ρ' ds) w := ⟨ρ', rfl, ha, hM⟩
theorem w_cut {c : Code} (D S : List Nat) (M : List Value → World → Prop)
    (h : ∀ K : Act → World → Prop, (∀ a w, Md n ds D S ρ M a w → K a w) → WC r P c (Exit.then K Q) (A n ρ ds) w)
    (k : ∀ vs μ w', M vs w' → Q .normal (A n (updL (mix D ρ μ) S vs) ds) w') : WC r P c Q (A n ρ ds) w := by
  refine wpIn_mono (h _ fun _ _ h => h) ?_
  intro e a' w' hq
  cases e with
  | normal =>
    obtain ⟨ρ', rfl, hag, hM⟩ := hq
    have := k (S.map ρ') ρ' w' hM
    rw [mixL_self S hag] at this
    exact this
  | exit id => exact hq
  | goto l => exact hq
  | ret => exact hq
  | panic ch => exact hq
  | outgrown => exact hq
/-- Operations, up to some place, then the rest. -/
theorem wl_cut {l1 l2 : List Oper} {a : Act} (h : WL r P ops (Exit.then (WL r P ops Q l2) Q) l1 a w) : WL r P ops Q (l1 ++ l2) a w := by
  unfold WL at *
  induction l1 generalizing a w with
  | nil => exact h
  | cons o l ih =>
    simp only [List.cons_append, wpListIn] at h ⊢
    split
    · rename_i hw
      rw [if_pos hw] at h
      refine Oper.wpIn_mono (Q := Q) (fun a w hh => ih hh) ?_
      obtain ⟨h1, h2⟩ := h
      refine ⟨h1, ?_⟩
      generalize (Oper.semAt _ _ _).run P w = res at *
      cases res with
      | ok x w' =>
        cases x <;> simp only [Oper.uponIn] at h2 ⊢ <;>
          first
            | exact h2
            | exact ⟨h2.1, CallsIn.mono h2.2 (fun e w'' he => by cases e <;> exact he)⟩
            | exact ⟨h2.1, RowsIn.mono h2.2 (fun _ _ he => he)⟩
            | exact ⟨h2.1, RoundIn.mono h2.2 (fun e w'' he => by cases e <;> exact he)⟩
      | halt x w' => cases x <;> simp only [Oper.uponIn] at h2 ⊢ <;> exact h2
    · rename_i hw
      rw [if_neg hw] at h
      exact ⟨h.1, ih h.2⟩
theorem w_scope {c : Code} {a : Act} (h : WC r P c (Exit.noGoto Q) a w) : WC r P (.scope c) Q a w := by
  intro b k cs hro hb hr
  obtain ⟨e, a', w', hq, harr⟩ := h b (.inScope c :: k) cs hro hb hr
  have s1 : StepsIn (Machine.fenced P (FW r)) P (lone (b.atR a (.code (.scope c) :: k)) cs w) (lone (b.atR a (.code c :: .inScope c :: k)) cs w) :=
    .one (fenced_calm hb hr rfl) (step_lone_go (by simp [stepG, stepG.exec, Frame.atR]))
  cases e with
  | normal =>
    refine ⟨.normal, a', w', hq, s1.trans (StepsIn.trans harr (.one (fenced_calm hb hr rfl) (step_lone_go (by simp [stepG, stepG.exec, Frame.atR]))))⟩
  | exit id =>
    refine ⟨.exit id, a', w', hq, .of_steps s1 ?_⟩
    have hx : exitTo id (.inScope c :: k) = exitTo id k := by simp [exitTo]
    exact ⟨fun k' hk => harr.1 k' (by rw [hx]; exact hk), fun hr' hk => harr.2 hr' (by rw [hx]; exact hk)⟩
  | goto l => exact hq.elim
  | ret => exact ⟨.ret, a', w', hq, .of_steps s1 harr⟩
  | panic ch => exact ⟨.panic ch, a', w', hq, .of_steps s1 harr⟩
  | outgrown => exact ⟨.outgrown, a', w', hq, .of_steps (b := b) (k := k) (cs := cs) (e := .outgrown) s1 harr⟩
theorem q_ng_normal {a : Act} (h : Q .normal a w) : Exit.noGoto Q .normal a w := h
theorem q_ng_ret {a : Act} (h : Q .ret a w) : Exit.noGoto Q .ret a w := h
theorem q_ng_exit {a : Act} {id : Nat} (h : Q (.exit id) a w) : Exit.noGoto Q (.exit id) a w := h

/-! ### Slices that are read -/
/-- In every world of which L is known the slice at a reads as these rows of sz cells. -/
def Sl (w0 : World) (L : List (Nat × Obj)) (a : Option Addr) (sz : Nat) (rows : List (List Value)) : Prop :=
  rows = [] ∨ ∃ b off, a = some ⟨b, off, none⟩ ∧ ∀ i row, rows[i]? = some row → row.length = sz ∧ Ats w0 L b (off + i * sz) row
theorem Sl.at {a : Option Addr} {sz i : Nat} {rows : List (List Value)} {row : List Value} (h : Sl w0 L a sz rows) (hi : rows[i]? = some row) :
    ∃ b off, a = some ⟨b, off, none⟩ ∧ row.length = sz ∧ Ats w0 L b (off + i * sz) row := by
  rcases h with rfl | ⟨b, off, ha, h⟩
  · simp at hi
  · exact ⟨b, off, ha, h i row hi⟩
theorem Sl.addr {a : Option Addr} {sz : Nat} {rows : List (List Value)} (h : Sl w0 L a sz rows) (hn : 0 < rows.length) :
    ∃ b off, a = some ⟨b, off, none⟩ ∧ ∀ i row, rows[i]? = some row → row.length = sz ∧ Ats w0 L b (off + i * sz) row := by
  rcases h with rfl | h
  · simp at hn
  · exact h
theorem Sl.mono {L' : List (Nat × Obj)} {a : Option Addr} {sz : Nat} {rows : List (List Value)} (h : Sl w0 L a sz rows) (hs : ∀ w, St w0 w L' → St w0 w L) : Sl w0 L' a sz rows := by
  rcases h with h | ⟨b, off, ha, h⟩
  · exact .inl h
  · exact .inr ⟨b, off, ha, fun i row hi => ⟨(h i row hi).1, (h i row hi).2.mono hs⟩⟩
theorem Sl.cons {x : Nat × Obj} {a : Option Addr} {sz : Nat} {rows : List (List Value)} (h : Sl w0 L a sz rows) : Sl w0 (x :: L) a sz rows := h.mono fun _ hs => hs.tail
theorem Sl.app {L' : List (Nat × Obj)} {a : Option Addr} {sz : Nat} {rows : List (List Value)} (h : Sl w0 L a sz rows) : Sl w0 (L' ++ L) a sz rows := h.mono fun _ hs => hs.drop
theorem Ats.cons {x : Nat × Obj} {b off : Nat} {vs : List Value} (h : Ats w0 L b off vs) : Ats w0 (x :: L) b off vs := h.mono fun _ hs => hs.tail
theorem Ats.app {L' : List (Nat × Obj)} {b off : Nat} {vs : List Value} (h : Ats w0 L b off vs) : Ats w0 (L' ++ L) b off vs := h.mono fun _ hs => hs.drop
theorem Sl.nil (a : Option Addr) (sz : Nat) : Sl w0 L a sz [] := .inl rfl
/-- A block of which all is known, read as a slice. -/
theorem sl_own {i b sz : Nat} {t : TypeId} {cs : List Value} {rows : List (List Value)} (hi : L[i]? = some (b, blk t cs)) (hr : ∀ row ∈ rows, row.length = sz) (hc : cs.take (rows.length * sz) = rows.flatten) :
    Sl w0 L (some ⟨b, 0, none⟩) sz rows := by
  refine .inr ⟨b, 0, rfl, fun j row hj => ?_⟩
  have hlen := hr row (List.mem_of_getElem? hj)
  refine ⟨hlen, ?_⟩
  have key : ∀ (rows : List (List Value)) (j : Nat) (row : List Value), rows[j]? = some row → (∀ row ∈ rows, row.length = sz) → (rows.flatten.drop (j * sz)).take sz = row := by
    intro rows
    induction rows with
    | nil => intro j row h _; simp at h
    | cons x rows ih =>
      intro j row h hr
      have hx := hr x (.head _)
      cases j with
      | zero =>
        simp at h; subst h
        simp [← hx]
      | succ j =>
        simp only [List.getElem?_cons_succ] at h
        have := ih j row h (fun y hy => hr y (.tail _ hy))
        rw [List.flatten_cons, Nat.succ_mul, Nat.add_comm, List.drop_append]
        rw [List.drop_eq_nil_of_le (by omega), List.nil_append, show sz + j * sz - x.length = j * sz from by omega]
        exact this
  refine ats_own hi ?_
  rw [hlen, Nat.zero_add]
  have h1 := key rows j row hj hr
  rw [← hc] at h1
  have hjl := (List.getElem?_eq_some_iff.1 hj).1
  have hle : j * sz + sz ≤ rows.length * sz := by
    have := Nat.mul_le_mul_right sz (show j + 1 ≤ rows.length by omega)
    rw [Nat.succ_mul] at this; exact this
  rw [List.drop_take, List.take_take, Nat.min_eq_left (by omega)] at h1
  exact h1

/-! ### Slices that the call makes -/
/-- The slice value v has n elements of sz cells; they are xs; it is nil, or all of block B's cells. -/
def Own (v : Value) (t : TypeId) (sz n : Nat) (xs : List Value) (B : List (Nat × Obj)) : Prop :=
  xs.length = n * sz ∧ ((v = .slice none 0 0 ∧ n = 0 ∧ B = []) ∨
    ∃ b cap cs, v = .slice (some ⟨b, 0, none⟩) n cap ∧ B = [(b, blk t cs)] ∧ n ≤ cap ∧ cap ≤ maxLen ∧ cs.length = cap * sz ∧ cs.take (n * sz) = xs)
theorem own_nil (t : TypeId) (sz : Nat) : Own (.slice none 0 0) t sz 0 [] [] := ⟨by simp, .inl ⟨rfl, rfl, rfl⟩⟩
theorem Own.slice {v : Value} {t : TypeId} {sz n : Nat} {xs : List Value} {B : List (Nat × Obj)} (h : Own v t sz n xs B) : ∃ a cap, v = .slice a n cap := by
  rcases h.2 with ⟨rfl, rfl, _⟩ | ⟨b, cap, cs, rfl, _⟩
  · exact ⟨none, 0, rfl⟩
  · exact ⟨_, _, rfl⟩
/-- The same as a list of rows, read. -/
theorem Own.sl {v : Value} {t : TypeId} {sz n : Nat} {xs : List Value} {B : List (Nat × Obj)} {rows : List (List Value)} (h : Own v t sz n xs B) (hr : ∀ row ∈ rows, row.length = sz) (hn : rows.length = n) (hx : xs = rows.flatten) (F : List (Nat × Obj)) :
    ∃ a cap, v = .slice a rows.length cap ∧ Sl w0 (B ++ F) a sz rows := by
  subst hn
  rcases h.2 with ⟨rfl, h0, rfl⟩ | ⟨b, cap, cs, rfl, rfl, _, _, _, ht⟩
  · rw [List.length_eq_zero_iff] at h0
    subst h0
    exact ⟨none, 0, rfl, .inl rfl⟩
  · exact ⟨_, _, rfl, sl_own (i := 0) rfl hr (by rw [ht, hx])⟩
theorem St.push {w' : World} (h : St w0 w L) (b : Nat) (o : Obj) (hb : w.heap.size ≤ b) (hg : w'.heap[b]? = some o) (hs : w.heap.size ≤ w'.heap.size) (ho : ∀ k, k < w.heap.size → w'.heap[k]? = w.heap[k]?)
    (e1 : w'.os = w.os) (e2 : w'.tape = w.tape) (e3 : w'.output = w.output) : St w0 w' ((b, o) :: L) := by
  have hle := h.le
  refine ⟨h.below.trans ⟨e1, e2, e3, hs, fun k hk => ho k (by omega)⟩, ?_, ?_⟩
  · intro x hx
    cases hx with
    | head => exact ⟨by show w0.heap.size ≤ b; omega, hg⟩
    | tail _ hx => exact ⟨(h.has x hx).1, by rw [ho _ (h.lt hx)]; exact (h.has x hx).2⟩
  · simp only [List.map_cons, List.nodup_cons]
    refine ⟨?_, h.nd⟩
    intro hm
    obtain ⟨x, hx, he⟩ := List.mem_map.1 hm
    have := h.lt hx
    omega
/-- 'append' to a slice of the call's own. -/
theorem run_append {t ty el : TypeId} {i : TypeInfo} {z : Value} {sz bytes : Nat} (ht : P.underlying t = some (.slice el)) (hi : P.info? el = some i) (hz : i.zero = some z) (hsize : i.size = sz) (hby : i.bytes = bytes) (hzs : z.cells.size = sz) (hsz : 0 < sz)
    {v : Value} {n m c : Nat} {xs : List Value} {B : List (Nat × Obj)} (hst : St w0 w (B ++ L)) (hown : Own v el sz n xs B) {ax : Option Addr} {rows : List (List Value)} (hsl : Sl w0 (B ++ L) ax sz rows) (hm : rows.length = m)
    (hnil : ax = none → c = 0) (h1 : ∀ row ∈ rows, ∀ u ∈ row, u.oneCell' = true) (h63 : n + m ≤ maxLen) (hbytes : (n + m) * bytes ≤ 140737488355328) :
    ∃ v' w' B', (Builtin.append_ #[t, t] ty #[v, .slice ax m c]).run P w = .ok v' w' ∧ Own v' el sz (n + m) (xs ++ rows.flatten) B' ∧ St w0 w' (B' ++ L) := by
  subst hsize hby
  have hsmall : n + m ≤ 9223372036854775807 := by simp only [maxLen] at h63; omega
  have hrl : ∀ row ∈ rows, row.length = i.size := by
    intro row hr
    obtain ⟨j, hj⟩ := List.mem_iff_getElem?.1 hr
    obtain ⟨_, _, _, h, _⟩ := hsl.at hj
    exact h
  have flen : ∀ (rows : List (List Value)), (∀ row ∈ rows, row.length = i.size) → rows.flatten.length = rows.length * i.size := by
    intro rows
    induction rows with
    | nil => intro _; simp
    | cons x rows ih =>
      intro hr
      rw [List.flatten_cons, List.length_append, ih (fun y hy => hr y (.tail _ hy)), hr x (.head _), List.length_cons, Nat.succ_mul, Nat.add_comm]
  have hl : rows.flatten.length = m * i.size := by rw [flen rows hrl, hm]
  have h1' : ∀ u ∈ rows.flatten, u.oneCell' = true := by
    intro u hu
    obtain ⟨row, hr, hu⟩ := List.mem_flatten.1 hu
    exact h1 row hr u hu
  have hlen : (xs ++ rows.flatten).length = (n + m) * i.size := by rw [List.length_append, hown.1, hl, Nat.add_mul]
  cases ax with
  | none =>
    have hr0 : rows = [] := by
      rcases hsl with h | ⟨_, _, h, _⟩
      · exact h
      · cases h
    subst hr0
    simp only [List.length_nil] at hm
    subst hm
    have hc0 := hnil rfl
    subst hc0
    have hown' : w.ownsRow w0.heap.size el i.size v n xs := by
      refine ⟨hown.1, ?_⟩
      rcases hown.2 with ⟨h1, h2, _⟩ | ⟨b, cap, cs, h1, h2, h3, h4, h5, h6⟩
      · exact .inl ⟨h1, h2⟩
      · subst h2
        refine .inr ⟨b, cap, cs.toArray, h1, (hst.has _ (.head _)).1, hst.get (i := 0) rfl, h3, h4, by simpa using h5, by simpa using h6⟩
    have hr := run_append_owned_none (P := P) w w0.heap.size t ty el i i.size ht hi v n xs hown'
    exact ⟨v, w, B, hr, by simpa using hown, hst⟩
  | some ad =>
    have hnews : ∀ j u, rows.flatten[j]? = some u → w.cell? (ad.add j) = some u := by
      rcases hsl with h | ⟨b, off, h, hat⟩
      · subst h; intro j u hu; simp at hu
      · cases h
        intro j u hu
        rw [Addr.add_lit]
        have key : ∀ (rows : List (List Value)) (j : Nat) (u : Value), (∀ row ∈ rows, row.length = i.size) → rows.flatten[j]? = some u → ∃ k row q, rows[k]? = some row ∧ row[q]? = some u ∧ j = k * i.size + q := by
          intro rows
          induction rows with
          | nil => intro j u _ h; simp at h
          | cons x rows ih =>
            intro j u hr h
            have hx := hr x (.head _)
            rw [List.flatten_cons, List.getElem?_append] at h
            split at h
            · exact ⟨0, x, j, rfl, h, by simp⟩
            · rename_i hge
              obtain ⟨k, row, q, a1, a2, a3⟩ := ih _ u (fun y hy => hr y (.tail _ hy)) h
              exact ⟨k + 1, row, q, a1, a2, by rw [Nat.succ_mul]; omega⟩
        obtain ⟨k, row, q, a1, a2, rfl⟩ := key rows j u hrl hu
        have := (hat k row a1).2 q u a2 w hst
        rwa [Nat.add_assoc] at this
    have grown : ∀ (old : Nat), old < n + m →
        Own (.slice (some ⟨w.heap.size, 0, none⟩) (n + m) (grownCap w (n + m) old el)) el i.size (n + m) (xs ++ rows.flatten)
          [(w.heap.size, .cells (xs.toArray ++ rows.flatten.toArray ++ Builtin.zeroCells z.cells (grownCap w (n + m) old el - (n + m))) el (0, 0))] ∧
        St w0 (w.drew.alloc (.cells (xs.toArray ++ rows.flatten.toArray ++ Builtin.zeroCells z.cells (grownCap w (n + m) old el - (n + m))) el))
          ([(w.heap.size, .cells (xs.toArray ++ rows.flatten.toArray ++ Builtin.zeroCells z.cells (grownCap w (n + m) old el - (n + m))) el (0, 0))] ++ L) := by
      intro old ho
      have hge := grownCap_ge w (n + m) old el
      have hcm : grownCap w (n + m) old el ≤ maxLen := grownCap_le_maxLen w (n + m) old el h63
      refine ⟨⟨hlen, .inr ⟨w.heap.size, _, xs ++ rows.flatten ++ (Builtin.zeroCells z.cells (grownCap w (n + m) old el - (n + m))).toList, rfl, ?_, hge, hcm, ?_, ?_⟩⟩, ?_⟩
      · simp [blk]
      · simp only [List.length_append, Array.length_toList, size_zeroCells, hzs, hown.1, hl, ← Nat.add_mul]
        congr 1
        omega
      · rw [← hlen]
        exact List.take_left
      · have hL : St w0 w L := hst.drop
        exact hL.push w.heap.size _ (Nat.le_refl _) (heap_alloc_new w.drew _) (by simp) (fun k hk => by have := Below.heap_alloc w.drew (.cells (xs.toArray ++ rows.flatten.toArray ++ Builtin.zeroCells z.cells (grownCap w (n + m) old el - (n + m))) el) k hk; exact this) rfl rfl rfl
    rcases hown.2 with ⟨rfl, rfl, rfl⟩ | ⟨g, cap, cs, rfl, rfl, hnc, hcm, hcs, htake⟩
    · have hx : xs = [] := List.eq_nil_of_length_eq_zero (by simpa using hown.1)
      subst hx
      by_cases hm0 : m = 0
      · subst hm0
        rw [List.length_eq_zero_iff] at hm
        subst hm
        refine ⟨.slice none 0 0, w, [], ?_, by simpa using own_nil el i.size, hst⟩
        simp [Builtin.append_, run_underlying ht, sizeOf, typeInfo, hi, Builtin.lenOf, Builtin.firstCells, loadCells, loadCellsFrom]
      · have hr := run_append_nil (P := P) w t ty el i z ht hi hz ad m c rows.flatten hl hnews (by omega) (by omega) (by have hb := hbytes; simp only [Nat.zero_add] at hb; omega)
        have hgr := grown 0 (by omega)
        simp only [Nat.zero_add, List.nil_append, Array.empty_append] at hgr ⊢
        exact ⟨_, _, _, hr, hgr.1, hgr.2⟩
    · have hgb : w.heap[g]? = some (.cells cs.toArray el (0, 0)) := hst.get (i := 0) rfl
      by_cases hroom : n + m ≤ cap
      · have hfit : n * i.size + rows.flatten.length ≤ cs.toArray.size := by
          rw [hl]; simp only [List.size_toArray]; rw [hcs, ← Nat.add_mul]; exact Nat.mul_le_mul_right _ hroom
        have hr := run_append_room (P := P) w t ty el i ht hi g n cap cs.toArray hgb ad m c rows.flatten hl hnews h1' hroom hfit
        refine ⟨_, _, [(g, blk el (cs.take (n * i.size) ++ rows.flatten ++ cs.drop (n * i.size + rows.flatten.length)))], hr, ⟨hlen, .inr ⟨g, cap, _, rfl, rfl, hroom, hcm, ?_, ?_⟩⟩, ?_⟩
        · simp only [List.length_append, List.length_take, List.length_drop]
          simp only [List.size_toArray] at hfit
          omega
        · rw [htake, ← hlen]
          exact List.take_left
        · have := hst.become (i := 0) (w' := w.setRow g (cs.toArray.toList.take (n * i.size) ++ rows.flatten ++ cs.toArray.toList.drop (n * i.size + rows.flatten.length)).toArray)
            (o' := blk el (cs.take (n * i.size) ++ rows.flatten ++ cs.drop (n * i.size + rows.flatten.length))) rfl (by simp) (by
              rw [setRow_heap w g cs.toArray _ el _ hgb]; simp [blk]) (fun k hk => setRow_other w g k _ hk) rfl rfl rfl
          exact this
      · have holds : ∀ j u, xs[j]? = some u → w.cell? ((⟨g, 0, none⟩ : Addr).add j) = some u := by
          intro j u hu
          rw [Addr.add_lit, Nat.zero_add, cell_of hgb]
          rw [← htake, List.getElem?_take] at hu
          split at hu
          · exact hu
          · cases hu
        have hr := run_append_grow (P := P) w t ty el i z ht hi hz ⟨g, 0, none⟩ n cap xs hown.1 holds ad m c rows.flatten hl hnews (by omega) (by omega) (growslice_fits (by omega) hbytes)
        have hgr := grown cap (by omega)
        exact ⟨_, _, _, hr, hgr.1, hgr.2⟩
end Go.Rt
