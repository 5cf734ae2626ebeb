/- The walking engine, part 5: what else operations do: builtins, slices made, appended to, cut and copied, aggregates compared. No conditions. -/
import Derived.Test.YtbnnmjfjibneaaaEng4
set_option linter.unusedSimpArgs false
set_option linter.unusedVariables false
namespace Go.Rt
open Go.RowKit
variable {r : Option Nat} {P : Program} {ops : Array Oper} {Q : Exit → Act → World → Prop} {rest : List Oper} {n : Nat} {ρ : Nat → Value} {ds : List Deferred} {w w0 : World} {L : List (Nat × Obj)}
  {d : Option Tmp} {ty : TypeId} {p : String} {e : Array Edge} {g : Option (Nat × Bool)}

theorem args_map {xs : Array Operand} (h : xs.toList.all (okO n) = true) : xs.map (A n ρ ds).eval = (xs.toList.map (ev ρ)).toArray := by
  apply Array.ext'
  simp only [Array.toList_map]
  exact List.map_congr_left fun x hx => ev_eq (List.all_eq_true.1 h x hx)
theorem y_max2 {x y : Operand} {ts : Array TypeId} {k : IntKind} {a b : Int} (ho : okO n x = true) (ho1 : okO n y = true) (hx : ev ρ x = .int k a) (hy : ev ρ y = .int k b) :
    Yd P (A n ρ ds) ⟨d, .call ⟨.builtin .max, #[x, y], ts⟩, ty, p, e, g⟩ w (.int k (max a b)) := by
  have : (if a < b then b else a) = max a b := by split <;> omega
  simp [Yd, execOp, resolve, ev_eq ho, ev_eq ho1, hx, hy, Sem.run_bind, invoke, builtin, Builtin.max_, Builtin.max2, Result.andThen, this]
theorem y_min2 {x y : Operand} {ts : Array TypeId} {k : IntKind} {a b : Int} (ho : okO n x = true) (ho1 : okO n y = true) (hx : ev ρ x = .int k a) (hy : ev ρ y = .int k b) :
    Yd P (A n ρ ds) ⟨d, .call ⟨.builtin .min, #[x, y], ts⟩, ty, p, e, g⟩ w (.int k (min a b)) := by
  have : (if b < a then b else a) = min a b := by split <;> omega
  simp [Yd, execOp, resolve, ev_eq ho, ev_eq ho1, hx, hy, Sem.run_bind, invoke, builtin, Builtin.min_, Builtin.min2, Result.andThen, this]
theorem y_min3 {x y z : Operand} {ts : Array TypeId} {k : IntKind} {a b c : Int} (ho : okO n x = true) (ho1 : okO n y = true) (ho2 : okO n z = true) (hx : ev ρ x = .int k a) (hy : ev ρ y = .int k b) (hz : ev ρ z = .int k c) :
    Yd P (A n ρ ds) ⟨d, .call ⟨.builtin .min, #[x, y, z], ts⟩, ty, p, e, g⟩ w (.int k (min (min a b) c)) := by
  have h1 : (if b < a then b else a) = min a b := by split <;> omega
  have h2 : (if c < min a b then c else min a b) = min (min a b) c := by split <;> omega
  simp [Yd, execOp, resolve, ev_eq ho, ev_eq ho1, ev_eq ho2, hx, hy, hz, Sem.run_bind, invoke, builtin, Builtin.min_, Builtin.min2, Result.andThen, h1, h2]
theorem y_u8int {s t : TypeId} {x : Operand} {a : Int} (hs : (P.underlying s).isSome = true) (ht : P.underlying t = some (.int .i64)) (ho : okO n x = true) (hx : ev ρ x = .int .u8 a) (h0 : 0 ≤ a) (h1 : a ≤ 255) :
    Yd P (A n ρ ds) ⟨d, .convert s t x, ty, p, e, g⟩ w (.int .i64 a) := by
  obtain ⟨q, hq⟩ := Option.isSome_iff_exists.1 hs
  have hw : IntKind.i64.wrap a = a := wrap_in (by omega) (by omega)
  simp [Yd, execOp, ev_eq ho, hx, Sem.run_bind, convert, run_underlying hq, run_underlying ht, Result.andThen, Conv.intToInt, hw]
theorem y_rem {t t2 : TypeId} {x y : Operand} {k : IntKind} {a b : Int} (ho : okO n x = true) (ho1 : okO n y = true) (hx : ev ρ x = .int k a) (hy : ev ρ y = .int k b) (ha : 0 ≤ a) (hb : 0 < b) :
    Yd P (A n ρ ds) ⟨d, .binOp .rem t x y t2, ty, p, e, g⟩ w (.int k (a % b)) := y_bin ho ho1 hx hy fun w => by
  have : b ≠ 0 := by omega
  simp [binOp_rem, Op.intDiv, this, Int.tmod_eq_emod_of_nonneg ha]
theorem y_strIdx {t : TypeId} {x y : Operand} {s : ByteArray} {k : IntKind} {z : Int} {i : Nat} (hU : P.underlying t = some .string) (ho : okO n x = true) (ho1 : okO n y = true) (hx : ev ρ x = .string s) (hy : ev ρ y = .int k z) (hz : z = (i : Int)) (hi : i < s.size) :
    Yd P (A n ρ ds) ⟨d, .index t x y, ty, p, e, g⟩ w (.int .u8 ((s[i]'hi).toNat : Int)) := by
  subst hz
  have : s[i]? = some (s[i]'hi) := getElem?_pos s i hi
  simp [Yd, execOp, ev_eq ho, ev_eq ho1, hx, hy, Sem.run_bind, Instr.index, asIntOf, run_underlying hU, Result.andThen, this]
/-- An operation whose run is told by a closed fact over its values. -/
theorem y_fact {op : Op} {v : Value} {s : Sem Value} (hs : ∀ d ty p e g, execOp (A n ρ ds).eval ⟨d, op, ty, p, e, g⟩ = (do pure (.value (← s)))) (h : s.run P w = .ok v w) : Yd P (A n ρ ds) ⟨d, op, ty, p, e, g⟩ w v := by
  unfold Yd
  rw [hs, Sem.run_bind, h]
  rfl
theorem y_build {t : TypeId} {ps : List (Nat × Operand)} {pv : List (Nat × Value)} {v : Value} (ho : (ps.map Prod.snd).all (okO n) = true) (hp : ps.map (fun q => (q.1, ev ρ q.2)) = pv) (h : ∀ w, (Instr.build t pv.toArray).run P w = .ok v w) :
    Yd P (A n ρ ds) ⟨d, .build t ps.toArray, ty, p, e, g⟩ w v := by
  refine y_fact (s := Instr.build t pv.toArray) (fun d ty p e g => ?_) (h w)
  have : (ps.toArray.map fun q => (q.1, (A n ρ ds).eval q.2)) = pv.toArray := by
    apply Array.ext'
    simp only [Array.toList_map, List.toList_toArray]
    rw [← hp]
    refine List.map_congr_left fun q hq => ?_
    rw [ev_eq (List.all_eq_true.1 ho q.2 (List.mem_map_of_mem hq))]
  simp only [execOp]
  rw [← this]
theorem w_bslice {d : Nat} {t el : TypeId} {len : Nat} {ps : List (Nat × Operand)} {pv : List (Nat × Value)} {cs : List Value} (hw : Want ops (A n ρ ds) ⟨some d, .buildSlice t len ps.toArray, ty, p, e, g⟩)
    (ho : (ps.map Prod.snd).all (okO n) = true) (hp : ps.map (fun q => (q.1, ev ρ q.2)) = pv)
    (h : ∀ w, (Instr.buildSlice t len pv.toArray).run P w = .ok (.slice (some ⟨w.heap.size, 0, none⟩) len len) (w.alloc (blk el cs))) (hst : St w0 w L)
    (hk : ∀ b w', St w0 w' ((b, blk el cs) :: L) → WL r P ops Q rest (A n (upd ρ d (.slice (some ⟨b, 0, none⟩) len len)) ds) w') :
    WL r P ops Q (⟨some d, .buildSlice t len ps.toArray, ty, p, e, g⟩ :: rest) (A n ρ ds) w := by
  refine w_val (v := .slice (some ⟨w.heap.size, 0, none⟩) len len) (w' := w.alloc (blk el cs)) hw ?_ rfl (hk _ _ (hst.alloc _))
  have : (ps.toArray.map fun q => (q.1, (A n ρ ds).eval q.2)) = pv.toArray := by
    apply Array.ext'
    simp only [Array.toList_map, List.toList_toArray]
    rw [← hp]
    refine List.map_congr_left fun q hq => ?_
    rw [ev_eq (List.all_eq_true.1 ho q.2 (List.mem_map_of_mem hq))]
  have e1 : execOp (A n ρ ds).eval ⟨some d, .buildSlice t len ps.toArray, ty, p, e, g⟩ = (do pure (.value (← Instr.buildSlice t len pv.toArray))) := by
    simp only [execOp]; rw [← this]
  rw [e1, Sem.run_bind, h]
  rfl
/-- append to a slice of the call's own. X: blocks that lie above it in the list. -/
theorem w_append {d : Nat} {t el : TypeId} {i : TypeInfo} {z : Value} {sz bytes : Nat} {s x : Operand} {X B F : List (Nat × Obj)} {v : Value} {k m c : Nat} {xs : List Value} {ax : Option Addr} {rows : List (List Value)}
    (hw : Want ops (A n ρ ds) ⟨some d, .call ⟨.builtin .append, #[s, x], #[t, t]⟩, ty, p, e, g⟩)
    (ht : P.underlying t = some (.slice el)) (hi : P.info? el = some i) (hz : i.zero = some z) (hsize : i.size = sz) (hby : i.bytes = bytes) (hzs : z.cells.size = sz) (hsz : Nat.blt 0 sz = true)
    (ho : okO n s = true) (ho1 : okO n x = true) (hs : ev ρ s = v) (hx : ev ρ x = .slice ax m c)
    (hst : St w0 w (X ++ (B ++ F))) (hown : Own v el sz k xs B) (hsl : Sl w0 (X ++ (B ++ F)) ax sz rows) (hm : rows.length = m) (hnil : ax = none → c = 0) (h1 : ∀ row ∈ rows, ∀ u ∈ row, u.oneCell' = true)
    (h63 : k + m ≤ maxLen) (hbytes : (k + m) * bytes ≤ 140737488355328)
    (hk : ∀ v' w' B', Own v' el sz (k + m) (xs ++ rows.flatten) B' → St w0 w' (X ++ (B' ++ F)) → WL r P ops Q rest (A n (upd ρ d v') ds) w') :
    WL r P ops Q (⟨some d, .call ⟨.builtin .append, #[s, x], #[t, t]⟩, ty, p, e, g⟩ :: rest) (A n ρ ds) w := by
  have hperm : (X ++ (B ++ F)).Perm (B ++ (X ++ F)) := by
    rw [← List.append_assoc, ← List.append_assoc]
    exact List.Perm.append_right F List.perm_append_comm
  have hst1 := hst.perm hperm
  have hsl1 : Sl w0 (B ++ (X ++ F)) ax sz rows := hsl.mono fun w' h' => h'.perm hperm.symm
  obtain ⟨v', w', B', hr, hown', hst'⟩ := run_append (P := P) (ty := ty) ht hi hz hsize hby hzs (Nat.le_of_ble_eq_true hsz) hst1 hown hsl1 hm hnil h1 h63 hbytes
  have hperm' : (B' ++ (X ++ F)).Perm (X ++ (B' ++ F)) := by
    rw [← List.append_assoc, ← List.append_assoc]
    exact List.Perm.append_right F List.perm_append_comm
  refine w_val (v := v') (w' := w') hw ?_ rfl (hk v' w' B' hown' (hst'.perm hperm'))
  have e1 : execOp (A n ρ ds).eval ⟨some d, .call ⟨.builtin .append, #[s, x], #[t, t]⟩, ty, p, e, g⟩ = (do pure (.value (← Builtin.append_ #[t, t] ty #[v, .slice ax m c]))) := by
    simp only [execOp, resolve]
    have : (#[s, x].map (A n ρ ds).eval) = #[v, .slice ax m c] := by simp [ev_eq ho, ev_eq ho1, hs, hx]
    rw [this]
    rfl
  rw [e1, Sem.run_bind, hr]
  rfl
/-- A whole array of the call's own, as a slice. -/
theorem y_sliceA {t el len sz : Nat} {x : Operand} {b off : Nat} (hU : P.underlying t = some (.array len el)) (hsz : ∀ w, (sizeOf el).run P w = .ok sz w) (ho : okO n x = true) (hx : ev ρ x = .pointer (some ⟨b, off, none⟩)) :
    Yd P (A n ρ ds) ⟨d, .slice t x none none none, ty, p, e, g⟩ w (.slice (some ⟨b, off, none⟩) len len) := by
  have e1 : execOp (A n ρ ds).eval ⟨d, .slice t x none none none, ty, p, e, g⟩ = (do pure (.value (← Instr.sliceAt t (.pointer (some ⟨b, off, none⟩)) none none none))) := by
    simp only [execOp, ev_eq ho, hx]; rfl
  unfold Yd
  rw [e1, Sem.run_bind]
  have : (Instr.sliceAt t (.pointer (some ⟨b, off, none⟩)) none none none).run P w = .ok (.slice (some ⟨b, off, none⟩) len len) w := by
    unfold Instr.sliceAt
    rw [Sem.run_bind, run_underlying hU]
    simp only [Result.andThen, Instr.sureAddr, Instr.sliceBounds, Sem.run_bind, Sem.run_pure, hsz, Nat.sub_zero, Nat.zero_mul]
    simp [Addr.add_lit]
  rw [this]
  rfl
/-- x[lo:hi] of a slice, its bounds in order. -/
theorem y_sliceS {t el sz : Nat} {x : Operand} {lo hi : Option Operand} {a : Option Addr} {l c l' h' : Nat} (hU : P.underlying t = some (.slice el)) (hsz : ∀ w, (sizeOf el).run P w = .ok sz w) (ho : okO n x = true) (hx : ev ρ x = .slice a l c)
    (hlo : match lo with | none => l' = 0 | some y => okO n y = true ∧ ∃ k z, ev ρ y = .int k z ∧ z = (l' : Int))
    (hhi : match hi with | none => h' = l | some y => okO n y = true ∧ ∃ k z, ev ρ y = .int k z ∧ z = (h' : Int)) (h1 : l' ≤ h') (h2 : h' ≤ c) :
    Yd P (A n ρ ds) ⟨d, .slice t x lo hi none, ty, p, e, g⟩ w (.slice (if c = l' then a else a.map (·.add (l' * sz))) (h' - l') (c - l')) := by
  have e1 : execOp (A n ρ ds).eval ⟨d, .slice t x lo hi none, ty, p, e, g⟩ = (do pure (.value (← Instr.sliceAt t (.slice a l c) (lo.map (ev ρ)) (hi.map (ev ρ)) none))) := by
    have el : lo.map (A n ρ ds).eval = lo.map (ev ρ) := by cases lo with | none => rfl | some y => simp only [Option.map_some, ev_eq hlo.1]
    have eh : hi.map (A n ρ ds).eval = hi.map (ev ρ) := by cases hi with | none => rfl | some y => simp only [Option.map_some, ev_eq hhi.1]
    simp only [execOp, ev_eq ho, hx, el, eh]; rfl
  unfold Yd
  rw [e1, Sem.run_bind]
  have key : (Instr.sliceBounds true l c (lo.map (ev ρ)) (hi.map (ev ρ)) none).run P w = .ok (l', h', c) w := by
    unfold Instr.sliceBounds
    have b1 : ∀ (z : Int) (k : IntKind) (m y : Nat) (code : BoundsCode), z = (m : Int) → m ≤ y → (Instr.sliceBound (.int k z) y code).run P w = .ok m w := by
      intro z k m y code hz hm
      subst hz
      have : (0 : Int) ≤ (m : Int) ∧ (m : Int) ≤ (y : Int) := ⟨by omega, by omega⟩
      simp [Instr.sliceBound, asIntOf, Sem.run_bind, Result.andThen, hm]
    cases lo with
    | none =>
      subst hlo
      cases hi with
      | none => subst hhi; simp [Sem.run_bind, Result.andThen]
      | some y =>
        obtain ⟨_, k, z, hy, hz⟩ := hhi
        have := b1 z k h' c .sliceAcap hz h2
        simp [Sem.run_bind, Result.andThen, hy, this]
    | some yl =>
      obtain ⟨_, kl, zl, hyl, hzl⟩ := hlo
      cases hi with
      | none =>
        subst hhi
        have := b1 zl kl l' h' .sliceB hzl h1
        simp [Sem.run_bind, Result.andThen, hyl, this]
      | some y =>
        obtain ⟨_, k, z, hy, hz⟩ := hhi
        have t1 := b1 z k h' c .sliceAcap hz h2
        have t2 := b1 zl kl l' h' .sliceB hzl h1
        simp [Sem.run_bind, Result.andThen, hy, t1, hyl, t2]
  have : (Instr.sliceAt t (.slice a l c) (lo.map (ev ρ)) (hi.map (ev ρ)) none).run P w = .ok (.slice (if c = l' then a else a.map (·.add (l' * sz))) (h' - l') (c - l')) w := by
    unfold Instr.sliceAt
    rw [Sem.run_bind, run_underlying hU]
    simp only [Result.andThen]
    unfold Instr.slice
    rw [Sem.run_bind, run_underlying hU]
    simp only [Result.andThen]
    rw [Sem.run_bind, key]
    simp only [Result.andThen]
    rw [Sem.run_bind, hsz]
    rfl
  rw [this]
  rfl
/-- What a cut of a slice reads as. -/
theorem Sl.cut {a : Option Addr} {sz l' h' c : Nat} {rows : List (List Value)} (h : Sl w0 L a sz rows) (h1 : l' ≤ h') (h2 : h' ≤ rows.length) (hc : rows.length ≤ c) :
    Sl w0 L (if c = l' then a else a.map (·.add (l' * sz))) sz ((rows.drop l').take (h' - l')) := by
  by_cases hl : l' < rows.length
  · rcases h with h | ⟨b, off, rfl, h⟩
    · subst h; simp at hl
    · rw [if_neg (by omega)]
      refine .inr ⟨b, off + l' * sz, by simp [Addr.add_lit], fun i row hi => ?_⟩
      rw [List.getElem?_take] at hi
      split at hi
      · rw [List.getElem?_drop] at hi
        have := h (l' + i) row hi
        rw [Nat.add_mul, ← Nat.add_assoc] at this
        exact this
      · cases hi
  · left
    have : h' - l' = 0 := by omega
    simp [this]
/-- copy into a block of the call's own, from a slice of one-cell elements. -/
theorem w_copy {d : Nat} {t el : TypeId} {i : Nat} {x y : Operand} {b off l c m c' : Nat} {tb : TypeId} {cs : List Value} {ax : Option Addr} {xs : List Value} {vs : List Value} {k : Nat}
    (hw : Want ops (A n ρ ds) ⟨some d, .call ⟨.builtin .copy, #[x, y], #[t, t]⟩, ty, p, e, g⟩)
    (hU : P.underlying t = some (.slice el)) (hsz : ∀ w, (sizeOf el).run P w = .ok 1 w) (ho : okO n x = true) (ho1 : okO n y = true) (hx : ev ρ x = .slice (some ⟨b, off, none⟩) l c) (hy : ev ρ y = .slice ax m c')
    (hst : St w0 w L) (hi : L[i]? = some (b, blk tb cs)) (hsl : Sl w0 L ax 1 (xs.map fun v => [v])) (hm : xs.length = m) (hk0 : k = Nat.min m l) (hvs : vs = xs.take k) (h1 : ∀ u ∈ xs, u.oneCell' = true) (hle : off + l ≤ cs.length)
    (hk : ∀ w', St w0 w' (L.set i (b, blk tb (setMany cs off vs))) → WL r P ops Q rest (A n (upd ρ d (.int .i64 k)) ds) w') :
    WL r P ops Q (⟨some d, .call ⟨.builtin .copy, #[x, y], #[t, t]⟩, ty, p, e, g⟩ :: rest) (A n ρ ds) w := by
  subst hk0 hvs
  have hlen : (xs.take (Nat.min m l)).length = Nat.min m l := by rw [List.length_take, hm]; exact Nat.min_eq_left (Nat.min_le_left _ _)
  have hkl : Nat.min m l ≤ l := Nat.min_le_right _ _
  obtain ⟨w', hr, hst'⟩ := run_storeCells_st (P := P) (b := b) (off := off) (t := tb) (i := i) (xs.take (Nat.min m l)) 0 cs w L hst hi (by omega) (fun v hv => h1 v (List.mem_of_mem_take hv))
  refine w_val (v := .int .i64 (Nat.min m l : Nat)) (w' := w') hw ?_ rfl (hk w' (by simpa using hst'))
  have e1 : execOp (A n ρ ds).eval ⟨some d, .call ⟨.builtin .copy, #[x, y], #[t, t]⟩, ty, p, e, g⟩ = (do pure (.value (← Builtin.copy_ #[t, t] ty #[.slice (some ⟨b, off, none⟩) l c, .slice ax m c']))) := by
    simp only [execOp, resolve]
    have : (#[x, y].map (A n ρ ds).eval) = #[.slice (some ⟨b, off, none⟩) l c, .slice ax m c'] := by simp [ev_eq ho, ev_eq ho1, hx, hy]
    rw [this]
    rfl
  have hfirst : (Builtin.firstCells 1 (Nat.min m l) (.slice ax m c')).run P w = .ok (xs.take (Nat.min m l)).toArray w := by
    cases ax with
    | none =>
      have : xs = [] := by
        rcases hsl with h | ⟨_, _, h, _⟩
        · simpa using h
        · cases h
      subst this
      simp [Builtin.firstCells]
    | some ad =>
      unfold Builtin.firstCells
      rw [Nat.mul_one]
      rcases hsl with h | ⟨b', off', h, hat⟩
      · have : xs = [] := by simpa using h
        subst this
        simp only [List.length_nil] at hm
        subst hm
        have : Nat.min 0 l = 0 := Nat.zero_min l
        rw [this]
        simp [loadCells, loadCellsFrom]
      · cases h
        have := run_loadCells_list (P := P) (w := w) ⟨b', off', none⟩ (xs.take (Nat.min m l)) (fun j v hj => by
          rw [List.getElem?_take] at hj
          split at hj
          · rw [Addr.add_lit]
            have hrow : (xs.map fun v => [v])[j]? = some [v] := by simp [hj]
            have := (hat j [v] hrow).2 0 v rfl w hst
            rwa [Nat.mul_one, Nat.add_zero] at this
          · cases hj)
        rw [hlen] at this
        exact this
  rw [e1, Sem.run_bind]
  have : (Builtin.copy_ #[t, t] ty #[.slice (some ⟨b, off, none⟩) l c, .slice ax m c']).run P w = .ok (.int .i64 (Nat.min m l : Nat)) w' := by
    unfold Builtin.copy_
    simp only [List.getElem?_toArray, List.getElem?_cons_zero, List.getElem?_cons_succ]
    rw [Sem.run_bind, run_underlying hU]
    simp only [Result.andThen]
    rw [Sem.run_bind]
    show ((pure m : Sem Nat).run P w).andThen _ = _
    simp only [Sem.run_pure, Result.andThen]
    rw [Sem.run_bind, hsz]
    simp only [Result.andThen]
    rw [Sem.run_bind, hfirst]
    simp only [Result.andThen]
    rw [Sem.run_bind]
    rw [hr]
    rfl
  rw [this]
  rfl
/-- A range over a string: its iterator is laid. -/
theorem w_rangeStr {d : Nat} {t : TypeId} {x : Operand} {s : ByteArray} (hw : Want ops (A n ρ ds) ⟨some d, .range t x, ty, p, e, g⟩) (hU : P.underlying t = some .string) (ho : okO n x = true) (hx : ev ρ x = .string s) (hst : St w0 w L)
    (hk : ∀ b w', St w0 w' ((b, .stringIter s 0) :: L) → WL r P ops Q rest (A n (upd ρ d (.pointer (some ⟨b, 0, none⟩))) ds) w') :
    WL r P ops Q (⟨some d, .range t x, ty, p, e, g⟩ :: rest) (A n ρ ds) w := by
  refine w_val (v := .pointer (some ⟨w.heap.size, 0, none⟩)) (w' := w.alloc (.stringIter s 0)) hw ?_ rfl (hk _ _ (hst.alloc _))
  simp [execOp, Instr.range, ev_eq ho, hx, Sem.run_bind, run_underlying hU, Result.andThen]
theorem w_nextStr {d : Nat} {x : Operand} {s : ByteArray} {i b pos : Nat} (hw : Want ops (A n ρ ds) ⟨some d, .next x true, ty, p, e, g⟩) (ho : okO n x = true) (hx : ev ρ x = .pointer (some ⟨b, 0, none⟩)) (hst : St w0 w L) (hi : L[i]? = some (b, .stringIter s pos))
    (hk1 : pos < s.size → ∀ w', St w0 w' (L.set i (b, .stringIter s (pos + (Utf8.decode s pos).2))) → WL r P ops Q rest (A n (upd ρ d (.tuple #[.bool true, .int .i64 pos, .int .i32 (Utf8.decode s pos).1])) ds) w')
    (hk2 : s.size ≤ pos → WL r P ops Q rest (A n (upd ρ d (.tuple #[.bool false])) ds) w) :
    WL r P ops Q (⟨some d, .next x true, ty, p, e, g⟩ :: rest) (A n ρ ds) w := by
  have hg := hst.get hi
  by_cases hp : pos < s.size
  · refine w_val (v := .tuple #[.bool true, .int .i64 pos, .int .i32 (Utf8.decode s pos).1]) (w' := w.putObj b (.stringIter s (pos + (Utf8.decode s pos).2))) hw ?_ rfl (hk1 hp _ (hst.putObj hi _))
    simp [execOp, Instr.next, ev_eq ho, hx, Sem.run_bind, getObj, setObj, Sem.run, hg, hp, Result.andThen, World.putObj, goInt]
  · refine w_val (v := .tuple #[.bool false]) (w' := w) hw ?_ rfl (hk2 (by omega))
    simp [execOp, Instr.next, ev_eq ho, hx, Sem.run_bind, getObj, setObj, Sem.run, hg, hp, Result.andThen]
end Go.Rt
