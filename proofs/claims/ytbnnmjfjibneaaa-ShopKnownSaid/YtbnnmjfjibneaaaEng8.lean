/- The walking engine, part 8: regions that draw their order, with whatever is kept. No conditions. -/
import Derived.Test.YtbnnmjfjibneaaaEng7
set_option linter.unusedSimpArgs false
set_option linter.unusedVariables false
namespace Go.Rt
open Go.RowKit
variable {r : Option Nat} {P : Program} {ops : Array Oper} {K : Act → World → Prop} {n : Nat} {ρ : Nat → Value} {ds : List Deferred} {w w0 : World}
theorem w_drawC {id : Nat} {l : List Oper} {Q : Exit → Act → World → Prop} {C : World → Prop} (late : List Nat) (ord : List (Nat × Nat)) (hm : P.follows .mixedOrders = true) (hB : drawOK l.toArray late ord = true) (hC : C w)
    (hdrew : ∀ w, C w → C { w with drawn := w.drawn + 1 }) (h : ∀ w', C w' → DW r P l.toArray (fun a w => Q .normal a w) C ord (A n ρ ds) w') : WC r P (.region id l.toArray true) Q (A n ρ ds) w := by
  unfold drawOK at hB
  simp only [Bool.and_eq_true] at hB
  obtain ⟨⟨⟨h1, h2⟩, h3⟩, h4⟩ := hB
  have hst' := hdrew _ hC
  have hsz : ord.length = l.toArray.size := Nat.eq_of_beq_eq_true h3
  have := wAH_of_DW h1 h2 ord (Array.replicate l.toArray.size false) (A n ρ ds) _ (by simp) h4 (fun _ => hst') (h _ hst')
  have hany := wAny_of_wAH _ _ _ _ this
  rw [hsz] at hany
  refine wpIn_mono (wpIn_region_any hm hany) ?_
  intro e a w hq
  cases e <;> first | exact hq | exact hq.elim
theorem d_takeC {C : World → Prop} {i d : Nat} {op : Op} {t : TypeId} {p : String} {e : Array Edge} {g : Option (Nat × Bool)} {v : Value} {rest : List (Nat × Nat)} (ho : ops[i]? = some ⟨some d, op, t, p, e, g⟩) (hw : Want ops (A n ρ ds) ⟨some d, op, t, p, e, g⟩)
    (hd : isDefer op = false) (hc : C w) (hy : ∀ w, C w → Yd P (A n ρ ds) ⟨some d, op, t, p, e, g⟩ w v) (h : DW r P ops K C rest (A n (upd ρ d v) ds) w) :
    DW r P ops K C ((i, 1) :: rest) (A n ρ ds) w :=
  ⟨hc, _, v, ho, .inl ⟨hw, hd, hy⟩, by rw [A_put]; exact h⟩
theorem St.front {A F : List (Nat × Obj)} (h : St w0 w (A ++ F)) : St w0 w A := (h.perm List.perm_append_comm).drop
theorem St.cast {L L' : List (Nat × Obj)} (h : L = L') (hs : St w0 w L) : St w0 w L' := h ▸ hs
variable {L : List (Nat × Obj)} {Q : Exit → Act → World → Prop} {rest : List Oper} {ty : TypeId} {p : String} {e : Array Edge} {g : Option (Nat × Bool)}
theorem run_loadI {t tb : TypeId} {l : List Int} {i b k : Nat} (ha : ∀ w, (isAgg t).run P w = .ok true w) (hs : ∀ w, (sizeOf t).run P w = .ok k w) (hkl : l.length = k) (hst : St w0 w L) (hi : L[i]? = some (b, blk tb (iv l))) : (loadVar t ⟨b, 0, none⟩).run P w = .ok (ia l) w :=
  run_loadVarN (vs := iv l) ha (by subst hkl; simpa using hs) hst (ats_own hi (by rw [List.drop_zero, List.take_length]))
theorem sl_ints_own {i b : Nat} {t : TypeId} {l : List Int} (hi : L[i]? = some (b, blk t (iv l))) : Sl w0 L (some ⟨b, 0, none⟩) 1 (l.map fun x => [Value.int .i64 x]) := by
  refine sl_own hi (by simp) ?_
  have : (l.map fun x => [Value.int .i64 x]).flatten = iv l := by clear hi; induction l <;> simp_all
  rw [this, List.length_map, Nat.mul_one]
  exact List.take_of_length_le (by simp)
theorem setMany_iv : ∀ (b pre a : List Int), b.length ≤ a.length → setMany (iv (pre ++ a)) pre.length (iv b) = iv (pre ++ (b ++ a.drop b.length))
  | [], pre, a, _ => by simp [setMany, iv]
  | _ :: _, _, [], h => by simp at h
  | v :: b, pre, x :: a, h => by
    have ih := setMany_iv b (pre ++ [v]) a (by simpa using h)
    simp only [iv, List.map_cons, setMany] at ih ⊢
    have : (List.map (Value.int .i64) (pre ++ x :: a)).set pre.length (Value.int .i64 v) = List.map (Value.int .i64) (pre ++ [v] ++ a) := by simp
    rw [this]
    simp only [List.length_append, List.length_singleton, List.append_assoc] at ih ⊢
    rw [ih]
    simp
/-- copy of integers into a block of the call's own. -/
theorem w_copyI {d : Nat} {t el : TypeId} {i : Nat} {x y : Operand} {b n' c m c' : Nat} {tb : TypeId} {ax : Option Addr} {l1 l2 : List Int}
    (hw : Want ops (A n ρ ds) ⟨some d, .call ⟨.builtin .copy, #[x, y], #[t, t]⟩, ty, p, e, g⟩)
    (hU : P.underlying t = some (.slice el)) (hsz : ∀ w, (sizeOf el).run P w = .ok 1 w) (ho : okO n x = true) (ho1 : okO n y = true) (hx : ev ρ x = .slice (some ⟨b, 0, none⟩) n' c) (hy : ev ρ y = .slice ax m c')
    (hst : St w0 w L) (hi : L[i]? = some (b, blk tb (iv l2))) (hsl : Sl w0 L ax 1 (l1.map fun x => [Value.int .i64 x])) (hm : l1.length = m) (hn : l2.length = n')
    (hk : ∀ w', St w0 w' (L.set i (b, blk tb (iv (l1.take n' ++ l2.drop m)))) → WL r P ops Q rest (A n (upd ρ d (.int .i64 (Nat.min m n' : Nat))) ds) w') :
    WL r P ops Q (⟨some d, .call ⟨.builtin .copy, #[x, y], #[t, t]⟩, ty, p, e, g⟩ :: rest) (A n ρ ds) w := by
  refine w_copy (xs := iv l1) (vs := (iv l1).take (Nat.min m n')) (k := Nat.min m n') hw hU hsz ho ho1 hx hy hst hi (by simpa [List.map_map, Function.comp_def] using hsl) (by simpa using hm) rfl rfl (fun u hu => by obtain ⟨z, _, rfl⟩ := List.mem_map.1 hu; rfl) (by simp [hn]) (fun w' hst' => hk w' ?_)
  subst hm hn
  have e1 : (iv l1).take (Nat.min l1.length l2.length) = iv (l1.take l2.length) := by
    rw [← List.map_take]
    congr 1
    rcases Nat.le_total l1.length l2.length with h | h
    · rw [show Nat.min l1.length l2.length = l1.length from Nat.min_eq_left h, List.take_length, List.take_of_length_le h]
    · rw [show Nat.min l1.length l2.length = l2.length from Nat.min_eq_right h]
  rw [e1] at hst'
  have e2 := setMany_iv (l1.take l2.length) [] l2 (by rw [List.length_take]; omega)
  simp only [List.nil_append, List.length_nil] at e2
  rw [e2] at hst'
  have e3 : l2.drop (l1.take l2.length).length = l2.drop l1.length := by
    rw [List.length_take]
    rcases Nat.le_total l1.length l2.length with h | h
    · rw [Nat.min_eq_right h]
    · rw [Nat.min_eq_left h, List.drop_length, List.drop_of_length_le h]
  rwa [e3] at hst'
theorem own_lit {t : TypeId} {sz n b : Nat} {cs : List Value} (h : cs.length = n * sz) (hm : n ≤ maxLen) : Own (.slice (some ⟨b, 0, none⟩) n n) t sz n cs [(b, blk t cs)] :=
  ⟨h, .inr ⟨b, n, cs, rfl, rfl, Nat.le_refl _, hm, h, by rw [← h, List.take_length]⟩⟩
theorem own_sl_id {v : Value} {t : TypeId} {n : Nat} {xs : List Value} {B : List (Nat × Obj)} (h : Own v t 1 n xs B) (hl : xs.length = n) (F : List (Nat × Obj)) : ∃ a c, v = .slice a n c ∧ Sl w0 (B ++ F) a 1 (xs.map fun x => [x]) := by
  obtain ⟨a, c, h1, h2⟩ := own_sl_map (w0 := w0) (f := fun x : Value => x) (l := xs) (by simpa using h) hl F
  rw [hl] at h1
  exact ⟨a, c, h1, h2⟩
end Go.Rt
