/- The walking engine, part 6: calls of function values that are given, ranges over functions. No conditions. -/
import Derived.Test.YtbnnmjfjibneaaaEng5
set_option linter.unusedSimpArgs false
set_option linter.unusedVariables false
namespace Go.Rt
open Go.RowKit
variable {r : Option Nat} {P : Program} {ops : Array Oper} {Q : Exit → Act → World → Prop} {rest : List Oper} {n : Nat} {ρ : Nat → Value} {ds : List Deferred} {w w0 : World} {L : List (Nat × Obj)}

/-- A function value, called so in this world, returns a value. -/
def FCon (P : Program) (fv : Value) (args : List Value) (w : World) (R : Value → World → Prop) : Prop :=
  (∃ k first captured, fv = .func (.func k) first captured ∧ CF P k ∧ Con P k (first.toList ++ (args ++ captured.toList)) w R) ∨
  (∃ l fn tmps assign body, fv = .func (.yield l) #[] #[] ∧ (Instr.yield l args.toArray).run P w = .ok (.round l fn tmps assign body) w ∧
    RoundIn (FW none) 0 P l fn tmps assign body w fun e w' => ∃ v, e = .returned v ∧ R v w')
theorem FCon.mono {fv : Value} {args : List Value} {R R' : Value → World → Prop} (h : FCon P fv args w R) (hr : ∀ v w', R v w' → R' v w') : FCon P fv args w R' := by
  rcases h with ⟨k, f, c, e, hC, h⟩ | ⟨l, fn, tmps, as, bd, e, hy, h⟩
  · exact .inl ⟨k, f, c, e, hC, h.mono hr⟩
  · exact .inr ⟨l, fn, tmps, as, bd, e, hy, h.mono fun _ w' ⟨v, he, hv⟩ => ⟨v, he, hr v w' hv⟩⟩
theorem RoundIn.toRound {k : Nat} {l : Nat} {fn : FuncId} {tmps : Array Value} {assign body : Code} {R : Ending → World → Prop} (h : RoundIn (FW none) 0 P l fn tmps assign body w R) : RoundIn (FW (some k)) 0 P l fn tmps assign body w R := h
theorem w_callV {d : Nat} {t : TypeId} {p : String} {e : Array Edge} {g : Option (Nat × Bool)} {f : Operand} {args : Array Operand} {ats : Array TypeId} {fv : Value} {vs : List Value} {R : Value → World → Prop}
    (hw : Want ops (A n ρ ds) ⟨some d, .call ⟨.value f, args, ats⟩, t, p, e, g⟩) (hof : okO n f = true) (hf : ev ρ f = fv) (hoa : args.toList.all (okO n) = true) (hvs : args.toList.map (ev ρ) = vs)
    (hc : FCon P fv vs w R) (hk : ∀ v w', R v w' → WL r P ops Q rest (A n (upd ρ d v) ds) w') :
    WL r P ops Q (⟨some d, .call ⟨.value f, args, ats⟩, t, p, e, g⟩ :: rest) (A n ρ ds) w := by
  rcases hc with ⟨k, first, captured, rfl, hC, hc⟩ | ⟨l, fn, tmps, as, bd, rfl, hy, hR⟩
  · exact w_call hw hC hof hf hoa (by rw [hvs]) hc hk
  · have hmap : args.map (A n ρ ds).eval = vs.toArray := by
      apply Array.ext'
      simp only [Array.toList_map, ← hvs]
      exact List.map_congr_left fun x hx => ev_eq (List.all_eq_true.1 hoa x hx)
    have hrun : (execOp (A n ρ ds).eval ⟨some d, .call ⟨.value f, args, ats⟩, t, p, e, g⟩).run P w = .ok (.round l fn tmps as bd) w := by
      simp only [execOp, resolve, ev_eq hof, hf, Deferred.ofValue, Sem.run_bind, Sem.run_pure, Result.andThen, invoke, hmap]
      have : (#[] : Array Value) ++ vs.toArray = vs.toArray := by simp
      rw [this]
      exact hy
    refine wl_want hw ⟨fun _ _ => trivial, ?_⟩
    rw [semAt_of rfl, hrun, Oper.uponIn_round]
    refine ⟨fun h => by simp at h, ?_⟩
    have hR2 : RoundIn (FW r) 0 P l fn tmps as bd w fun e w' => ∃ v, e = .returned v ∧ R v w' := by
      cases r with
      | none => exact hR
      | some l' => exact RoundIn.toRound hR
    refine RoundIn.mono hR2 ?_
    rintro e w' ⟨v, rfl, hv⟩
    show wpListIn _ _ _ _ _ _ ((A n ρ ds).put (some d) v) w'
    rw [A_put]
    exact hk v w' hv

/-! ### Ranges over functions -/
/-- Function k, at these values, yields xs, one after the other, as long as it is told to go on; what the consumer has (B) may turn, F does not. -/
def Iter (P : Program) (k : FuncId) (first captured : List Value) (xs : List Value) (w0 : World) (F : List (Nat × Obj)) : Prop :=
  ∀ (J : Nat → List (Nat × Obj) → Prop) (Js : List (Nat × Obj) → Prop) (yv : Value) (B X : List (Nat × Obj)) (w : World), (∃ f a b, yv = .func f a b) →
    (∀ i (hi : i < xs.length) B X w, J i B → St w0 w (X ++ (B ++ F)) → FCon P yv [xs[i]] w fun v w' => ∃ B', St w0 w' (X ++ (B' ++ F)) ∧ (v = .bool true ∧ J (i + 1) B' ∨ v = .bool false ∧ Js B')) →
    J 0 B → St w0 w (X ++ (B ++ F)) →
    Con P k (first ++ ([yv] ++ captured)) w fun _ w' => ∃ B', St w0 w' (X ++ (B' ++ F)) ∧ (J xs.length B' ∨ Js B')
/-- What the body of a round must bring about. -/
def Rd (w0 : World) (J : Nat → List (Nat × Obj) → Prop) (Js : Code → List (Nat × Obj) → Prop) (i : Nat) (X : List (Nat × Obj)) : Exit → Act → World → Prop
  | .normal, _, w => ∃ B', St w0 w (B' ++ X) ∧ J (i + 1) B'
  | .ret, _, w => ∃ B', St w0 w (B' ++ X) ∧ Js .ret B'
  | .exit id, _, w => ∃ B', St w0 w (B' ++ X) ∧ Js (.exit id) B'
  | _, _, _ => False
theorem rd_normal {J : Nat → List (Nat × Obj) → Prop} {Js : Code → List (Nat × Obj) → Prop} {i : Nat} {X : List (Nat × Obj)} {a : Act} (B' : List (Nat × Obj)) (hs : St w0 w (B' ++ X)) (h : J (i + 1) B') : Rd w0 J Js i X .normal a w := ⟨B', hs, h⟩
theorem rd_ret {J : Nat → List (Nat × Obj) → Prop} {Js : Code → List (Nat × Obj) → Prop} {i : Nat} {X : List (Nat × Obj)} {a : Act} (B' : List (Nat × Obj)) (hs : St w0 w (B' ++ X)) (h : Js .ret B') : Rd w0 J Js i X .ret a w := ⟨B', hs, h⟩
theorem rd_exit {J : Nat → List (Nat × Obj) → Prop} {Js : Code → List (Nat × Obj) → Prop} {i id : Nat} {X : List (Nat × Obj)} {a : Act} (B' : List (Nat × Obj)) (hs : St w0 w (B' ++ X)) (h : Js (.exit id) B') : Rd w0 J Js i X (.exit id) a w := ⟨B', hs, h⟩
theorem perm_mid (a b c : List (Nat × Obj)) : (a ++ (b ++ c)).Perm (b ++ (a ++ c)) := by
  rw [← List.append_assoc, ← List.append_assoc]
  exact List.Perm.append_right c List.perm_append_comm
/-- The mark that a range over a function leaves. -/
def mk (bd : Nat) : Deferred := { target := .collected bd, args := #[] }
theorem w_range {g : Operand} {pt : Nat} {assign body : Code} {k : FuncId} {first captured : Array Value} {xs : List Value} {F : List (Nat × Obj)} (B : List (Nat × Obj)) (J : Nat → List (Nat × Obj) → Prop) (Js : Code → List (Nat × Obj) → Prop)
    (hog : okO n g = true) (hg : ev ρ g = .func (.func k) first captured) (hpt : Nat.blt pt n = true) (hC : CF P k) (hit : Iter P k first.toList captured.toList xs w0 F) (hst : St w0 w L) (hperm : L.Perm (B ++ F)) (h0 : J 0 B)
    (round : ∀ l i (hi : i < xs.length) B X X' w, J i B → St w0 w (B ++ (X ++ F)) → ∀ K : Act → World → Prop,
      (∀ a w Y, St w0 w (Y ++ (X ++ F)) → (∀ w', St w0 w' (Y ++ (X' ++ F)) → WC (some l) P body (Rd w0 J Js i (X' ++ F)) a w') → K a w) →
      WC (some l) P assign (Exit.then K fun _ _ _ => False) (A n (upd ρ pt xs[i]) []) w)
    (hend : ∀ bd B w, J xs.length B → St w0 w ((bd, .deferred (some [])) :: (B ++ F)) → Q .normal (A n ρ (mk bd :: ds)) w)
    (hjump : ∀ bd c B w, Js c B → St w0 w ((bd, .deferred (some [])) :: (B ++ F)) → WC none P c Q (A n ρ (mk bd :: ds)) w) :
    WC none P (.rangeFunc g #[pt] assign body) Q (A n ρ ds) w := by
  refine wpIn_rangeFunc (F := FW none) fun fn _ => ?_
  have henter := run_enterLoop_outer (P := P) (w := w) fn (A n ρ ds).tmps #[pt] assign body
  let bd := w.heap.size
  let l := w.heap.size + 1
  let rc (s : LoopState) (pend : Option Code) : Obj := .loop { state := s, pending := pend, fn := fn, tmps := fa n ρ, params := #[pt], assign := assign, body := body, defers := bd }
  let w1 : World := (w.alloc (.deferred (some []))).alloc (rc .ready none)
  have hst1 : St w0 w1 ((l, rc .ready none) :: (bd, .deferred (some [])) :: L) := by
    have h1 := (hst.alloc (.deferred (some []))).alloc (rc .ready none)
    rw [World.size_alloc] at h1
    exact h1
  refine ⟨l, [mk bd], w1, { target := .fn (.func k) captured, args := first ++ #[.func (.yield l) #[] #[]] }, w1, k, first ++ #[.func (.yield l) #[] #[]] ++ captured, w1, henter, ?_, fun _ _ => trivial, ?_, fun h => (by simp at h), ?_⟩
  · have e1 : (#[Operand.const (Value.func (Fn.yield l) #[] #[])].map (A n ρ ds).eval) = #[Value.func (Fn.yield l) #[] #[]] := by simp [Act.eval]
    simp only [resolve, rangeCall, ev_eq hog, hg, Deferred.ofValue, e1]
    rfl
  · exact hC (first ++ #[Value.func (Fn.yield l) #[] #[]] ++ captured) w1
  · have hperm1 : ((l, rc .ready none) :: (bd, .deferred (some [])) :: L).Perm ([] ++ (((l, rc .ready none) :: (bd, .deferred (some [])) :: B) ++ F)) := (List.Perm.cons _ (List.Perm.cons _ hperm))
    have hI := hit (fun i Bx => ∃ B, Bx = (l, rc .ready none) :: (bd, .deferred (some [])) :: B ∧ J i B) (fun Bx => ∃ B c, Bx = (l, rc .done (some c)) :: (bd, .deferred (some [])) :: B ∧ Js c B) (.func (.yield l) #[] #[])
      ((l, rc .ready none) :: (bd, .deferred (some [])) :: B) [] w1 ⟨_, _, _, rfl⟩ ?_ ⟨B, rfl, h0⟩ (hst1.perm hperm1)
    · have hargs : (first ++ #[Value.func (Fn.yield l) #[] #[]] ++ captured) = (first.toList ++ ([Value.func (Fn.yield l) #[] #[]] ++ captured.toList)).toArray := by
        apply Array.ext'; simp
      rw [hargs]
      refine CallsIn.mono hI ?_
      rintro e w' ⟨v, rfl, B', hst', hB⟩
      rcases hB with ⟨B, rfl, hB⟩ | ⟨B, c, rfl, hB⟩
      · have hg' := hst'.get (i := 0) rfl
        refine ⟨none, _, run_endLoop hg' (by simp), ?_⟩
        exact hend bd B _ hB (hst'.putObj (i := 0) rfl _).tail
      · have hg' := hst'.get (i := 0) rfl
        refine ⟨some c, _, run_endLoop hg' (by simp), ?_⟩
        exact hjump bd c B _ hB (hst'.putObj (i := 0) rfl _).tail
    · rintro i hi Bx X w2 ⟨B, rfl, hB⟩ hst2
      have hp : (X ++ (((l, rc .ready none) :: (bd, .deferred (some [])) :: B) ++ F)).Perm ((l, rc .ready none) :: (bd, .deferred (some [])) :: (X ++ (B ++ F))) := perm_mid X [(l, rc .ready none), (bd, .deferred (some []))] (B ++ F)
      have hst3 := hst2.perm hp
      have hg' := hst3.get (i := 0) rfl
      refine .inr ⟨l, fn, fa n (upd ρ pt xs[i]), assign, body, rfl, ?_, ?_⟩
      · rw [run_yield hg' rfl]
        simp [rc, fa_put]
      · refine roundIn_of_wpIn (F := FW none) trivial ?_
        have hp2 : ((l, rc .ready none) :: (bd, .deferred (some [])) :: (X ++ (B ++ F))).Perm (B ++ (((l, rc .ready none) :: (bd, .deferred (some [])) :: X) ++ F)) :=
          perm_mid ((l, rc .ready none) :: (bd, .deferred (some [])) :: X) B F
        refine round l i hi B ((l, rc .ready none) :: (bd, .deferred (some [])) :: X) ((l, rc .busy none) :: (bd, .deferred (some [])) :: X) w2 hB (hst3.perm hp2) _ ?_
        intro a w3 Y hst4 hbody
        have hp3 : (Y ++ (((l, rc .ready none) :: (bd, .deferred (some [])) :: X) ++ F)).Perm ((l, rc .ready none) :: (Y ++ (((bd, .deferred (some [])) :: X) ++ F))) := perm_mid Y [(l, rc .ready none)] _
        have hst5 := hst4.perm hp3
        have hg5 := hst5.get (i := 0) rfl
        refine ⟨_, run_beginRound hg5 rfl, ?_⟩
        have hst6 := hst5.putObj (i := 0) rfl (rc .busy none)
        have hp4 : ((l, rc .busy none) :: (Y ++ (((bd, .deferred (some [])) :: X) ++ F))).Perm (Y ++ (((l, rc .busy none) :: (bd, .deferred (some [])) :: X) ++ F)) := (perm_mid Y [(l, rc .busy none)] _).symm
        refine w_mono (hbody _ (hst6.perm hp4)) ?_
        have back : ∀ (B' : List (Nat × Obj)) (w : World) (s : LoopState) (pend : Option Code), St w0 w (B' ++ (((l, rc .busy none) :: (bd, .deferred (some [])) :: X) ++ F)) → w.heap[l]? = some (rc .busy none) ∧
            St w0 (w.putObj l (rc s pend)) (X ++ (((l, rc s pend) :: (bd, .deferred (some [])) :: B') ++ F)) := by
          intro B' w s pend h
          have h1 := h.perm (perm_mid B' [(l, rc .busy none)] (((bd, .deferred (some [])) :: X) ++ F))
          refine ⟨h1.get (i := 0) rfl, ?_⟩
          have h2 := h1.putObj (i := 0) rfl (rc s pend)
          refine h2.perm ?_
          show ((l, rc s pend) :: (B' ++ (((bd, .deferred (some [])) :: X) ++ F))).Perm _
          refine (List.Perm.cons _ (perm_mid B' [(bd, .deferred (some []))] (X ++ F))).trans ?_
          refine (List.Perm.cons _ (List.Perm.cons _ (perm_mid B' X F))).trans ?_
          exact (perm_mid X [(l, rc s pend), (bd, .deferred (some []))] (B' ++ F)).symm
        intro e a' w' hq
        cases e with
        | normal =>
          obtain ⟨B', hs, hJ⟩ := hq
          obtain ⟨hb1, hb2⟩ := back B' w' .ready none hs
          exact ⟨_, _, run_endRound none hb1, _, rfl, _, hb2, .inl ⟨rfl, B', rfl, hJ⟩⟩
        | ret =>
          obtain ⟨B', hs, hJ⟩ := hq
          obtain ⟨hb1, hb2⟩ := back B' w' .done (some .ret) hs
          exact ⟨_, _, run_endRound (some .ret) hb1, _, rfl, _, hb2, .inr ⟨rfl, B', _, rfl, hJ⟩⟩
        | exit id =>
          obtain ⟨B', hs, hJ⟩ := hq
          obtain ⟨hb1, hb2⟩ := back B' w' .done (some (.exit id)) hs
          exact ⟨_, _, run_endRound (some (.exit id)) hb1, _, rfl, _, hb2, .inr ⟨rfl, B', _, rfl, hJ⟩⟩
        | goto t => exact hq.elim
        | panic c => exact hq.elim
        | outgrown => exact hq.elim

/-! ### Functions that hold such a range -/
theorem con_of_wcM {k : FuncId} {fn : Func} {c : Code} {args : List Value} {R : Value → World → Prop} (hf : P.funcs[k]? = some fn) (hb : fn.body = some c) (hn : fn.ntmps = n) (hle : args.length ≤ n)
    (h : WC none P c (bodyPostM (FW none) 0 P fn fun e w' => ∃ v, e = .returned v ∧ R v w') (A n (args0 args) []) w) : Con P k args w R := by
  refine callsIn_of_wp_marks (F := FW none) hf hb trivial ?_ rfl
  rw [hn, A_args n args hle]
  exact h
theorem q_retM0 {fn : Func} {l : List ResultVar} {vs : List Value} {R : Value → World → Prop} (hl : fn.results = l.toArray) (hr : RVs P ρ n w l vs) (h : R (retV vs) w) :
    bodyPostM (FW none) 0 P fn (fun e w' => ∃ v, e = .returned v ∧ R v w') .ret (A n ρ []) w := ⟨_, results_A hl hr, _, rfl, h⟩
theorem q_endM0 {fn : Func} {l : List ResultVar} {vs : List Value} {R : Value → World → Prop} (hl : fn.results = l.toArray) (hr : RVs P ρ n w l vs) (h : R (retV vs) w) :
    bodyPostM (FW none) 0 P fn (fun e w' => ∃ v, e = .returned v ∧ R v w') .normal (A n ρ []) w := ⟨_, results_A hl hr, _, rfl, h⟩
theorem leavesM1 {fn : Func} {l : List ResultVar} {vs : List Value} {R : Value → World → Prop} {bd i : Nat} (hst : St w0 w L) (hi : L[i]? = some (bd, .deferred (some []))) (hl : fn.results = l.toArray)
    (h : ∀ w', St w0 w' (L.set i (bd, .deferred none)) → RVs P ρ n w' l vs ∧ R (retV vs) w') :
    LeavesInM (FW none) 0 P fn (fa n ρ) (fun e w' => ∃ v, e = .returned v ∧ R v w') [mk bd] .returning w := by
  obtain ⟨h1, h2⟩ := h _ (hst.putObj hi _)
  exact ⟨by simp, .inl ⟨bd, _, rfl, run_takeDeferred (hst.get hi), _, results_A hl h1, _, rfl, h2⟩⟩
theorem q_retM {fn : Func} {l : List ResultVar} {vs : List Value} {R : Value → World → Prop} {bd i : Nat} (hst : St w0 w L) (hi : L[i]? = some (bd, .deferred (some []))) (hl : fn.results = l.toArray)
    (h : ∀ w', St w0 w' (L.set i (bd, .deferred none)) → RVs P ρ n w' l vs ∧ R (retV vs) w') :
    bodyPostM (FW none) 0 P fn (fun e w' => ∃ v, e = .returned v ∧ R v w') .ret (A n ρ [mk bd]) w := leavesM1 hst hi hl h
theorem q_endM {fn : Func} {l : List ResultVar} {vs : List Value} {R : Value → World → Prop} {bd i : Nat} (hst : St w0 w L) (hi : L[i]? = some (bd, .deferred (some []))) (hl : fn.results = l.toArray)
    (h : ∀ w', St w0 w' (L.set i (bd, .deferred none)) → RVs P ρ n w' l vs ∧ R (retV vs) w') :
    bodyPostM (FW none) 0 P fn (fun e w' => ∃ v, e = .returned v ∧ R v w') .normal (A n ρ [mk bd]) w := leavesM1 hst hi hl h
end Go.Rt
