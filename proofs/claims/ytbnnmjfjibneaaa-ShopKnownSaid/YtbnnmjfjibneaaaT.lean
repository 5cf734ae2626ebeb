/- Walks of this seat, printed by gen.py over the engine: what each function returns, in whatever world. No conditions but those of each contract. -/
import Derived.Test.YtbnnmjfjibneaaaP
set_option linter.unusedVariables false
set_option linter.unusedSimpArgs false
set_option maxRecDepth 20000
namespace Go.Proofs
open Go.Rt Go.Rt.Sh
attribute [local irreducible] WL WC Con Yd At Ats Sl Agree DW

theorem ex_kmore : moreP (exM 2 10) 1 = (3, 0) := by decide +kernel
theorem ex_klate : lateP (exM 2 10) 1 = (0, 0) := by decide +kernel
theorem ex_kcan : canP (exM 2 10) [] = (1, 0) := by decide +kernel
theorem ex_kproof : proofP (exM 2 10) [] = ([], 0, 9) := by decide +kernel
theorem c7 {w0 w : World} {F : List (Nat × Obj)}  (hs : St w0 w F) :
  Con Try.prog 7 [] w fun v w' => v = .bool true ∧ St w0 w' F := by
  refine con_of_wc (n := 62) Try.func7 rfl rfl (Nat.le_of_ble_eq_true rfl) ?_
  refine w_seq (fun K2 hK1 => ?_)
  refine w_region ?_
  refine w_pure want_none (y_assign (v := _) rfl rfl) rfl ?_
  refine w_nil ?_
  refine q_then (hK1 _ _ ?_)
  refine w_seq (fun K4 hK3 => ?_)
  refine w_region ?_
  refine w_call want_none Try.call34 rfl rfl rfl rfl (c34 2 10 hs) ?_
  rintro _ w6 ⟨t1, s1, r1, rfl, hs7⟩
  refine w_alloc (cs := [_, _, _]) want_none Try.zeroValue26 rfl hs7 (fun b8 w9 hs10 => ?_)
  refine w_store (i := 0) (v := .agg #[.slice _ _ _, .slice _ _ _, .slice _ _ _]) (vs := [_, _, _]) want_none Try.sizeOf26 rfl rfl rfl rfl rfl (by simp [Value.oneCell']) hs10 rfl (Nat.le_of_ble_eq_true rfl) (fun w11 hs12 => ?_)
  refine w_nil ?_
  refine q_then (hK3 _ _ ?_)
  refine w_seq (fun K14 hK13 => ?_)
  obtain ⟨Z, hZ, hsZ⟩ := gen_Z hs12
  have hP1 : Ats w0 Z b8 0 ((exM 2 10).cells ⟨some ⟨r1, 0, none⟩, 2, some ⟨s1, 0, none⟩, 3, some ⟨t1, 0, none⟩, 5⟩) := by rw [hZ]; exact ats_own (i := 0) (vs := [_, _, _]) rfl rfl
  have hM1 : MIn w0 Z (exM 2 10) ⟨some ⟨r1, 0, none⟩, 2, some ⟨s1, 0, none⟩, 3, some ⟨t1, 0, none⟩, 5⟩ := by rw [hZ]; exact ex_min (i1 := 1) (i2 := 2) (i3 := 3) rfl rfl rfl
  refine w_region ?_
  refine w_pure want_none (y_loadN (vs := [_, _, _]) Try.isAgg26 Try.sizeOf26 hsZ rfl rfl hP1) rfl ?_
  refine w_call want_none Try.call30 rfl rfl rfl rfl ((c30 (exM 2 10) ⟨some ⟨r1, 0, none⟩, 2, some ⟨s1, 0, none⟩, 3, some ⟨t1, 0, none⟩, 5⟩ hM1 1 hsZ).mono (fun v w' h => by rw [ex_kmore] at h; exact h)) ?_
  rintro _ w16 ⟨rfl, hs17⟩
  refine w_pure want_none (y_move (v := .tuple _) rfl rfl) rfl ?_
  refine w_pure want_none (y_extract (v := .int _ _) rfl rfl rfl) rfl ?_
  refine w_pure want_none (y_extract (v := .int _ _) rfl rfl rfl) rfl ?_
  refine w_pure want_none (y_assign (v := .int _ _) rfl rfl) rfl ?_
  refine w_pure want_none (y_assign (v := .int _ _) rfl rfl) rfl ?_
  refine w_nil ?_
  refine q_then (hK13 _ _ ?_)
  refine w_seq (fun K19 hK18 => ?_)
  refine w_region ?_
  refine w_pure want_none (y_loadN (vs := [_, _, _]) Try.isAgg26 Try.sizeOf26 hs17 rfl rfl hP1) rfl ?_
  refine w_call want_none Try.call32 rfl rfl rfl rfl ((c32 (exM 2 10) ⟨some ⟨r1, 0, none⟩, 2, some ⟨s1, 0, none⟩, 3, some ⟨t1, 0, none⟩, 5⟩ hM1 1 hs17).mono (fun v w' h => by rw [ex_klate] at h; exact h)) ?_
  rintro _ w21 ⟨rfl, hs22⟩
  refine w_pure want_none (y_move (v := .tuple _) rfl rfl) rfl ?_
  refine w_pure want_none (y_extract (v := .int _ _) rfl rfl rfl) rfl ?_
  refine w_pure want_none (y_extract (v := .int _ _) rfl rfl rfl) rfl ?_
  refine w_pure want_none (y_assign (v := .int _ _) rfl rfl) rfl ?_
  refine w_pure want_none (y_assign (v := .int _ _) rfl rfl) rfl ?_
  refine w_nil ?_
  refine q_then (hK18 _ _ ?_)
  refine w_seq (fun K24 hK23 => ?_)
  refine w_region ?_
  refine w_pure want_none (y_loadN (vs := [_, _, _]) Try.isAgg26 Try.sizeOf26 hs22 rfl rfl hP1) rfl ?_
  refine w_call want_none Try.call22 rfl rfl rfl rfl ((c22 (exM 2 10) ⟨some ⟨r1, 0, none⟩, 2, some ⟨s1, 0, none⟩, 3, some ⟨t1, 0, none⟩, 5⟩ hM1 none 0 [] (by decide) (Sl.nil _ _) hs22).mono (fun v w' h => by rw [ex_kcan] at h; exact h)) ?_
  rintro _ w26 ⟨rfl, hs27⟩
  refine w_pure want_none (y_move (v := .tuple _) rfl rfl) rfl ?_
  refine w_pure want_none (y_extract (v := .int _ _) rfl rfl rfl) rfl ?_
  refine w_pure want_none (y_extract (v := .int _ _) rfl rfl rfl) rfl ?_
  refine w_pure want_none (y_assign (v := .int _ _) rfl rfl) rfl ?_
  refine w_pure want_none (y_assign (v := .int _ _) rfl rfl) rfl ?_
  refine w_nil ?_
  refine q_then (hK23 _ _ ?_)
  refine w_seq (fun K29 hK28 => ?_)
  refine w_region ?_
  refine w_pure want_none (y_loadN (vs := [_, _, _]) Try.isAgg26 Try.sizeOf26 hs27 rfl rfl hP1) rfl ?_
  refine w_call want_none Try.call24 rfl rfl rfl rfl ((c24 (exM 2 10) ⟨some ⟨r1, 0, none⟩, 2, some ⟨s1, 0, none⟩, 3, some ⟨t1, 0, none⟩, 5⟩ hM1 none 0 [] (by decide) (Sl.nil _ _) hs27).mono (fun v w' h => by rw [ex_kproof] at h; exact h)) ?_
  rintro _ w31 ⟨B1, a1, c1, rfl, hq1, hs32⟩
  replace hs32 := (show St _ _ (B1 ++ (Z)) from hs32)
  refine w_pure want_none (y_move (v := .tuple _) rfl rfl) rfl ?_
  refine w_pure want_none (y_extract (v := .slice _ _ _) rfl rfl rfl) rfl ?_
  refine w_pure want_none (y_extract (v := .int _ _) rfl rfl rfl) rfl ?_
  refine w_pure want_none (y_extract (v := .int _ _) rfl rfl rfl) rfl ?_
  refine w_pure want_none (y_assign (v := .slice _ _ _) rfl rfl) rfl ?_
  refine w_pure want_none (y_assign (v := .int _ _) rfl rfl) rfl ?_
  refine w_pure want_none (y_assign (v := .int _ _) rfl rfl) rfl ?_
  refine w_nil ?_
  refine q_then (hK28 _ _ ?_)
  refine w_seq (fun K34 hK33 => ?_)
  refine w_region ?_
  refine w_pure want_none (y_move (v := .int _ _) rfl rfl) rfl ?_
  refine w_pure want_none (y_eql rfl rfl rfl rfl) rfl ?_
  refine w_pure want_none (y_move (v := .bool _) rfl rfl) rfl ?_
  refine w_pure (want_yes rfl rfl rfl) (y_move (v := .int _ _) rfl rfl) rfl ?_
  refine w_pure (want_yes rfl rfl rfl) (y_eql rfl rfl rfl rfl) rfl ?_
  refine w_pure want_none (y_pickT (v := .bool _) rfl rfl rfl rfl) rfl ?_
  refine w_pure want_none (y_move (v := .bool _) rfl rfl) rfl ?_
  refine w_pure (want_yes rfl rfl rfl) (y_move (v := .int _ _) rfl rfl) rfl ?_
  refine w_pure (want_yes rfl rfl rfl) (y_eql rfl rfl rfl rfl) rfl ?_
  refine w_pure want_none (y_pickT (v := .bool _) rfl rfl rfl rfl) rfl ?_
  refine w_pure want_none (y_move (v := .bool _) rfl rfl) rfl ?_
  refine w_pure (want_yes rfl rfl rfl) (y_move (v := .int _ _) rfl rfl) rfl ?_
  refine w_pure (want_yes rfl rfl rfl) (y_eql rfl rfl rfl rfl) rfl ?_
  refine w_pure want_none (y_pickT (v := .bool _) rfl rfl rfl rfl) rfl ?_
  refine w_pure want_none (y_move (v := .bool _) rfl rfl) rfl ?_
  refine w_pure (want_yes rfl rfl rfl) (y_move (v := .int _ _) rfl rfl) rfl ?_
  refine w_pure (want_yes rfl rfl rfl) (y_eql rfl rfl rfl rfl) rfl ?_
  refine w_pure want_none (y_pickT (v := .bool _) rfl rfl rfl rfl) rfl ?_
  refine w_pure want_none (y_move (v := .bool _) rfl rfl) rfl ?_
  refine w_pure (want_yes rfl rfl rfl) (y_move (v := .int _ _) rfl rfl) rfl ?_
  refine w_pure (want_yes rfl rfl rfl) (y_eql rfl rfl rfl rfl) rfl ?_
  refine w_pure want_none (y_pickT (v := .bool _) rfl rfl rfl rfl) rfl ?_
  refine w_pure want_none (y_move (v := .bool _) rfl rfl) rfl ?_
  refine w_pure (want_yes rfl rfl rfl) (y_move (v := .int _ _) rfl rfl) rfl ?_
  refine w_pure (want_yes rfl rfl rfl) (y_eql rfl rfl rfl rfl) rfl ?_
  refine w_pure want_none (y_pickT (v := .bool _) rfl rfl rfl rfl) rfl ?_
  refine w_pure want_none (y_move (v := .bool _) rfl rfl) rfl ?_
  refine w_call (want_yes rfl rfl rfl) Try.call21 rfl rfl rfl rfl (c21 hs32) ?_
  rintro _ w36 ⟨rfl, hs37⟩
  refine w_pure want_none (y_pickT (v := .bool _) rfl rfl rfl rfl) rfl ?_
  refine w_pure want_none (y_assign (v := .bool _) rfl rfl) rfl ?_
  refine w_nil ?_
  refine q_then (hK33 _ _ ?_)
  refine w_ret ?_
  refine q_ret (l := [.tmp 0]) (vs := [_]) rfl ⟨⟨rfl, show _ = (.bool _ : Value) from rfl⟩, trivial⟩ ?_
  exact ⟨rfl, (St.cast hZ hs37.drop).tail.tail.tail.tail⟩

end Go.Proofs
