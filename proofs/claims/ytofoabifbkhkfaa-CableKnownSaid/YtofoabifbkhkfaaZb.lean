/- Walks of this seat, printed by gen.py over the engine: what each function returns, in whatever world. No conditions but those of each contract. -/
import Derived.Test.YtofoabifbkhkfaaS
set_option linter.unusedVariables false
set_option linter.unusedSimpArgs false
set_option maxRecDepth 20000
namespace Go.Proofs
open Go.Rt
attribute [local irreducible] WL WC Con Yd At Ats Sl Agree DW
theorem Try_Zb_fb9 (x0 : Int) (x1 : Int) (x2 : Int) (w : World) : (Instr.buildSlice 27 3 [(0, .int .i64 x0), (1, .int .i64 x1), (2, .int .i64 x2)].toArray).run Try.prog w = .ok (.slice (some ⟨w.heap.size, 0, none⟩) 3 3) (w.alloc (Go.Rt.blk 3 [.int .i64 x0, .int .i64 x1, .int .i64 x2])) := by kernel_rfl
theorem Try_Zb_fb10 (x0 : Int) (x1 : Int) (x2 : Int) (x3 : Int) (x4 : Int) (x5 : Int) (w : World) : (Instr.buildSlice 31 3 [(0, .agg #[.int .i64 x0, .int .i64 x1]), (1, .agg #[.int .i64 x2, .int .i64 x3]), (2, .agg #[.int .i64 x4, .int .i64 x5])].toArray).run Try.prog w = .ok (.slice (some ⟨w.heap.size, 0, none⟩) 3 3) (w.alloc (Go.Rt.blk 23 [.int .i64 x0, .int .i64 x1, .int .i64 x2, .int .i64 x3, .int .i64 x4, .int .i64 x5])) := by kernel_rfl
theorem c7 {w0 w : World} {F : List (Nat × Obj)}  (hs : St w0 w F) :
  Con Try.prog 7 [] w fun v w' => v = .bool true ∧ St w0 w' F := by
  refine con_of_wc (n := 117) Try.func7 rfl rfl (Nat.le_of_ble_eq_true rfl) ?_
  refine w_seq (fun K2 hK1 => ?_)
  refine w_region ?_
  refine w_pure want_none (y_assign (v := _) rfl rfl) rfl ?_
  refine w_nil ?_
  refine q_then (hK1 _ _ ?_)
  refine w_seq (fun K4 hK3 => ?_)
  refine w_region ?_
  refine w_call want_none Try.call35 rfl rfl rfl rfl (c35 6 3 (by omega) hs) ?_
  rintro _ w6 ⟨s1, rfl, hs7⟩
  refine w_call want_none Try.call35 rfl rfl rfl rfl (c35 5 3 (by omega) hs7) ?_
  rintro _ w9 ⟨s2, rfl, hs10⟩
  refine w_call want_none Try.call35 rfl rfl rfl rfl (c35 6 2 (by omega) hs10) ?_
  rintro _ w12 ⟨s3, rfl, hs13⟩
  refine w_alloc (cs := [_, _, _, _]) want_none Try.zeroValue26 rfl hs13 (fun b14 w15 hs16 => ?_)
  refine w_alloc (cs := [_, _, _, _]) want_none Try.zeroValue26 rfl hs16 (fun b17 w18 hs19 => ?_)
  refine w_alloc (cs := [_, _, _, _]) want_none Try.zeroValue26 rfl hs19 (fun b20 w21 hs22 => ?_)
  refine w_store (i := 2) (v := .agg #[.int _ _, .int _ _, .int _ _, .slice _ _ _]) (vs := [_, _, _, _]) want_none Try.sizeOf26 rfl rfl rfl rfl rfl (by simp [Value.oneCell']) hs22 rfl (Nat.le_of_ble_eq_true rfl) (fun w23 hs24 => ?_)
  refine w_store (i := 1) (v := .agg #[.int _ _, .int _ _, .int _ _, .slice _ _ _]) (vs := [_, _, _, _]) want_none Try.sizeOf26 rfl rfl rfl rfl rfl (by simp [Value.oneCell']) hs24 rfl (Nat.le_of_ble_eq_true rfl) (fun w25 hs26 => ?_)
  refine w_store (i := 0) (v := .agg #[.int _ _, .int _ _, .int _ _, .slice _ _ _]) (vs := [_, _, _, _]) want_none Try.sizeOf26 rfl rfl rfl rfl rfl (by simp [Value.oneCell']) hs26 rfl (Nat.le_of_ble_eq_true rfl) (fun w27 hs28 => ?_)
  refine w_nil ?_
  refine q_then (hK3 _ _ ?_)
  refine w_seq (fun K30 hK29 => ?_)
  refine w_region ?_
  refine w_bslice (ps := [(0, _), (1, _), (2, _)]) (pv := [(0, .int _ _), (1, .int _ _), (2, .int _ _)]) (cs := [_, _, _]) want_none rfl rfl (fun w => Try_Zb_fb9 _ _ _ w) hs28 (fun b31 w32 hs33 => ?_)
  refine w_pure want_none (y_assign (v := .slice _ _ _) rfl rfl) rfl ?_
  refine w_nil ?_
  refine q_then (hK29 _ _ ?_)
  refine w_seq (fun K35 hK34 => ?_)
  obtain ⟨Z, hZ, hsZ⟩ := gen_Z hs33
  have hP1 : Ats w0 Z b14 0 ((exPort 6 3).cells (some ⟨s1, 0, none⟩) 3) := by rw [hZ]; exact ats_own (i := 3) (vs := [_, _, _, _]) rfl rfl
  have hS1 : Sl w0 Z (some ⟨s1, 0, none⟩) 6 (rows (exPort 6 3).farms) := by rw [hZ]; exact sl_own (i := 6) rfl (by intro row hr; obtain ⟨f, _, rfl⟩ := List.mem_map.1 hr; rfl) rfl
  have hP2 : Ats w0 Z b17 0 ((exPort 5 3).cells (some ⟨s2, 0, none⟩) 3) := by rw [hZ]; exact ats_own (i := 2) (vs := [_, _, _, _]) rfl rfl
  have hS2 : Sl w0 Z (some ⟨s2, 0, none⟩) 6 (rows (exPort 5 3).farms) := by rw [hZ]; exact sl_own (i := 5) rfl (by intro row hr; obtain ⟨f, _, rfl⟩ := List.mem_map.1 hr; rfl) rfl
  have hP3 : Ats w0 Z b20 0 ((exPort 6 2).cells (some ⟨s3, 0, none⟩) 3) := by rw [hZ]; exact ats_own (i := 1) (vs := [_, _, _, _]) rfl rfl
  have hS3 : Sl w0 Z (some ⟨s3, 0, none⟩) 6 (rows (exPort 6 2).farms) := by rw [hZ]; exact sl_own (i := 4) rfl (by intro row hr; obtain ⟨f, _, rfl⟩ := List.mem_map.1 hr; rfl) rfl
  have hl5 : Sl w0 Z (some ⟨b31, 0, none⟩) 1 (([2, 3, -1] : List Int).map fun x => [Value.int .i64 x]) := by rw [hZ]; exact sl_own (i := 0) (rows := [[_], [_], [_]]) rfl (by simp) rfl
  refine w_region ?_
  refine w_pure want_none (y_loadN (vs := [_, _, _, _]) Try.isAgg26 Try.sizeOf26 hsZ rfl rfl hP1) rfl ?_
  refine w_pure want_none (y_move (v := .slice _ _ _) rfl rfl) rfl ?_
  refine w_call want_none Try.call18 rfl rfl rfl rfl ((c18 (exPort 6 3) (some ⟨s1, 0, none⟩) 3 (by decide) (by decide) hS1 (ex_nm _ _) (some ⟨b31, 0, none⟩) 3 [2, 3, -1] (by decide) hl5 hsZ).mono (fun v w' h => by rw [ex_q6] at h; rw [ex_q6v] at h;  exact h)) ?_
  rintro _ w37 ⟨B1, aq1, cq1, rfl, hq1, hs38⟩
  replace hs38 := (show St _ _ (B1 ++ (Z)) from hs38)
  refine w_pure want_none (y_move (v := .tuple _) rfl rfl) rfl ?_
  refine w_pure want_none (y_extract (v := .slice _ _ _) rfl rfl rfl) rfl ?_
  refine w_pure want_none (y_extract (v := .int _ _) rfl rfl rfl) rfl ?_
  refine w_pure want_none (y_assign (v := .slice _ _ _) rfl rfl) rfl ?_
  refine w_pure want_none (y_assign (v := .int _ _) rfl rfl) rfl ?_
  refine w_nil ?_
  refine q_then (hK34 _ _ ?_)
  refine w_seq (fun K40 hK39 => ?_)
  refine w_region ?_
  refine w_pure want_none (y_loadN (vs := [_, _, _, _]) Try.isAgg26 Try.sizeOf26 hs38.drop rfl rfl hP1) rfl ?_
  refine w_pure want_none (y_move (v := .slice _ _ _) rfl rfl) rfl ?_
  refine w_call want_none Try.call24 rfl rfl rfl rfl ((c24 (exPort 6 3) (some ⟨s1, 0, none⟩) 3 (by decide) (by decide) hS1.app (ex_nm _ _) (some ⟨b31, 0, none⟩) 3 [2, 3, -1] (by decide) hl5.app hs38).mono (fun v w' h => by rw [ex_v6] at h; rw [ex_q6] at h;  exact h)) ?_
  rintro _ w42 ⟨rfl, hs43⟩
  refine w_pure want_none (y_move (v := .tuple _) rfl rfl) rfl ?_
  refine w_pure want_none (y_extract (v := .int _ _) rfl rfl rfl) rfl ?_
  refine w_pure want_none (y_extract (v := .int _ _) rfl rfl rfl) rfl ?_
  refine w_pure want_none (y_assign (v := .int _ _) rfl rfl) rfl ?_
  refine w_pure want_none (y_assign (v := .int _ _) rfl rfl) rfl ?_
  refine w_nil ?_
  refine q_then (hK39 _ _ ?_)
  refine w_seq (fun K45 hK44 => ?_)
  refine w_region ?_
  refine w_pure want_none (y_loadN (vs := [_, _, _, _]) Try.isAgg26 Try.sizeOf26 hs43.drop rfl rfl hP1) rfl ?_
  refine w_call want_none Try.call29 rfl rfl rfl rfl ((c29 (exPort 6 3) (some ⟨s1, 0, none⟩) 3 (by decide) (by decide) hS1.app (ex_nm _ _) 0 hs43).mono (fun v w' h => by rw [ex_h630] at h; rw [ex_h630e] at h;  exact h)) ?_
  rintro _ w47 ⟨rfl, hs48⟩
  refine w_pure want_none (y_move (v := .tuple _) rfl rfl) rfl ?_
  refine w_pure want_none (y_extract (v := .int _ _) rfl rfl rfl) rfl ?_
  refine w_pure want_none (y_extract (v := .int _ _) rfl rfl rfl) rfl ?_
  refine w_pure want_none (y_assign (v := .int _ _) rfl rfl) rfl ?_
  refine w_pure want_none (y_assign (v := .int _ _) rfl rfl) rfl ?_
  refine w_nil ?_
  refine q_then (hK44 _ _ ?_)
  refine w_seq (fun K50 hK49 => ?_)
  refine w_region ?_
  refine w_pure want_none (y_loadN (vs := [_, _, _, _]) Try.isAgg26 Try.sizeOf26 hs48.drop rfl rfl hP3) rfl ?_
  refine w_call want_none Try.call29 rfl rfl rfl rfl ((c29 (exPort 6 2) (some ⟨s3, 0, none⟩) 3 (by decide) (by decide) hS3.app (ex_nm _ _) 1 hs48).mono (fun v w' h => by rw [ex_h61] at h; rw [ex_h61e] at h;  exact h)) ?_
  rintro _ w52 ⟨rfl, hs53⟩
  refine w_pure want_none (y_move (v := .tuple _) rfl rfl) rfl ?_
  refine w_pure want_none (y_extract (v := .int _ _) rfl rfl rfl) rfl ?_
  refine w_pure want_none (y_extract (v := .int _ _) rfl rfl rfl) rfl ?_
  refine w_pure want_none (y_assign (v := .int _ _) rfl rfl) rfl ?_
  refine w_pure want_none (y_assign (v := .int _ _) rfl rfl) rfl ?_
  refine w_nil ?_
  refine q_then (hK49 _ _ ?_)
  refine w_seq (fun K55 hK54 => ?_)
  refine w_region ?_
  refine w_pure want_none (y_loadN (vs := [_, _, _, _]) Try.isAgg26 Try.sizeOf26 hs53.drop rfl rfl hP2) rfl ?_
  refine w_call want_none Try.call33 rfl rfl rfl rfl ((c33 (exPort 5 3) (some ⟨s2, 0, none⟩) 3 (by decide) (by decide) hS2.app (ex_nm _ _) 0 hs53).mono (fun v w' h => by rw [ex_t0] at h; rw [ex_t0e] at h;  exact h)) ?_
  rintro _ w57 ⟨rfl, hs58⟩
  refine w_pure want_none (y_move (v := .tuple _) rfl rfl) rfl ?_
  refine w_pure want_none (y_extract (v := .int _ _) rfl rfl rfl) rfl ?_
  refine w_pure want_none (y_extract (v := .int _ _) rfl rfl rfl) rfl ?_
  refine w_pure want_none (y_assign (v := .int _ _) rfl rfl) rfl ?_
  refine w_pure want_none (y_assign (v := .int _ _) rfl rfl) rfl ?_
  refine w_nil ?_
  refine q_then (hK54 _ _ ?_)
  refine w_seq (fun K60 hK59 => ?_)
  refine w_region ?_
  refine w_pure want_none (y_loadN (vs := [_, _, _, _]) Try.isAgg26 Try.sizeOf26 hs58.drop rfl rfl hP2) rfl ?_
  refine w_call want_none Try.call33 rfl rfl rfl rfl ((c33 (exPort 5 3) (some ⟨s2, 0, none⟩) 3 (by decide) (by decide) hS2.app (ex_nm _ _) 10 hs58).mono (fun v w' h => by rw [ex_t10] at h; rw [ex_t10e] at h;  exact h)) ?_
  rintro _ w62 ⟨rfl, hs63⟩
  refine w_pure want_none (y_move (v := .tuple _) rfl rfl) rfl ?_
  refine w_pure want_none (y_extract (v := .int _ _) rfl rfl rfl) rfl ?_
  refine w_pure want_none (y_extract (v := .int _ _) rfl rfl rfl) rfl ?_
  refine w_pure want_none (y_assign (v := .int _ _) rfl rfl) rfl ?_
  refine w_pure want_none (y_assign (v := .int _ _) rfl rfl) rfl ?_
  refine w_nil ?_
  refine q_then (hK59 _ _ ?_)
  refine w_seq (fun K65 hK64 => ?_)
  refine w_region ?_
  refine w_call want_none Try.call35 rfl rfl rfl rfl (c35 5 2 (by omega) hs63) ?_
  rintro _ w67 ⟨s4, rfl, hs68⟩
  refine w_call want_none Try.call29 rfl rfl rfl rfl ((c29 (exPort 5 2) (some ⟨s4, 0, none⟩) 3 (by decide) (by decide) (sl_own (i := 0) rfl (by intro row hr; obtain ⟨f, _, rfl⟩ := List.mem_map.1 hr; rfl) rfl) (ex_nm _ _) 0 hs68).mono (fun v w' h => by rw [ex_h520] at h; rw [ex_h520e] at h;  exact h)) ?_
  rintro _ w70 ⟨rfl, hs71⟩
  refine w_pure want_none (y_move (v := .tuple _) rfl rfl) rfl ?_
  refine w_pure want_none (y_extract (v := .int _ _) rfl rfl rfl) rfl ?_
  refine w_pure want_none (y_extract (v := .int _ _) rfl rfl rfl) rfl ?_
  refine w_pure want_none (y_assign (v := .int _ _) rfl rfl) rfl ?_
  refine w_pure want_none (y_assign (v := .int _ _) rfl rfl) rfl ?_
  refine w_nil ?_
  refine q_then (hK64 _ _ ?_)
  refine w_seq (fun K73 hK72 => ?_)
  refine w_region ?_
  refine w_pure want_none (y_move (v := .int _ _) rfl rfl) rfl ?_
  refine w_pure want_none (y_eql rfl rfl rfl rfl) rfl ?_
  refine w_pure want_none (y_move (v := .bool _) rfl rfl) rfl ?_
  refine w_pure (want_yes rfl rfl rfl) (y_move (v := .int _ _) rfl rfl) rfl ?_
  refine w_pure (want_yes rfl rfl rfl) (y_eql rfl rfl rfl rfl) rfl ?_
  refine w_pure want_none (y_pickT (v := .bool _) rfl rfl rfl rfl) rfl ?_
  refine w_pure want_none (y_move (v := .bool _) rfl rfl) rfl ?_
  refine w_pure (want_yes rfl rfl rfl) (y_move (v := .int _ _) rfl rfl) rfl ?_
  refine w_pure (want_yes rfl rfl rfl) (y_eql rfl rfl rfl rfl) rfl ?_
  refine w_pure want_none (y_pickT (v := .bool _) rfl rfl rfl rfl) rfl ?_
  refine w_pure want_none (y_move (v := .bool _) rfl rfl) rfl ?_
  refine w_pure (want_yes rfl rfl rfl) (y_move (v := .int _ _) rfl rfl) rfl ?_
  refine w_pure (want_yes rfl rfl rfl) (y_eql rfl rfl rfl rfl) rfl ?_
  refine w_pure want_none (y_pickT (v := .bool _) rfl rfl rfl rfl) rfl ?_
  refine w_pure want_none (y_move (v := .bool _) rfl rfl) rfl ?_
  refine w_pure (want_yes rfl rfl rfl) (y_move (v := .int _ _) rfl rfl) rfl ?_
  refine w_pure (want_yes rfl rfl rfl) (y_eql rfl rfl rfl rfl) rfl ?_
  refine w_pure want_none (y_pickT (v := .bool _) rfl rfl rfl rfl) rfl ?_
  refine w_pure want_none (y_move (v := .bool _) rfl rfl) rfl ?_
  refine w_pure (want_yes rfl rfl rfl) (y_move (v := .int _ _) rfl rfl) rfl ?_
  refine w_pure (want_yes rfl rfl rfl) (y_eql rfl rfl rfl rfl) rfl ?_
  refine w_pure want_none (y_pickT (v := .bool _) rfl rfl rfl rfl) rfl ?_
  refine w_pure want_none (y_move (v := .bool _) rfl rfl) rfl ?_
  refine w_pure (want_yes rfl rfl rfl) (y_move (v := .int _ _) rfl rfl) rfl ?_
  refine w_pure (want_yes rfl rfl rfl) (y_eql rfl rfl rfl rfl) rfl ?_
  refine w_pure want_none (y_pickT (v := .bool _) rfl rfl rfl rfl) rfl ?_
  refine w_pure want_none (y_move (v := .bool _) rfl rfl) rfl ?_
  refine w_pure (want_yes rfl rfl rfl) (y_move (v := .slice _ _ _) rfl rfl) rfl ?_
  refine w_call (want_yes rfl rfl rfl) Try.call36 rfl rfl rfl rfl (c36 _ _ hs71) ?_
  rintro _ w75 ⟨rfl, hs76⟩
  refine w_call (want_yes rfl rfl rfl) Try.call36 rfl rfl rfl rfl (c36 _ _ hs76) ?_
  rintro _ w78 ⟨rfl, hs79⟩
  refine w_call (want_yes rfl rfl rfl) Try.call36 rfl rfl rfl rfl (c36 _ _ hs79) ?_
  rintro _ w81 ⟨rfl, hs82⟩
  refine w_bslice (ps := [(0, _), (1, _), (2, _)]) (pv := [(0, .agg #[.int _ _, .int _ _]), (1, .agg #[.int _ _, .int _ _]), (2, .agg #[.int _ _, .int _ _])]) (cs := [_, _, _, _, _, _]) (want_yes rfl rfl rfl) rfl rfl (fun w => Try_Zb_fb10 _ _ _ _ _ _ w) hs82 (fun b83 w84 hs85 => ?_)
  refine w_call (want_yes rfl rfl rfl) Try.call20 rfl rfl rfl rfl (con_true (c20 _ _ [[50, 55], [50, 55], [50, 55]] [[50, 55], [50, 55], [50, 55]] _ _ (by decide) (by decide) hq1.cons.cons (sl_own (i := 0) (rows := [[_, _], [_, _], [_, _]]) rfl (by simp) rfl) hs85) (by decide)) ?_
  rintro _ w87 ⟨rfl, hs88⟩
  refine w_pure want_none (y_pickT (v := .bool _) rfl rfl rfl rfl) rfl ?_
  refine w_pure want_none (y_move (v := .bool _) rfl rfl) rfl ?_
  refine w_pure (want_yes rfl rfl rfl) (y_move (v := .int _ _) rfl rfl) rfl ?_
  refine w_pure (want_yes rfl rfl rfl) (y_eql rfl rfl rfl rfl) rfl ?_
  refine w_pure want_none (y_pickT (v := .bool _) rfl rfl rfl rfl) rfl ?_
  refine w_pure want_none (y_move (v := .bool _) rfl rfl) rfl ?_
  refine w_pure (want_yes rfl rfl rfl) (y_move (v := .int _ _) rfl rfl) rfl ?_
  refine w_pure (want_yes rfl rfl rfl) (y_eql rfl rfl rfl rfl) rfl ?_
  refine w_pure want_none (y_pickT (v := .bool _) rfl rfl rfl rfl) rfl ?_
  refine w_pure want_none (y_move (v := .bool _) rfl rfl) rfl ?_
  refine w_pure (want_yes rfl rfl rfl) (y_move (v := .int _ _) rfl rfl) rfl ?_
  refine w_pure (want_yes rfl rfl rfl) (y_eql rfl rfl rfl rfl) rfl ?_
  refine w_pure want_none (y_pickT (v := .bool _) rfl rfl rfl rfl) rfl ?_
  refine w_pure want_none (y_move (v := .bool _) rfl rfl) rfl ?_
  refine w_pure (want_yes rfl rfl rfl) (y_move (v := .int _ _) rfl rfl) rfl ?_
  refine w_pure (want_yes rfl rfl rfl) (y_eql rfl rfl rfl rfl) rfl ?_
  refine w_pure want_none (y_pickT (v := .bool _) rfl rfl rfl rfl) rfl ?_
  refine w_pure want_none (y_move (v := .bool _) rfl rfl) rfl ?_
  refine w_pure (want_yes rfl rfl rfl) (y_move (v := .int _ _) rfl rfl) rfl ?_
  refine w_pure (want_yes rfl rfl rfl) (y_eql rfl rfl rfl rfl) rfl ?_
  refine w_pure want_none (y_pickT (v := .bool _) rfl rfl rfl rfl) rfl ?_
  refine w_pure want_none (y_move (v := .bool _) rfl rfl) rfl ?_
  refine w_call (want_yes rfl rfl rfl) Try.call23 rfl rfl rfl rfl (c23 hs88) ?_
  rintro _ w90 ⟨rfl, hs91⟩
  refine w_pure want_none (y_pickT (v := .bool _) rfl rfl rfl rfl) rfl ?_
  refine w_pure want_none (y_assign (v := .bool _) rfl rfl) rfl ?_
  refine w_nil ?_
  refine q_then (hK72 _ _ ?_)
  refine w_ret ?_
  refine q_ret (l := [.tmp 0]) (vs := [_]) rfl ⟨⟨rfl, show _ = (.bool _ : Value) from rfl⟩, trivial⟩ ?_
  exact ⟨rfl, (St.cast hZ hs91.tail.tail.drop).tail.tail.tail.tail.tail.tail.tail⟩

end Go.Proofs
