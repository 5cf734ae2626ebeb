/- Walks of this seat, printed by gen.py over the engine: what each function returns, in whatever world. No conditions but those of each contract. -/
import Derived.Test.YtofoabifbkhkfaaR
set_option linter.unusedVariables false
set_option linter.unusedSimpArgs false
set_option maxRecDepth 20000
namespace Go.Proofs
open Go.Rt
attribute [local irreducible] WL WC Con Yd At Ats Sl Agree DW
theorem Try_S_fb8 (x0 : Int) (x1 : Int) (x2 : Int) (w : World) : (Instr.buildSlice 27 3 [(0, .int .i64 x0), (1, .int .i64 x1), (2, .int .i64 x2)].toArray).run Try.prog w = .ok (.slice (some ⟨w.heap.size, 0, none⟩) 3 3) (w.alloc (Go.Rt.blk 3 [.int .i64 x0, .int .i64 x1, .int .i64 x2])) := by kernel_rfl
theorem Try_S_fb9 (x0 : Int) (x1 : Int) (x2 : Int) (x3 : Int) (x4 : Int) (x5 : Int) (x6 : Int) (x7 : Int) (w : World) : (Instr.buildSlice 31 4 [(0, .agg #[.int .i64 x0, .int .i64 x1]), (1, .agg #[.int .i64 x2, .int .i64 x3]), (2, .agg #[.int .i64 x4, .int .i64 x5]), (3, .agg #[.int .i64 x6, .int .i64 x7])].toArray).run Try.prog w = .ok (.slice (some ⟨w.heap.size, 0, none⟩) 4 4) (w.alloc (Go.Rt.blk 23 [.int .i64 x0, .int .i64 x1, .int .i64 x2, .int .i64 x3, .int .i64 x4, .int .i64 x5, .int .i64 x6, .int .i64 x7])) := by kernel_rfl
theorem c23 {w0 w : World} {F : List (Nat × Obj)}  (hs : St w0 w F) :
  Con Try.prog 23 [] w fun v w' => v = .bool true ∧ St w0 w' F := by
  refine con_of_wc (n := 226) Try.func23 rfl rfl (Nat.le_of_ble_eq_true rfl) ?_
  refine w_seq (fun K2 hK1 => ?_)
  refine w_region ?_
  refine w_pure want_none (y_assign (v := _) rfl rfl) rfl ?_
  refine w_nil ?_
  refine q_then (hK1 _ _ ?_)
  refine w_seq (fun K4 hK3 => ?_)
  refine w_region ?_
  refine w_call want_none Try.call35 rfl rfl rfl rfl (c35 6 3 (by omega) hs) ?_
  rintro _ w6 ⟨s1, rfl, hs7⟩
  refine w_call want_none Try.call35 rfl rfl rfl rfl (c35 5 3 (by omega) hs7) ?_
  rintro _ w9 ⟨s2, rfl, hs10⟩
  refine w_call want_none Try.call35 rfl rfl rfl rfl (c35 6 2 (by omega) hs10) ?_
  rintro _ w12 ⟨s3, rfl, hs13⟩
  refine w_call want_none Try.call35 rfl rfl rfl rfl (c35 5 2 (by omega) hs13) ?_
  rintro _ w15 ⟨s4, rfl, hs16⟩
  refine w_alloc (cs := [_, _, _, _]) want_none Try.zeroValue26 rfl hs16 (fun b17 w18 hs19 => ?_)
  refine w_alloc (cs := [_, _, _, _]) want_none Try.zeroValue26 rfl hs19 (fun b20 w21 hs22 => ?_)
  refine w_alloc (cs := [_, _, _, _]) want_none Try.zeroValue26 rfl hs22 (fun b23 w24 hs25 => ?_)
  refine w_alloc (cs := [_, _, _, _]) want_none Try.zeroValue26 rfl hs25 (fun b26 w27 hs28 => ?_)
  refine w_store (i := 3) (v := .agg #[.int _ _, .int _ _, .int _ _, .slice _ _ _]) (vs := [_, _, _, _]) want_none Try.sizeOf26 rfl rfl rfl rfl rfl (by simp [Value.oneCell']) hs28 rfl (Nat.le_of_ble_eq_true rfl) (fun w29 hs30 => ?_)
  refine w_store (i := 2) (v := .agg #[.int _ _, .int _ _, .int _ _, .slice _ _ _]) (vs := [_, _, _, _]) want_none Try.sizeOf26 rfl rfl rfl rfl rfl (by simp [Value.oneCell']) hs30 rfl (Nat.le_of_ble_eq_true rfl) (fun w31 hs32 => ?_)
  refine w_store (i := 1) (v := .agg #[.int _ _, .int _ _, .int _ _, .slice _ _ _]) (vs := [_, _, _, _]) want_none Try.sizeOf26 rfl rfl rfl rfl rfl (by simp [Value.oneCell']) hs32 rfl (Nat.le_of_ble_eq_true rfl) (fun w33 hs34 => ?_)
  refine w_store (i := 0) (v := .agg #[.int _ _, .int _ _, .int _ _, .slice _ _ _]) (vs := [_, _, _, _]) want_none Try.sizeOf26 rfl rfl rfl rfl rfl (by simp [Value.oneCell']) hs34 rfl (Nat.le_of_ble_eq_true rfl) (fun w35 hs36 => ?_)
  refine w_nil ?_
  refine q_then (hK3 _ _ ?_)
  refine w_seq (fun K38 hK37 => ?_)
  refine w_region ?_
  refine w_bslice (ps := [(0, _), (1, _), (2, _)]) (pv := [(0, .int _ _), (1, .int _ _), (2, .int _ _)]) (cs := [_, _, _]) want_none rfl rfl (fun w => Try_S_fb8 _ _ _ w) hs36 (fun b39 w40 hs41 => ?_)
  refine w_pure want_none (y_assign (v := .slice _ _ _) rfl rfl) rfl ?_
  refine w_nil ?_
  refine q_then (hK37 _ _ ?_)
  refine w_seq (fun K43 hK42 => ?_)
  obtain ⟨Z, hZ, hsZ⟩ := gen_Z hs41
  have hP1 : Ats w0 Z b17 0 ((exPort 6 3).cells (some ⟨s1, 0, none⟩) 3) := by rw [hZ]; exact ats_own (i := 4) (vs := [_, _, _, _]) rfl rfl
  have hS1 : Sl w0 Z (some ⟨s1, 0, none⟩) 6 (rows (exPort 6 3).farms) := by rw [hZ]; exact sl_own (i := 8) rfl (by intro row hr; obtain ⟨f, _, rfl⟩ := List.mem_map.1 hr; rfl) rfl
  have hP2 : Ats w0 Z b20 0 ((exPort 5 3).cells (some ⟨s2, 0, none⟩) 3) := by rw [hZ]; exact ats_own (i := 3) (vs := [_, _, _, _]) rfl rfl
  have hS2 : Sl w0 Z (some ⟨s2, 0, none⟩) 6 (rows (exPort 5 3).farms) := by rw [hZ]; exact sl_own (i := 7) rfl (by intro row hr; obtain ⟨f, _, rfl⟩ := List.mem_map.1 hr; rfl) rfl
  have hP3 : Ats w0 Z b23 0 ((exPort 6 2).cells (some ⟨s3, 0, none⟩) 3) := by rw [hZ]; exact ats_own (i := 2) (vs := [_, _, _, _]) rfl rfl
  have hS3 : Sl w0 Z (some ⟨s3, 0, none⟩) 6 (rows (exPort 6 2).farms) := by rw [hZ]; exact sl_own (i := 6) rfl (by intro row hr; obtain ⟨f, _, rfl⟩ := List.mem_map.1 hr; rfl) rfl
  have hP4 : Ats w0 Z b26 0 ((exPort 5 2).cells (some ⟨s4, 0, none⟩) 3) := by rw [hZ]; exact ats_own (i := 1) (vs := [_, _, _, _]) rfl rfl
  have hS4 : Sl w0 Z (some ⟨s4, 0, none⟩) 6 (rows (exPort 5 2).farms) := by rw [hZ]; exact sl_own (i := 5) rfl (by intro row hr; obtain ⟨f, _, rfl⟩ := List.mem_map.1 hr; rfl) rfl
  have hl5 : Sl w0 Z (some ⟨b39, 0, none⟩) 1 (([2, 3, -1] : List Int).map fun x => [Value.int .i64 x]) := by rw [hZ]; exact sl_own (i := 0) (rows := [[_], [_], [_]]) rfl (by simp) rfl
  refine w_region ?_
  refine w_pure want_none (y_loadN (vs := [_, _, _, _]) Try.isAgg26 Try.sizeOf26 hsZ rfl rfl hP2) rfl ?_
  refine w_pure want_none (y_move (v := .slice _ _ _) rfl rfl) rfl ?_
  refine w_call want_none Try.call18 rfl rfl rfl rfl ((c18 (exPort 5 3) (some ⟨s2, 0, none⟩) 3 (by decide) (by decide) hS2 (ex_nm _ _) (some ⟨b39, 0, none⟩) 3 [2, 3, -1] (by decide) hl5 hsZ).mono (fun v w' h => by rw [ex_q5] at h; rw [ex_q5v] at h;  exact h)) ?_
  rintro _ w45 ⟨B1, aq1, cq1, rfl, hq1, hs46⟩
  replace hs46 := (show St _ _ (B1 ++ (Z)) from hs46)
  refine w_pure want_none (y_move (v := .tuple _) rfl rfl) rfl ?_
  refine w_pure want_none (y_extract (v := .slice _ _ _) rfl rfl rfl) rfl ?_
  refine w_pure want_none (y_extract (v := .int _ _) rfl rfl rfl) rfl ?_
  refine w_pure want_none (y_assign (v := .slice _ _ _) rfl rfl) rfl ?_
  refine w_pure want_none (y_assign (v := .int _ _) rfl rfl) rfl ?_
  refine w_nil ?_
  refine q_then (hK42 _ _ ?_)
  refine w_seq (fun K48 hK47 => ?_)
  refine w_region ?_
  refine w_pure want_none (y_loadN (vs := [_, _, _, _]) Try.isAgg26 Try.sizeOf26 hs46.drop rfl rfl hP1) rfl ?_
  refine w_pure want_none (y_move (v := .slice _ _ _) rfl rfl) rfl ?_
  refine w_call want_none Try.call21 rfl rfl rfl rfl ((c21 (exPort 6 3) (some ⟨s1, 0, none⟩) 3 (by decide) (by decide) hS1.app (ex_nm _ _) (some ⟨b39, 0, none⟩) 3 [2, 3, -1] (by decide) hl5.app hs46).mono (fun v w' h => by rw [ex_f6] at h; rw [ex_q6] at h;  exact h)) ?_
  rintro _ w50 ⟨rfl, hs51⟩
  refine w_pure want_none (y_move (v := .tuple _) rfl rfl) rfl ?_
  refine w_pure want_none (y_extract (v := .int _ _) rfl rfl rfl) rfl ?_
  refine w_pure want_none (y_extract (v := .int _ _) rfl rfl rfl) rfl ?_
  refine w_pure want_none (y_assign (v := .int _ _) rfl rfl) rfl ?_
  refine w_pure want_none (y_assign (v := .int _ _) rfl rfl) rfl ?_
  refine w_nil ?_
  refine q_then (hK47 _ _ ?_)
  refine w_seq (fun K53 hK52 => ?_)
  refine w_region ?_
  refine w_pure want_none (y_loadN (vs := [_, _, _, _]) Try.isAgg26 Try.sizeOf26 hs51.drop rfl rfl hP2) rfl ?_
  refine w_pure want_none (y_move (v := .slice _ _ _) rfl rfl) rfl ?_
  refine w_call want_none Try.call21 rfl rfl rfl rfl ((c21 (exPort 5 3) (some ⟨s2, 0, none⟩) 3 (by decide) (by decide) hS2.app (ex_nm _ _) (some ⟨b39, 0, none⟩) 3 [2, 3, -1] (by decide) hl5.app hs51).mono (fun v w' h => by rw [ex_f5] at h; rw [ex_q5] at h;  exact h)) ?_
  rintro _ w55 ⟨rfl, hs56⟩
  refine w_pure want_none (y_move (v := .tuple _) rfl rfl) rfl ?_
  refine w_pure want_none (y_extract (v := .int _ _) rfl rfl rfl) rfl ?_
  refine w_pure want_none (y_extract (v := .int _ _) rfl rfl rfl) rfl ?_
  refine w_pure want_none (y_assign (v := .int _ _) rfl rfl) rfl ?_
  refine w_pure want_none (y_assign (v := .int _ _) rfl rfl) rfl ?_
  refine w_nil ?_
  refine q_then (hK52 _ _ ?_)
  refine w_seq (fun K58 hK57 => ?_)
  refine w_region ?_
  refine w_pure want_none (y_loadN (vs := [_, _, _, _]) Try.isAgg26 Try.sizeOf26 hs56.drop rfl rfl hP2) rfl ?_
  refine w_bslice (ps := [(0, _), (1, _), (2, _)]) (pv := [(0, .int _ _), (1, .int _ _), (2, .int _ _)]) (cs := [_, _, _]) want_none rfl rfl (fun w => Try_S_fb8 _ _ _ w) hs56 (fun b59 w60 hs61 => ?_)
  refine w_call want_none Try.call21 rfl rfl rfl rfl ((c21 (exPort 5 3) (some ⟨s2, 0, none⟩) 3 (by decide) (by decide) hS2.app.cons (ex_nm _ _) (some ⟨b59, 0, none⟩) 3 [-1, -1, 3] (by decide) (sl_own (i := 0) (rows := [[_], [_], [_]]) rfl (by simp) rfl) hs61).mono (fun v w' h => by rw [ex_f5b] at h; rw [ex_q5b] at h;  exact h)) ?_
  rintro _ w63 ⟨rfl, hs64⟩
  refine w_pure want_none (y_move (v := .tuple _) rfl rfl) rfl ?_
  refine w_pure want_none (y_extract (v := .int _ _) rfl rfl rfl) rfl ?_
  refine w_pure want_none (y_extract (v := .int _ _) rfl rfl rfl) rfl ?_
  refine w_pure want_none (y_assign (v := .int _ _) rfl rfl) rfl ?_
  refine w_pure want_none (y_assign (v := .int _ _) rfl rfl) rfl ?_
  refine w_nil ?_
  refine q_then (hK57 _ _ ?_)
  refine w_seq (fun K66 hK65 => ?_)
  refine w_region ?_
  refine w_pure want_none (y_loadN (vs := [_, _, _, _]) Try.isAgg26 Try.sizeOf26 hs64.tail.drop rfl rfl hP2) rfl ?_
  refine w_pure want_none (y_move (v := .slice _ _ _) rfl rfl) rfl ?_
  refine w_call want_none Try.call24 rfl rfl rfl rfl ((c24 (exPort 5 3) (some ⟨s2, 0, none⟩) 3 (by decide) (by decide) hS2.app.cons (ex_nm _ _) (some ⟨b39, 0, none⟩) 3 [2, 3, -1] (by decide) hl5.app.cons hs64).mono (fun v w' h => by rw [ex_v5] at h; rw [ex_q5] at h;  exact h)) ?_
  rintro _ w68 ⟨rfl, hs69⟩
  refine w_pure want_none (y_move (v := .tuple _) rfl rfl) rfl ?_
  refine w_pure want_none (y_extract (v := .int _ _) rfl rfl rfl) rfl ?_
  refine w_pure want_none (y_extract (v := .int _ _) rfl rfl rfl) rfl ?_
  refine w_pure want_none (y_assign (v := .int _ _) rfl rfl) rfl ?_
  refine w_pure want_none (y_assign (v := .int _ _) rfl rfl) rfl ?_
  refine w_nil ?_
  refine q_then (hK65 _ _ ?_)
  refine w_seq (fun K71 hK70 => ?_)
  refine w_region ?_
  refine w_pure want_none (y_loadN (vs := [_, _, _, _]) Try.isAgg26 Try.sizeOf26 hs69.tail.drop rfl rfl hP1) rfl ?_
  refine w_call want_none Try.call26 rfl rfl rfl rfl ((c26 (exPort 6 3) (some ⟨s1, 0, none⟩) 3 (by decide) (by decide) hS1.app.cons (ex_nm _ _) hs69).mono (fun v w' h => by rw [ex_p6] at h; rw [ex_p6v] at h; rw [ex_p6e] at h;  exact h)) ?_
  rintro _ w73 ⟨B2, aq2, cq2, rfl, hq2, hs74⟩
  replace hs74 := (show St _ _ (B2 ++ (_ :: B1 ++ (Z))) from hs74)
  refine w_pure want_none (y_move (v := .tuple _) rfl rfl) rfl ?_
  refine w_pure want_none (y_extract (v := .slice _ _ _) rfl rfl rfl) rfl ?_
  refine w_pure want_none (y_extract (v := .int _ _) rfl rfl rfl) rfl ?_
  refine w_pure want_none (y_extract (v := .int _ _) rfl rfl rfl) rfl ?_
  refine w_pure want_none (y_assign (v := .slice _ _ _) rfl rfl) rfl ?_
  refine w_pure want_none (y_assign (v := .int _ _) rfl rfl) rfl ?_
  refine w_pure want_none (y_assign (v := .int _ _) rfl rfl) rfl ?_
  refine w_nil ?_
  refine q_then (hK70 _ _ ?_)
  refine w_seq (fun K76 hK75 => ?_)
  refine w_region ?_
  refine w_pure want_none (y_loadN (vs := [_, _, _, _]) Try.isAgg26 Try.sizeOf26 hs74.drop.tail.drop rfl rfl hP2) rfl ?_
  refine w_call want_none Try.call26 rfl rfl rfl rfl ((c26 (exPort 5 3) (some ⟨s2, 0, none⟩) 3 (by decide) (by decide) hS2.app.cons.app (ex_nm _ _) hs74).mono (fun v w' h => by rw [ex_p5] at h; rw [ex_p5v] at h; rw [ex_p5e] at h;  exact h)) ?_
  rintro _ w78 ⟨B3, aq3, cq3, rfl, hq3, hs79⟩
  replace hs79 := (show St _ _ (B3 ++ (B2 ++ (_ :: B1 ++ (Z)))) from hs79)
  refine w_pure want_none (y_move (v := .tuple _) rfl rfl) rfl ?_
  refine w_pure want_none (y_extract (v := .slice _ _ _) rfl rfl rfl) rfl ?_
  refine w_pure want_none (y_extract (v := .int _ _) rfl rfl rfl) rfl ?_
  refine w_pure want_none (y_extract (v := .int _ _) rfl rfl rfl) rfl ?_
  refine w_pure want_none (y_assign (v := .slice _ _ _) rfl rfl) rfl ?_
  refine w_pure want_none (y_assign (v := .int _ _) rfl rfl) rfl ?_
  refine w_pure want_none (y_assign (v := .int _ _) rfl rfl) rfl ?_
  refine w_nil ?_
  refine q_then (hK75 _ _ ?_)
  refine w_seq (fun K81 hK80 => ?_)
  refine w_region ?_
  refine w_pure want_none (y_loadN (vs := [_, _, _, _]) Try.isAgg26 Try.sizeOf26 hs79.drop.drop.tail.drop rfl rfl hP4) rfl ?_
  refine w_call want_none Try.call26 rfl rfl rfl rfl ((c26 (exPort 5 2) (some ⟨s4, 0, none⟩) 3 (by decide) (by decide) hS4.app.cons.app.app (ex_nm _ _) hs79).mono (fun v w' h => by rw [ex_t5] at h; rw [ex_t5v] at h; rw [ex_t5e] at h;  exact h)) ?_
  rintro _ w83 ⟨B4, aq4, cq4, rfl, hq4, hs84⟩
  replace hs84 := (show St _ _ (B4 ++ (B3 ++ (B2 ++ (_ :: B1 ++ (Z))))) from hs84)
  refine w_pure want_none (y_move (v := .tuple _) rfl rfl) rfl ?_
  refine w_pure want_none (y_extract (v := .slice _ _ _) rfl rfl rfl) rfl ?_
  refine w_pure want_none (y_extract (v := .int _ _) rfl rfl rfl) rfl ?_
  refine w_pure want_none (y_extract (v := .int _ _) rfl rfl rfl) rfl ?_
  refine w_pure want_none (y_assign (v := .slice _ _ _) rfl rfl) rfl ?_
  refine w_pure want_none (y_assign (v := .int _ _) rfl rfl) rfl ?_
  refine w_pure want_none (y_assign (v := .int _ _) rfl rfl) rfl ?_
  refine w_nil ?_
  refine q_then (hK80 _ _ ?_)
  refine w_seq (fun K86 hK85 => ?_)
  refine w_region ?_
  refine w_pure want_none (y_loadN (vs := [_, _, _, _]) Try.isAgg26 Try.sizeOf26 hs84.drop.drop.drop.tail.drop rfl rfl hP3) rfl ?_
  refine w_call want_none Try.call29 rfl rfl rfl rfl ((c29 (exPort 6 2) (some ⟨s3, 0, none⟩) 3 (by decide) (by decide) hS3.app.cons.app.app.app (ex_nm _ _) 0 hs84).mono (fun v w' h => by rw [ex_h60] at h; rw [ex_h60e] at h;  exact h)) ?_
  rintro _ w88 ⟨rfl, hs89⟩
  refine w_pure want_none (y_move (v := .tuple _) rfl rfl) rfl ?_
  refine w_pure want_none (y_extract (v := .int _ _) rfl rfl rfl) rfl ?_
  refine w_pure want_none (y_extract (v := .int _ _) rfl rfl rfl) rfl ?_
  refine w_pure want_none (y_assign (v := .int _ _) rfl rfl) rfl ?_
  refine w_pure want_none (y_assign (v := .int _ _) rfl rfl) rfl ?_
  refine w_nil ?_
  refine q_then (hK85 _ _ ?_)
  refine w_seq (fun K91 hK90 => ?_)
  refine w_region ?_
  refine w_pure want_none (y_loadN (vs := [_, _, _, _]) Try.isAgg26 Try.sizeOf26 hs89.drop.drop.drop.tail.drop rfl rfl hP4) rfl ?_
  refine w_call want_none Try.call31 rfl rfl rfl rfl ((c31 (exPort 5 2) (some ⟨s4, 0, none⟩) 3 (by decide) (by decide) hS4.app.cons.app.app.app (ex_nm _ _) hs89).mono (fun v w' h => by rw [ex_e5] at h;  exact h)) ?_
  rintro _ w93 ⟨rfl, hs94⟩
  refine w_pure want_none (y_move (v := .tuple _) rfl rfl) rfl ?_
  refine w_pure want_none (y_extract (v := .int _ _) rfl rfl rfl) rfl ?_
  refine w_pure want_none (y_extract (v := .int _ _) rfl rfl rfl) rfl ?_
  refine w_pure want_none (y_extract (v := .int _ _) rfl rfl rfl) rfl ?_
  refine w_pure want_none (y_assign (v := .int _ _) rfl rfl) rfl ?_
  refine w_pure want_none (y_assign (v := .int _ _) rfl rfl) rfl ?_
  refine w_pure want_none (y_assign (v := .int _ _) rfl rfl) rfl ?_
  refine w_nil ?_
  refine q_then (hK90 _ _ ?_)
  refine w_seq (fun K96 hK95 => ?_)
  refine w_region ?_
  refine w_pure want_none (y_loadN (vs := [_, _, _, _]) Try.isAgg26 Try.sizeOf26 hs94.drop.drop.drop.tail.drop rfl rfl hP1) rfl ?_
  refine w_call want_none Try.call31 rfl rfl rfl rfl ((c31 (exPort 6 3) (some ⟨s1, 0, none⟩) 3 (by decide) (by decide) hS1.app.cons.app.app.app (ex_nm _ _) hs94).mono (fun v w' h => by rw [ex_e6] at h;  exact h)) ?_
  rintro _ w98 ⟨rfl, hs99⟩
  refine w_pure want_none (y_move (v := .tuple _) rfl rfl) rfl ?_
  refine w_pure want_none (y_extract (v := .int _ _) rfl rfl rfl) rfl ?_
  refine w_pure want_none (y_extract (v := .int _ _) rfl rfl rfl) rfl ?_
  refine w_pure want_none (y_extract (v := .int _ _) rfl rfl rfl) rfl ?_
  refine w_pure want_none (y_assign (v := .int _ _) rfl rfl) rfl ?_
  refine w_pure want_none (y_assign (v := .int _ _) rfl rfl) rfl ?_
  refine w_pure want_none (y_assign (v := .int _ _) rfl rfl) rfl ?_
  refine w_nil ?_
  refine q_then (hK95 _ _ ?_)
  refine w_seq (fun K101 hK100 => ?_)
  refine w_region ?_
  refine w_pure want_none (y_loadN (vs := [_, _, _, _]) Try.isAgg26 Try.sizeOf26 hs99.drop.drop.drop.tail.drop rfl rfl hP2) rfl ?_
  refine w_call want_none Try.call33 rfl rfl rfl rfl ((c33 (exPort 5 3) (some ⟨s2, 0, none⟩) 3 (by decide) (by decide) hS2.app.cons.app.app.app (ex_nm _ _) 3 hs99).mono (fun v w' h => by rw [ex_t3] at h; rw [ex_t3e] at h;  exact h)) ?_
  rintro _ w103 ⟨rfl, hs104⟩
  refine w_pure want_none (y_move (v := .tuple _) rfl rfl) rfl ?_
  refine w_pure want_none (y_extract (v := .int _ _) rfl rfl rfl) rfl ?_
  refine w_pure want_none (y_extract (v := .int _ _) rfl rfl rfl) rfl ?_
  refine w_pure want_none (y_assign (v := .int _ _) rfl rfl) rfl ?_
  refine w_pure want_none (y_assign (v := .int _ _) rfl rfl) rfl ?_
  refine w_nil ?_
  refine q_then (hK100 _ _ ?_)
  refine w_seq (fun K106 hK105 => ?_)
  refine w_region ?_
  refine w_pure want_none (y_loadN (vs := [_, _, _, _]) Try.isAgg26 Try.sizeOf26 hs104.drop.drop.drop.tail.drop rfl rfl hP1) rfl ?_
  refine w_call want_none Try.call29 rfl rfl rfl rfl ((c29 (exPort 6 3) (some ⟨s1, 0, none⟩) 3 (by decide) (by decide) hS1.app.cons.app.app.app (ex_nm _ _) 3 hs104).mono (fun v w' h => by rw [ex_h63] at h; rw [ex_h63e] at h;  exact h)) ?_
  rintro _ w108 ⟨rfl, hs109⟩
  refine w_pure want_none (y_move (v := .tuple _) rfl rfl) rfl ?_
  refine w_pure want_none (y_extract (v := .int _ _) rfl rfl rfl) rfl ?_
  refine w_pure want_none (y_extract (v := .int _ _) rfl rfl rfl) rfl ?_
  refine w_pure want_none (y_assign (v := .int _ _) rfl rfl) rfl ?_
  refine w_pure want_none (y_assign (v := .int _ _) rfl rfl) rfl ?_
  refine w_nil ?_
  refine q_then (hK105 _ _ ?_)
  refine w_seq (fun K111 hK110 => ?_)
  refine w_region ?_
  refine w_pure want_none (y_move (v := .int _ _) rfl rfl) rfl ?_
  refine w_pure want_none (y_eql rfl rfl rfl rfl) rfl ?_
  refine w_pure want_none (y_move (v := .bool _) rfl rfl) rfl ?_
  refine w_pure (want_yes rfl rfl rfl) (y_move (v := .int _ _) rfl rfl) rfl ?_
  refine w_pure (want_yes rfl rfl rfl) (y_eql rfl rfl rfl rfl) rfl ?_
  refine w_pure want_none (y_pickT (v := .bool _) rfl rfl rfl rfl) rfl ?_
  refine w_pure want_none (y_move (v := .bool _) rfl rfl) rfl ?_
  refine w_pure (want_yes rfl rfl rfl) (y_move (v := .int _ _) rfl rfl) rfl ?_
  refine w_pure (want_yes rfl rfl rfl) (y_eql rfl rfl rfl rfl) rfl ?_
  refine w_pure want_none (y_pickT (v := .bool _) rfl rfl rfl rfl) rfl ?_
  refine w_pure want_none (y_move (v := .bool _) rfl rfl) rfl ?_
  refine w_pure (want_yes rfl rfl rfl) (y_move (v := .int _ _) rfl rfl) rfl ?_
  refine w_pure (want_yes rfl rfl rfl) (y_eql rfl rfl rfl rfl) rfl ?_
  refine w_pure want_none (y_pickT (v := .bool _) rfl rfl rfl rfl) rfl ?_
  refine w_pure want_none (y_move (v := .bool _) rfl rfl) rfl ?_
  refine w_pure (want_yes rfl rfl rfl) (y_move (v := .int _ _) rfl rfl) rfl ?_
  refine w_pure (want_yes rfl rfl rfl) (y_eql rfl rfl rfl rfl) rfl ?_
  refine w_pure want_none (y_pickT (v := .bool _) rfl rfl rfl rfl) rfl ?_
  refine w_pure want_none (y_move (v := .bool _) rfl rfl) rfl ?_
  refine w_pure (want_yes rfl rfl rfl) (y_move (v := .int _ _) rfl rfl) rfl ?_
  refine w_pure (want_yes rfl rfl rfl) (y_eql rfl rfl rfl rfl) rfl ?_
  refine w_pure want_none (y_pickT (v := .bool _) rfl rfl rfl rfl) rfl ?_
  refine w_pure want_none (y_move (v := .bool _) rfl rfl) rfl ?_
  refine w_pure (want_yes rfl rfl rfl) (y_move (v := .int _ _) rfl rfl) rfl ?_
  refine w_pure (want_yes rfl rfl rfl) (y_eql rfl rfl rfl rfl) rfl ?_
  refine w_pure want_none (y_pickT (v := .bool _) rfl rfl rfl rfl) rfl ?_
  refine w_pure want_none (y_move (v := .bool _) rfl rfl) rfl ?_
  refine w_pure (want_yes rfl rfl rfl) (y_move (v := .int _ _) rfl rfl) rfl ?_
  refine w_pure (want_yes rfl rfl rfl) (y_eql rfl rfl rfl rfl) rfl ?_
  refine w_pure want_none (y_pickT (v := .bool _) rfl rfl rfl rfl) rfl ?_
  refine w_pure want_none (y_move (v := .bool _) rfl rfl) rfl ?_
  refine w_pure (want_yes rfl rfl rfl) (y_move (v := .int _ _) rfl rfl) rfl ?_
  refine w_pure (want_yes rfl rfl rfl) (y_eql rfl rfl rfl rfl) rfl ?_
  refine w_pure want_none (y_pickT (v := .bool _) rfl rfl rfl rfl) rfl ?_
  refine w_pure want_none (y_move (v := .bool _) rfl rfl) rfl ?_
  refine w_pure (want_yes rfl rfl rfl) (y_move (v := .int _ _) rfl rfl) rfl ?_
  refine w_pure (want_yes rfl rfl rfl) (y_eql rfl rfl rfl rfl) rfl ?_
  refine w_pure want_none (y_pickT (v := .bool _) rfl rfl rfl rfl) rfl ?_
  refine w_pure want_none (y_move (v := .bool _) rfl rfl) rfl ?_
  refine w_pure (want_yes rfl rfl rfl) (y_move (v := .int _ _) rfl rfl) rfl ?_
  refine w_pure (want_yes rfl rfl rfl) (y_eql rfl rfl rfl rfl) rfl ?_
  refine w_pure want_none (y_pickT (v := .bool _) rfl rfl rfl rfl) rfl ?_
  refine w_pure want_none (y_move (v := .bool _) rfl rfl) rfl ?_
  refine w_pure (want_yes rfl rfl rfl) (y_move (v := .int _ _) rfl rfl) rfl ?_
  refine w_pure (want_yes rfl rfl rfl) (y_eql rfl rfl rfl rfl) rfl ?_
  refine w_pure want_none (y_pickT (v := .bool _) rfl rfl rfl rfl) rfl ?_
  refine w_pure want_none (y_move (v := .bool _) rfl rfl) rfl ?_
  refine w_pure (want_yes rfl rfl rfl) (y_move (v := .int _ _) rfl rfl) rfl ?_
  refine w_pure (want_yes rfl rfl rfl) (y_eql rfl rfl rfl rfl) rfl ?_
  refine w_pure want_none (y_pickT (v := .bool _) rfl rfl rfl rfl) rfl ?_
  refine w_pure want_none (y_move (v := .bool _) rfl rfl) rfl ?_
  refine w_pure (want_yes rfl rfl rfl) (y_move (v := .slice _ _ _) rfl rfl) rfl ?_
  refine w_call (want_yes rfl rfl rfl) Try.call36 rfl rfl rfl rfl (c36 _ _ hs109) ?_
  rintro _ w113 ⟨rfl, hs114⟩
  refine w_call (want_yes rfl rfl rfl) Try.call36 rfl rfl rfl rfl (c36 _ _ hs114) ?_
  rintro _ w116 ⟨rfl, hs117⟩
  refine w_call (want_yes rfl rfl rfl) Try.call36 rfl rfl rfl rfl (c36 _ _ hs117) ?_
  rintro _ w119 ⟨rfl, hs120⟩
  refine w_call (want_yes rfl rfl rfl) Try.call36 rfl rfl rfl rfl (c36 _ _ hs120) ?_
  rintro _ w122 ⟨rfl, hs123⟩
  refine w_bslice (ps := [(0, _), (1, _), (2, _), (3, _)]) (pv := [(0, .agg #[.int _ _, .int _ _]), (1, .agg #[.int _ _, .int _ _]), (2, .agg #[.int _ _, .int _ _]), (3, .agg #[.int _ _, .int _ _])]) (cs := [_, _, _, _, _, _, _, _]) (want_yes rfl rfl rfl) rfl rfl (fun w => Try_S_fb9 _ _ _ _ _ _ _ _ w) hs123 (fun b124 w125 hs126 => ?_)
  refine w_call (want_yes rfl rfl rfl) Try.call20 rfl rfl rfl rfl (con_true (c20 _ _ [[20, 25], [50, 55], [50, 55], [50, 55]] [[20, 25], [50, 55], [50, 55], [50, 55]] _ _ (by decide) (by decide) hq1.cons.app.app.app.cons (sl_own (i := 0) (rows := [[_, _], [_, _], [_, _], [_, _]]) rfl (by simp) rfl) hs126) (by decide)) ?_
  rintro _ w128 ⟨rfl, hs129⟩
  refine w_pure want_none (y_pickT (v := .bool _) rfl rfl rfl rfl) rfl ?_
  refine w_pure want_none (y_move (v := .bool _) rfl rfl) rfl ?_
  refine w_pure (want_yes rfl rfl rfl) (y_move (v := .int _ _) rfl rfl) rfl ?_
  refine w_pure (want_yes rfl rfl rfl) (y_eql rfl rfl rfl rfl) rfl ?_
  refine w_pure want_none (y_pickT (v := .bool _) rfl rfl rfl rfl) rfl ?_
  refine w_pure want_none (y_move (v := .bool _) rfl rfl) rfl ?_
  refine w_pure (want_yes rfl rfl rfl) (y_move (v := .int _ _) rfl rfl) rfl ?_
  refine w_pure (want_yes rfl rfl rfl) (y_eql rfl rfl rfl rfl) rfl ?_
  refine w_pure want_none (y_pickT (v := .bool _) rfl rfl rfl rfl) rfl ?_
  refine w_pure want_none (y_move (v := .bool _) rfl rfl) rfl ?_
  refine w_pure (want_yes rfl rfl rfl) (y_move (v := .int _ _) rfl rfl) rfl ?_
  refine w_pure (want_yes rfl rfl rfl) (y_eql rfl rfl rfl rfl) rfl ?_
  refine w_pure want_none (y_pickT (v := .bool _) rfl rfl rfl rfl) rfl ?_
  refine w_pure want_none (y_move (v := .bool _) rfl rfl) rfl ?_
  refine w_pure (want_yes rfl rfl rfl) (y_move (v := .int _ _) rfl rfl) rfl ?_
  refine w_pure (want_yes rfl rfl rfl) (y_eql rfl rfl rfl rfl) rfl ?_
  refine w_pure want_none (y_pickT (v := .bool _) rfl rfl rfl rfl) rfl ?_
  refine w_pure want_none (y_move (v := .bool _) rfl rfl) rfl ?_
  refine w_pure (want_yes rfl rfl rfl) (y_move (v := .slice _ _ _) rfl rfl) rfl ?_
  refine w_pure (want_yes rfl rfl rfl) (y_move (v := .slice _ _ _) rfl rfl) rfl ?_
  refine w_call (want_yes rfl rfl rfl) Try.call28 rfl rfl rfl rfl (con_true (c28 _ _ [2, 3, -1] [2, 3, -1] _ _ (by decide) hq2.app.app.cons hl5.app.cons.app.app.app.cons hs129) (by decide)) ?_
  rintro _ w131 ⟨rfl, hs132⟩
  refine w_pure want_none (y_pickT (v := .bool _) rfl rfl rfl rfl) rfl ?_
  refine w_pure want_none (y_move (v := .bool _) rfl rfl) rfl ?_
  refine w_pure (want_yes rfl rfl rfl) (y_move (v := .int _ _) rfl rfl) rfl ?_
  refine w_pure (want_yes rfl rfl rfl) (y_eql rfl rfl rfl rfl) rfl ?_
  refine w_pure want_none (y_pickT (v := .bool _) rfl rfl rfl rfl) rfl ?_
  refine w_pure want_none (y_move (v := .bool _) rfl rfl) rfl ?_
  refine w_pure (want_yes rfl rfl rfl) (y_move (v := .slice _ _ _) rfl rfl) rfl ?_
  refine w_bslice (ps := [(0, _), (1, _), (2, _)]) (pv := [(0, .int _ _), (1, .int _ _), (2, .int _ _)]) (cs := [_, _, _]) (want_yes rfl rfl rfl) rfl rfl (fun w => Try_S_fb8 _ _ _ w) hs132 (fun b133 w134 hs135 => ?_)
  refine w_call (want_yes rfl rfl rfl) Try.call28 rfl rfl rfl rfl (con_true (c28 _ _ [2, 0, 3] [2, 0, 3] _ _ (by decide) hq3.app.cons.cons (sl_own (i := 0) (rows := [[_], [_], [_]]) rfl (by simp) rfl) hs135) (by decide)) ?_
  rintro _ w137 ⟨rfl, hs138⟩
  refine w_pure want_none (y_pickT (v := .bool _) rfl rfl rfl rfl) rfl ?_
  refine w_pure want_none (y_move (v := .bool _) rfl rfl) rfl ?_
  refine w_pure (want_yes rfl rfl rfl) (y_move (v := .int _ _) rfl rfl) rfl ?_
  refine w_pure (want_yes rfl rfl rfl) (y_eql rfl rfl rfl rfl) rfl ?_
  refine w_pure want_none (y_pickT (v := .bool _) rfl rfl rfl rfl) rfl ?_
  refine w_pure want_none (y_move (v := .bool _) rfl rfl) rfl ?_
  refine w_pure (want_yes rfl rfl rfl) (y_move (v := .int _ _) rfl rfl) rfl ?_
  refine w_pure (want_yes rfl rfl rfl) (y_eql rfl rfl rfl rfl) rfl ?_
  refine w_pure want_none (y_pickT (v := .bool _) rfl rfl rfl rfl) rfl ?_
  refine w_pure want_none (y_move (v := .bool _) rfl rfl) rfl ?_
  refine w_pure (want_yes rfl rfl rfl) (y_move (v := .int _ _) rfl rfl) rfl ?_
  refine w_pure (want_yes rfl rfl rfl) (y_eql rfl rfl rfl rfl) rfl ?_
  refine w_pure want_none (y_pickT (v := .bool _) rfl rfl rfl rfl) rfl ?_
  refine w_pure want_none (y_move (v := .bool _) rfl rfl) rfl ?_
  refine w_pure (want_yes rfl rfl rfl) (y_move (v := .int _ _) rfl rfl) rfl ?_
  refine w_pure (want_yes rfl rfl rfl) (y_eql rfl rfl rfl rfl) rfl ?_
  refine w_pure want_none (y_pickT (v := .bool _) rfl rfl rfl rfl) rfl ?_
  refine w_pure want_none (y_move (v := .bool _) rfl rfl) rfl ?_
  refine w_pure (want_yes rfl rfl rfl) (y_move (v := .int _ _) rfl rfl) rfl ?_
  refine w_pure (want_yes rfl rfl rfl) (y_eql rfl rfl rfl rfl) rfl ?_
  refine w_pure want_none (y_pickT (v := .bool _) rfl rfl rfl rfl) rfl ?_
  refine w_pure want_none (y_assign (v := .bool _) rfl rfl) rfl ?_
  refine w_nil ?_
  refine q_then (hK110 _ _ ?_)
  refine w_ret ?_
  refine q_ret (l := [.tmp 0]) (vs := [_]) rfl ⟨⟨rfl, show _ = (.bool _ : Value) from rfl⟩, trivial⟩ ?_
  exact ⟨rfl, (St.cast hZ hs138.tail.tail.drop.drop.drop.tail.drop).tail.tail.tail.tail.tail.tail.tail.tail.tail⟩

end Go.Proofs
