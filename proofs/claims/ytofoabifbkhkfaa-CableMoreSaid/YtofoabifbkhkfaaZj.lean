/- Walks of this seat, printed by gen.py over the engine: what each function returns, in whatever world. No conditions but those of each contract. -/
import Derived.Test.YtofoabifbkhkfaaZc
import Derived.Test.YtofoabifbkhkfaaEng9
set_option linter.unusedVariables false
set_option linter.unusedSimpArgs false
set_option maxRecDepth 20000
namespace Go.Proofs
open Go.Rt
attribute [local irreducible] WL WC Con Yd At Ats Sl Agree DW
theorem Try_Zj_fb9  (w : World) : (Instr.buildSlice 24 0 [].toArray).run Try.prog w = .ok (.slice (some ⟨w.heap.size, 0, none⟩) 0 0) (w.alloc (Go.Rt.blk 60 [])) := by kernel_rfl
theorem Try_Zj_fb10 (x0 : ByteArray) (x1 : Int) (x2 : Int) (x3 : Int) (x4 : Int) (x5 : Int) (w : World) : (Instr.buildSlice 24 1 [(0, .agg #[.string x0, .int .i64 x1, .int .i64 x2, .int .i64 x3, .int .i64 x4, .int .i64 x5])].toArray).run Try.prog w = .ok (.slice (some ⟨w.heap.size, 0, none⟩) 1 1) (w.alloc (Go.Rt.blk 60 [.string x0, .int .i64 x1, .int .i64 x2, .int .i64 x3, .int .i64 x4, .int .i64 x5])) := by kernel_rfl
theorem ats_of {w0 w : World} {L : List (Nat × Obj)} {b i off : Nat} {t : TypeId} {cs vs : List Value} (_hs : St w0 w L) (hi : L[i]? = some (b, blk t cs)) (hv : (cs.drop off).take vs.length = vs) : Ats w0 L b off vs := ats_own hi hv
theorem more_own {v : Value} {p : Port} {f : Farm} {B : List (Nat × Obj)} (h : Rt.Own v 60 6 (0 + p.farms.length + 1) ([] ++ (rows p.farms).flatten ++ [f.cells].flatten) B) : Rt.Own v 60 6 (moreP p f).farms.length (rows (moreP p f).farms).flatten B := by
  have e1 : (moreP p f).farms.length = 0 + p.farms.length + 1 := by simp [moreP]
  have e2 : (rows (moreP p f).farms).flatten = [] ++ (rows p.farms).flatten ++ [f.cells].flatten := by simp [moreP, rows]
  rw [e1, e2]; exact h
theorem c14 {w0 w : World} {F : List (Nat × Obj)} (p : Port) (a : Option Addr) (c : Nat) (hl3 : p.farms.length ≤ 9223372036854775807) (hnil : a = none → c = 0) (hby : p.farms.length * 56 ≤ 140737488351232) (hc : p.farms.length ≤ c) (ha : Sl w0 F a 6 (rows p.farms)) (hnm : ∀ f ∈ p.farms, f.name.size ≤ 9223372036854775807) (f : Farm) (hfn : f.name.size ≤ 9223372036854775807) (d : Int) (hd : 0 ≤ d ∧ d ≤ 255) (hs : St w0 w F) :
  Con Try.prog 14 [.agg (p.cells a c).toArray, .agg f.cells.toArray, .int .u8 d] w fun v w' => v = .bool true ∧ St w0 w' F := by
  refine con_of_wc (n := 105) Try.func14 rfl rfl (Nat.le_of_ble_eq_true rfl) ?_
  refine w_seq (fun K2 hK1 => ?_)
  refine w_region ?_
  refine w_box (v := .agg #[.int _ _, .int _ _, .int _ _, .slice _ _ _]) (cs := [_, _, _, _]) want_none rfl rfl rfl hs (fun b3 w4 hs5 => ?_)
  refine w_box (v := .agg #[.string _, .int _ _, .int _ _, .int _ _, .int _ _, .int _ _]) (cs := [_, _, _, _, _, _]) want_none rfl rfl rfl hs5 (fun b6 w7 hs8 => ?_)
  refine w_pure want_none (y_assign (v := _) rfl rfl) rfl ?_
  refine w_nil ?_
  refine q_then (hK1 _ _ ?_)
  refine w_seq (fun K10 hK9 => ?_)
  have hbx3 : Ats w0 ((b3, blk 26 (p.cells a c)) :: F) b3 0 (p.cells a c) := ats_own (i := 0) (vs := (p.cells a c)) rfl rfl
  have hbx4 : Ats w0 ((b6, blk 60 f.cells) :: (b3, blk 26 (p.cells a c)) :: F) b6 0 f.cells := ats_own (i := 0) (vs := f.cells) rfl rfl
  refine w_region ?_
  refine w_pure want_none (y_loadN (vs := [_, _, _, _]) Try.isAgg26 Try.sizeOf26 hs8.tail rfl rfl hbx3) rfl ?_
  refine w_alloc (cs := [_, _, _, _]) want_none Try.zeroValue26 rfl hs8 (fun b11 w12 hs13 => ?_)
  refine w_store (i := 0) (v := .agg #[.int _ _, .int _ _, .int _ _, .slice _ _ _]) (vs := [_, _, _, _]) want_none Try.sizeOf26 rfl rfl rfl rfl rfl (by simp [Value.oneCell']) hs13 rfl (Nat.le_of_ble_eq_true rfl) (fun w14 hs15 => ?_)
  refine w_nil ?_
  refine q_then (hK9 _ _ ?_)
  refine w_seq (fun K17 hK16 => ?_)
  refine w_drawT (C := fun w => St w0 w _) [8] (.two [(1, 0), (2, 1), (4, 1)] 0 5 (.two [] 3 5 (.done [(5, 2), (6, 2), (7, 0), (8, 3)]) (.done [(3, 2), (6, 2), (7, 0), (8, 3)])) (.done [(0, 2), (3, 2), (6, 2), (7, 0), (8, 3)])) Try_mo (by kernel_rfl) hs15 (fun _ h => h.drew) (fun w18 hs19 => ?_)
  refine dt_two ?_
  refine d_any rfl want_none rfl (fun _ => (y_fieldAddr (o := 3) (i := 2) Try.underlying26 rfl Try.sizeOf24 rfl rfl rfl)) ?_
  refine d_take rfl want_none rfl hs19 (fun _ hq => (y_load1 Try.isAgg24 hq.tail.tail rfl rfl (show Ats _ _ _ _ [_] from Ats.part hbx3 3 1))) ?_
  refine d_take rfl want_none rfl hs19 (fun _ hq => (y_loadN (vs := [_, _, _, _, _, _]) Try.isAgg60 Try.sizeOf60 hq.tail rfl rfl hbx4)) ?_
  refine d_two rfl rfl ?_ ?_
  ·
    refine w_bslice (ps := []) (pv := []) (cs := []) want_none rfl rfl (fun w => Try_Zj_fb9  w) hs19 (fun b20 w21 hs22 => ?_)
    refine w_nil ?_
    refine qn ⟨hs22.tail, ?_⟩
    refine dt_two ?_
    refine d_two rfl rfl ?_ ?_
    ·
      refine w_append (X := ([])) (B := [_]) (rows := (rows p.farms)) (sz := 6) (bytes := 56) want_none Try.underlying24 Try_info60 rfl rfl rfl rfl rfl rfl rfl rfl rfl hs22 own_made ha.cons.cons.cons.cons (by simp [rows]) hnil (rows_one p.farms) (by simp only [maxLen]; omega) (by omega) (fun v23 w24 B25 ho26 hs27 => ?_)
      replace hs27 := (show St _ _ (B25 ++ (_ :: _ :: _ :: F)) from hs27)
      refine w_nil ?_
      refine qn ⟨hs27.drop, ?_⟩
      refine dt_done ?_
      refine d_eff rfl ?_
      refine w_bslice (ps := [(0, _)]) (pv := [(0, .agg #[.string _, .int _ _, .int _ _, .int _ _, .int _ _, .int _ _])]) (cs := [_, _, _, _, _, _]) want_none rfl rfl (fun w => Try_Zj_fb10 _ _ _ _ _ _ w) hs27 (fun b28 w29 hs30 => ?_)
      refine w_nil ?_
      refine qn ⟨hs30.tail.drop, ?_⟩
      refine d_eff rfl ?_
      refine w_append (X := (_ :: [])) (B := B25) (rows := [f.cells]) (sz := 6) (bytes := 56) want_none Try.underlying24 Try_info60 rfl rfl rfl rfl rfl rfl rfl rfl rfl hs30 ho26 (sl_own (i := 0) rfl (by simp [Farm.cells]) rfl) rfl (by simp) (by simp [Value.oneCell', Farm.cells]) (by simp only [maxLen]; omega) (by omega) (fun v31 w32 B33 ho34 hs35 => ?_)
      replace hs35 := (show St _ _ (_ :: B33 ++ (_ :: _ :: _ :: F)) from hs35)
      refine w_nil ?_
      refine qn ⟨hs35.tail.drop, ?_⟩
      refine d_any rfl want_none rfl (fun _ => (y_fieldAddr (o := 3) (i := 2) Try.underlying26 rfl Try.sizeOf24 rfl rfl rfl)) ?_
      have hmo := more_own (p := p) (f := f) ho34
      obtain ⟨bc, cap, cs0, rfl, rfl, hcap, hcl0, hcs0⟩ := own_some hmo (by simp [moreP])
      replace hs35 := (show St _ _ (_ :: _ :: _ :: _ :: _ :: F) from hs35)
      refine d_late rfl ?_
      refine w_store (i := 2) (v := .slice _ _ _) (vs := [_]) want_none Try.sizeOf24 rfl rfl rfl rfl rfl (by simp [Value.oneCell']) hs35 rfl (Nat.le_of_ble_eq_true rfl) (fun w36 hs37 => ?_)
      refine w_nil ?_
      refine qn ?_
      refine d_nil ?_
      refine q_then (hK16 _ _ ?_)
      refine w_seq (fun K39 hK38 => ?_)
      refine w_seq (fun K41 hK40 => ?_)
      have hb7 := ats_of hs37 (i := 2) (off := 0) (vs := [_, _, _, _]) rfl rfl
      have hsz : Sl w0 _ (some ⟨bc, 0, none⟩) 6 (rows (moreP p f).farms) := (fun {L : List (Nat × Obj)} (hs : St w0 _ L) (h : L[1]? = some (bc, blk 60 _)) => sl_own_rows (w0 := w0) h rfl hcs0) hs37 rfl
      have hnm2 : ∀ g ∈ (moreP p f).farms, g.name.size ≤ 9223372036854775807 := by
        intro g hg
        rcases List.mem_append.1 hg with h | h
        · exact hnm g h
        · rw [List.mem_singleton] at h; subst h; exact hfn
      have hml : (moreP p f).farms.length = p.farms.length + 1 := by simp [moreP]
      refine w_region ?_
      refine w_pure want_none (y_loadN (vs := [_, _, _, _]) Try.isAgg26 Try.sizeOf26 hs37.tail.tail.tail.tail rfl rfl hbx3) rfl ?_
      refine w_call want_none Try.call37 rfl rfl rfl rfl (c37 p _ _ (by omega) (by omega) ha.cons.cons.cons.cons.cons hnm  hs37) ?_
      rintro _ w43 ⟨rfl, hs44⟩
      refine w_pure want_none (y_not rfl rfl) rfl ?_
      refine w_pure want_none (y_move (v := .bool _) rfl rfl) rfl ?_
      refine w_split (fun h45 => ?_) (fun h45 => ?_)
      ·
        try simp only [Bool.not_eq_true', Bool.not_eq_false', decide_eq_true_eq, decide_eq_false_iff_not, Int.not_lt, Int.not_le] at h45
        refine w_skipop rfl rfl rfl ?_
        refine w_skipop rfl rfl rfl ?_
        refine w_skipop rfl rfl rfl ?_
        refine w_pure want_none (y_pickT (v := _) rfl rfl rfl rfl) rfl ?_
        refine w_nil ?_
        refine q_then (hK40 _ _ ?_)
        refine w_condT rfl rfl ?_
        refine w_seq (fun K47 hK46 => ?_)
        refine w_region ?_
        refine w_call want_none Try.call23 rfl rfl rfl rfl (c23 hs44) ?_
        rintro _ w49 ⟨rfl, hs50⟩
        refine w_pure want_none (y_assign (v := .bool _) rfl rfl) rfl ?_
        refine w_nil ?_
        refine q_then (hK46 _ _ ?_)
        refine w_ret ?_
        refine q_then_ret ?_
        refine q_ret (l := [.tmp 6]) (vs := [_]) rfl ⟨⟨rfl, show _ = (.bool _ : Value) from rfl⟩, trivial⟩ ?_
        exact ⟨rfl, hs50.tail.tail.tail.tail.tail⟩
      ·
        try simp only [Bool.not_eq_true', Bool.not_eq_false', decide_eq_true_eq, decide_eq_false_iff_not, Int.not_lt, Int.not_le] at h45
        refine w_pure (want_yes rfl rfl rfl) (y_loadN (vs := [_, _, _, _]) Try.isAgg26 Try.sizeOf26 hs44 rfl rfl hb7) rfl ?_
        refine w_call (want_yes rfl rfl rfl) Try.call37 rfl rfl rfl rfl (c37 (moreP p f) _ _ (by omega) hcap hsz hnm2  hs44) ?_
        rintro _ w52 ⟨rfl, hs53⟩
        refine w_pure (want_yes rfl rfl rfl) (y_not rfl rfl) rfl ?_
        refine w_pure want_none (y_pickF (v := .bool _) rfl rfl rfl rfl) rfl ?_
        refine w_nil ?_
        refine q_then (hK40 _ _ ?_)
        refine w_cond rfl rfl (fun h54 => ?_) (fun h54 => ?_)
        ·
          try simp only [Bool.not_eq_true', Bool.not_eq_false', decide_eq_true_eq, decide_eq_false_iff_not, Int.not_lt, Int.not_le] at h54
          refine w_seq (fun K56 hK55 => ?_)
          refine w_region ?_
          refine w_call want_none Try.call23 rfl rfl rfl rfl (c23 hs53) ?_
          rintro _ w58 ⟨rfl, hs59⟩
          refine w_pure want_none (y_assign (v := .bool _) rfl rfl) rfl ?_
          refine w_nil ?_
          refine q_then (hK55 _ _ ?_)
          refine w_ret ?_
          refine q_then_ret ?_
          refine q_ret (l := [.tmp 6]) (vs := [_]) rfl ⟨⟨rfl, show _ = (.bool _ : Value) from rfl⟩, trivial⟩ ?_
          exact ⟨rfl, hs59.tail.tail.tail.tail.tail⟩
        ·
          try simp only [Bool.not_eq_true', Bool.not_eq_false', decide_eq_true_eq, decide_eq_false_iff_not, Int.not_lt, Int.not_le] at h54
          refine w_skip ?_
          refine q_then (hK38 _ _ ?_)
          refine w_seq (fun K61 hK60 => ?_)
          have hck : (check p).2.2 = 0 := by assumption
          have hcm : (check (moreP p f)).2.2 = 0 := by assumption
          have hpe := plan_e09 hck
          have hmp := more_plan hck hcm
          refine w_region ?_
          refine w_pure want_none (y_move (v := .int _ _) rfl rfl) rfl ?_
          refine w_pure want_none (y_u8int (by rw [Try.underlying5]; rfl) Try.underlying3 rfl rfl (by omega) (by omega)) rfl ?_
          refine w_pure want_none (y_rem rfl rfl rfl rfl (by omega) (by omega)) rfl ?_
          refine w_pure want_none (y_assign (v := .int _ _) rfl rfl) rfl ?_
          refine w_nil ?_
          refine q_then (hK60 _ _ ?_)
          refine w_seq (fun K63 hK62 => ?_)
          have hz : 0 ≤ d % 11 ∧ d % 11 < 11 := by omega
          generalize d % 11 = z at hz ⊢
          have hte := told_e hck (z := z) (by omega) (by omega)
          have hte1 : toldE p z = 0 ∨ toldE p z = 9 := by omega
          clear hte
          have hmt := more_told hck hcm (z := z) (by omega) (by omega)
          refine w_region ?_
          refine w_pure want_none (y_loadN (vs := [_, _, _, _]) Try.isAgg26 Try.sizeOf26 hs53.tail.tail.tail.tail rfl rfl hbx3) rfl ?_
          refine w_call want_none Try.call26 rfl rfl rfl rfl (c26 p _ _ (by omega) (by omega) ha.cons.cons.cons.cons.cons hnm  hs53) ?_
          rintro _ w65 ⟨B1, aq_B1, cq_B1, rfl, h_B1, hs66⟩
          replace hs66 := (show St _ _ (B1 ++ (_ :: _ :: _ :: _ :: _ :: F)) from hs66)
          refine w_pure want_none (y_move (v := .tuple _) rfl rfl) rfl ?_
          refine w_pure want_none (y_extract (v := .slice _ _ _) rfl rfl rfl) rfl ?_
          refine w_pure want_none (y_extract (v := .int _ _) rfl rfl rfl) rfl ?_
          refine w_pure want_none (y_extract (v := .int _ _) rfl rfl rfl) rfl ?_
          refine w_pure want_none (y_assign (v := .slice _ _ _) rfl rfl) rfl ?_
          refine w_pure want_none (y_assign (v := .int _ _) rfl rfl) rfl ?_
          refine w_pure want_none (y_assign (v := .int _ _) rfl rfl) rfl ?_
          refine w_nil ?_
          refine q_then (hK62 _ _ ?_)
          refine w_seq (fun K68 hK67 => ?_)
          refine w_region ?_
          refine w_pure want_none (y_loadN (vs := [_, _, _, _]) Try.isAgg26 Try.sizeOf26 hs66.drop rfl rfl hb7) rfl ?_
          refine w_call want_none Try.call26 rfl rfl rfl rfl (c26 (moreP p f) _ _ (by omega) hcap hsz.app hnm2  hs66) ?_
          rintro _ w70 ⟨B2, aq_B2, cq_B2, rfl, h_B2, hs71⟩
          replace hs71 := (show St _ _ (B2 ++ (B1 ++ (_ :: _ :: _ :: _ :: _ :: F))) from hs71)
          refine w_pure want_none (y_move (v := .tuple _) rfl rfl) rfl ?_
          refine w_pure want_none (y_extract (v := .slice _ _ _) rfl rfl rfl) rfl ?_
          refine w_pure want_none (y_extract (v := .int _ _) rfl rfl rfl) rfl ?_
          refine w_pure want_none (y_extract (v := .int _ _) rfl rfl rfl) rfl ?_
          refine w_pure want_none (y_assign (v := .slice _ _ _) rfl rfl) rfl ?_
          refine w_pure want_none (y_assign (v := .int _ _) rfl rfl) rfl ?_
          refine w_pure want_none (y_assign (v := .int _ _) rfl rfl) rfl ?_
          refine w_nil ?_
          refine q_then (hK67 _ _ ?_)
          refine w_seq (fun K73 hK72 => ?_)
          refine w_region ?_
          refine w_pure want_none (y_loadN (vs := [_, _, _, _]) Try.isAgg26 Try.sizeOf26 hs71.drop.drop.tail.tail.tail.tail rfl rfl hbx3) rfl ?_
          refine w_pure want_none (y_move (v := .int _ _) rfl rfl) rfl ?_
          refine w_call want_none Try.call33 rfl rfl rfl rfl (c33 p _ _ (by omega) (by omega) ha.cons.cons.cons.cons.cons.app.app hnm z hs71) ?_
          rintro _ w75 ⟨rfl, hs76⟩
          refine w_pure want_none (y_move (v := .tuple _) rfl rfl) rfl ?_
          refine w_pure want_none (y_extract (v := .int _ _) rfl rfl rfl) rfl ?_
          refine w_pure want_none (y_extract (v := .int _ _) rfl rfl rfl) rfl ?_
          refine w_pure want_none (y_assign (v := .int _ _) rfl rfl) rfl ?_
          refine w_pure want_none (y_assign (v := .int _ _) rfl rfl) rfl ?_
          refine w_nil ?_
          refine q_then (hK72 _ _ ?_)
          refine w_seq (fun K78 hK77 => ?_)
          refine w_region ?_
          refine w_pure want_none (y_loadN (vs := [_, _, _, _]) Try.isAgg26 Try.sizeOf26 hs76.drop.drop rfl rfl hb7) rfl ?_
          refine w_pure want_none (y_move (v := .int _ _) rfl rfl) rfl ?_
          refine w_call want_none Try.call33 rfl rfl rfl rfl (c33 (moreP p f) _ _ (by omega) hcap hsz.app.app hnm2 z hs76) ?_
          rintro _ w80 ⟨rfl, hs81⟩
          refine w_pure want_none (y_move (v := .tuple _) rfl rfl) rfl ?_
          refine w_pure want_none (y_extract (v := .int _ _) rfl rfl rfl) rfl ?_
          refine w_pure want_none (y_extract (v := .int _ _) rfl rfl rfl) rfl ?_
          refine w_pure want_none (y_assign (v := .int _ _) rfl rfl) rfl ?_
          refine w_pure want_none (y_assign (v := .int _ _) rfl rfl) rfl ?_
          refine w_nil ?_
          refine q_then (hK77 _ _ ?_)
          refine w_seq (fun K83 hK82 => ?_)
          refine w_seq (fun K85 hK84 => ?_)
          refine w_region ?_
          refine w_pure want_none (y_move (v := .int _ _) rfl rfl) rfl ?_
          refine w_pure want_none (y_eql rfl rfl rfl rfl) rfl ?_
          refine w_pure want_none (y_move (v := .bool _) rfl rfl) rfl ?_
          refine w_split (fun h86 => ?_) (fun h86 => ?_)
          ·
            try simp only [Bool.not_eq_true', Bool.not_eq_false', decide_eq_true_eq, decide_eq_false_iff_not, Int.not_lt, Int.not_le] at h86
            refine w_pure (want_yes rfl rfl rfl) (y_move (v := .int _ _) rfl rfl) rfl ?_
            refine w_pure (want_yes rfl rfl rfl) (y_neq rfl rfl rfl rfl) rfl ?_
            refine w_pure (want_yes rfl rfl rfl) (y_move (v := .bool _) rfl rfl) rfl ?_
            refine w_split (fun h87 => ?_) (fun h87 => ?_)
            ·
              exfalso
              try simp only [Bool.not_eq_true', Bool.not_eq_false', decide_eq_true_eq, decide_eq_false_iff_not, Int.not_lt, Int.not_le] at h87
              omega
            ·
              try simp only [Bool.not_eq_true', Bool.not_eq_false', decide_eq_true_eq, decide_eq_false_iff_not, Int.not_lt, Int.not_le] at h87
              refine w_pure (want_yes rfl rfl rfl) (y_move (v := .int _ _) rfl rfl) rfl ?_
              refine w_pure (want_yes rfl rfl rfl) (y_move (v := .int _ _) rfl rfl) rfl ?_
              refine w_pure (want_yes rfl rfl rfl) (y_gtr rfl rfl rfl rfl) rfl ?_
              refine w_pure (want_yes rfl rfl rfl) (y_pickF (v := .bool _) rfl rfl rfl rfl) rfl ?_
              refine w_pure want_none (y_pickT (v := .bool _) rfl rfl rfl rfl) rfl ?_
              refine w_nil ?_
              refine q_then (hK84 _ _ ?_)
              refine w_cond rfl rfl (fun h88 => ?_) (fun h88 => ?_)
              ·
                exfalso
                try simp only [Bool.not_eq_true', Bool.not_eq_false', decide_eq_true_eq, decide_eq_false_iff_not, Int.not_lt, Int.not_le] at h88
                omega
              ·
                try simp only [Bool.not_eq_true', Bool.not_eq_false', decide_eq_true_eq, decide_eq_false_iff_not, Int.not_lt, Int.not_le] at h88
                refine w_skip ?_
                refine q_then (hK82 _ _ ?_)
                refine w_seq (fun K90 hK89 => ?_)
                refine w_region ?_
                refine w_pure want_none (y_move (v := .int _ _) rfl rfl) rfl ?_
                refine w_pure want_none (y_eql rfl rfl rfl rfl) rfl ?_
                refine w_pure want_none (y_move (v := .bool _) rfl rfl) rfl ?_
                refine w_split (fun h91 => ?_) (fun h91 => ?_)
                ·
                  try simp only [Bool.not_eq_true', Bool.not_eq_false', decide_eq_true_eq, decide_eq_false_iff_not, Int.not_lt, Int.not_le] at h91
                  refine w_skipop rfl rfl rfl ?_
                  refine w_skipop rfl rfl rfl ?_
                  refine w_pure want_none (y_pickT (v := _) rfl rfl rfl rfl) rfl ?_
                  refine w_pure want_none (y_move (v := .bool _) rfl rfl) rfl ?_
                  refine w_pure (want_yes rfl rfl rfl) (y_move (v := .int _ _) rfl rfl) rfl ?_
                  refine w_pure (want_yes rfl rfl rfl) (y_eql rfl rfl rfl rfl) rfl ?_
                  refine w_pure (want_yes rfl rfl rfl) (y_move (v := .bool _) rfl rfl) rfl ?_
                  refine w_split (fun h92 => ?_) (fun h92 => ?_)
                  ·
                    try simp only [Bool.not_eq_true', Bool.not_eq_false', decide_eq_true_eq, decide_eq_false_iff_not, Int.not_lt, Int.not_le] at h92
                    refine w_skipop rfl rfl rfl ?_
                    refine w_skipop rfl rfl rfl ?_
                    refine w_pure (want_yes rfl rfl rfl) (y_pickT (v := _) rfl rfl rfl rfl) rfl ?_
                    refine w_pure want_none (y_pickT (v := .bool _) rfl rfl rfl rfl) rfl ?_
                    refine w_pure want_none (y_move (v := .bool _) rfl rfl) rfl ?_
                    refine w_pure (want_yes rfl rfl rfl) (y_move (v := .int _ _) rfl rfl) rfl ?_
                    refine w_pure (want_yes rfl rfl rfl) (y_neq rfl rfl rfl rfl) rfl ?_
                    refine w_pure (want_yes rfl rfl rfl) (y_move (v := .bool _) rfl rfl) rfl ?_
                    refine w_split (fun h93 => ?_) (fun h93 => ?_)
                    ·
                      try simp only [Bool.not_eq_true', Bool.not_eq_false', decide_eq_true_eq, decide_eq_false_iff_not, Int.not_lt, Int.not_le] at h93
                      refine w_skipop rfl rfl rfl ?_
                      refine w_skipop rfl rfl rfl ?_
                      refine w_skipop rfl rfl rfl ?_
                      refine w_skipop' rfl rfl rfl ?_
                      refine w_skipop' rfl rfl rfl ?_
                      refine w_skipop' rfl rfl rfl ?_
                      refine w_skipop rfl rfl rfl ?_
                      refine w_pure (want_yes rfl rfl rfl) (y_pickT (v := _) rfl rfl rfl rfl) rfl ?_
                      refine w_pure want_none (y_pickT (v := .bool _) rfl rfl rfl rfl) rfl ?_
                      refine w_pure want_none (y_move (v := .bool _) rfl rfl) rfl ?_
                      refine w_call (want_yes rfl rfl rfl) Try.call23 rfl rfl rfl rfl (c23 hs81) ?_
                      rintro _ w95 ⟨rfl, hs96⟩
                      refine w_pure want_none (y_pickT (v := .bool _) rfl rfl rfl rfl) rfl ?_
                      refine w_pure want_none (y_assign (v := .bool _) rfl rfl) rfl ?_
                      refine w_nil ?_
                      refine q_then (hK89 _ _ ?_)
                      refine w_ret ?_
                      refine q_ret (l := [.tmp 6]) (vs := [_]) rfl ⟨⟨rfl, show _ = (.bool _ : Value) from rfl⟩, trivial⟩ ?_
                      exact ⟨rfl, hs96.drop.drop.tail.tail.tail.tail.tail⟩
                    ·
                      try simp only [Bool.not_eq_true', Bool.not_eq_false', decide_eq_true_eq, decide_eq_false_iff_not, Int.not_lt, Int.not_le] at h93
                      refine w_pure (want_yes rfl rfl rfl) (y_move (v := .int _ _) rfl rfl) rfl ?_
                      refine w_pure (want_yes rfl rfl rfl) (y_eql rfl rfl rfl rfl) rfl ?_
                      refine w_pure (want_yes rfl rfl rfl) (y_move (v := .bool _) rfl rfl) rfl ?_
                      refine w_split (fun h97 => ?_) (fun h97 => ?_)
                      ·
                        try simp only [Bool.not_eq_true', Bool.not_eq_false', decide_eq_true_eq, decide_eq_false_iff_not, Int.not_lt, Int.not_le] at h97
                        refine w_pure (want_yes rfl rfl rfl) (y_move (v := .int _ _) rfl rfl) rfl ?_
                        refine w_pure (want_yes rfl rfl rfl) (y_move (v := .int _ _) rfl rfl) rfl ?_
                        refine w_pure (want_yes rfl rfl rfl) (y_leq rfl rfl rfl rfl) rfl ?_
                        refine w_pure (want_yes rfl rfl rfl) (y_pickT (v := .bool _) rfl rfl rfl rfl) rfl ?_
                        refine w_pure (want_yes rfl rfl rfl) (y_pickF (v := .bool _) rfl rfl rfl rfl) rfl ?_
                        refine w_pure want_none (y_pickT (v := .bool _) rfl rfl rfl rfl) rfl ?_
                        refine w_pure want_none (y_move (v := .bool _) rfl rfl) rfl ?_
                        refine w_split (fun h98 => ?_) (fun h98 => ?_)
                        ·
                          try simp only [Bool.not_eq_true', Bool.not_eq_false', decide_eq_true_eq, decide_eq_false_iff_not, Int.not_lt, Int.not_le] at h98
                          refine w_call (want_yes rfl rfl rfl) Try.call23 rfl rfl rfl rfl (c23 hs81) ?_
                          rintro _ w100 ⟨rfl, hs101⟩
                          refine w_pure want_none (y_pickT (v := .bool _) rfl rfl rfl rfl) rfl ?_
                          refine w_pure want_none (y_assign (v := .bool _) rfl rfl) rfl ?_
                          refine w_nil ?_
                          refine q_then (hK89 _ _ ?_)
                          refine w_ret ?_
                          refine q_ret (l := [.tmp 6]) (vs := [_]) rfl ⟨⟨rfl, show _ = (.bool _ : Value) from rfl⟩, trivial⟩ ?_
                          exact ⟨rfl, hs101.drop.drop.tail.tail.tail.tail.tail⟩
                        ·
                          exfalso
                          try simp only [Bool.not_eq_true', Bool.not_eq_false', decide_eq_true_eq, decide_eq_false_iff_not, Int.not_lt, Int.not_le] at h98
                          omega
                      ·
                        exfalso
                        try simp only [Bool.not_eq_true', Bool.not_eq_false', decide_eq_true_eq, decide_eq_false_iff_not, Int.not_lt, Int.not_le] at h97
                        omega
                  ·
                    try simp only [Bool.not_eq_true', Bool.not_eq_false', decide_eq_true_eq, decide_eq_false_iff_not, Int.not_lt, Int.not_le] at h92
                    refine w_pure (want_yes rfl rfl rfl) (y_move (v := .int _ _) rfl rfl) rfl ?_
                    refine w_pure (want_yes rfl rfl rfl) (y_eql rfl rfl rfl rfl) rfl ?_
                    refine w_pure (want_yes rfl rfl rfl) (y_pickF (v := .bool _) rfl rfl rfl rfl) rfl ?_
                    refine w_pure want_none (y_pickT (v := .bool _) rfl rfl rfl rfl) rfl ?_
                    refine w_pure want_none (y_move (v := .bool _) rfl rfl) rfl ?_
                    refine w_split (fun h102 => ?_) (fun h102 => ?_)
                    ·
                      try simp only [Bool.not_eq_true', Bool.not_eq_false', decide_eq_true_eq, decide_eq_false_iff_not, Int.not_lt, Int.not_le] at h102
                      refine w_pure (want_yes rfl rfl rfl) (y_move (v := .int _ _) rfl rfl) rfl ?_
                      refine w_pure (want_yes rfl rfl rfl) (y_neq rfl rfl rfl rfl) rfl ?_
                      refine w_pure (want_yes rfl rfl rfl) (y_move (v := .bool _) rfl rfl) rfl ?_
                      refine w_split (fun h103 => ?_) (fun h103 => ?_)
                      ·
                        try simp only [Bool.not_eq_true', Bool.not_eq_false', decide_eq_true_eq, decide_eq_false_iff_not, Int.not_lt, Int.not_le] at h103
                        refine w_skipop rfl rfl rfl ?_
                        refine w_skipop rfl rfl rfl ?_
                        refine w_skipop rfl rfl rfl ?_
                        refine w_skipop' rfl rfl rfl ?_
                        refine w_skipop' rfl rfl rfl ?_
                        refine w_skipop' rfl rfl rfl ?_
                        refine w_skipop rfl rfl rfl ?_
                        refine w_pure (want_yes rfl rfl rfl) (y_pickT (v := _) rfl rfl rfl rfl) rfl ?_
                        refine w_pure want_none (y_pickT (v := .bool _) rfl rfl rfl rfl) rfl ?_
                        refine w_pure want_none (y_move (v := .bool _) rfl rfl) rfl ?_
                        refine w_call (want_yes rfl rfl rfl) Try.call23 rfl rfl rfl rfl (c23 hs81) ?_
                        rintro _ w105 ⟨rfl, hs106⟩
                        refine w_pure want_none (y_pickT (v := .bool _) rfl rfl rfl rfl) rfl ?_
                        refine w_pure want_none (y_assign (v := .bool _) rfl rfl) rfl ?_
                        refine w_nil ?_
                        refine q_then (hK89 _ _ ?_)
                        refine w_ret ?_
                        refine q_ret (l := [.tmp 6]) (vs := [_]) rfl ⟨⟨rfl, show _ = (.bool _ : Value) from rfl⟩, trivial⟩ ?_
                        exact ⟨rfl, hs106.drop.drop.tail.tail.tail.tail.tail⟩
                      ·
                        try simp only [Bool.not_eq_true', Bool.not_eq_false', decide_eq_true_eq, decide_eq_false_iff_not, Int.not_lt, Int.not_le] at h103
                        refine w_pure (want_yes rfl rfl rfl) (y_move (v := .int _ _) rfl rfl) rfl ?_
                        refine w_pure (want_yes rfl rfl rfl) (y_eql rfl rfl rfl rfl) rfl ?_
                        refine w_pure (want_yes rfl rfl rfl) (y_move (v := .bool _) rfl rfl) rfl ?_
                        refine w_split (fun h107 => ?_) (fun h107 => ?_)
                        ·
                          try simp only [Bool.not_eq_true', Bool.not_eq_false', decide_eq_true_eq, decide_eq_false_iff_not, Int.not_lt, Int.not_le] at h107
                          refine w_pure (want_yes rfl rfl rfl) (y_move (v := .int _ _) rfl rfl) rfl ?_
                          refine w_pure (want_yes rfl rfl rfl) (y_move (v := .int _ _) rfl rfl) rfl ?_
                          refine w_pure (want_yes rfl rfl rfl) (y_leq rfl rfl rfl rfl) rfl ?_
                          refine w_pure (want_yes rfl rfl rfl) (y_pickT (v := .bool _) rfl rfl rfl rfl) rfl ?_
                          refine w_pure (want_yes rfl rfl rfl) (y_pickF (v := .bool _) rfl rfl rfl rfl) rfl ?_
                          refine w_pure want_none (y_pickT (v := .bool _) rfl rfl rfl rfl) rfl ?_
                          refine w_pure want_none (y_move (v := .bool _) rfl rfl) rfl ?_
                          refine w_split (fun h108 => ?_) (fun h108 => ?_)
                          ·
                            try simp only [Bool.not_eq_true', Bool.not_eq_false', decide_eq_true_eq, decide_eq_false_iff_not, Int.not_lt, Int.not_le] at h108
                            refine w_call (want_yes rfl rfl rfl) Try.call23 rfl rfl rfl rfl (c23 hs81) ?_
                            rintro _ w110 ⟨rfl, hs111⟩
                            refine w_pure want_none (y_pickT (v := .bool _) rfl rfl rfl rfl) rfl ?_
                            refine w_pure want_none (y_assign (v := .bool _) rfl rfl) rfl ?_
                            refine w_nil ?_
                            refine q_then (hK89 _ _ ?_)
                            refine w_ret ?_
                            refine q_ret (l := [.tmp 6]) (vs := [_]) rfl ⟨⟨rfl, show _ = (.bool _ : Value) from rfl⟩, trivial⟩ ?_
                            exact ⟨rfl, hs111.drop.drop.tail.tail.tail.tail.tail⟩
                          ·
                            exfalso
                            try simp only [Bool.not_eq_true', Bool.not_eq_false', decide_eq_true_eq, decide_eq_false_iff_not, Int.not_lt, Int.not_le] at h108
                            omega
                        ·
                          exfalso
                          try simp only [Bool.not_eq_true', Bool.not_eq_false', decide_eq_true_eq, decide_eq_false_iff_not, Int.not_lt, Int.not_le] at h107
                          omega
                    ·
                      exfalso
                      try simp only [Bool.not_eq_true', Bool.not_eq_false', decide_eq_true_eq, decide_eq_false_iff_not, Int.not_lt, Int.not_le] at h102
                      omega
                ·
                  try simp only [Bool.not_eq_true', Bool.not_eq_false', decide_eq_true_eq, decide_eq_false_iff_not, Int.not_lt, Int.not_le] at h91
                  refine w_pure (want_yes rfl rfl rfl) (y_move (v := .int _ _) rfl rfl) rfl ?_
                  refine w_pure (want_yes rfl rfl rfl) (y_eql rfl rfl rfl rfl) rfl ?_
                  refine w_pure want_none (y_pickF (v := .bool _) rfl rfl rfl rfl) rfl ?_
                  refine w_pure want_none (y_move (v := .bool _) rfl rfl) rfl ?_
                  refine w_split (fun h112 => ?_) (fun h112 => ?_)
                  ·
                    try simp only [Bool.not_eq_true', Bool.not_eq_false', decide_eq_true_eq, decide_eq_false_iff_not, Int.not_lt, Int.not_le] at h112
                    refine w_pure (want_yes rfl rfl rfl) (y_move (v := .int _ _) rfl rfl) rfl ?_
                    refine w_pure (want_yes rfl rfl rfl) (y_eql rfl rfl rfl rfl) rfl ?_
                    refine w_pure (want_yes rfl rfl rfl) (y_move (v := .bool _) rfl rfl) rfl ?_
                    refine w_split (fun h113 => ?_) (fun h113 => ?_)
                    ·
                      try simp only [Bool.not_eq_true', Bool.not_eq_false', decide_eq_true_eq, decide_eq_false_iff_not, Int.not_lt, Int.not_le] at h113
                      refine w_skipop rfl rfl rfl ?_
                      refine w_skipop rfl rfl rfl ?_
                      refine w_pure (want_yes rfl rfl rfl) (y_pickT (v := _) rfl rfl rfl rfl) rfl ?_
                      refine w_pure want_none (y_pickT (v := .bool _) rfl rfl rfl rfl) rfl ?_
                      refine w_pure want_none (y_move (v := .bool _) rfl rfl) rfl ?_
                      refine w_pure (want_yes rfl rfl rfl) (y_move (v := .int _ _) rfl rfl) rfl ?_
                      refine w_pure (want_yes rfl rfl rfl) (y_neq rfl rfl rfl rfl) rfl ?_
                      refine w_pure (want_yes rfl rfl rfl) (y_move (v := .bool _) rfl rfl) rfl ?_
                      refine w_split (fun h114 => ?_) (fun h114 => ?_)
                      ·
                        try simp only [Bool.not_eq_true', Bool.not_eq_false', decide_eq_true_eq, decide_eq_false_iff_not, Int.not_lt, Int.not_le] at h114
                        refine w_skipop rfl rfl rfl ?_
                        refine w_skipop rfl rfl rfl ?_
                        refine w_skipop rfl rfl rfl ?_
                        refine w_skipop' rfl rfl rfl ?_
                        refine w_skipop' rfl rfl rfl ?_
                        refine w_skipop' rfl rfl rfl ?_
                        refine w_skipop rfl rfl rfl ?_
                        refine w_pure (want_yes rfl rfl rfl) (y_pickT (v := _) rfl rfl rfl rfl) rfl ?_
                        refine w_pure want_none (y_pickT (v := .bool _) rfl rfl rfl rfl) rfl ?_
                        refine w_pure want_none (y_move (v := .bool _) rfl rfl) rfl ?_
                        refine w_call (want_yes rfl rfl rfl) Try.call23 rfl rfl rfl rfl (c23 hs81) ?_
                        rintro _ w116 ⟨rfl, hs117⟩
                        refine w_pure want_none (y_pickT (v := .bool _) rfl rfl rfl rfl) rfl ?_
                        refine w_pure want_none (y_assign (v := .bool _) rfl rfl) rfl ?_
                        refine w_nil ?_
                        refine q_then (hK89 _ _ ?_)
                        refine w_ret ?_
                        refine q_ret (l := [.tmp 6]) (vs := [_]) rfl ⟨⟨rfl, show _ = (.bool _ : Value) from rfl⟩, trivial⟩ ?_
                        exact ⟨rfl, hs117.drop.drop.tail.tail.tail.tail.tail⟩
                      ·
                        try simp only [Bool.not_eq_true', Bool.not_eq_false', decide_eq_true_eq, decide_eq_false_iff_not, Int.not_lt, Int.not_le] at h114
                        refine w_pure (want_yes rfl rfl rfl) (y_move (v := .int _ _) rfl rfl) rfl ?_
                        refine w_pure (want_yes rfl rfl rfl) (y_eql rfl rfl rfl rfl) rfl ?_
                        refine w_pure (want_yes rfl rfl rfl) (y_move (v := .bool _) rfl rfl) rfl ?_
                        refine w_split (fun h118 => ?_) (fun h118 => ?_)
                        ·
                          try simp only [Bool.not_eq_true', Bool.not_eq_false', decide_eq_true_eq, decide_eq_false_iff_not, Int.not_lt, Int.not_le] at h118
                          refine w_pure (want_yes rfl rfl rfl) (y_move (v := .int _ _) rfl rfl) rfl ?_
                          refine w_pure (want_yes rfl rfl rfl) (y_move (v := .int _ _) rfl rfl) rfl ?_
                          refine w_pure (want_yes rfl rfl rfl) (y_leq rfl rfl rfl rfl) rfl ?_
                          refine w_pure (want_yes rfl rfl rfl) (y_pickT (v := .bool _) rfl rfl rfl rfl) rfl ?_
                          refine w_pure (want_yes rfl rfl rfl) (y_pickF (v := .bool _) rfl rfl rfl rfl) rfl ?_
                          refine w_pure want_none (y_pickT (v := .bool _) rfl rfl rfl rfl) rfl ?_
                          refine w_pure want_none (y_move (v := .bool _) rfl rfl) rfl ?_
                          refine w_split (fun h119 => ?_) (fun h119 => ?_)
                          ·
                            try simp only [Bool.not_eq_true', Bool.not_eq_false', decide_eq_true_eq, decide_eq_false_iff_not, Int.not_lt, Int.not_le] at h119
                            refine w_call (want_yes rfl rfl rfl) Try.call23 rfl rfl rfl rfl (c23 hs81) ?_
                            rintro _ w121 ⟨rfl, hs122⟩
                            refine w_pure want_none (y_pickT (v := .bool _) rfl rfl rfl rfl) rfl ?_
                            refine w_pure want_none (y_assign (v := .bool _) rfl rfl) rfl ?_
                            refine w_nil ?_
                            refine q_then (hK89 _ _ ?_)
                            refine w_ret ?_
                            refine q_ret (l := [.tmp 6]) (vs := [_]) rfl ⟨⟨rfl, show _ = (.bool _ : Value) from rfl⟩, trivial⟩ ?_
                            exact ⟨rfl, hs122.drop.drop.tail.tail.tail.tail.tail⟩
                          ·
                            exfalso
                            try simp only [Bool.not_eq_true', Bool.not_eq_false', decide_eq_true_eq, decide_eq_false_iff_not, Int.not_lt, Int.not_le] at h119
                            omega
                        ·
                          exfalso
                          try simp only [Bool.not_eq_true', Bool.not_eq_false', decide_eq_true_eq, decide_eq_false_iff_not, Int.not_lt, Int.not_le] at h118
                          omega
                    ·
                      try simp only [Bool.not_eq_true', Bool.not_eq_false', decide_eq_true_eq, decide_eq_false_iff_not, Int.not_lt, Int.not_le] at h113
                      refine w_pure (want_yes rfl rfl rfl) (y_move (v := .int _ _) rfl rfl) rfl ?_
                      refine w_pure (want_yes rfl rfl rfl) (y_eql rfl rfl rfl rfl) rfl ?_
                      refine w_pure (want_yes rfl rfl rfl) (y_pickF (v := .bool _) rfl rfl rfl rfl) rfl ?_
                      refine w_pure want_none (y_pickT (v := .bool _) rfl rfl rfl rfl) rfl ?_
                      refine w_pure want_none (y_move (v := .bool _) rfl rfl) rfl ?_
                      refine w_split (fun h123 => ?_) (fun h123 => ?_)
                      ·
                        try simp only [Bool.not_eq_true', Bool.not_eq_false', decide_eq_true_eq, decide_eq_false_iff_not, Int.not_lt, Int.not_le] at h123
                        refine w_pure (want_yes rfl rfl rfl) (y_move (v := .int _ _) rfl rfl) rfl ?_
                        refine w_pure (want_yes rfl rfl rfl) (y_neq rfl rfl rfl rfl) rfl ?_
                        refine w_pure (want_yes rfl rfl rfl) (y_move (v := .bool _) rfl rfl) rfl ?_
                        refine w_split (fun h124 => ?_) (fun h124 => ?_)
                        ·
                          try simp only [Bool.not_eq_true', Bool.not_eq_false', decide_eq_true_eq, decide_eq_false_iff_not, Int.not_lt, Int.not_le] at h124
                          refine w_skipop rfl rfl rfl ?_
                          refine w_skipop rfl rfl rfl ?_
                          refine w_skipop rfl rfl rfl ?_
                          refine w_skipop' rfl rfl rfl ?_
                          refine w_skipop' rfl rfl rfl ?_
                          refine w_skipop' rfl rfl rfl ?_
                          refine w_skipop rfl rfl rfl ?_
                          refine w_pure (want_yes rfl rfl rfl) (y_pickT (v := _) rfl rfl rfl rfl) rfl ?_
                          refine w_pure want_none (y_pickT (v := .bool _) rfl rfl rfl rfl) rfl ?_
                          refine w_pure want_none (y_move (v := .bool _) rfl rfl) rfl ?_
                          refine w_call (want_yes rfl rfl rfl) Try.call23 rfl rfl rfl rfl (c23 hs81) ?_
                          rintro _ w126 ⟨rfl, hs127⟩
                          refine w_pure want_none (y_pickT (v := .bool _) rfl rfl rfl rfl) rfl ?_
                          refine w_pure want_none (y_assign (v := .bool _) rfl rfl) rfl ?_
                          refine w_nil ?_
                          refine q_then (hK89 _ _ ?_)
                          refine w_ret ?_
                          refine q_ret (l := [.tmp 6]) (vs := [_]) rfl ⟨⟨rfl, show _ = (.bool _ : Value) from rfl⟩, trivial⟩ ?_
                          exact ⟨rfl, hs127.drop.drop.tail.tail.tail.tail.tail⟩
                        ·
                          try simp only [Bool.not_eq_true', Bool.not_eq_false', decide_eq_true_eq, decide_eq_false_iff_not, Int.not_lt, Int.not_le] at h124
                          refine w_pure (want_yes rfl rfl rfl) (y_move (v := .int _ _) rfl rfl) rfl ?_
                          refine w_pure (want_yes rfl rfl rfl) (y_eql rfl rfl rfl rfl) rfl ?_
                          refine w_pure (want_yes rfl rfl rfl) (y_move (v := .bool _) rfl rfl) rfl ?_
                          refine w_split (fun h128 => ?_) (fun h128 => ?_)
                          ·
                            try simp only [Bool.not_eq_true', Bool.not_eq_false', decide_eq_true_eq, decide_eq_false_iff_not, Int.not_lt, Int.not_le] at h128
                            refine w_pure (want_yes rfl rfl rfl) (y_move (v := .int _ _) rfl rfl) rfl ?_
                            refine w_pure (want_yes rfl rfl rfl) (y_move (v := .int _ _) rfl rfl) rfl ?_
                            refine w_pure (want_yes rfl rfl rfl) (y_leq rfl rfl rfl rfl) rfl ?_
                            refine w_pure (want_yes rfl rfl rfl) (y_pickT (v := .bool _) rfl rfl rfl rfl) rfl ?_
                            refine w_pure (want_yes rfl rfl rfl) (y_pickF (v := .bool _) rfl rfl rfl rfl) rfl ?_
                            refine w_pure want_none (y_pickT (v := .bool _) rfl rfl rfl rfl) rfl ?_
                            refine w_pure want_none (y_move (v := .bool _) rfl rfl) rfl ?_
                            refine w_split (fun h129 => ?_) (fun h129 => ?_)
                            ·
                              try simp only [Bool.not_eq_true', Bool.not_eq_false', decide_eq_true_eq, decide_eq_false_iff_not, Int.not_lt, Int.not_le] at h129
                              refine w_call (want_yes rfl rfl rfl) Try.call23 rfl rfl rfl rfl (c23 hs81) ?_
                              rintro _ w131 ⟨rfl, hs132⟩
                              refine w_pure want_none (y_pickT (v := .bool _) rfl rfl rfl rfl) rfl ?_
                              refine w_pure want_none (y_assign (v := .bool _) rfl rfl) rfl ?_
                              refine w_nil ?_
                              refine q_then (hK89 _ _ ?_)
                              refine w_ret ?_
                              refine q_ret (l := [.tmp 6]) (vs := [_]) rfl ⟨⟨rfl, show _ = (.bool _ : Value) from rfl⟩, trivial⟩ ?_
                              exact ⟨rfl, hs132.drop.drop.tail.tail.tail.tail.tail⟩
                            ·
                              exfalso
                              try simp only [Bool.not_eq_true', Bool.not_eq_false', decide_eq_true_eq, decide_eq_false_iff_not, Int.not_lt, Int.not_le] at h129
                              omega
                          ·
                            exfalso
                            try simp only [Bool.not_eq_true', Bool.not_eq_false', decide_eq_true_eq, decide_eq_false_iff_not, Int.not_lt, Int.not_le] at h128
                            omega
                      ·
                        exfalso
                        try simp only [Bool.not_eq_true', Bool.not_eq_false', decide_eq_true_eq, decide_eq_false_iff_not, Int.not_lt, Int.not_le] at h123
                        omega
                  ·
                    exfalso
                    try simp only [Bool.not_eq_true', Bool.not_eq_false', decide_eq_true_eq, decide_eq_false_iff_not, Int.not_lt, Int.not_le] at h112
                    omega
          ·
            try simp only [Bool.not_eq_true', Bool.not_eq_false', decide_eq_true_eq, decide_eq_false_iff_not, Int.not_lt, Int.not_le] at h86
            refine w_skipop rfl rfl rfl ?_
            refine w_skipop rfl rfl rfl ?_
            refine w_skipop rfl rfl rfl ?_
            refine w_skipop' rfl rfl rfl ?_
            refine w_skipop' rfl rfl rfl ?_
            refine w_skipop' rfl rfl rfl ?_
            refine w_skipop rfl rfl rfl ?_
            refine w_pure want_none (y_pickF (v := _) rfl rfl rfl rfl) rfl ?_
            refine w_nil ?_
            refine q_then (hK84 _ _ ?_)
            refine w_condF rfl rfl ?_
            refine w_skip ?_
            refine q_then (hK82 _ _ ?_)
            refine w_seq (fun K134 hK133 => ?_)
            refine w_region ?_
            refine w_pure want_none (y_move (v := .int _ _) rfl rfl) rfl ?_
            refine w_pure want_none (y_eql rfl rfl rfl rfl) rfl ?_
            refine w_pure want_none (y_move (v := .bool _) rfl rfl) rfl ?_
            refine w_split (fun h135 => ?_) (fun h135 => ?_)
            ·
              try simp only [Bool.not_eq_true', Bool.not_eq_false', decide_eq_true_eq, decide_eq_false_iff_not, Int.not_lt, Int.not_le] at h135
              refine w_skipop rfl rfl rfl ?_
              refine w_skipop rfl rfl rfl ?_
              refine w_pure want_none (y_pickT (v := _) rfl rfl rfl rfl) rfl ?_
              refine w_pure want_none (y_move (v := .bool _) rfl rfl) rfl ?_
              refine w_pure (want_yes rfl rfl rfl) (y_move (v := .int _ _) rfl rfl) rfl ?_
              refine w_pure (want_yes rfl rfl rfl) (y_eql rfl rfl rfl rfl) rfl ?_
              refine w_pure (want_yes rfl rfl rfl) (y_move (v := .bool _) rfl rfl) rfl ?_
              refine w_split (fun h136 => ?_) (fun h136 => ?_)
              ·
                try simp only [Bool.not_eq_true', Bool.not_eq_false', decide_eq_true_eq, decide_eq_false_iff_not, Int.not_lt, Int.not_le] at h136
                refine w_skipop rfl rfl rfl ?_
                refine w_skipop rfl rfl rfl ?_
                refine w_pure (want_yes rfl rfl rfl) (y_pickT (v := _) rfl rfl rfl rfl) rfl ?_
                refine w_pure want_none (y_pickT (v := .bool _) rfl rfl rfl rfl) rfl ?_
                refine w_pure want_none (y_move (v := .bool _) rfl rfl) rfl ?_
                refine w_pure (want_yes rfl rfl rfl) (y_move (v := .int _ _) rfl rfl) rfl ?_
                refine w_pure (want_yes rfl rfl rfl) (y_neq rfl rfl rfl rfl) rfl ?_
                refine w_pure (want_yes rfl rfl rfl) (y_move (v := .bool _) rfl rfl) rfl ?_
                refine w_split (fun h137 => ?_) (fun h137 => ?_)
                ·
                  try simp only [Bool.not_eq_true', Bool.not_eq_false', decide_eq_true_eq, decide_eq_false_iff_not, Int.not_lt, Int.not_le] at h137
                  refine w_skipop rfl rfl rfl ?_
                  refine w_skipop rfl rfl rfl ?_
                  refine w_skipop rfl rfl rfl ?_
                  refine w_skipop' rfl rfl rfl ?_
                  refine w_skipop' rfl rfl rfl ?_
                  refine w_skipop' rfl rfl rfl ?_
                  refine w_skipop rfl rfl rfl ?_
                  refine w_pure (want_yes rfl rfl rfl) (y_pickT (v := _) rfl rfl rfl rfl) rfl ?_
                  refine w_pure want_none (y_pickT (v := .bool _) rfl rfl rfl rfl) rfl ?_
                  refine w_pure want_none (y_move (v := .bool _) rfl rfl) rfl ?_
                  refine w_call (want_yes rfl rfl rfl) Try.call23 rfl rfl rfl rfl (c23 hs81) ?_
                  rintro _ w139 ⟨rfl, hs140⟩
                  refine w_pure want_none (y_pickT (v := .bool _) rfl rfl rfl rfl) rfl ?_
                  refine w_pure want_none (y_assign (v := .bool _) rfl rfl) rfl ?_
                  refine w_nil ?_
                  refine q_then (hK133 _ _ ?_)
                  refine w_ret ?_
                  refine q_ret (l := [.tmp 6]) (vs := [_]) rfl ⟨⟨rfl, show _ = (.bool _ : Value) from rfl⟩, trivial⟩ ?_
                  exact ⟨rfl, hs140.drop.drop.tail.tail.tail.tail.tail⟩
                ·
                  try simp only [Bool.not_eq_true', Bool.not_eq_false', decide_eq_true_eq, decide_eq_false_iff_not, Int.not_lt, Int.not_le] at h137
                  refine w_pure (want_yes rfl rfl rfl) (y_move (v := .int _ _) rfl rfl) rfl ?_
                  refine w_pure (want_yes rfl rfl rfl) (y_eql rfl rfl rfl rfl) rfl ?_
                  refine w_pure (want_yes rfl rfl rfl) (y_move (v := .bool _) rfl rfl) rfl ?_
                  refine w_split (fun h141 => ?_) (fun h141 => ?_)
                  ·
                    try simp only [Bool.not_eq_true', Bool.not_eq_false', decide_eq_true_eq, decide_eq_false_iff_not, Int.not_lt, Int.not_le] at h141
                    refine w_pure (want_yes rfl rfl rfl) (y_move (v := .int _ _) rfl rfl) rfl ?_
                    refine w_pure (want_yes rfl rfl rfl) (y_move (v := .int _ _) rfl rfl) rfl ?_
                    refine w_pure (want_yes rfl rfl rfl) (y_leq rfl rfl rfl rfl) rfl ?_
                    refine w_pure (want_yes rfl rfl rfl) (y_pickT (v := .bool _) rfl rfl rfl rfl) rfl ?_
                    refine w_pure (want_yes rfl rfl rfl) (y_pickF (v := .bool _) rfl rfl rfl rfl) rfl ?_
                    refine w_pure want_none (y_pickT (v := .bool _) rfl rfl rfl rfl) rfl ?_
                    refine w_pure want_none (y_move (v := .bool _) rfl rfl) rfl ?_
                    refine w_split (fun h142 => ?_) (fun h142 => ?_)
                    ·
                      try simp only [Bool.not_eq_true', Bool.not_eq_false', decide_eq_true_eq, decide_eq_false_iff_not, Int.not_lt, Int.not_le] at h142
                      refine w_call (want_yes rfl rfl rfl) Try.call23 rfl rfl rfl rfl (c23 hs81) ?_
                      rintro _ w144 ⟨rfl, hs145⟩
                      refine w_pure want_none (y_pickT (v := .bool _) rfl rfl rfl rfl) rfl ?_
                      refine w_pure want_none (y_assign (v := .bool _) rfl rfl) rfl ?_
                      refine w_nil ?_
                      refine q_then (hK133 _ _ ?_)
                      refine w_ret ?_
                      refine q_ret (l := [.tmp 6]) (vs := [_]) rfl ⟨⟨rfl, show _ = (.bool _ : Value) from rfl⟩, trivial⟩ ?_
                      exact ⟨rfl, hs145.drop.drop.tail.tail.tail.tail.tail⟩
                    ·
                      exfalso
                      try simp only [Bool.not_eq_true', Bool.not_eq_false', decide_eq_true_eq, decide_eq_false_iff_not, Int.not_lt, Int.not_le] at h142
                      omega
                  ·
                    exfalso
                    try simp only [Bool.not_eq_true', Bool.not_eq_false', decide_eq_true_eq, decide_eq_false_iff_not, Int.not_lt, Int.not_le] at h141
                    omega
              ·
                try simp only [Bool.not_eq_true', Bool.not_eq_false', decide_eq_true_eq, decide_eq_false_iff_not, Int.not_lt, Int.not_le] at h136
                refine w_pure (want_yes rfl rfl rfl) (y_move (v := .int _ _) rfl rfl) rfl ?_
                refine w_pure (want_yes rfl rfl rfl) (y_eql rfl rfl rfl rfl) rfl ?_
                refine w_pure (want_yes rfl rfl rfl) (y_pickF (v := .bool _) rfl rfl rfl rfl) rfl ?_
                refine w_pure want_none (y_pickT (v := .bool _) rfl rfl rfl rfl) rfl ?_
                refine w_pure want_none (y_move (v := .bool _) rfl rfl) rfl ?_
                refine w_split (fun h146 => ?_) (fun h146 => ?_)
                ·
                  try simp only [Bool.not_eq_true', Bool.not_eq_false', decide_eq_true_eq, decide_eq_false_iff_not, Int.not_lt, Int.not_le] at h146
                  refine w_pure (want_yes rfl rfl rfl) (y_move (v := .int _ _) rfl rfl) rfl ?_
                  refine w_pure (want_yes rfl rfl rfl) (y_neq rfl rfl rfl rfl) rfl ?_
                  refine w_pure (want_yes rfl rfl rfl) (y_move (v := .bool _) rfl rfl) rfl ?_
                  refine w_split (fun h147 => ?_) (fun h147 => ?_)
                  ·
                    try simp only [Bool.not_eq_true', Bool.not_eq_false', decide_eq_true_eq, decide_eq_false_iff_not, Int.not_lt, Int.not_le] at h147
                    refine w_skipop rfl rfl rfl ?_
                    refine w_skipop rfl rfl rfl ?_
                    refine w_skipop rfl rfl rfl ?_
                    refine w_skipop' rfl rfl rfl ?_
                    refine w_skipop' rfl rfl rfl ?_
                    refine w_skipop' rfl rfl rfl ?_
                    refine w_skipop rfl rfl rfl ?_
                    refine w_pure (want_yes rfl rfl rfl) (y_pickT (v := _) rfl rfl rfl rfl) rfl ?_
                    refine w_pure want_none (y_pickT (v := .bool _) rfl rfl rfl rfl) rfl ?_
                    refine w_pure want_none (y_move (v := .bool _) rfl rfl) rfl ?_
                    refine w_call (want_yes rfl rfl rfl) Try.call23 rfl rfl rfl rfl (c23 hs81) ?_
                    rintro _ w149 ⟨rfl, hs150⟩
                    refine w_pure want_none (y_pickT (v := .bool _) rfl rfl rfl rfl) rfl ?_
                    refine w_pure want_none (y_assign (v := .bool _) rfl rfl) rfl ?_
                    refine w_nil ?_
                    refine q_then (hK133 _ _ ?_)
                    refine w_ret ?_
                    refine q_ret (l := [.tmp 6]) (vs := [_]) rfl ⟨⟨rfl, show _ = (.bool _ : Value) from rfl⟩, trivial⟩ ?_
                    exact ⟨rfl, hs150.drop.drop.tail.tail.tail.tail.tail⟩
                  ·
                    try simp only [Bool.not_eq_true', Bool.not_eq_false', decide_eq_true_eq, decide_eq_false_iff_not, Int.not_lt, Int.not_le] at h147
                    refine w_pure (want_yes rfl rfl rfl) (y_move (v := .int _ _) rfl rfl) rfl ?_
                    refine w_pure (want_yes rfl rfl rfl) (y_eql rfl rfl rfl rfl) rfl ?_
                    refine w_pure (want_yes rfl rfl rfl) (y_move (v := .bool _) rfl rfl) rfl ?_
                    refine w_split (fun h151 => ?_) (fun h151 => ?_)
                    ·
                      try simp only [Bool.not_eq_true', Bool.not_eq_false', decide_eq_true_eq, decide_eq_false_iff_not, Int.not_lt, Int.not_le] at h151
                      refine w_pure (want_yes rfl rfl rfl) (y_move (v := .int _ _) rfl rfl) rfl ?_
                      refine w_pure (want_yes rfl rfl rfl) (y_move (v := .int _ _) rfl rfl) rfl ?_
                      refine w_pure (want_yes rfl rfl rfl) (y_leq rfl rfl rfl rfl) rfl ?_
                      refine w_pure (want_yes rfl rfl rfl) (y_pickT (v := .bool _) rfl rfl rfl rfl) rfl ?_
                      refine w_pure (want_yes rfl rfl rfl) (y_pickF (v := .bool _) rfl rfl rfl rfl) rfl ?_
                      refine w_pure want_none (y_pickT (v := .bool _) rfl rfl rfl rfl) rfl ?_
                      refine w_pure want_none (y_move (v := .bool _) rfl rfl) rfl ?_
                      refine w_split (fun h152 => ?_) (fun h152 => ?_)
                      ·
                        try simp only [Bool.not_eq_true', Bool.not_eq_false', decide_eq_true_eq, decide_eq_false_iff_not, Int.not_lt, Int.not_le] at h152
                        refine w_call (want_yes rfl rfl rfl) Try.call23 rfl rfl rfl rfl (c23 hs81) ?_
                        rintro _ w154 ⟨rfl, hs155⟩
                        refine w_pure want_none (y_pickT (v := .bool _) rfl rfl rfl rfl) rfl ?_
                        refine w_pure want_none (y_assign (v := .bool _) rfl rfl) rfl ?_
                        refine w_nil ?_
                        refine q_then (hK133 _ _ ?_)
                        refine w_ret ?_
                        refine q_ret (l := [.tmp 6]) (vs := [_]) rfl ⟨⟨rfl, show _ = (.bool _ : Value) from rfl⟩, trivial⟩ ?_
                        exact ⟨rfl, hs155.drop.drop.tail.tail.tail.tail.tail⟩
                      ·
                        exfalso
                        try simp only [Bool.not_eq_true', Bool.not_eq_false', decide_eq_true_eq, decide_eq_false_iff_not, Int.not_lt, Int.not_le] at h152
                        omega
                    ·
                      exfalso
                      try simp only [Bool.not_eq_true', Bool.not_eq_false', decide_eq_true_eq, decide_eq_false_iff_not, Int.not_lt, Int.not_le] at h151
                      omega
                ·
                  exfalso
                  try simp only [Bool.not_eq_true', Bool.not_eq_false', decide_eq_true_eq, decide_eq_false_iff_not, Int.not_lt, Int.not_le] at h146
                  omega
            ·
              try simp only [Bool.not_eq_true', Bool.not_eq_false', decide_eq_true_eq, decide_eq_false_iff_not, Int.not_lt, Int.not_le] at h135
              refine w_pure (want_yes rfl rfl rfl) (y_move (v := .int _ _) rfl rfl) rfl ?_
              refine w_pure (want_yes rfl rfl rfl) (y_eql rfl rfl rfl rfl) rfl ?_
              refine w_pure want_none (y_pickF (v := .bool _) rfl rfl rfl rfl) rfl ?_
              refine w_pure want_none (y_move (v := .bool _) rfl rfl) rfl ?_
              refine w_split (fun h156 => ?_) (fun h156 => ?_)
              ·
                try simp only [Bool.not_eq_true', Bool.not_eq_false', decide_eq_true_eq, decide_eq_false_iff_not, Int.not_lt, Int.not_le] at h156
                refine w_pure (want_yes rfl rfl rfl) (y_move (v := .int _ _) rfl rfl) rfl ?_
                refine w_pure (want_yes rfl rfl rfl) (y_eql rfl rfl rfl rfl) rfl ?_
                refine w_pure (want_yes rfl rfl rfl) (y_move (v := .bool _) rfl rfl) rfl ?_
                refine w_split (fun h157 => ?_) (fun h157 => ?_)
                ·
                  try simp only [Bool.not_eq_true', Bool.not_eq_false', decide_eq_true_eq, decide_eq_false_iff_not, Int.not_lt, Int.not_le] at h157
                  refine w_skipop rfl rfl rfl ?_
                  refine w_skipop rfl rfl rfl ?_
                  refine w_pure (want_yes rfl rfl rfl) (y_pickT (v := _) rfl rfl rfl rfl) rfl ?_
                  refine w_pure want_none (y_pickT (v := .bool _) rfl rfl rfl rfl) rfl ?_
                  refine w_pure want_none (y_move (v := .bool _) rfl rfl) rfl ?_
                  refine w_pure (want_yes rfl rfl rfl) (y_move (v := .int _ _) rfl rfl) rfl ?_
                  refine w_pure (want_yes rfl rfl rfl) (y_neq rfl rfl rfl rfl) rfl ?_
                  refine w_pure (want_yes rfl rfl rfl) (y_move (v := .bool _) rfl rfl) rfl ?_
                  refine w_split (fun h158 => ?_) (fun h158 => ?_)
                  ·
                    try simp only [Bool.not_eq_true', Bool.not_eq_false', decide_eq_true_eq, decide_eq_false_iff_not, Int.not_lt, Int.not_le] at h158
                    refine w_skipop rfl rfl rfl ?_
                    refine w_skipop rfl rfl rfl ?_
                    refine w_skipop rfl rfl rfl ?_
                    refine w_skipop' rfl rfl rfl ?_
                    refine w_skipop' rfl rfl rfl ?_
                    refine w_skipop' rfl rfl rfl ?_
                    refine w_skipop rfl rfl rfl ?_
                    refine w_pure (want_yes rfl rfl rfl) (y_pickT (v := _) rfl rfl rfl rfl) rfl ?_
                    refine w_pure want_none (y_pickT (v := .bool _) rfl rfl rfl rfl) rfl ?_
                    refine w_pure want_none (y_move (v := .bool _) rfl rfl) rfl ?_
                    refine w_call (want_yes rfl rfl rfl) Try.call23 rfl rfl rfl rfl (c23 hs81) ?_
                    rintro _ w160 ⟨rfl, hs161⟩
                    refine w_pure want_none (y_pickT (v := .bool _) rfl rfl rfl rfl) rfl ?_
                    refine w_pure want_none (y_assign (v := .bool _) rfl rfl) rfl ?_
                    refine w_nil ?_
                    refine q_then (hK133 _ _ ?_)
                    refine w_ret ?_
                    refine q_ret (l := [.tmp 6]) (vs := [_]) rfl ⟨⟨rfl, show _ = (.bool _ : Value) from rfl⟩, trivial⟩ ?_
                    exact ⟨rfl, hs161.drop.drop.tail.tail.tail.tail.tail⟩
                  ·
                    try simp only [Bool.not_eq_true', Bool.not_eq_false', decide_eq_true_eq, decide_eq_false_iff_not, Int.not_lt, Int.not_le] at h158
                    refine w_pure (want_yes rfl rfl rfl) (y_move (v := .int _ _) rfl rfl) rfl ?_
                    refine w_pure (want_yes rfl rfl rfl) (y_eql rfl rfl rfl rfl) rfl ?_
                    refine w_pure (want_yes rfl rfl rfl) (y_move (v := .bool _) rfl rfl) rfl ?_
                    refine w_split (fun h162 => ?_) (fun h162 => ?_)
                    ·
                      try simp only [Bool.not_eq_true', Bool.not_eq_false', decide_eq_true_eq, decide_eq_false_iff_not, Int.not_lt, Int.not_le] at h162
                      refine w_pure (want_yes rfl rfl rfl) (y_move (v := .int _ _) rfl rfl) rfl ?_
                      refine w_pure (want_yes rfl rfl rfl) (y_move (v := .int _ _) rfl rfl) rfl ?_
                      refine w_pure (want_yes rfl rfl rfl) (y_leq rfl rfl rfl rfl) rfl ?_
                      refine w_pure (want_yes rfl rfl rfl) (y_pickT (v := .bool _) rfl rfl rfl rfl) rfl ?_
                      refine w_pure (want_yes rfl rfl rfl) (y_pickF (v := .bool _) rfl rfl rfl rfl) rfl ?_
                      refine w_pure want_none (y_pickT (v := .bool _) rfl rfl rfl rfl) rfl ?_
                      refine w_pure want_none (y_move (v := .bool _) rfl rfl) rfl ?_
                      refine w_split (fun h163 => ?_) (fun h163 => ?_)
                      ·
                        try simp only [Bool.not_eq_true', Bool.not_eq_false', decide_eq_true_eq, decide_eq_false_iff_not, Int.not_lt, Int.not_le] at h163
                        refine w_call (want_yes rfl rfl rfl) Try.call23 rfl rfl rfl rfl (c23 hs81) ?_
                        rintro _ w165 ⟨rfl, hs166⟩
                        refine w_pure want_none (y_pickT (v := .bool _) rfl rfl rfl rfl) rfl ?_
                        refine w_pure want_none (y_assign (v := .bool _) rfl rfl) rfl ?_
                        refine w_nil ?_
                        refine q_then (hK133 _ _ ?_)
                        refine w_ret ?_
                        refine q_ret (l := [.tmp 6]) (vs := [_]) rfl ⟨⟨rfl, show _ = (.bool _ : Value) from rfl⟩, trivial⟩ ?_
                        exact ⟨rfl, hs166.drop.drop.tail.tail.tail.tail.tail⟩
                      ·
                        exfalso
                        try simp only [Bool.not_eq_true', Bool.not_eq_false', decide_eq_true_eq, decide_eq_false_iff_not, Int.not_lt, Int.not_le] at h163
                        omega
                    ·
                      exfalso
                      try simp only [Bool.not_eq_true', Bool.not_eq_false', decide_eq_true_eq, decide_eq_false_iff_not, Int.not_lt, Int.not_le] at h162
                      omega
                ·
                  try simp only [Bool.not_eq_true', Bool.not_eq_false', decide_eq_true_eq, decide_eq_false_iff_not, Int.not_lt, Int.not_le] at h157
                  refine w_pure (want_yes rfl rfl rfl) (y_move (v := .int _ _) rfl rfl) rfl ?_
                  refine w_pure (want_yes rfl rfl rfl) (y_eql rfl rfl rfl rfl) rfl ?_
                  refine w_pure (want_yes rfl rfl rfl) (y_pickF (v := .bool _) rfl rfl rfl rfl) rfl ?_
                  refine w_pure want_none (y_pickT (v := .bool _) rfl rfl rfl rfl) rfl ?_
                  refine w_pure want_none (y_move (v := .bool _) rfl rfl) rfl ?_
                  refine w_split (fun h167 => ?_) (fun h167 => ?_)
                  ·
                    try simp only [Bool.not_eq_true', Bool.not_eq_false', decide_eq_true_eq, decide_eq_false_iff_not, Int.not_lt, Int.not_le] at h167
                    refine w_pure (want_yes rfl rfl rfl) (y_move (v := .int _ _) rfl rfl) rfl ?_
                    refine w_pure (want_yes rfl rfl rfl) (y_neq rfl rfl rfl rfl) rfl ?_
                    refine w_pure (want_yes rfl rfl rfl) (y_move (v := .bool _) rfl rfl) rfl ?_
                    refine w_split (fun h168 => ?_) (fun h168 => ?_)
                    ·
                      try simp only [Bool.not_eq_true', Bool.not_eq_false', decide_eq_true_eq, decide_eq_false_iff_not, Int.not_lt, Int.not_le] at h168
                      refine w_skipop rfl rfl rfl ?_
                      refine w_skipop rfl rfl rfl ?_
                      refine w_skipop rfl rfl rfl ?_
                      refine w_skipop' rfl rfl rfl ?_
                      refine w_skipop' rfl rfl rfl ?_
                      refine w_skipop' rfl rfl rfl ?_
                      refine w_skipop rfl rfl rfl ?_
                      refine w_pure (want_yes rfl rfl rfl) (y_pickT (v := _) rfl rfl rfl rfl) rfl ?_
                      refine w_pure want_none (y_pickT (v := .bool _) rfl rfl rfl rfl) rfl ?_
                      refine w_pure want_none (y_move (v := .bool _) rfl rfl) rfl ?_
                      refine w_call (want_yes rfl rfl rfl) Try.call23 rfl rfl rfl rfl (c23 hs81) ?_
                      rintro _ w170 ⟨rfl, hs171⟩
                      refine w_pure want_none (y_pickT (v := .bool _) rfl rfl rfl rfl) rfl ?_
                      refine w_pure want_none (y_assign (v := .bool _) rfl rfl) rfl ?_
                      refine w_nil ?_
                      refine q_then (hK133 _ _ ?_)
                      refine w_ret ?_
                      refine q_ret (l := [.tmp 6]) (vs := [_]) rfl ⟨⟨rfl, show _ = (.bool _ : Value) from rfl⟩, trivial⟩ ?_
                      exact ⟨rfl, hs171.drop.drop.tail.tail.tail.tail.tail⟩
                    ·
                      try simp only [Bool.not_eq_true', Bool.not_eq_false', decide_eq_true_eq, decide_eq_false_iff_not, Int.not_lt, Int.not_le] at h168
                      refine w_pure (want_yes rfl rfl rfl) (y_move (v := .int _ _) rfl rfl) rfl ?_
                      refine w_pure (want_yes rfl rfl rfl) (y_eql rfl rfl rfl rfl) rfl ?_
                      refine w_pure (want_yes rfl rfl rfl) (y_move (v := .bool _) rfl rfl) rfl ?_
                      refine w_split (fun h172 => ?_) (fun h172 => ?_)
                      ·
                        try simp only [Bool.not_eq_true', Bool.not_eq_false', decide_eq_true_eq, decide_eq_false_iff_not, Int.not_lt, Int.not_le] at h172
                        refine w_pure (want_yes rfl rfl rfl) (y_move (v := .int _ _) rfl rfl) rfl ?_
                        refine w_pure (want_yes rfl rfl rfl) (y_move (v := .int _ _) rfl rfl) rfl ?_
                        refine w_pure (want_yes rfl rfl rfl) (y_leq rfl rfl rfl rfl) rfl ?_
                        refine w_pure (want_yes rfl rfl rfl) (y_pickT (v := .bool _) rfl rfl rfl rfl) rfl ?_
                        refine w_pure (want_yes rfl rfl rfl) (y_pickF (v := .bool _) rfl rfl rfl rfl) rfl ?_
                        refine w_pure want_none (y_pickT (v := .bool _) rfl rfl rfl rfl) rfl ?_
                        refine w_pure want_none (y_move (v := .bool _) rfl rfl) rfl ?_
                        refine w_split (fun h173 => ?_) (fun h173 => ?_)
                        ·
                          try simp only [Bool.not_eq_true', Bool.not_eq_false', decide_eq_true_eq, decide_eq_false_iff_not, Int.not_lt, Int.not_le] at h173
                          refine w_call (want_yes rfl rfl rfl) Try.call23 rfl rfl rfl rfl (c23 hs81) ?_
                          rintro _ w175 ⟨rfl, hs176⟩
                          refine w_pure want_none (y_pickT (v := .bool _) rfl rfl rfl rfl) rfl ?_
                          refine w_pure want_none (y_assign (v := .bool _) rfl rfl) rfl ?_
                          refine w_nil ?_
                          refine q_then (hK133 _ _ ?_)
                          refine w_ret ?_
                          refine q_ret (l := [.tmp 6]) (vs := [_]) rfl ⟨⟨rfl, show _ = (.bool _ : Value) from rfl⟩, trivial⟩ ?_
                          exact ⟨rfl, hs176.drop.drop.tail.tail.tail.tail.tail⟩
                        ·
                          exfalso
                          try simp only [Bool.not_eq_true', Bool.not_eq_false', decide_eq_true_eq, decide_eq_false_iff_not, Int.not_lt, Int.not_le] at h173
                          omega
                      ·
                        exfalso
                        try simp only [Bool.not_eq_true', Bool.not_eq_false', decide_eq_true_eq, decide_eq_false_iff_not, Int.not_lt, Int.not_le] at h172
                        omega
                  ·
                    exfalso
                    try simp only [Bool.not_eq_true', Bool.not_eq_false', decide_eq_true_eq, decide_eq_false_iff_not, Int.not_lt, Int.not_le] at h167
                    omega
              ·
                exfalso
                try simp only [Bool.not_eq_true', Bool.not_eq_false', decide_eq_true_eq, decide_eq_false_iff_not, Int.not_lt, Int.not_le] at h156
                omega
    ·
      refine w_bslice (ps := [(0, _)]) (pv := [(0, .agg #[.string _, .int _ _, .int _ _, .int _ _, .int _ _, .int _ _])]) (cs := [_, _, _, _, _, _]) want_none rfl rfl (fun w => Try_Zj_fb10 _ _ _ _ _ _ w) hs22 (fun b177 w178 hs179 => ?_)
      refine w_nil ?_
      refine qn ⟨hs179.tail.tail, ?_⟩
      refine dt_done ?_
      refine d_eff rfl ?_
      refine w_append (X := (_ :: [])) (B := [_]) (rows := (rows p.farms)) (sz := 6) (bytes := 56) want_none Try.underlying24 Try_info60 rfl rfl rfl rfl rfl rfl rfl rfl rfl hs179 own_made ha.cons.cons.cons.cons.cons (by simp [rows]) hnil (rows_one p.farms) (by simp only [maxLen]; omega) (by omega) (fun v180 w181 B182 ho183 hs184 => ?_)
      replace hs184 := (show St _ _ (_ :: B182 ++ (_ :: _ :: _ :: F)) from hs184)
      refine w_nil ?_
      refine qn ⟨hs184.tail.drop, ?_⟩
      refine d_eff rfl ?_
      refine w_append (X := (_ :: [])) (B := B182) (rows := [f.cells]) (sz := 6) (bytes := 56) want_none Try.underlying24 Try_info60 rfl rfl rfl rfl rfl rfl rfl rfl rfl hs184 ho183 (sl_own (i := 0) rfl (by simp [Farm.cells]) rfl) rfl (by simp) (by simp [Value.oneCell', Farm.cells]) (by simp only [maxLen]; omega) (by omega) (fun v185 w186 B187 ho188 hs189 => ?_)
      replace hs189 := (show St _ _ (_ :: B187 ++ (_ :: _ :: _ :: F)) from hs189)
      refine w_nil ?_
      refine qn ⟨hs189.tail.drop, ?_⟩
      refine d_any rfl want_none rfl (fun _ => (y_fieldAddr (o := 3) (i := 2) Try.underlying26 rfl Try.sizeOf24 rfl rfl rfl)) ?_
      have hmo := more_own (p := p) (f := f) ho188
      obtain ⟨bc, cap, cs0, rfl, rfl, hcap, hcl0, hcs0⟩ := own_some hmo (by simp [moreP])
      replace hs189 := (show St _ _ (_ :: _ :: _ :: _ :: _ :: F) from hs189)
      refine d_late rfl ?_
      refine w_store (i := 2) (v := .slice _ _ _) (vs := [_]) want_none Try.sizeOf24 rfl rfl rfl rfl rfl (by simp [Value.oneCell']) hs189 rfl (Nat.le_of_ble_eq_true rfl) (fun w190 hs191 => ?_)
      refine w_nil ?_
      refine qn ?_
      refine d_nil ?_
      refine q_then (hK16 _ _ ?_)
      refine w_seq (fun K193 hK192 => ?_)
      refine w_seq (fun K195 hK194 => ?_)
      have hb7 := ats_of hs191 (i := 2) (off := 0) (vs := [_, _, _, _]) rfl rfl
      have hsz : Sl w0 _ (some ⟨bc, 0, none⟩) 6 (rows (moreP p f).farms) := (fun {L : List (Nat × Obj)} (hs : St w0 _ L) (h : L[1]? = some (bc, blk 60 _)) => sl_own_rows (w0 := w0) h rfl hcs0) hs191 rfl
      have hnm2 : ∀ g ∈ (moreP p f).farms, g.name.size ≤ 9223372036854775807 := by
        intro g hg
        rcases List.mem_append.1 hg with h | h
        · exact hnm g h
        · rw [List.mem_singleton] at h; subst h; exact hfn
      have hml : (moreP p f).farms.length = p.farms.length + 1 := by simp [moreP]
      refine w_region ?_
      refine w_pure want_none (y_loadN (vs := [_, _, _, _]) Try.isAgg26 Try.sizeOf26 hs191.tail.tail.tail.tail rfl rfl hbx3) rfl ?_
      refine w_call want_none Try.call37 rfl rfl rfl rfl (c37 p _ _ (by omega) (by omega) ha.cons.cons.cons.cons.cons hnm  hs191) ?_
      rintro _ w197 ⟨rfl, hs198⟩
      refine w_pure want_none (y_not rfl rfl) rfl ?_
      refine w_pure want_none (y_move (v := .bool _) rfl rfl) rfl ?_
      refine w_split (fun h199 => ?_) (fun h199 => ?_)
      ·
        try simp only [Bool.not_eq_true', Bool.not_eq_false', decide_eq_true_eq, decide_eq_false_iff_not, Int.not_lt, Int.not_le] at h199
        refine w_skipop rfl rfl rfl ?_
        refine w_skipop rfl rfl rfl ?_
        refine w_skipop rfl rfl rfl ?_
        refine w_pure want_none (y_pickT (v := _) rfl rfl rfl rfl) rfl ?_
        refine w_nil ?_
        refine q_then (hK194 _ _ ?_)
        refine w_condT rfl rfl ?_
        refine w_seq (fun K201 hK200 => ?_)
        refine w_region ?_
        refine w_call want_none Try.call23 rfl rfl rfl rfl (c23 hs198) ?_
        rintro _ w203 ⟨rfl, hs204⟩
        refine w_pure want_none (y_assign (v := .bool _) rfl rfl) rfl ?_
        refine w_nil ?_
        refine q_then (hK200 _ _ ?_)
        refine w_ret ?_
        refine q_then_ret ?_
        refine q_ret (l := [.tmp 6]) (vs := [_]) rfl ⟨⟨rfl, show _ = (.bool _ : Value) from rfl⟩, trivial⟩ ?_
        exact ⟨rfl, hs204.tail.tail.tail.tail.tail⟩
      ·
        try simp only [Bool.not_eq_true', Bool.not_eq_false', decide_eq_true_eq, decide_eq_false_iff_not, Int.not_lt, Int.not_le] at h199
        refine w_pure (want_yes rfl rfl rfl) (y_loadN (vs := [_, _, _, _]) Try.isAgg26 Try.sizeOf26 hs198 rfl rfl hb7) rfl ?_
        refine w_call (want_yes rfl rfl rfl) Try.call37 rfl rfl rfl rfl (c37 (moreP p f) _ _ (by omega) hcap hsz hnm2  hs198) ?_
        rintro _ w206 ⟨rfl, hs207⟩
        refine w_pure (want_yes rfl rfl rfl) (y_not rfl rfl) rfl ?_
        refine w_pure want_none (y_pickF (v := .bool _) rfl rfl rfl rfl) rfl ?_
        refine w_nil ?_
        refine q_then (hK194 _ _ ?_)
        refine w_cond rfl rfl (fun h208 => ?_) (fun h208 => ?_)
        ·
          try simp only [Bool.not_eq_true', Bool.not_eq_false', decide_eq_true_eq, decide_eq_false_iff_not, Int.not_lt, Int.not_le] at h208
          refine w_seq (fun K210 hK209 => ?_)
          refine w_region ?_
          refine w_call want_none Try.call23 rfl rfl rfl rfl (c23 hs207) ?_
          rintro _ w212 ⟨rfl, hs213⟩
          refine w_pure want_none (y_assign (v := .bool _) rfl rfl) rfl ?_
          refine w_nil ?_
          refine q_then (hK209 _ _ ?_)
          refine w_ret ?_
          refine q_then_ret ?_
          refine q_ret (l := [.tmp 6]) (vs := [_]) rfl ⟨⟨rfl, show _ = (.bool _ : Value) from rfl⟩, trivial⟩ ?_
          exact ⟨rfl, hs213.tail.tail.tail.tail.tail⟩
        ·
          try simp only [Bool.not_eq_true', Bool.not_eq_false', decide_eq_true_eq, decide_eq_false_iff_not, Int.not_lt, Int.not_le] at h208
          refine w_skip ?_
          refine q_then (hK192 _ _ ?_)
          refine w_seq (fun K215 hK214 => ?_)
          have hck : (check p).2.2 = 0 := by assumption
          have hcm : (check (moreP p f)).2.2 = 0 := by assumption
          have hpe := plan_e09 hck
          have hmp := more_plan hck hcm
          refine w_region ?_
          refine w_pure want_none (y_move (v := .int _ _) rfl rfl) rfl ?_
          refine w_pure want_none (y_u8int (by rw [Try.underlying5]; rfl) Try.underlying3 rfl rfl (by omega) (by omega)) rfl ?_
          refine w_pure want_none (y_rem rfl rfl rfl rfl (by omega) (by omega)) rfl ?_
          refine w_pure want_none (y_assign (v := .int _ _) rfl rfl) rfl ?_
          refine w_nil ?_
          refine q_then (hK214 _ _ ?_)
          refine w_seq (fun K217 hK216 => ?_)
          have hz : 0 ≤ d % 11 ∧ d % 11 < 11 := by omega
          generalize d % 11 = z at hz ⊢
          have hte := told_e hck (z := z) (by omega) (by omega)
          have hte1 : toldE p z = 0 ∨ toldE p z = 9 := by omega
          clear hte
          have hmt := more_told hck hcm (z := z) (by omega) (by omega)
          refine w_region ?_
          refine w_pure want_none (y_loadN (vs := [_, _, _, _]) Try.isAgg26 Try.sizeOf26 hs207.tail.tail.tail.tail rfl rfl hbx3) rfl ?_
          refine w_call want_none Try.call26 rfl rfl rfl rfl (c26 p _ _ (by omega) (by omega) ha.cons.cons.cons.cons.cons hnm  hs207) ?_
          rintro _ w219 ⟨B1, aq_B1, cq_B1, rfl, h_B1, hs220⟩
          replace hs220 := (show St _ _ (B1 ++ (_ :: _ :: _ :: _ :: _ :: F)) from hs220)
          refine w_pure want_none (y_move (v := .tuple _) rfl rfl) rfl ?_
          refine w_pure want_none (y_extract (v := .slice _ _ _) rfl rfl rfl) rfl ?_
          refine w_pure want_none (y_extract (v := .int _ _) rfl rfl rfl) rfl ?_
          refine w_pure want_none (y_extract (v := .int _ _) rfl rfl rfl) rfl ?_
          refine w_pure want_none (y_assign (v := .slice _ _ _) rfl rfl) rfl ?_
          refine w_pure want_none (y_assign (v := .int _ _) rfl rfl) rfl ?_
          refine w_pure want_none (y_assign (v := .int _ _) rfl rfl) rfl ?_
          refine w_nil ?_
          refine q_then (hK216 _ _ ?_)
          refine w_seq (fun K222 hK221 => ?_)
          refine w_region ?_
          refine w_pure want_none (y_loadN (vs := [_, _, _, _]) Try.isAgg26 Try.sizeOf26 hs220.drop rfl rfl hb7) rfl ?_
          refine w_call want_none Try.call26 rfl rfl rfl rfl (c26 (moreP p f) _ _ (by omega) hcap hsz.app hnm2  hs220) ?_
          rintro _ w224 ⟨B2, aq_B2, cq_B2, rfl, h_B2, hs225⟩
          replace hs225 := (show St _ _ (B2 ++ (B1 ++ (_ :: _ :: _ :: _ :: _ :: F))) from hs225)
          refine w_pure want_none (y_move (v := .tuple _) rfl rfl) rfl ?_
          refine w_pure want_none (y_extract (v := .slice _ _ _) rfl rfl rfl) rfl ?_
          refine w_pure want_none (y_extract (v := .int _ _) rfl rfl rfl) rfl ?_
          refine w_pure want_none (y_extract (v := .int _ _) rfl rfl rfl) rfl ?_
          refine w_pure want_none (y_assign (v := .slice _ _ _) rfl rfl) rfl ?_
          refine w_pure want_none (y_assign (v := .int _ _) rfl rfl) rfl ?_
          refine w_pure want_none (y_assign (v := .int _ _) rfl rfl) rfl ?_
          refine w_nil ?_
          refine q_then (hK221 _ _ ?_)
          refine w_seq (fun K227 hK226 => ?_)
          refine w_region ?_
          refine w_pure want_none (y_loadN (vs := [_, _, _, _]) Try.isAgg26 Try.sizeOf26 hs225.drop.drop.tail.tail.tail.tail rfl rfl hbx3) rfl ?_
          refine w_pure want_none (y_move (v := .int _ _) rfl rfl) rfl ?_
          refine w_call want_none Try.call33 rfl rfl rfl rfl (c33 p _ _ (by omega) (by omega) ha.cons.cons.cons.cons.cons.app.app hnm z hs225) ?_
          rintro _ w229 ⟨rfl, hs230⟩
          refine w_pure want_none (y_move (v := .tuple _) rfl rfl) rfl ?_
          refine w_pure want_none (y_extract (v := .int _ _) rfl rfl rfl) rfl ?_
          refine w_pure want_none (y_extract (v := .int _ _) rfl rfl rfl) rfl ?_
          refine w_pure want_none (y_assign (v := .int _ _) rfl rfl) rfl ?_
          refine w_pure want_none (y_assign (v := .int _ _) rfl rfl) rfl ?_
          refine w_nil ?_
          refine q_then (hK226 _ _ ?_)
          refine w_seq (fun K232 hK231 => ?_)
          refine w_region ?_
          refine w_pure want_none (y_loadN (vs := [_, _, _, _]) Try.isAgg26 Try.sizeOf26 hs230.drop.drop rfl rfl hb7) rfl ?_
          refine w_pure want_none (y_move (v := .int _ _) rfl rfl) rfl ?_
          refine w_call want_none Try.call33 rfl rfl rfl rfl (c33 (moreP p f) _ _ (by omega) hcap hsz.app.app hnm2 z hs230) ?_
          rintro _ w234 ⟨rfl, hs235⟩
          refine w_pure want_none (y_move (v := .tuple _) rfl rfl) rfl ?_
          refine w_pure want_none (y_extract (v := .int _ _) rfl rfl rfl) rfl ?_
          refine w_pure want_none (y_extract (v := .int _ _) rfl rfl rfl) rfl ?_
          refine w_pure want_none (y_assign (v := .int _ _) rfl rfl) rfl ?_
          refine w_pure want_none (y_assign (v := .int _ _) rfl rfl) rfl ?_
          refine w_nil ?_
          refine q_then (hK231 _ _ ?_)
          refine w_seq (fun K237 hK236 => ?_)
          refine w_seq (fun K239 hK238 => ?_)
          refine w_region ?_
          refine w_pure want_none (y_move (v := .int _ _) rfl rfl) rfl ?_
          refine w_pure want_none (y_eql rfl rfl rfl rfl) rfl ?_
          refine w_pure want_none (y_move (v := .bool _) rfl rfl) rfl ?_
          refine w_split (fun h240 => ?_) (fun h240 => ?_)
          ·
            try simp only [Bool.not_eq_true', Bool.not_eq_false', decide_eq_true_eq, decide_eq_false_iff_not, Int.not_lt, Int.not_le] at h240
            refine w_pure (want_yes rfl rfl rfl) (y_move (v := .int _ _) rfl rfl) rfl ?_
            refine w_pure (want_yes rfl rfl rfl) (y_neq rfl rfl rfl rfl) rfl ?_
            refine w_pure (want_yes rfl rfl rfl) (y_move (v := .bool _) rfl rfl) rfl ?_
            refine w_split (fun h241 => ?_) (fun h241 => ?_)
            ·
              exfalso
              try simp only [Bool.not_eq_true', Bool.not_eq_false', decide_eq_true_eq, decide_eq_false_iff_not, Int.not_lt, Int.not_le] at h241
              omega
            ·
              try simp only [Bool.not_eq_true', Bool.not_eq_false', decide_eq_true_eq, decide_eq_false_iff_not, Int.not_lt, Int.not_le] at h241
              refine w_pure (want_yes rfl rfl rfl) (y_move (v := .int _ _) rfl rfl) rfl ?_
              refine w_pure (want_yes rfl rfl rfl) (y_move (v := .int _ _) rfl rfl) rfl ?_
              refine w_pure (want_yes rfl rfl rfl) (y_gtr rfl rfl rfl rfl) rfl ?_
              refine w_pure (want_yes rfl rfl rfl) (y_pickF (v := .bool _) rfl rfl rfl rfl) rfl ?_
              refine w_pure want_none (y_pickT (v := .bool _) rfl rfl rfl rfl) rfl ?_
              refine w_nil ?_
              refine q_then (hK238 _ _ ?_)
              refine w_cond rfl rfl (fun h242 => ?_) (fun h242 => ?_)
              ·
                exfalso
                try simp only [Bool.not_eq_true', Bool.not_eq_false', decide_eq_true_eq, decide_eq_false_iff_not, Int.not_lt, Int.not_le] at h242
                omega
              ·
                try simp only [Bool.not_eq_true', Bool.not_eq_false', decide_eq_true_eq, decide_eq_false_iff_not, Int.not_lt, Int.not_le] at h242
                refine w_skip ?_
                refine q_then (hK236 _ _ ?_)
                refine w_seq (fun K244 hK243 => ?_)
                refine w_region ?_
                refine w_pure want_none (y_move (v := .int _ _) rfl rfl) rfl ?_
                refine w_pure want_none (y_eql rfl rfl rfl rfl) rfl ?_
                refine w_pure want_none (y_move (v := .bool _) rfl rfl) rfl ?_
                refine w_split (fun h245 => ?_) (fun h245 => ?_)
                ·
                  try simp only [Bool.not_eq_true', Bool.not_eq_false', decide_eq_true_eq, decide_eq_false_iff_not, Int.not_lt, Int.not_le] at h245
                  refine w_skipop rfl rfl rfl ?_
                  refine w_skipop rfl rfl rfl ?_
                  refine w_pure want_none (y_pickT (v := _) rfl rfl rfl rfl) rfl ?_
                  refine w_pure want_none (y_move (v := .bool _) rfl rfl) rfl ?_
                  refine w_pure (want_yes rfl rfl rfl) (y_move (v := .int _ _) rfl rfl) rfl ?_
                  refine w_pure (want_yes rfl rfl rfl) (y_eql rfl rfl rfl rfl) rfl ?_
                  refine w_pure (want_yes rfl rfl rfl) (y_move (v := .bool _) rfl rfl) rfl ?_
                  refine w_split (fun h246 => ?_) (fun h246 => ?_)
                  ·
                    try simp only [Bool.not_eq_true', Bool.not_eq_false', decide_eq_true_eq, decide_eq_false_iff_not, Int.not_lt, Int.not_le] at h246
                    refine w_skipop rfl rfl rfl ?_
                    refine w_skipop rfl rfl rfl ?_
                    refine w_pure (want_yes rfl rfl rfl) (y_pickT (v := _) rfl rfl rfl rfl) rfl ?_
                    refine w_pure want_none (y_pickT (v := .bool _) rfl rfl rfl rfl) rfl ?_
                    refine w_pure want_none (y_move (v := .bool _) rfl rfl) rfl ?_
                    refine w_pure (want_yes rfl rfl rfl) (y_move (v := .int _ _) rfl rfl) rfl ?_
                    refine w_pure (want_yes rfl rfl rfl) (y_neq rfl rfl rfl rfl) rfl ?_
                    refine w_pure (want_yes rfl rfl rfl) (y_move (v := .bool _) rfl rfl) rfl ?_
                    refine w_split (fun h247 => ?_) (fun h247 => ?_)
                    ·
                      try simp only [Bool.not_eq_true', Bool.not_eq_false', decide_eq_true_eq, decide_eq_false_iff_not, Int.not_lt, Int.not_le] at h247
                      refine w_skipop rfl rfl rfl ?_
                      refine w_skipop rfl rfl rfl ?_
                      refine w_skipop rfl rfl rfl ?_
                      refine w_skipop' rfl rfl rfl ?_
                      refine w_skipop' rfl rfl rfl ?_
                      refine w_skipop' rfl rfl rfl ?_
                      refine w_skipop rfl rfl rfl ?_
                      refine w_pure (want_yes rfl rfl rfl) (y_pickT (v := _) rfl rfl rfl rfl) rfl ?_
                      refine w_pure want_none (y_pickT (v := .bool _) rfl rfl rfl rfl) rfl ?_
                      refine w_pure want_none (y_move (v := .bool _) rfl rfl) rfl ?_
                      refine w_call (want_yes rfl rfl rfl) Try.call23 rfl rfl rfl rfl (c23 hs235) ?_
                      rintro _ w249 ⟨rfl, hs250⟩
                      refine w_pure want_none (y_pickT (v := .bool _) rfl rfl rfl rfl) rfl ?_
                      refine w_pure want_none (y_assign (v := .bool _) rfl rfl) rfl ?_
                      refine w_nil ?_
                      refine q_then (hK243 _ _ ?_)
                      refine w_ret ?_
                      refine q_ret (l := [.tmp 6]) (vs := [_]) rfl ⟨⟨rfl, show _ = (.bool _ : Value) from rfl⟩, trivial⟩ ?_
                      exact ⟨rfl, hs250.drop.drop.tail.tail.tail.tail.tail⟩
                    ·
                      try simp only [Bool.not_eq_true', Bool.not_eq_false', decide_eq_true_eq, decide_eq_false_iff_not, Int.not_lt, Int.not_le] at h247
                      refine w_pure (want_yes rfl rfl rfl) (y_move (v := .int _ _) rfl rfl) rfl ?_
                      refine w_pure (want_yes rfl rfl rfl) (y_eql rfl rfl rfl rfl) rfl ?_
                      refine w_pure (want_yes rfl rfl rfl) (y_move (v := .bool _) rfl rfl) rfl ?_
                      refine w_split (fun h251 => ?_) (fun h251 => ?_)
                      ·
                        try simp only [Bool.not_eq_true', Bool.not_eq_false', decide_eq_true_eq, decide_eq_false_iff_not, Int.not_lt, Int.not_le] at h251
                        refine w_pure (want_yes rfl rfl rfl) (y_move (v := .int _ _) rfl rfl) rfl ?_
                        refine w_pure (want_yes rfl rfl rfl) (y_move (v := .int _ _) rfl rfl) rfl ?_
                        refine w_pure (want_yes rfl rfl rfl) (y_leq rfl rfl rfl rfl) rfl ?_
                        refine w_pure (want_yes rfl rfl rfl) (y_pickT (v := .bool _) rfl rfl rfl rfl) rfl ?_
                        refine w_pure (want_yes rfl rfl rfl) (y_pickF (v := .bool _) rfl rfl rfl rfl) rfl ?_
                        refine w_pure want_none (y_pickT (v := .bool _) rfl rfl rfl rfl) rfl ?_
                        refine w_pure want_none (y_move (v := .bool _) rfl rfl) rfl ?_
                        refine w_split (fun h252 => ?_) (fun h252 => ?_)
                        ·
                          try simp only [Bool.not_eq_true', Bool.not_eq_false', decide_eq_true_eq, decide_eq_false_iff_not, Int.not_lt, Int.not_le] at h252
                          refine w_call (want_yes rfl rfl rfl) Try.call23 rfl rfl rfl rfl (c23 hs235) ?_
                          rintro _ w254 ⟨rfl, hs255⟩
                          refine w_pure want_none (y_pickT (v := .bool _) rfl rfl rfl rfl) rfl ?_
                          refine w_pure want_none (y_assign (v := .bool _) rfl rfl) rfl ?_
                          refine w_nil ?_
                          refine q_then (hK243 _ _ ?_)
                          refine w_ret ?_
                          refine q_ret (l := [.tmp 6]) (vs := [_]) rfl ⟨⟨rfl, show _ = (.bool _ : Value) from rfl⟩, trivial⟩ ?_
                          exact ⟨rfl, hs255.drop.drop.tail.tail.tail.tail.tail⟩
                        ·
                          exfalso
                          try simp only [Bool.not_eq_true', Bool.not_eq_false', decide_eq_true_eq, decide_eq_false_iff_not, Int.not_lt, Int.not_le] at h252
                          omega
                      ·
                        exfalso
                        try simp only [Bool.not_eq_true', Bool.not_eq_false', decide_eq_true_eq, decide_eq_false_iff_not, Int.not_lt, Int.not_le] at h251
                        omega
                  ·
                    try simp only [Bool.not_eq_true', Bool.not_eq_false', decide_eq_true_eq, decide_eq_false_iff_not, Int.not_lt, Int.not_le] at h246
                    refine w_pure (want_yes rfl rfl rfl) (y_move (v := .int _ _) rfl rfl) rfl ?_
                    refine w_pure (want_yes rfl rfl rfl) (y_eql rfl rfl rfl rfl) rfl ?_
                    refine w_pure (want_yes rfl rfl rfl) (y_pickF (v := .bool _) rfl rfl rfl rfl) rfl ?_
                    refine w_pure want_none (y_pickT (v := .bool _) rfl rfl rfl rfl) rfl ?_
                    refine w_pure want_none (y_move (v := .bool _) rfl rfl) rfl ?_
                    refine w_split (fun h256 => ?_) (fun h256 => ?_)
                    ·
                      try simp only [Bool.not_eq_true', Bool.not_eq_false', decide_eq_true_eq, decide_eq_false_iff_not, Int.not_lt, Int.not_le] at h256
                      refine w_pure (want_yes rfl rfl rfl) (y_move (v := .int _ _) rfl rfl) rfl ?_
                      refine w_pure (want_yes rfl rfl rfl) (y_neq rfl rfl rfl rfl) rfl ?_
                      refine w_pure (want_yes rfl rfl rfl) (y_move (v := .bool _) rfl rfl) rfl ?_
                      refine w_split (fun h257 => ?_) (fun h257 => ?_)
                      ·
                        try simp only [Bool.not_eq_true', Bool.not_eq_false', decide_eq_true_eq, decide_eq_false_iff_not, Int.not_lt, Int.not_le] at h257
                        refine w_skipop rfl rfl rfl ?_
                        refine w_skipop rfl rfl rfl ?_
                        refine w_skipop rfl rfl rfl ?_
                        refine w_skipop' rfl rfl rfl ?_
                        refine w_skipop' rfl rfl rfl ?_
                        refine w_skipop' rfl rfl rfl ?_
                        refine w_skipop rfl rfl rfl ?_
                        refine w_pure (want_yes rfl rfl rfl) (y_pickT (v := _) rfl rfl rfl rfl) rfl ?_
                        refine w_pure want_none (y_pickT (v := .bool _) rfl rfl rfl rfl) rfl ?_
                        refine w_pure want_none (y_move (v := .bool _) rfl rfl) rfl ?_
                        refine w_call (want_yes rfl rfl rfl) Try.call23 rfl rfl rfl rfl (c23 hs235) ?_
                        rintro _ w259 ⟨rfl, hs260⟩
                        refine w_pure want_none (y_pickT (v := .bool _) rfl rfl rfl rfl) rfl ?_
                        refine w_pure want_none (y_assign (v := .bool _) rfl rfl) rfl ?_
                        refine w_nil ?_
                        refine q_then (hK243 _ _ ?_)
                        refine w_ret ?_
                        refine q_ret (l := [.tmp 6]) (vs := [_]) rfl ⟨⟨rfl, show _ = (.bool _ : Value) from rfl⟩, trivial⟩ ?_
                        exact ⟨rfl, hs260.drop.drop.tail.tail.tail.tail.tail⟩
                      ·
                        try simp only [Bool.not_eq_true', Bool.not_eq_false', decide_eq_true_eq, decide_eq_false_iff_not, Int.not_lt, Int.not_le] at h257
                        refine w_pure (want_yes rfl rfl rfl) (y_move (v := .int _ _) rfl rfl) rfl ?_
                        refine w_pure (want_yes rfl rfl rfl) (y_eql rfl rfl rfl rfl) rfl ?_
                        refine w_pure (want_yes rfl rfl rfl) (y_move (v := .bool _) rfl rfl) rfl ?_
                        refine w_split (fun h261 => ?_) (fun h261 => ?_)
                        ·
                          try simp only [Bool.not_eq_true', Bool.not_eq_false', decide_eq_true_eq, decide_eq_false_iff_not, Int.not_lt, Int.not_le] at h261
                          refine w_pure (want_yes rfl rfl rfl) (y_move (v := .int _ _) rfl rfl) rfl ?_
                          refine w_pure (want_yes rfl rfl rfl) (y_move (v := .int _ _) rfl rfl) rfl ?_
                          refine w_pure (want_yes rfl rfl rfl) (y_leq rfl rfl rfl rfl) rfl ?_
                          refine w_pure (want_yes rfl rfl rfl) (y_pickT (v := .bool _) rfl rfl rfl rfl) rfl ?_
                          refine w_pure (want_yes rfl rfl rfl) (y_pickF (v := .bool _) rfl rfl rfl rfl) rfl ?_
                          refine w_pure want_none (y_pickT (v := .bool _) rfl rfl rfl rfl) rfl ?_
                          refine w_pure want_none (y_move (v := .bool _) rfl rfl) rfl ?_
                          refine w_split (fun h262 => ?_) (fun h262 => ?_)
                          ·
                            try simp only [Bool.not_eq_true', Bool.not_eq_false', decide_eq_true_eq, decide_eq_false_iff_not, Int.not_lt, Int.not_le] at h262
                            refine w_call (want_yes rfl rfl rfl) Try.call23 rfl rfl rfl rfl (c23 hs235) ?_
                            rintro _ w264 ⟨rfl, hs265⟩
                            refine w_pure want_none (y_pickT (v := .bool _) rfl rfl rfl rfl) rfl ?_
                            refine w_pure want_none (y_assign (v := .bool _) rfl rfl) rfl ?_
                            refine w_nil ?_
                            refine q_then (hK243 _ _ ?_)
                            refine w_ret ?_
                            refine q_ret (l := [.tmp 6]) (vs := [_]) rfl ⟨⟨rfl, show _ = (.bool _ : Value) from rfl⟩, trivial⟩ ?_
                            exact ⟨rfl, hs265.drop.drop.tail.tail.tail.tail.tail⟩
                          ·
                            exfalso
                            try simp only [Bool.not_eq_true', Bool.not_eq_false', decide_eq_true_eq, decide_eq_false_iff_not, Int.not_lt, Int.not_le] at h262
                            omega
                        ·
                          exfalso
                          try simp only [Bool.not_eq_true', Bool.not_eq_false', decide_eq_true_eq, decide_eq_false_iff_not, Int.not_lt, Int.not_le] at h261
                          omega
                    ·
                      exfalso
                      try simp only [Bool.not_eq_true', Bool.not_eq_false', decide_eq_true_eq, decide_eq_false_iff_not, Int.not_lt, Int.not_le] at h256
                      omega
                ·
                  try simp only [Bool.not_eq_true', Bool.not_eq_false', decide_eq_true_eq, decide_eq_false_iff_not, Int.not_lt, Int.not_le] at h245
                  refine w_pure (want_yes rfl rfl rfl) (y_move (v := .int _ _) rfl rfl) rfl ?_
                  refine w_pure (want_yes rfl rfl rfl) (y_eql rfl rfl rfl rfl) rfl ?_
                  refine w_pure want_none (y_pickF (v := .bool _) rfl rfl rfl rfl) rfl ?_
                  refine w_pure want_none (y_move (v := .bool _) rfl rfl) rfl ?_
                  refine w_split (fun h266 => ?_) (fun h266 => ?_)
                  ·
                    try simp only [Bool.not_eq_true', Bool.not_eq_false', decide_eq_true_eq, decide_eq_false_iff_not, Int.not_lt, Int.not_le] at h266
                    refine w_pure (want_yes rfl rfl rfl) (y_move (v := .int _ _) rfl rfl) rfl ?_
                    refine w_pure (want_yes rfl rfl rfl) (y_eql rfl rfl rfl rfl) rfl ?_
                    refine w_pure (want_yes rfl rfl rfl) (y_move (v := .bool _) rfl rfl) rfl ?_
                    refine w_split (fun h267 => ?_) (fun h267 => ?_)
                    ·
                      try simp only [Bool.not_eq_true', Bool.not_eq_false', decide_eq_true_eq, decide_eq_false_iff_not, Int.not_lt, Int.not_le] at h267
                      refine w_skipop rfl rfl rfl ?_
                      refine w_skipop rfl rfl rfl ?_
                      refine w_pure (want_yes rfl rfl rfl) (y_pickT (v := _) rfl rfl rfl rfl) rfl ?_
                      refine w_pure want_none (y_pickT (v := .bool _) rfl rfl rfl rfl) rfl ?_
                      refine w_pure want_none (y_move (v := .bool _) rfl rfl) rfl ?_
                      refine w_pure (want_yes rfl rfl rfl) (y_move (v := .int _ _) rfl rfl) rfl ?_
                      refine w_pure (want_yes rfl rfl rfl) (y_neq rfl rfl rfl rfl) rfl ?_
                      refine w_pure (want_yes rfl rfl rfl) (y_move (v := .bool _) rfl rfl) rfl ?_
                      refine w_split (fun h268 => ?_) (fun h268 => ?_)
                      ·
                        try simp only [Bool.not_eq_true', Bool.not_eq_false', decide_eq_true_eq, decide_eq_false_iff_not, Int.not_lt, Int.not_le] at h268
                        refine w_skipop rfl rfl rfl ?_
                        refine w_skipop rfl rfl rfl ?_
                        refine w_skipop rfl rfl rfl ?_
                        refine w_skipop' rfl rfl rfl ?_
                        refine w_skipop' rfl rfl rfl ?_
                        refine w_skipop' rfl rfl rfl ?_
                        refine w_skipop rfl rfl rfl ?_
                        refine w_pure (want_yes rfl rfl rfl) (y_pickT (v := _) rfl rfl rfl rfl) rfl ?_
                        refine w_pure want_none (y_pickT (v := .bool _) rfl rfl rfl rfl) rfl ?_
                        refine w_pure want_none (y_move (v := .bool _) rfl rfl) rfl ?_
                        refine w_call (want_yes rfl rfl rfl) Try.call23 rfl rfl rfl rfl (c23 hs235) ?_
                        rintro _ w270 ⟨rfl, hs271⟩
                        refine w_pure want_none (y_pickT (v := .bool _) rfl rfl rfl rfl) rfl ?_
                        refine w_pure want_none (y_assign (v := .bool _) rfl rfl) rfl ?_
                        refine w_nil ?_
                        refine q_then (hK243 _ _ ?_)
                        refine w_ret ?_
                        refine q_ret (l := [.tmp 6]) (vs := [_]) rfl ⟨⟨rfl, show _ = (.bool _ : Value) from rfl⟩, trivial⟩ ?_
                        exact ⟨rfl, hs271.drop.drop.tail.tail.tail.tail.tail⟩
                      ·
                        try simp only [Bool.not_eq_true', Bool.not_eq_false', decide_eq_true_eq, decide_eq_false_iff_not, Int.not_lt, Int.not_le] at h268
                        refine w_pure (want_yes rfl rfl rfl) (y_move (v := .int _ _) rfl rfl) rfl ?_
                        refine w_pure (want_yes rfl rfl rfl) (y_eql rfl rfl rfl rfl) rfl ?_
                        refine w_pure (want_yes rfl rfl rfl) (y_move (v := .bool _) rfl rfl) rfl ?_
                        refine w_split (fun h272 => ?_) (fun h272 => ?_)
                        ·
                          try simp only [Bool.not_eq_true', Bool.not_eq_false', decide_eq_true_eq, decide_eq_false_iff_not, Int.not_lt, Int.not_le] at h272
                          refine w_pure (want_yes rfl rfl rfl) (y_move (v := .int _ _) rfl rfl) rfl ?_
                          refine w_pure (want_yes rfl rfl rfl) (y_move (v := .int _ _) rfl rfl) rfl ?_
                          refine w_pure (want_yes rfl rfl rfl) (y_leq rfl rfl rfl rfl) rfl ?_
                          refine w_pure (want_yes rfl rfl rfl) (y_pickT (v := .bool _) rfl rfl rfl rfl) rfl ?_
                          refine w_pure (want_yes rfl rfl rfl) (y_pickF (v := .bool _) rfl rfl rfl rfl) rfl ?_
                          refine w_pure want_none (y_pickT (v := .bool _) rfl rfl rfl rfl) rfl ?_
                          refine w_pure want_none (y_move (v := .bool _) rfl rfl) rfl ?_
                          refine w_split (fun h273 => ?_) (fun h273 => ?_)
                          ·
                            try simp only [Bool.not_eq_true', Bool.not_eq_false', decide_eq_true_eq, decide_eq_false_iff_not, Int.not_lt, Int.not_le] at h273
                            refine w_call (want_yes rfl rfl rfl) Try.call23 rfl rfl rfl rfl (c23 hs235) ?_
                            rintro _ w275 ⟨rfl, hs276⟩
                            refine w_pure want_none (y_pickT (v := .bool _) rfl rfl rfl rfl) rfl ?_
                            refine w_pure want_none (y_assign (v := .bool _) rfl rfl) rfl ?_
                            refine w_nil ?_
                            refine q_then (hK243 _ _ ?_)
                            refine w_ret ?_
                            refine q_ret (l := [.tmp 6]) (vs := [_]) rfl ⟨⟨rfl, show _ = (.bool _ : Value) from rfl⟩, trivial⟩ ?_
                            exact ⟨rfl, hs276.drop.drop.tail.tail.tail.tail.tail⟩
                          ·
                            exfalso
                            try simp only [Bool.not_eq_true', Bool.not_eq_false', decide_eq_true_eq, decide_eq_false_iff_not, Int.not_lt, Int.not_le] at h273
                            omega
                        ·
                          exfalso
                          try simp only [Bool.not_eq_true', Bool.not_eq_false', decide_eq_true_eq, decide_eq_false_iff_not, Int.not_lt, Int.not_le] at h272
                          omega
                    ·
                      try simp only [Bool.not_eq_true', Bool.not_eq_false', decide_eq_true_eq, decide_eq_false_iff_not, Int.not_lt, Int.not_le] at h267
                      refine w_pure (want_yes rfl rfl rfl) (y_move (v := .int _ _) rfl rfl) rfl ?_
                      refine w_pure (want_yes rfl rfl rfl) (y_eql rfl rfl rfl rfl) rfl ?_
                      refine w_pure (want_yes rfl rfl rfl) (y_pickF (v := .bool _) rfl rfl rfl rfl) rfl ?_
                      refine w_pure want_none (y_pickT (v := .bool _) rfl rfl rfl rfl) rfl ?_
                      refine w_pure want_none (y_move (v := .bool _) rfl rfl) rfl ?_
                      refine w_split (fun h277 => ?_) (fun h277 => ?_)
                      ·
                        try simp only [Bool.not_eq_true', Bool.not_eq_false', decide_eq_true_eq, decide_eq_false_iff_not, Int.not_lt, Int.not_le] at h277
                        refine w_pure (want_yes rfl rfl rfl) (y_move (v := .int _ _) rfl rfl) rfl ?_
                        refine w_pure (want_yes rfl rfl rfl) (y_neq rfl rfl rfl rfl) rfl ?_
                        refine w_pure (want_yes rfl rfl rfl) (y_move (v := .bool _) rfl rfl) rfl ?_
                        refine w_split (fun h278 => ?_) (fun h278 => ?_)
                        ·
                          try simp only [Bool.not_eq_true', Bool.not_eq_false', decide_eq_true_eq, decide_eq_false_iff_not, Int.not_lt, Int.not_le] at h278
                          refine w_skipop rfl rfl rfl ?_
                          refine w_skipop rfl rfl rfl ?_
                          refine w_skipop rfl rfl rfl ?_
                          refine w_skipop' rfl rfl rfl ?_
                          refine w_skipop' rfl rfl rfl ?_
                          refine w_skipop' rfl rfl rfl ?_
                          refine w_skipop rfl rfl rfl ?_
                          refine w_pure (want_yes rfl rfl rfl) (y_pickT (v := _) rfl rfl rfl rfl) rfl ?_
                          refine w_pure want_none (y_pickT (v := .bool _) rfl rfl rfl rfl) rfl ?_
                          refine w_pure want_none (y_move (v := .bool _) rfl rfl) rfl ?_
                          refine w_call (want_yes rfl rfl rfl) Try.call23 rfl rfl rfl rfl (c23 hs235) ?_
                          rintro _ w280 ⟨rfl, hs281⟩
                          refine w_pure want_none (y_pickT (v := .bool _) rfl rfl rfl rfl) rfl ?_
                          refine w_pure want_none (y_assign (v := .bool _) rfl rfl) rfl ?_
                          refine w_nil ?_
                          refine q_then (hK243 _ _ ?_)
                          refine w_ret ?_
                          refine q_ret (l := [.tmp 6]) (vs := [_]) rfl ⟨⟨rfl, show _ = (.bool _ : Value) from rfl⟩, trivial⟩ ?_
                          exact ⟨rfl, hs281.drop.drop.tail.tail.tail.tail.tail⟩
                        ·
                          try simp only [Bool.not_eq_true', Bool.not_eq_false', decide_eq_true_eq, decide_eq_false_iff_not, Int.not_lt, Int.not_le] at h278
                          refine w_pure (want_yes rfl rfl rfl) (y_move (v := .int _ _) rfl rfl) rfl ?_
                          refine w_pure (want_yes rfl rfl rfl) (y_eql rfl rfl rfl rfl) rfl ?_
                          refine w_pure (want_yes rfl rfl rfl) (y_move (v := .bool _) rfl rfl) rfl ?_
                          refine w_split (fun h282 => ?_) (fun h282 => ?_)
                          ·
                            try simp only [Bool.not_eq_true', Bool.not_eq_false', decide_eq_true_eq, decide_eq_false_iff_not, Int.not_lt, Int.not_le] at h282
                            refine w_pure (want_yes rfl rfl rfl) (y_move (v := .int _ _) rfl rfl) rfl ?_
                            refine w_pure (want_yes rfl rfl rfl) (y_move (v := .int _ _) rfl rfl) rfl ?_
                            refine w_pure (want_yes rfl rfl rfl) (y_leq rfl rfl rfl rfl) rfl ?_
                            refine w_pure (want_yes rfl rfl rfl) (y_pickT (v := .bool _) rfl rfl rfl rfl) rfl ?_
                            refine w_pure (want_yes rfl rfl rfl) (y_pickF (v := .bool _) rfl rfl rfl rfl) rfl ?_
                            refine w_pure want_none (y_pickT (v := .bool _) rfl rfl rfl rfl) rfl ?_
                            refine w_pure want_none (y_move (v := .bool _) rfl rfl) rfl ?_
                            refine w_split (fun h283 => ?_) (fun h283 => ?_)
                            ·
                              try simp only [Bool.not_eq_true', Bool.not_eq_false', decide_eq_true_eq, decide_eq_false_iff_not, Int.not_lt, Int.not_le] at h283
                              refine w_call (want_yes rfl rfl rfl) Try.call23 rfl rfl rfl rfl (c23 hs235) ?_
                              rintro _ w285 ⟨rfl, hs286⟩
                              refine w_pure want_none (y_pickT (v := .bool _) rfl rfl rfl rfl) rfl ?_
                              refine w_pure want_none (y_assign (v := .bool _) rfl rfl) rfl ?_
                              refine w_nil ?_
                              refine q_then (hK243 _ _ ?_)
                              refine w_ret ?_
                              refine q_ret (l := [.tmp 6]) (vs := [_]) rfl ⟨⟨rfl, show _ = (.bool _ : Value) from rfl⟩, trivial⟩ ?_
                              exact ⟨rfl, hs286.drop.drop.tail.tail.tail.tail.tail⟩
                            ·
                              exfalso
                              try simp only [Bool.not_eq_true', Bool.not_eq_false', decide_eq_true_eq, decide_eq_false_iff_not, Int.not_lt, Int.not_le] at h283
                              omega
                          ·
                            exfalso
                            try simp only [Bool.not_eq_true', Bool.not_eq_false', decide_eq_true_eq, decide_eq_false_iff_not, Int.not_lt, Int.not_le] at h282
                            omega
                      ·
                        exfalso
                        try simp only [Bool.not_eq_true', Bool.not_eq_false', decide_eq_true_eq, decide_eq_false_iff_not, Int.not_lt, Int.not_le] at h277
                        omega
                  ·
                    exfalso
                    try simp only [Bool.not_eq_true', Bool.not_eq_false', decide_eq_true_eq, decide_eq_false_iff_not, Int.not_lt, Int.not_le] at h266
                    omega
          ·
            try simp only [Bool.not_eq_true', Bool.not_eq_false', decide_eq_true_eq, decide_eq_false_iff_not, Int.not_lt, Int.not_le] at h240
            refine w_skipop rfl rfl rfl ?_
            refine w_skipop rfl rfl rfl ?_
            refine w_skipop rfl rfl rfl ?_
            refine w_skipop' rfl rfl rfl ?_
            refine w_skipop' rfl rfl rfl ?_
            refine w_skipop' rfl rfl rfl ?_
            refine w_skipop rfl rfl rfl ?_
            refine w_pure want_none (y_pickF (v := _) rfl rfl rfl rfl) rfl ?_
            refine w_nil ?_
            refine q_then (hK238 _ _ ?_)
            refine w_condF rfl rfl ?_
            refine w_skip ?_
            refine q_then (hK236 _ _ ?_)
            refine w_seq (fun K288 hK287 => ?_)
            refine w_region ?_
            refine w_pure want_none (y_move (v := .int _ _) rfl rfl) rfl ?_
            refine w_pure want_none (y_eql rfl rfl rfl rfl) rfl ?_
            refine w_pure want_none (y_move (v := .bool _) rfl rfl) rfl ?_
            refine w_split (fun h289 => ?_) (fun h289 => ?_)
            ·
              try simp only [Bool.not_eq_true', Bool.not_eq_false', decide_eq_true_eq, decide_eq_false_iff_not, Int.not_lt, Int.not_le] at h289
              refine w_skipop rfl rfl rfl ?_
              refine w_skipop rfl rfl rfl ?_
              refine w_pure want_none (y_pickT (v := _) rfl rfl rfl rfl) rfl ?_
              refine w_pure want_none (y_move (v := .bool _) rfl rfl) rfl ?_
              refine w_pure (want_yes rfl rfl rfl) (y_move (v := .int _ _) rfl rfl) rfl ?_
              refine w_pure (want_yes rfl rfl rfl) (y_eql rfl rfl rfl rfl) rfl ?_
              refine w_pure (want_yes rfl rfl rfl) (y_move (v := .bool _) rfl rfl) rfl ?_
              refine w_split (fun h290 => ?_) (fun h290 => ?_)
              ·
                try simp only [Bool.not_eq_true', Bool.not_eq_false', decide_eq_true_eq, decide_eq_false_iff_not, Int.not_lt, Int.not_le] at h290
                refine w_skipop rfl rfl rfl ?_
                refine w_skipop rfl rfl rfl ?_
                refine w_pure (want_yes rfl rfl rfl) (y_pickT (v := _) rfl rfl rfl rfl) rfl ?_
                refine w_pure want_none (y_pickT (v := .bool _) rfl rfl rfl rfl) rfl ?_
                refine w_pure want_none (y_move (v := .bool _) rfl rfl) rfl ?_
                refine w_pure (want_yes rfl rfl rfl) (y_move (v := .int _ _) rfl rfl) rfl ?_
                refine w_pure (want_yes rfl rfl rfl) (y_neq rfl rfl rfl rfl) rfl ?_
                refine w_pure (want_yes rfl rfl rfl) (y_move (v := .bool _) rfl rfl) rfl ?_
                refine w_split (fun h291 => ?_) (fun h291 => ?_)
                ·
                  try simp only [Bool.not_eq_true', Bool.not_eq_false', decide_eq_true_eq, decide_eq_false_iff_not, Int.not_lt, Int.not_le] at h291
                  refine w_skipop rfl rfl rfl ?_
                  refine w_skipop rfl rfl rfl ?_
                  refine w_skipop rfl rfl rfl ?_
                  refine w_skipop' rfl rfl rfl ?_
                  refine w_skipop' rfl rfl rfl ?_
                  refine w_skipop' rfl rfl rfl ?_
                  refine w_skipop rfl rfl rfl ?_
                  refine w_pure (want_yes rfl rfl rfl) (y_pickT (v := _) rfl rfl rfl rfl) rfl ?_
                  refine w_pure want_none (y_pickT (v := .bool _) rfl rfl rfl rfl) rfl ?_
                  refine w_pure want_none (y_move (v := .bool _) rfl rfl) rfl ?_
                  refine w_call (want_yes rfl rfl rfl) Try.call23 rfl rfl rfl rfl (c23 hs235) ?_
                  rintro _ w293 ⟨rfl, hs294⟩
                  refine w_pure want_none (y_pickT (v := .bool _) rfl rfl rfl rfl) rfl ?_
                  refine w_pure want_none (y_assign (v := .bool _) rfl rfl) rfl ?_
                  refine w_nil ?_
                  refine q_then (hK287 _ _ ?_)
                  refine w_ret ?_
                  refine q_ret (l := [.tmp 6]) (vs := [_]) rfl ⟨⟨rfl, show _ = (.bool _ : Value) from rfl⟩, trivial⟩ ?_
                  exact ⟨rfl, hs294.drop.drop.tail.tail.tail.tail.tail⟩
                ·
                  try simp only [Bool.not_eq_true', Bool.not_eq_false', decide_eq_true_eq, decide_eq_false_iff_not, Int.not_lt, Int.not_le] at h291
                  refine w_pure (want_yes rfl rfl rfl) (y_move (v := .int _ _) rfl rfl) rfl ?_
                  refine w_pure (want_yes rfl rfl rfl) (y_eql rfl rfl rfl rfl) rfl ?_
                  refine w_pure (want_yes rfl rfl rfl) (y_move (v := .bool _) rfl rfl) rfl ?_
                  refine w_split (fun h295 => ?_) (fun h295 => ?_)
                  ·
                    try simp only [Bool.not_eq_true', Bool.not_eq_false', decide_eq_true_eq, decide_eq_false_iff_not, Int.not_lt, Int.not_le] at h295
                    refine w_pure (want_yes rfl rfl rfl) (y_move (v := .int _ _) rfl rfl) rfl ?_
                    refine w_pure (want_yes rfl rfl rfl) (y_move (v := .int _ _) rfl rfl) rfl ?_
                    refine w_pure (want_yes rfl rfl rfl) (y_leq rfl rfl rfl rfl) rfl ?_
                    refine w_pure (want_yes rfl rfl rfl) (y_pickT (v := .bool _) rfl rfl rfl rfl) rfl ?_
                    refine w_pure (want_yes rfl rfl rfl) (y_pickF (v := .bool _) rfl rfl rfl rfl) rfl ?_
                    refine w_pure want_none (y_pickT (v := .bool _) rfl rfl rfl rfl) rfl ?_
                    refine w_pure want_none (y_move (v := .bool _) rfl rfl) rfl ?_
                    refine w_split (fun h296 => ?_) (fun h296 => ?_)
                    ·
                      try simp only [Bool.not_eq_true', Bool.not_eq_false', decide_eq_true_eq, decide_eq_false_iff_not, Int.not_lt, Int.not_le] at h296
                      refine w_call (want_yes rfl rfl rfl) Try.call23 rfl rfl rfl rfl (c23 hs235) ?_
                      rintro _ w298 ⟨rfl, hs299⟩
                      refine w_pure want_none (y_pickT (v := .bool _) rfl rfl rfl rfl) rfl ?_
                      refine w_pure want_none (y_assign (v := .bool _) rfl rfl) rfl ?_
                      refine w_nil ?_
                      refine q_then (hK287 _ _ ?_)
                      refine w_ret ?_
                      refine q_ret (l := [.tmp 6]) (vs := [_]) rfl ⟨⟨rfl, show _ = (.bool _ : Value) from rfl⟩, trivial⟩ ?_
                      exact ⟨rfl, hs299.drop.drop.tail.tail.tail.tail.tail⟩
                    ·
                      exfalso
                      try simp only [Bool.not_eq_true', Bool.not_eq_false', decide_eq_true_eq, decide_eq_false_iff_not, Int.not_lt, Int.not_le] at h296
                      omega
                  ·
                    exfalso
                    try simp only [Bool.not_eq_true', Bool.not_eq_false', decide_eq_true_eq, decide_eq_false_iff_not, Int.not_lt, Int.not_le] at h295
                    omega
              ·
                try simp only [Bool.not_eq_true', Bool.not_eq_false', decide_eq_true_eq, decide_eq_false_iff_not, Int.not_lt, Int.not_le] at h290
                refine w_pure (want_yes rfl rfl rfl) (y_move (v := .int _ _) rfl rfl) rfl ?_
                refine w_pure (want_yes rfl rfl rfl) (y_eql rfl rfl rfl rfl) rfl ?_
                refine w_pure (want_yes rfl rfl rfl) (y_pickF (v := .bool _) rfl rfl rfl rfl) rfl ?_
                refine w_pure want_none (y_pickT (v := .bool _) rfl rfl rfl rfl) rfl ?_
                refine w_pure want_none (y_move (v := .bool _) rfl rfl) rfl ?_
                refine w_split (fun h300 => ?_) (fun h300 => ?_)
                ·
                  try simp only [Bool.not_eq_true', Bool.not_eq_false', decide_eq_true_eq, decide_eq_false_iff_not, Int.not_lt, Int.not_le] at h300
                  refine w_pure (want_yes rfl rfl rfl) (y_move (v := .int _ _) rfl rfl) rfl ?_
                  refine w_pure (want_yes rfl rfl rfl) (y_neq rfl rfl rfl rfl) rfl ?_
                  refine w_pure (want_yes rfl rfl rfl) (y_move (v := .bool _) rfl rfl) rfl ?_
                  refine w_split (fun h301 => ?_) (fun h301 => ?_)
                  ·
                    try simp only [Bool.not_eq_true', Bool.not_eq_false', decide_eq_true_eq, decide_eq_false_iff_not, Int.not_lt, Int.not_le] at h301
                    refine w_skipop rfl rfl rfl ?_
                    refine w_skipop rfl rfl rfl ?_
                    refine w_skipop rfl rfl rfl ?_
                    refine w_skipop' rfl rfl rfl ?_
                    refine w_skipop' rfl rfl rfl ?_
                    refine w_skipop' rfl rfl rfl ?_
                    refine w_skipop rfl rfl rfl ?_
                    refine w_pure (want_yes rfl rfl rfl) (y_pickT (v := _) rfl rfl rfl rfl) rfl ?_
                    refine w_pure want_none (y_pickT (v := .bool _) rfl rfl rfl rfl) rfl ?_
                    refine w_pure want_none (y_move (v := .bool _) rfl rfl) rfl ?_
                    refine w_call (want_yes rfl rfl rfl) Try.call23 rfl rfl rfl rfl (c23 hs235) ?_
                    rintro _ w303 ⟨rfl, hs304⟩
                    refine w_pure want_none (y_pickT (v := .bool _) rfl rfl rfl rfl) rfl ?_
                    refine w_pure want_none (y_assign (v := .bool _) rfl rfl) rfl ?_
                    refine w_nil ?_
                    refine q_then (hK287 _ _ ?_)
                    refine w_ret ?_
                    refine q_ret (l := [.tmp 6]) (vs := [_]) rfl ⟨⟨rfl, show _ = (.bool _ : Value) from rfl⟩, trivial⟩ ?_
                    exact ⟨rfl, hs304.drop.drop.tail.tail.tail.tail.tail⟩
                  ·
                    try simp only [Bool.not_eq_true', Bool.not_eq_false', decide_eq_true_eq, decide_eq_false_iff_not, Int.not_lt, Int.not_le] at h301
                    refine w_pure (want_yes rfl rfl rfl) (y_move (v := .int _ _) rfl rfl) rfl ?_
                    refine w_pure (want_yes rfl rfl rfl) (y_eql rfl rfl rfl rfl) rfl ?_
                    refine w_pure (want_yes rfl rfl rfl) (y_move (v := .bool _) rfl rfl) rfl ?_
                    refine w_split (fun h305 => ?_) (fun h305 => ?_)
                    ·
                      try simp only [Bool.not_eq_true', Bool.not_eq_false', decide_eq_true_eq, decide_eq_false_iff_not, Int.not_lt, Int.not_le] at h305
                      refine w_pure (want_yes rfl rfl rfl) (y_move (v := .int _ _) rfl rfl) rfl ?_
                      refine w_pure (want_yes rfl rfl rfl) (y_move (v := .int _ _) rfl rfl) rfl ?_
                      refine w_pure (want_yes rfl rfl rfl) (y_leq rfl rfl rfl rfl) rfl ?_
                      refine w_pure (want_yes rfl rfl rfl) (y_pickT (v := .bool _) rfl rfl rfl rfl) rfl ?_
                      refine w_pure (want_yes rfl rfl rfl) (y_pickF (v := .bool _) rfl rfl rfl rfl) rfl ?_
                      refine w_pure want_none (y_pickT (v := .bool _) rfl rfl rfl rfl) rfl ?_
                      refine w_pure want_none (y_move (v := .bool _) rfl rfl) rfl ?_
                      refine w_split (fun h306 => ?_) (fun h306 => ?_)
                      ·
                        try simp only [Bool.not_eq_true', Bool.not_eq_false', decide_eq_true_eq, decide_eq_false_iff_not, Int.not_lt, Int.not_le] at h306
                        refine w_call (want_yes rfl rfl rfl) Try.call23 rfl rfl rfl rfl (c23 hs235) ?_
                        rintro _ w308 ⟨rfl, hs309⟩
                        refine w_pure want_none (y_pickT (v := .bool _) rfl rfl rfl rfl) rfl ?_
                        refine w_pure want_none (y_assign (v := .bool _) rfl rfl) rfl ?_
                        refine w_nil ?_
                        refine q_then (hK287 _ _ ?_)
                        refine w_ret ?_
                        refine q_ret (l := [.tmp 6]) (vs := [_]) rfl ⟨⟨rfl, show _ = (.bool _ : Value) from rfl⟩, trivial⟩ ?_
                        exact ⟨rfl, hs309.drop.drop.tail.tail.tail.tail.tail⟩
                      ·
                        exfalso
                        try simp only [Bool.not_eq_true', Bool.not_eq_false', decide_eq_true_eq, decide_eq_false_iff_not, Int.not_lt, Int.not_le] at h306
                        omega
                    ·
                      exfalso
                      try simp only [Bool.not_eq_true', Bool.not_eq_false', decide_eq_true_eq, decide_eq_false_iff_not, Int.not_lt, Int.not_le] at h305
                      omega
                ·
                  exfalso
                  try simp only [Bool.not_eq_true', Bool.not_eq_false', decide_eq_true_eq, decide_eq_false_iff_not, Int.not_lt, Int.not_le] at h300
                  omega
            ·
              try simp only [Bool.not_eq_true', Bool.not_eq_false', decide_eq_true_eq, decide_eq_false_iff_not, Int.not_lt, Int.not_le] at h289
              refine w_pure (want_yes rfl rfl rfl) (y_move (v := .int _ _) rfl rfl) rfl ?_
              refine w_pure (want_yes rfl rfl rfl) (y_eql rfl rfl rfl rfl) rfl ?_
              refine w_pure want_none (y_pickF (v := .bool _) rfl rfl rfl rfl) rfl ?_
              refine w_pure want_none (y_move (v := .bool _) rfl rfl) rfl ?_
              refine w_split (fun h310 => ?_) (fun h310 => ?_)
              ·
                try simp only [Bool.not_eq_true', Bool.not_eq_false', decide_eq_true_eq, decide_eq_false_iff_not, Int.not_lt, Int.not_le] at h310
                refine w_pure (want_yes rfl rfl rfl) (y_move (v := .int _ _) rfl rfl) rfl ?_
                refine w_pure (want_yes rfl rfl rfl) (y_eql rfl rfl rfl rfl) rfl ?_
                refine w_pure (want_yes rfl rfl rfl) (y_move (v := .bool _) rfl rfl) rfl ?_
                refine w_split (fun h311 => ?_) (fun h311 => ?_)
                ·
                  try simp only [Bool.not_eq_true', Bool.not_eq_false', decide_eq_true_eq, decide_eq_false_iff_not, Int.not_lt, Int.not_le] at h311
                  refine w_skipop rfl rfl rfl ?_
                  refine w_skipop rfl rfl rfl ?_
                  refine w_pure (want_yes rfl rfl rfl) (y_pickT (v := _) rfl rfl rfl rfl) rfl ?_
                  refine w_pure want_none (y_pickT (v := .bool _) rfl rfl rfl rfl) rfl ?_
                  refine w_pure want_none (y_move (v := .bool _) rfl rfl) rfl ?_
                  refine w_pure (want_yes rfl rfl rfl) (y_move (v := .int _ _) rfl rfl) rfl ?_
                  refine w_pure (want_yes rfl rfl rfl) (y_neq rfl rfl rfl rfl) rfl ?_
                  refine w_pure (want_yes rfl rfl rfl) (y_move (v := .bool _) rfl rfl) rfl ?_
                  refine w_split (fun h312 => ?_) (fun h312 => ?_)
                  ·
                    try simp only [Bool.not_eq_true', Bool.not_eq_false', decide_eq_true_eq, decide_eq_false_iff_not, Int.not_lt, Int.not_le] at h312
                    refine w_skipop rfl rfl rfl ?_
                    refine w_skipop rfl rfl rfl ?_
                    refine w_skipop rfl rfl rfl ?_
                    refine w_skipop' rfl rfl rfl ?_
                    refine w_skipop' rfl rfl rfl ?_
                    refine w_skipop' rfl rfl rfl ?_
                    refine w_skipop rfl rfl rfl ?_
                    refine w_pure (want_yes rfl rfl rfl) (y_pickT (v := _) rfl rfl rfl rfl) rfl ?_
                    refine w_pure want_none (y_pickT (v := .bool _) rfl rfl rfl rfl) rfl ?_
                    refine w_pure want_none (y_move (v := .bool _) rfl rfl) rfl ?_
                    refine w_call (want_yes rfl rfl rfl) Try.call23 rfl rfl rfl rfl (c23 hs235) ?_
                    rintro _ w314 ⟨rfl, hs315⟩
                    refine w_pure want_none (y_pickT (v := .bool _) rfl rfl rfl rfl) rfl ?_
                    refine w_pure want_none (y_assign (v := .bool _) rfl rfl) rfl ?_
                    refine w_nil ?_
                    refine q_then (hK287 _ _ ?_)
                    refine w_ret ?_
                    refine q_ret (l := [.tmp 6]) (vs := [_]) rfl ⟨⟨rfl, show _ = (.bool _ : Value) from rfl⟩, trivial⟩ ?_
                    exact ⟨rfl, hs315.drop.drop.tail.tail.tail.tail.tail⟩
                  ·
                    try simp only [Bool.not_eq_true', Bool.not_eq_false', decide_eq_true_eq, decide_eq_false_iff_not, Int.not_lt, Int.not_le] at h312
                    refine w_pure (want_yes rfl rfl rfl) (y_move (v := .int _ _) rfl rfl) rfl ?_
                    refine w_pure (want_yes rfl rfl rfl) (y_eql rfl rfl rfl rfl) rfl ?_
                    refine w_pure (want_yes rfl rfl rfl) (y_move (v := .bool _) rfl rfl) rfl ?_
                    refine w_split (fun h316 => ?_) (fun h316 => ?_)
                    ·
                      try simp only [Bool.not_eq_true', Bool.not_eq_false', decide_eq_true_eq, decide_eq_false_iff_not, Int.not_lt, Int.not_le] at h316
                      refine w_pure (want_yes rfl rfl rfl) (y_move (v := .int _ _) rfl rfl) rfl ?_
                      refine w_pure (want_yes rfl rfl rfl) (y_move (v := .int _ _) rfl rfl) rfl ?_
                      refine w_pure (want_yes rfl rfl rfl) (y_leq rfl rfl rfl rfl) rfl ?_
                      refine w_pure (want_yes rfl rfl rfl) (y_pickT (v := .bool _) rfl rfl rfl rfl) rfl ?_
                      refine w_pure (want_yes rfl rfl rfl) (y_pickF (v := .bool _) rfl rfl rfl rfl) rfl ?_
                      refine w_pure want_none (y_pickT (v := .bool _) rfl rfl rfl rfl) rfl ?_
                      refine w_pure want_none (y_move (v := .bool _) rfl rfl) rfl ?_
                      refine w_split (fun h317 => ?_) (fun h317 => ?_)
                      ·
                        try simp only [Bool.not_eq_true', Bool.not_eq_false', decide_eq_true_eq, decide_eq_false_iff_not, Int.not_lt, Int.not_le] at h317
                        refine w_call (want_yes rfl rfl rfl) Try.call23 rfl rfl rfl rfl (c23 hs235) ?_
                        rintro _ w319 ⟨rfl, hs320⟩
                        refine w_pure want_none (y_pickT (v := .bool _) rfl rfl rfl rfl) rfl ?_
                        refine w_pure want_none (y_assign (v := .bool _) rfl rfl) rfl ?_
                        refine w_nil ?_
                        refine q_then (hK287 _ _ ?_)
                        refine w_ret ?_
                        refine q_ret (l := [.tmp 6]) (vs := [_]) rfl ⟨⟨rfl, show _ = (.bool _ : Value) from rfl⟩, trivial⟩ ?_
                        exact ⟨rfl, hs320.drop.drop.tail.tail.tail.tail.tail⟩
                      ·
                        exfalso
                        try simp only [Bool.not_eq_true', Bool.not_eq_false', decide_eq_true_eq, decide_eq_false_iff_not, Int.not_lt, Int.not_le] at h317
                        omega
                    ·
                      exfalso
                      try simp only [Bool.not_eq_true', Bool.not_eq_false', decide_eq_true_eq, decide_eq_false_iff_not, Int.not_lt, Int.not_le] at h316
                      omega
                ·
                  try simp only [Bool.not_eq_true', Bool.not_eq_false', decide_eq_true_eq, decide_eq_false_iff_not, Int.not_lt, Int.not_le] at h311
                  refine w_pure (want_yes rfl rfl rfl) (y_move (v := .int _ _) rfl rfl) rfl ?_
                  refine w_pure (want_yes rfl rfl rfl) (y_eql rfl rfl rfl rfl) rfl ?_
                  refine w_pure (want_yes rfl rfl rfl) (y_pickF (v := .bool _) rfl rfl rfl rfl) rfl ?_
                  refine w_pure want_none (y_pickT (v := .bool _) rfl rfl rfl rfl) rfl ?_
                  refine w_pure want_none (y_move (v := .bool _) rfl rfl) rfl ?_
                  refine w_split (fun h321 => ?_) (fun h321 => ?_)
                  ·
                    try simp only [Bool.not_eq_true', Bool.not_eq_false', decide_eq_true_eq, decide_eq_false_iff_not, Int.not_lt, Int.not_le] at h321
                    refine w_pure (want_yes rfl rfl rfl) (y_move (v := .int _ _) rfl rfl) rfl ?_
                    refine w_pure (want_yes rfl rfl rfl) (y_neq rfl rfl rfl rfl) rfl ?_
                    refine w_pure (want_yes rfl rfl rfl) (y_move (v := .bool _) rfl rfl) rfl ?_
                    refine w_split (fun h322 => ?_) (fun h322 => ?_)
                    ·
                      try simp only [Bool.not_eq_true', Bool.not_eq_false', decide_eq_true_eq, decide_eq_false_iff_not, Int.not_lt, Int.not_le] at h322
                      refine w_skipop rfl rfl rfl ?_
                      refine w_skipop rfl rfl rfl ?_
                      refine w_skipop rfl rfl rfl ?_
                      refine w_skipop' rfl rfl rfl ?_
                      refine w_skipop' rfl rfl rfl ?_
                      refine w_skipop' rfl rfl rfl ?_
                      refine w_skipop rfl rfl rfl ?_
                      refine w_pure (want_yes rfl rfl rfl) (y_pickT (v := _) rfl rfl rfl rfl) rfl ?_
                      refine w_pure want_none (y_pickT (v := .bool _) rfl rfl rfl rfl) rfl ?_
                      refine w_pure want_none (y_move (v := .bool _) rfl rfl) rfl ?_
                      refine w_call (want_yes rfl rfl rfl) Try.call23 rfl rfl rfl rfl (c23 hs235) ?_
                      rintro _ w324 ⟨rfl, hs325⟩
                      refine w_pure want_none (y_pickT (v := .bool _) rfl rfl rfl rfl) rfl ?_
                      refine w_pure want_none (y_assign (v := .bool _) rfl rfl) rfl ?_
                      refine w_nil ?_
                      refine q_then (hK287 _ _ ?_)
                      refine w_ret ?_
                      refine q_ret (l := [.tmp 6]) (vs := [_]) rfl ⟨⟨rfl, show _ = (.bool _ : Value) from rfl⟩, trivial⟩ ?_
                      exact ⟨rfl, hs325.drop.drop.tail.tail.tail.tail.tail⟩
                    ·
                      try simp only [Bool.not_eq_true', Bool.not_eq_false', decide_eq_true_eq, decide_eq_false_iff_not, Int.not_lt, Int.not_le] at h322
                      refine w_pure (want_yes rfl rfl rfl) (y_move (v := .int _ _) rfl rfl) rfl ?_
                      refine w_pure (want_yes rfl rfl rfl) (y_eql rfl rfl rfl rfl) rfl ?_
                      refine w_pure (want_yes rfl rfl rfl) (y_move (v := .bool _) rfl rfl) rfl ?_
                      refine w_split (fun h326 => ?_) (fun h326 => ?_)
                      ·
                        try simp only [Bool.not_eq_true', Bool.not_eq_false', decide_eq_true_eq, decide_eq_false_iff_not, Int.not_lt, Int.not_le] at h326
                        refine w_pure (want_yes rfl rfl rfl) (y_move (v := .int _ _) rfl rfl) rfl ?_
                        refine w_pure (want_yes rfl rfl rfl) (y_move (v := .int _ _) rfl rfl) rfl ?_
                        refine w_pure (want_yes rfl rfl rfl) (y_leq rfl rfl rfl rfl) rfl ?_
                        refine w_pure (want_yes rfl rfl rfl) (y_pickT (v := .bool _) rfl rfl rfl rfl) rfl ?_
                        refine w_pure (want_yes rfl rfl rfl) (y_pickF (v := .bool _) rfl rfl rfl rfl) rfl ?_
                        refine w_pure want_none (y_pickT (v := .bool _) rfl rfl rfl rfl) rfl ?_
                        refine w_pure want_none (y_move (v := .bool _) rfl rfl) rfl ?_
                        refine w_split (fun h327 => ?_) (fun h327 => ?_)
                        ·
                          try simp only [Bool.not_eq_true', Bool.not_eq_false', decide_eq_true_eq, decide_eq_false_iff_not, Int.not_lt, Int.not_le] at h327
                          refine w_call (want_yes rfl rfl rfl) Try.call23 rfl rfl rfl rfl (c23 hs235) ?_
                          rintro _ w329 ⟨rfl, hs330⟩
                          refine w_pure want_none (y_pickT (v := .bool _) rfl rfl rfl rfl) rfl ?_
                          refine w_pure want_none (y_assign (v := .bool _) rfl rfl) rfl ?_
                          refine w_nil ?_
                          refine q_then (hK287 _ _ ?_)
                          refine w_ret ?_
                          refine q_ret (l := [.tmp 6]) (vs := [_]) rfl ⟨⟨rfl, show _ = (.bool _ : Value) from rfl⟩, trivial⟩ ?_
                          exact ⟨rfl, hs330.drop.drop.tail.tail.tail.tail.tail⟩
                        ·
                          exfalso
                          try simp only [Bool.not_eq_true', Bool.not_eq_false', decide_eq_true_eq, decide_eq_false_iff_not, Int.not_lt, Int.not_le] at h327
                          omega
                      ·
                        exfalso
                        try simp only [Bool.not_eq_true', Bool.not_eq_false', decide_eq_true_eq, decide_eq_false_iff_not, Int.not_lt, Int.not_le] at h326
                        omega
                  ·
                    exfalso
                    try simp only [Bool.not_eq_true', Bool.not_eq_false', decide_eq_true_eq, decide_eq_false_iff_not, Int.not_lt, Int.not_le] at h321
                    omega
              ·
                exfalso
                try simp only [Bool.not_eq_true', Bool.not_eq_false', decide_eq_true_eq, decide_eq_false_iff_not, Int.not_lt, Int.not_le] at h310
                omega
  ·
    refine w_bslice (ps := [(0, _)]) (pv := [(0, .agg #[.string _, .int _ _, .int _ _, .int _ _, .int _ _, .int _ _])]) (cs := [_, _, _, _, _, _]) want_none rfl rfl (fun w => Try_Zj_fb10 _ _ _ _ _ _ w) hs19 (fun b331 w332 hs333 => ?_)
    refine w_nil ?_
    refine qn ⟨hs333.tail, ?_⟩
    refine dt_done ?_
    refine d_eff rfl ?_
    refine w_bslice (ps := []) (pv := []) (cs := []) want_none rfl rfl (fun w => Try_Zj_fb9  w) hs333 (fun b334 w335 hs336 => ?_)
    refine w_nil ?_
    refine qn ⟨hs336.tail.tail, ?_⟩
    refine d_eff rfl ?_
    refine w_append (X := ([])) (B := [_]) (rows := (rows p.farms)) (sz := 6) (bytes := 56) want_none Try.underlying24 Try_info60 rfl rfl rfl rfl rfl rfl rfl rfl rfl hs336 own_made ha.cons.cons.cons.cons.cons (by simp [rows]) hnil (rows_one p.farms) (by simp only [maxLen]; omega) (by omega) (fun v337 w338 B339 ho340 hs341 => ?_)
    replace hs341 := (show St _ _ (B339 ++ (_ :: _ :: _ :: _ :: F)) from hs341)
    refine w_nil ?_
    refine qn ⟨hs341.drop.tail, ?_⟩
    refine d_eff rfl ?_
    refine w_append (X := ([])) (B := B339) (rows := [f.cells]) (sz := 6) (bytes := 56) want_none Try.underlying24 Try_info60 rfl rfl rfl rfl rfl rfl rfl rfl rfl hs341 ho340 (show Sl w0 (B339 ++ (_ :: _)) _ 6 _ from Sl.app (sl_own (i := 0) rfl (by simp [Farm.cells]) rfl)) rfl (by simp) (by simp [Value.oneCell', Farm.cells]) (by simp only [maxLen]; omega) (by omega) (fun v342 w343 B344 ho345 hs346 => ?_)
    replace hs346 := (show St _ _ (B344 ++ (_ :: _ :: _ :: _ :: F)) from hs346)
    refine w_nil ?_
    refine qn ⟨hs346.drop.tail, ?_⟩
    refine d_any rfl want_none rfl (fun _ => (y_fieldAddr (o := 3) (i := 2) Try.underlying26 rfl Try.sizeOf24 rfl rfl rfl)) ?_
    have hmo := more_own (p := p) (f := f) ho345
    obtain ⟨bc, cap, cs0, rfl, rfl, hcap, hcl0, hcs0⟩ := own_some hmo (by simp [moreP])
    replace hs346 := (show St _ _ (_ :: _ :: _ :: _ :: _ :: F) from hs346)
    refine d_late rfl ?_
    refine w_store (i := 2) (v := .slice _ _ _) (vs := [_]) want_none Try.sizeOf24 rfl rfl rfl rfl rfl (by simp [Value.oneCell']) hs346 rfl (Nat.le_of_ble_eq_true rfl) (fun w347 hs348 => ?_)
    refine w_nil ?_
    refine qn ?_
    refine d_nil ?_
    refine q_then (hK16 _ _ ?_)
    refine w_seq (fun K350 hK349 => ?_)
    refine w_seq (fun K352 hK351 => ?_)
    have hb7 := ats_of hs348 (i := 2) (off := 0) (vs := [_, _, _, _]) rfl rfl
    have hsz : Sl w0 _ (some ⟨bc, 0, none⟩) 6 (rows (moreP p f).farms) := (fun {L : List (Nat × Obj)} (hs : St w0 _ L) (h : L[0]? = some (bc, blk 60 _)) => sl_own_rows (w0 := w0) h rfl hcs0) hs348 rfl
    have hnm2 : ∀ g ∈ (moreP p f).farms, g.name.size ≤ 9223372036854775807 := by
      intro g hg
      rcases List.mem_append.1 hg with h | h
      · exact hnm g h
      · rw [List.mem_singleton] at h; subst h; exact hfn
    have hml : (moreP p f).farms.length = p.farms.length + 1 := by simp [moreP]
    refine w_region ?_
    refine w_pure want_none (y_loadN (vs := [_, _, _, _]) Try.isAgg26 Try.sizeOf26 hs348.tail.tail.tail.tail rfl rfl hbx3) rfl ?_
    refine w_call want_none Try.call37 rfl rfl rfl rfl (c37 p _ _ (by omega) (by omega) ha.cons.cons.cons.cons.cons hnm  hs348) ?_
    rintro _ w354 ⟨rfl, hs355⟩
    refine w_pure want_none (y_not rfl rfl) rfl ?_
    refine w_pure want_none (y_move (v := .bool _) rfl rfl) rfl ?_
    refine w_split (fun h356 => ?_) (fun h356 => ?_)
    ·
      try simp only [Bool.not_eq_true', Bool.not_eq_false', decide_eq_true_eq, decide_eq_false_iff_not, Int.not_lt, Int.not_le] at h356
      refine w_skipop rfl rfl rfl ?_
      refine w_skipop rfl rfl rfl ?_
      refine w_skipop rfl rfl rfl ?_
      refine w_pure want_none (y_pickT (v := _) rfl rfl rfl rfl) rfl ?_
      refine w_nil ?_
      refine q_then (hK351 _ _ ?_)
      refine w_condT rfl rfl ?_
      refine w_seq (fun K358 hK357 => ?_)
      refine w_region ?_
      refine w_call want_none Try.call23 rfl rfl rfl rfl (c23 hs355) ?_
      rintro _ w360 ⟨rfl, hs361⟩
      refine w_pure want_none (y_assign (v := .bool _) rfl rfl) rfl ?_
      refine w_nil ?_
      refine q_then (hK357 _ _ ?_)
      refine w_ret ?_
      refine q_then_ret ?_
      refine q_ret (l := [.tmp 6]) (vs := [_]) rfl ⟨⟨rfl, show _ = (.bool _ : Value) from rfl⟩, trivial⟩ ?_
      exact ⟨rfl, hs361.tail.tail.tail.tail.tail⟩
    ·
      try simp only [Bool.not_eq_true', Bool.not_eq_false', decide_eq_true_eq, decide_eq_false_iff_not, Int.not_lt, Int.not_le] at h356
      refine w_pure (want_yes rfl rfl rfl) (y_loadN (vs := [_, _, _, _]) Try.isAgg26 Try.sizeOf26 hs355 rfl rfl hb7) rfl ?_
      refine w_call (want_yes rfl rfl rfl) Try.call37 rfl rfl rfl rfl (c37 (moreP p f) _ _ (by omega) hcap hsz hnm2  hs355) ?_
      rintro _ w363 ⟨rfl, hs364⟩
      refine w_pure (want_yes rfl rfl rfl) (y_not rfl rfl) rfl ?_
      refine w_pure want_none (y_pickF (v := .bool _) rfl rfl rfl rfl) rfl ?_
      refine w_nil ?_
      refine q_then (hK351 _ _ ?_)
      refine w_cond rfl rfl (fun h365 => ?_) (fun h365 => ?_)
      ·
        try simp only [Bool.not_eq_true', Bool.not_eq_false', decide_eq_true_eq, decide_eq_false_iff_not, Int.not_lt, Int.not_le] at h365
        refine w_seq (fun K367 hK366 => ?_)
        refine w_region ?_
        refine w_call want_none Try.call23 rfl rfl rfl rfl (c23 hs364) ?_
        rintro _ w369 ⟨rfl, hs370⟩
        refine w_pure want_none (y_assign (v := .bool _) rfl rfl) rfl ?_
        refine w_nil ?_
        refine q_then (hK366 _ _ ?_)
        refine w_ret ?_
        refine q_then_ret ?_
        refine q_ret (l := [.tmp 6]) (vs := [_]) rfl ⟨⟨rfl, show _ = (.bool _ : Value) from rfl⟩, trivial⟩ ?_
        exact ⟨rfl, hs370.tail.tail.tail.tail.tail⟩
      ·
        try simp only [Bool.not_eq_true', Bool.not_eq_false', decide_eq_true_eq, decide_eq_false_iff_not, Int.not_lt, Int.not_le] at h365
        refine w_skip ?_
        refine q_then (hK349 _ _ ?_)
        refine w_seq (fun K372 hK371 => ?_)
        have hck : (check p).2.2 = 0 := by assumption
        have hcm : (check (moreP p f)).2.2 = 0 := by assumption
        have hpe := plan_e09 hck
        have hmp := more_plan hck hcm
        refine w_region ?_
        refine w_pure want_none (y_move (v := .int _ _) rfl rfl) rfl ?_
        refine w_pure want_none (y_u8int (by rw [Try.underlying5]; rfl) Try.underlying3 rfl rfl (by omega) (by omega)) rfl ?_
        refine w_pure want_none (y_rem rfl rfl rfl rfl (by omega) (by omega)) rfl ?_
        refine w_pure want_none (y_assign (v := .int _ _) rfl rfl) rfl ?_
        refine w_nil ?_
        refine q_then (hK371 _ _ ?_)
        refine w_seq (fun K374 hK373 => ?_)
        have hz : 0 ≤ d % 11 ∧ d % 11 < 11 := by omega
        generalize d % 11 = z at hz ⊢
        have hte := told_e hck (z := z) (by omega) (by omega)
        have hte1 : toldE p z = 0 ∨ toldE p z = 9 := by omega
        clear hte
        have hmt := more_told hck hcm (z := z) (by omega) (by omega)
        refine w_region ?_
        refine w_pure want_none (y_loadN (vs := [_, _, _, _]) Try.isAgg26 Try.sizeOf26 hs364.tail.tail.tail.tail rfl rfl hbx3) rfl ?_
        refine w_call want_none Try.call26 rfl rfl rfl rfl (c26 p _ _ (by omega) (by omega) ha.cons.cons.cons.cons.cons hnm  hs364) ?_
        rintro _ w376 ⟨B1, aq_B1, cq_B1, rfl, h_B1, hs377⟩
        replace hs377 := (show St _ _ (B1 ++ (_ :: _ :: _ :: _ :: _ :: F)) from hs377)
        refine w_pure want_none (y_move (v := .tuple _) rfl rfl) rfl ?_
        refine w_pure want_none (y_extract (v := .slice _ _ _) rfl rfl rfl) rfl ?_
        refine w_pure want_none (y_extract (v := .int _ _) rfl rfl rfl) rfl ?_
        refine w_pure want_none (y_extract (v := .int _ _) rfl rfl rfl) rfl ?_
        refine w_pure want_none (y_assign (v := .slice _ _ _) rfl rfl) rfl ?_
        refine w_pure want_none (y_assign (v := .int _ _) rfl rfl) rfl ?_
        refine w_pure want_none (y_assign (v := .int _ _) rfl rfl) rfl ?_
        refine w_nil ?_
        refine q_then (hK373 _ _ ?_)
        refine w_seq (fun K379 hK378 => ?_)
        refine w_region ?_
        refine w_pure want_none (y_loadN (vs := [_, _, _, _]) Try.isAgg26 Try.sizeOf26 hs377.drop rfl rfl hb7) rfl ?_
        refine w_call want_none Try.call26 rfl rfl rfl rfl (c26 (moreP p f) _ _ (by omega) hcap hsz.app hnm2  hs377) ?_
        rintro _ w381 ⟨B2, aq_B2, cq_B2, rfl, h_B2, hs382⟩
        replace hs382 := (show St _ _ (B2 ++ (B1 ++ (_ :: _ :: _ :: _ :: _ :: F))) from hs382)
        refine w_pure want_none (y_move (v := .tuple _) rfl rfl) rfl ?_
        refine w_pure want_none (y_extract (v := .slice _ _ _) rfl rfl rfl) rfl ?_
        refine w_pure want_none (y_extract (v := .int _ _) rfl rfl rfl) rfl ?_
        refine w_pure want_none (y_extract (v := .int _ _) rfl rfl rfl) rfl ?_
        refine w_pure want_none (y_assign (v := .slice _ _ _) rfl rfl) rfl ?_
        refine w_pure want_none (y_assign (v := .int _ _) rfl rfl) rfl ?_
        refine w_pure want_none (y_assign (v := .int _ _) rfl rfl) rfl ?_
        refine w_nil ?_
        refine q_then (hK378 _ _ ?_)
        refine w_seq (fun K384 hK383 => ?_)
        refine w_region ?_
        refine w_pure want_none (y_loadN (vs := [_, _, _, _]) Try.isAgg26 Try.sizeOf26 hs382.drop.drop.tail.tail.tail.tail rfl rfl hbx3) rfl ?_
        refine w_pure want_none (y_move (v := .int _ _) rfl rfl) rfl ?_
        refine w_call want_none Try.call33 rfl rfl rfl rfl (c33 p _ _ (by omega) (by omega) ha.cons.cons.cons.cons.cons.app.app hnm z hs382) ?_
        rintro _ w386 ⟨rfl, hs387⟩
        refine w_pure want_none (y_move (v := .tuple _) rfl rfl) rfl ?_
        refine w_pure want_none (y_extract (v := .int _ _) rfl rfl rfl) rfl ?_
        refine w_pure want_none (y_extract (v := .int _ _) rfl rfl rfl) rfl ?_
        refine w_pure want_none (y_assign (v := .int _ _) rfl rfl) rfl ?_
        refine w_pure want_none (y_assign (v := .int _ _) rfl rfl) rfl ?_
        refine w_nil ?_
        refine q_then (hK383 _ _ ?_)
        refine w_seq (fun K389 hK388 => ?_)
        refine w_region ?_
        refine w_pure want_none (y_loadN (vs := [_, _, _, _]) Try.isAgg26 Try.sizeOf26 hs387.drop.drop rfl rfl hb7) rfl ?_
        refine w_pure want_none (y_move (v := .int _ _) rfl rfl) rfl ?_
        refine w_call want_none Try.call33 rfl rfl rfl rfl (c33 (moreP p f) _ _ (by omega) hcap hsz.app.app hnm2 z hs387) ?_
        rintro _ w391 ⟨rfl, hs392⟩
        refine w_pure want_none (y_move (v := .tuple _) rfl rfl) rfl ?_
        refine w_pure want_none (y_extract (v := .int _ _) rfl rfl rfl) rfl ?_
        refine w_pure want_none (y_extract (v := .int _ _) rfl rfl rfl) rfl ?_
        refine w_pure want_none (y_assign (v := .int _ _) rfl rfl) rfl ?_
        refine w_pure want_none (y_assign (v := .int _ _) rfl rfl) rfl ?_
        refine w_nil ?_
        refine q_then (hK388 _ _ ?_)
        refine w_seq (fun K394 hK393 => ?_)
        refine w_seq (fun K396 hK395 => ?_)
        refine w_region ?_
        refine w_pure want_none (y_move (v := .int _ _) rfl rfl) rfl ?_
        refine w_pure want_none (y_eql rfl rfl rfl rfl) rfl ?_
        refine w_pure want_none (y_move (v := .bool _) rfl rfl) rfl ?_
        refine w_split (fun h397 => ?_) (fun h397 => ?_)
        ·
          try simp only [Bool.not_eq_true', Bool.not_eq_false', decide_eq_true_eq, decide_eq_false_iff_not, Int.not_lt, Int.not_le] at h397
          refine w_pure (want_yes rfl rfl rfl) (y_move (v := .int _ _) rfl rfl) rfl ?_
          refine w_pure (want_yes rfl rfl rfl) (y_neq rfl rfl rfl rfl) rfl ?_
          refine w_pure (want_yes rfl rfl rfl) (y_move (v := .bool _) rfl rfl) rfl ?_
          refine w_split (fun h398 => ?_) (fun h398 => ?_)
          ·
            exfalso
            try simp only [Bool.not_eq_true', Bool.not_eq_false', decide_eq_true_eq, decide_eq_false_iff_not, Int.not_lt, Int.not_le] at h398
            omega
          ·
            try simp only [Bool.not_eq_true', Bool.not_eq_false', decide_eq_true_eq, decide_eq_false_iff_not, Int.not_lt, Int.not_le] at h398
            refine w_pure (want_yes rfl rfl rfl) (y_move (v := .int _ _) rfl rfl) rfl ?_
            refine w_pure (want_yes rfl rfl rfl) (y_move (v := .int _ _) rfl rfl) rfl ?_
            refine w_pure (want_yes rfl rfl rfl) (y_gtr rfl rfl rfl rfl) rfl ?_
            refine w_pure (want_yes rfl rfl rfl) (y_pickF (v := .bool _) rfl rfl rfl rfl) rfl ?_
            refine w_pure want_none (y_pickT (v := .bool _) rfl rfl rfl rfl) rfl ?_
            refine w_nil ?_
            refine q_then (hK395 _ _ ?_)
            refine w_cond rfl rfl (fun h399 => ?_) (fun h399 => ?_)
            ·
              exfalso
              try simp only [Bool.not_eq_true', Bool.not_eq_false', decide_eq_true_eq, decide_eq_false_iff_not, Int.not_lt, Int.not_le] at h399
              omega
            ·
              try simp only [Bool.not_eq_true', Bool.not_eq_false', decide_eq_true_eq, decide_eq_false_iff_not, Int.not_lt, Int.not_le] at h399
              refine w_skip ?_
              refine q_then (hK393 _ _ ?_)
              refine w_seq (fun K401 hK400 => ?_)
              refine w_region ?_
              refine w_pure want_none (y_move (v := .int _ _) rfl rfl) rfl ?_
              refine w_pure want_none (y_eql rfl rfl rfl rfl) rfl ?_
              refine w_pure want_none (y_move (v := .bool _) rfl rfl) rfl ?_
              refine w_split (fun h402 => ?_) (fun h402 => ?_)
              ·
                try simp only [Bool.not_eq_true', Bool.not_eq_false', decide_eq_true_eq, decide_eq_false_iff_not, Int.not_lt, Int.not_le] at h402
                refine w_skipop rfl rfl rfl ?_
                refine w_skipop rfl rfl rfl ?_
                refine w_pure want_none (y_pickT (v := _) rfl rfl rfl rfl) rfl ?_
                refine w_pure want_none (y_move (v := .bool _) rfl rfl) rfl ?_
                refine w_pure (want_yes rfl rfl rfl) (y_move (v := .int _ _) rfl rfl) rfl ?_
                refine w_pure (want_yes rfl rfl rfl) (y_eql rfl rfl rfl rfl) rfl ?_
                refine w_pure (want_yes rfl rfl rfl) (y_move (v := .bool _) rfl rfl) rfl ?_
                refine w_split (fun h403 => ?_) (fun h403 => ?_)
                ·
                  try simp only [Bool.not_eq_true', Bool.not_eq_false', decide_eq_true_eq, decide_eq_false_iff_not, Int.not_lt, Int.not_le] at h403
                  refine w_skipop rfl rfl rfl ?_
                  refine w_skipop rfl rfl rfl ?_
                  refine w_pure (want_yes rfl rfl rfl) (y_pickT (v := _) rfl rfl rfl rfl) rfl ?_
                  refine w_pure want_none (y_pickT (v := .bool _) rfl rfl rfl rfl) rfl ?_
                  refine w_pure want_none (y_move (v := .bool _) rfl rfl) rfl ?_
                  refine w_pure (want_yes rfl rfl rfl) (y_move (v := .int _ _) rfl rfl) rfl ?_
                  refine w_pure (want_yes rfl rfl rfl) (y_neq rfl rfl rfl rfl) rfl ?_
                  refine w_pure (want_yes rfl rfl rfl) (y_move (v := .bool _) rfl rfl) rfl ?_
                  refine w_split (fun h404 => ?_) (fun h404 => ?_)
                  ·
                    try simp only [Bool.not_eq_true', Bool.not_eq_false', decide_eq_true_eq, decide_eq_false_iff_not, Int.not_lt, Int.not_le] at h404
                    refine w_skipop rfl rfl rfl ?_
                    refine w_skipop rfl rfl rfl ?_
                    refine w_skipop rfl rfl rfl ?_
                    refine w_skipop' rfl rfl rfl ?_
                    refine w_skipop' rfl rfl rfl ?_
                    refine w_skipop' rfl rfl rfl ?_
                    refine w_skipop rfl rfl rfl ?_
                    refine w_pure (want_yes rfl rfl rfl) (y_pickT (v := _) rfl rfl rfl rfl) rfl ?_
                    refine w_pure want_none (y_pickT (v := .bool _) rfl rfl rfl rfl) rfl ?_
                    refine w_pure want_none (y_move (v := .bool _) rfl rfl) rfl ?_
                    refine w_call (want_yes rfl rfl rfl) Try.call23 rfl rfl rfl rfl (c23 hs392) ?_
                    rintro _ w406 ⟨rfl, hs407⟩
                    refine w_pure want_none (y_pickT (v := .bool _) rfl rfl rfl rfl) rfl ?_
                    refine w_pure want_none (y_assign (v := .bool _) rfl rfl) rfl ?_
                    refine w_nil ?_
                    refine q_then (hK400 _ _ ?_)
                    refine w_ret ?_
                    refine q_ret (l := [.tmp 6]) (vs := [_]) rfl ⟨⟨rfl, show _ = (.bool _ : Value) from rfl⟩, trivial⟩ ?_
                    exact ⟨rfl, hs407.drop.drop.tail.tail.tail.tail.tail⟩
                  ·
                    try simp only [Bool.not_eq_true', Bool.not_eq_false', decide_eq_true_eq, decide_eq_false_iff_not, Int.not_lt, Int.not_le] at h404
                    refine w_pure (want_yes rfl rfl rfl) (y_move (v := .int _ _) rfl rfl) rfl ?_
                    refine w_pure (want_yes rfl rfl rfl) (y_eql rfl rfl rfl rfl) rfl ?_
                    refine w_pure (want_yes rfl rfl rfl) (y_move (v := .bool _) rfl rfl) rfl ?_
                    refine w_split (fun h408 => ?_) (fun h408 => ?_)
                    ·
                      try simp only [Bool.not_eq_true', Bool.not_eq_false', decide_eq_true_eq, decide_eq_false_iff_not, Int.not_lt, Int.not_le] at h408
                      refine w_pure (want_yes rfl rfl rfl) (y_move (v := .int _ _) rfl rfl) rfl ?_
                      refine w_pure (want_yes rfl rfl rfl) (y_move (v := .int _ _) rfl rfl) rfl ?_
                      refine w_pure (want_yes rfl rfl rfl) (y_leq rfl rfl rfl rfl) rfl ?_
                      refine w_pure (want_yes rfl rfl rfl) (y_pickT (v := .bool _) rfl rfl rfl rfl) rfl ?_
                      refine w_pure (want_yes rfl rfl rfl) (y_pickF (v := .bool _) rfl rfl rfl rfl) rfl ?_
                      refine w_pure want_none (y_pickT (v := .bool _) rfl rfl rfl rfl) rfl ?_
                      refine w_pure want_none (y_move (v := .bool _) rfl rfl) rfl ?_
                      refine w_split (fun h409 => ?_) (fun h409 => ?_)
                      ·
                        try simp only [Bool.not_eq_true', Bool.not_eq_false', decide_eq_true_eq, decide_eq_false_iff_not, Int.not_lt, Int.not_le] at h409
                        refine w_call (want_yes rfl rfl rfl) Try.call23 rfl rfl rfl rfl (c23 hs392) ?_
                        rintro _ w411 ⟨rfl, hs412⟩
                        refine w_pure want_none (y_pickT (v := .bool _) rfl rfl rfl rfl) rfl ?_
                        refine w_pure want_none (y_assign (v := .bool _) rfl rfl) rfl ?_
                        refine w_nil ?_
                        refine q_then (hK400 _ _ ?_)
                        refine w_ret ?_
                        refine q_ret (l := [.tmp 6]) (vs := [_]) rfl ⟨⟨rfl, show _ = (.bool _ : Value) from rfl⟩, trivial⟩ ?_
                        exact ⟨rfl, hs412.drop.drop.tail.tail.tail.tail.tail⟩
                      ·
                        exfalso
                        try simp only [Bool.not_eq_true', Bool.not_eq_false', decide_eq_true_eq, decide_eq_false_iff_not, Int.not_lt, Int.not_le] at h409
                        omega
                    ·
                      exfalso
                      try simp only [Bool.not_eq_true', Bool.not_eq_false', decide_eq_true_eq, decide_eq_false_iff_not, Int.not_lt, Int.not_le] at h408
                      omega
                ·
                  try simp only [Bool.not_eq_true', Bool.not_eq_false', decide_eq_true_eq, decide_eq_false_iff_not, Int.not_lt, Int.not_le] at h403
                  refine w_pure (want_yes rfl rfl rfl) (y_move (v := .int _ _) rfl rfl) rfl ?_
                  refine w_pure (want_yes rfl rfl rfl) (y_eql rfl rfl rfl rfl) rfl ?_
                  refine w_pure (want_yes rfl rfl rfl) (y_pickF (v := .bool _) rfl rfl rfl rfl) rfl ?_
                  refine w_pure want_none (y_pickT (v := .bool _) rfl rfl rfl rfl) rfl ?_
                  refine w_pure want_none (y_move (v := .bool _) rfl rfl) rfl ?_
                  refine w_split (fun h413 => ?_) (fun h413 => ?_)
                  ·
                    try simp only [Bool.not_eq_true', Bool.not_eq_false', decide_eq_true_eq, decide_eq_false_iff_not, Int.not_lt, Int.not_le] at h413
                    refine w_pure (want_yes rfl rfl rfl) (y_move (v := .int _ _) rfl rfl) rfl ?_
                    refine w_pure (want_yes rfl rfl rfl) (y_neq rfl rfl rfl rfl) rfl ?_
                    refine w_pure (want_yes rfl rfl rfl) (y_move (v := .bool _) rfl rfl) rfl ?_
                    refine w_split (fun h414 => ?_) (fun h414 => ?_)
                    ·
                      try simp only [Bool.not_eq_true', Bool.not_eq_false', decide_eq_true_eq, decide_eq_false_iff_not, Int.not_lt, Int.not_le] at h414
                      refine w_skipop rfl rfl rfl ?_
                      refine w_skipop rfl rfl rfl ?_
                      refine w_skipop rfl rfl rfl ?_
                      refine w_skipop' rfl rfl rfl ?_
                      refine w_skipop' rfl rfl rfl ?_
                      refine w_skipop' rfl rfl rfl ?_
                      refine w_skipop rfl rfl rfl ?_
                      refine w_pure (want_yes rfl rfl rfl) (y_pickT (v := _) rfl rfl rfl rfl) rfl ?_
                      refine w_pure want_none (y_pickT (v := .bool _) rfl rfl rfl rfl) rfl ?_
                      refine w_pure want_none (y_move (v := .bool _) rfl rfl) rfl ?_
                      refine w_call (want_yes rfl rfl rfl) Try.call23 rfl rfl rfl rfl (c23 hs392) ?_
                      rintro _ w416 ⟨rfl, hs417⟩
                      refine w_pure want_none (y_pickT (v := .bool _) rfl rfl rfl rfl) rfl ?_
                      refine w_pure want_none (y_assign (v := .bool _) rfl rfl) rfl ?_
                      refine w_nil ?_
                      refine q_then (hK400 _ _ ?_)
                      refine w_ret ?_
                      refine q_ret (l := [.tmp 6]) (vs := [_]) rfl ⟨⟨rfl, show _ = (.bool _ : Value) from rfl⟩, trivial⟩ ?_
                      exact ⟨rfl, hs417.drop.drop.tail.tail.tail.tail.tail⟩
                    ·
                      try simp only [Bool.not_eq_true', Bool.not_eq_false', decide_eq_true_eq, decide_eq_false_iff_not, Int.not_lt, Int.not_le] at h414
                      refine w_pure (want_yes rfl rfl rfl) (y_move (v := .int _ _) rfl rfl) rfl ?_
                      refine w_pure (want_yes rfl rfl rfl) (y_eql rfl rfl rfl rfl) rfl ?_
                      refine w_pure (want_yes rfl rfl rfl) (y_move (v := .bool _) rfl rfl) rfl ?_
                      refine w_split (fun h418 => ?_) (fun h418 => ?_)
                      ·
                        try simp only [Bool.not_eq_true', Bool.not_eq_false', decide_eq_true_eq, decide_eq_false_iff_not, Int.not_lt, Int.not_le] at h418
                        refine w_pure (want_yes rfl rfl rfl) (y_move (v := .int _ _) rfl rfl) rfl ?_
                        refine w_pure (want_yes rfl rfl rfl) (y_move (v := .int _ _) rfl rfl) rfl ?_
                        refine w_pure (want_yes rfl rfl rfl) (y_leq rfl rfl rfl rfl) rfl ?_
                        refine w_pure (want_yes rfl rfl rfl) (y_pickT (v := .bool _) rfl rfl rfl rfl) rfl ?_
                        refine w_pure (want_yes rfl rfl rfl) (y_pickF (v := .bool _) rfl rfl rfl rfl) rfl ?_
                        refine w_pure want_none (y_pickT (v := .bool _) rfl rfl rfl rfl) rfl ?_
                        refine w_pure want_none (y_move (v := .bool _) rfl rfl) rfl ?_
                        refine w_split (fun h419 => ?_) (fun h419 => ?_)
                        ·
                          try simp only [Bool.not_eq_true', Bool.not_eq_false', decide_eq_true_eq, decide_eq_false_iff_not, Int.not_lt, Int.not_le] at h419
                          refine w_call (want_yes rfl rfl rfl) Try.call23 rfl rfl rfl rfl (c23 hs392) ?_
                          rintro _ w421 ⟨rfl, hs422⟩
                          refine w_pure want_none (y_pickT (v := .bool _) rfl rfl rfl rfl) rfl ?_
                          refine w_pure want_none (y_assign (v := .bool _) rfl rfl) rfl ?_
                          refine w_nil ?_
                          refine q_then (hK400 _ _ ?_)
                          refine w_ret ?_
                          refine q_ret (l := [.tmp 6]) (vs := [_]) rfl ⟨⟨rfl, show _ = (.bool _ : Value) from rfl⟩, trivial⟩ ?_
                          exact ⟨rfl, hs422.drop.drop.tail.tail.tail.tail.tail⟩
                        ·
                          exfalso
                          try simp only [Bool.not_eq_true', Bool.not_eq_false', decide_eq_true_eq, decide_eq_false_iff_not, Int.not_lt, Int.not_le] at h419
                          omega
                      ·
                        exfalso
                        try simp only [Bool.not_eq_true', Bool.not_eq_false', decide_eq_true_eq, decide_eq_false_iff_not, Int.not_lt, Int.not_le] at h418
                        omega
                  ·
                    exfalso
                    try simp only [Bool.not_eq_true', Bool.not_eq_false', decide_eq_true_eq, decide_eq_false_iff_not, Int.not_lt, Int.not_le] at h413
                    omega
              ·
                try simp only [Bool.not_eq_true', Bool.not_eq_false', decide_eq_true_eq, decide_eq_false_iff_not, Int.not_lt, Int.not_le] at h402
                refine w_pure (want_yes rfl rfl rfl) (y_move (v := .int _ _) rfl rfl) rfl ?_
                refine w_pure (want_yes rfl rfl rfl) (y_eql rfl rfl rfl rfl) rfl ?_
                refine w_pure want_none (y_pickF (v := .bool _) rfl rfl rfl rfl) rfl ?_
                refine w_pure want_none (y_move (v := .bool _) rfl rfl) rfl ?_
                refine w_split (fun h423 => ?_) (fun h423 => ?_)
                ·
                  try simp only [Bool.not_eq_true', Bool.not_eq_false', decide_eq_true_eq, decide_eq_false_iff_not, Int.not_lt, Int.not_le] at h423
                  refine w_pure (want_yes rfl rfl rfl) (y_move (v := .int _ _) rfl rfl) rfl ?_
                  refine w_pure (want_yes rfl rfl rfl) (y_eql rfl rfl rfl rfl) rfl ?_
                  refine w_pure (want_yes rfl rfl rfl) (y_move (v := .bool _) rfl rfl) rfl ?_
                  refine w_split (fun h424 => ?_) (fun h424 => ?_)
                  ·
                    try simp only [Bool.not_eq_true', Bool.not_eq_false', decide_eq_true_eq, decide_eq_false_iff_not, Int.not_lt, Int.not_le] at h424
                    refine w_skipop rfl rfl rfl ?_
                    refine w_skipop rfl rfl rfl ?_
                    refine w_pure (want_yes rfl rfl rfl) (y_pickT (v := _) rfl rfl rfl rfl) rfl ?_
                    refine w_pure want_none (y_pickT (v := .bool _) rfl rfl rfl rfl) rfl ?_
                    refine w_pure want_none (y_move (v := .bool _) rfl rfl) rfl ?_
                    refine w_pure (want_yes rfl rfl rfl) (y_move (v := .int _ _) rfl rfl) rfl ?_
                    refine w_pure (want_yes rfl rfl rfl) (y_neq rfl rfl rfl rfl) rfl ?_
                    refine w_pure (want_yes rfl rfl rfl) (y_move (v := .bool _) rfl rfl) rfl ?_
                    refine w_split (fun h425 => ?_) (fun h425 => ?_)
                    ·
                      try simp only [Bool.not_eq_true', Bool.not_eq_false', decide_eq_true_eq, decide_eq_false_iff_not, Int.not_lt, Int.not_le] at h425
                      refine w_skipop rfl rfl rfl ?_
                      refine w_skipop rfl rfl rfl ?_
                      refine w_skipop rfl rfl rfl ?_
                      refine w_skipop' rfl rfl rfl ?_
                      refine w_skipop' rfl rfl rfl ?_
                      refine w_skipop' rfl rfl rfl ?_
                      refine w_skipop rfl rfl rfl ?_
                      refine w_pure (want_yes rfl rfl rfl) (y_pickT (v := _) rfl rfl rfl rfl) rfl ?_
                      refine w_pure want_none (y_pickT (v := .bool _) rfl rfl rfl rfl) rfl ?_
                      refine w_pure want_none (y_move (v := .bool _) rfl rfl) rfl ?_
                      refine w_call (want_yes rfl rfl rfl) Try.call23 rfl rfl rfl rfl (c23 hs392) ?_
                      rintro _ w427 ⟨rfl, hs428⟩
                      refine w_pure want_none (y_pickT (v := .bool _) rfl rfl rfl rfl) rfl ?_
                      refine w_pure want_none (y_assign (v := .bool _) rfl rfl) rfl ?_
                      refine w_nil ?_
                      refine q_then (hK400 _ _ ?_)
                      refine w_ret ?_
                      refine q_ret (l := [.tmp 6]) (vs := [_]) rfl ⟨⟨rfl, show _ = (.bool _ : Value) from rfl⟩, trivial⟩ ?_
                      exact ⟨rfl, hs428.drop.drop.tail.tail.tail.tail.tail⟩
                    ·
                      try simp only [Bool.not_eq_true', Bool.not_eq_false', decide_eq_true_eq, decide_eq_false_iff_not, Int.not_lt, Int.not_le] at h425
                      refine w_pure (want_yes rfl rfl rfl) (y_move (v := .int _ _) rfl rfl) rfl ?_
                      refine w_pure (want_yes rfl rfl rfl) (y_eql rfl rfl rfl rfl) rfl ?_
                      refine w_pure (want_yes rfl rfl rfl) (y_move (v := .bool _) rfl rfl) rfl ?_
                      refine w_split (fun h429 => ?_) (fun h429 => ?_)
                      ·
                        try simp only [Bool.not_eq_true', Bool.not_eq_false', decide_eq_true_eq, decide_eq_false_iff_not, Int.not_lt, Int.not_le] at h429
                        refine w_pure (want_yes rfl rfl rfl) (y_move (v := .int _ _) rfl rfl) rfl ?_
                        refine w_pure (want_yes rfl rfl rfl) (y_move (v := .int _ _) rfl rfl) rfl ?_
                        refine w_pure (want_yes rfl rfl rfl) (y_leq rfl rfl rfl rfl) rfl ?_
                        refine w_pure (want_yes rfl rfl rfl) (y_pickT (v := .bool _) rfl rfl rfl rfl) rfl ?_
                        refine w_pure (want_yes rfl rfl rfl) (y_pickF (v := .bool _) rfl rfl rfl rfl) rfl ?_
                        refine w_pure want_none (y_pickT (v := .bool _) rfl rfl rfl rfl) rfl ?_
                        refine w_pure want_none (y_move (v := .bool _) rfl rfl) rfl ?_
                        refine w_split (fun h430 => ?_) (fun h430 => ?_)
                        ·
                          try simp only [Bool.not_eq_true', Bool.not_eq_false', decide_eq_true_eq, decide_eq_false_iff_not, Int.not_lt, Int.not_le] at h430
                          refine w_call (want_yes rfl rfl rfl) Try.call23 rfl rfl rfl rfl (c23 hs392) ?_
                          rintro _ w432 ⟨rfl, hs433⟩
                          refine w_pure want_none (y_pickT (v := .bool _) rfl rfl rfl rfl) rfl ?_
                          refine w_pure want_none (y_assign (v := .bool _) rfl rfl) rfl ?_
                          refine w_nil ?_
                          refine q_then (hK400 _ _ ?_)
                          refine w_ret ?_
                          refine q_ret (l := [.tmp 6]) (vs := [_]) rfl ⟨⟨rfl, show _ = (.bool _ : Value) from rfl⟩, trivial⟩ ?_
                          exact ⟨rfl, hs433.drop.drop.tail.tail.tail.tail.tail⟩
                        ·
                          exfalso
                          try simp only [Bool.not_eq_true', Bool.not_eq_false', decide_eq_true_eq, decide_eq_false_iff_not, Int.not_lt, Int.not_le] at h430
                          omega
                      ·
                        exfalso
                        try simp only [Bool.not_eq_true', Bool.not_eq_false', decide_eq_true_eq, decide_eq_false_iff_not, Int.not_lt, Int.not_le] at h429
                        omega
                  ·
                    try simp only [Bool.not_eq_true', Bool.not_eq_false', decide_eq_true_eq, decide_eq_false_iff_not, Int.not_lt, Int.not_le] at h424
                    refine w_pure (want_yes rfl rfl rfl) (y_move (v := .int _ _) rfl rfl) rfl ?_
                    refine w_pure (want_yes rfl rfl rfl) (y_eql rfl rfl rfl rfl) rfl ?_
                    refine w_pure (want_yes rfl rfl rfl) (y_pickF (v := .bool _) rfl rfl rfl rfl) rfl ?_
                    refine w_pure want_none (y_pickT (v := .bool _) rfl rfl rfl rfl) rfl ?_
                    refine w_pure want_none (y_move (v := .bool _) rfl rfl) rfl ?_
                    refine w_split (fun h434 => ?_) (fun h434 => ?_)
                    ·
                      try simp only [Bool.not_eq_true', Bool.not_eq_false', decide_eq_true_eq, decide_eq_false_iff_not, Int.not_lt, Int.not_le] at h434
                      refine w_pure (want_yes rfl rfl rfl) (y_move (v := .int _ _) rfl rfl) rfl ?_
                      refine w_pure (want_yes rfl rfl rfl) (y_neq rfl rfl rfl rfl) rfl ?_
                      refine w_pure (want_yes rfl rfl rfl) (y_move (v := .bool _) rfl rfl) rfl ?_
                      refine w_split (fun h435 => ?_) (fun h435 => ?_)
                      ·
                        try simp only [Bool.not_eq_true', Bool.not_eq_false', decide_eq_true_eq, decide_eq_false_iff_not, Int.not_lt, Int.not_le] at h435
                        refine w_skipop rfl rfl rfl ?_
                        refine w_skipop rfl rfl rfl ?_
                        refine w_skipop rfl rfl rfl ?_
                        refine w_skipop' rfl rfl rfl ?_
                        refine w_skipop' rfl rfl rfl ?_
                        refine w_skipop' rfl rfl rfl ?_
                        refine w_skipop rfl rfl rfl ?_
                        refine w_pure (want_yes rfl rfl rfl) (y_pickT (v := _) rfl rfl rfl rfl) rfl ?_
                        refine w_pure want_none (y_pickT (v := .bool _) rfl rfl rfl rfl) rfl ?_
                        refine w_pure want_none (y_move (v := .bool _) rfl rfl) rfl ?_
                        refine w_call (want_yes rfl rfl rfl) Try.call23 rfl rfl rfl rfl (c23 hs392) ?_
                        rintro _ w437 ⟨rfl, hs438⟩
                        refine w_pure want_none (y_pickT (v := .bool _) rfl rfl rfl rfl) rfl ?_
                        refine w_pure want_none (y_assign (v := .bool _) rfl rfl) rfl ?_
                        refine w_nil ?_
                        refine q_then (hK400 _ _ ?_)
                        refine w_ret ?_
                        refine q_ret (l := [.tmp 6]) (vs := [_]) rfl ⟨⟨rfl, show _ = (.bool _ : Value) from rfl⟩, trivial⟩ ?_
                        exact ⟨rfl, hs438.drop.drop.tail.tail.tail.tail.tail⟩
                      ·
                        try simp only [Bool.not_eq_true', Bool.not_eq_false', decide_eq_true_eq, decide_eq_false_iff_not, Int.not_lt, Int.not_le] at h435
                        refine w_pure (want_yes rfl rfl rfl) (y_move (v := .int _ _) rfl rfl) rfl ?_
                        refine w_pure (want_yes rfl rfl rfl) (y_eql rfl rfl rfl rfl) rfl ?_
                        refine w_pure (want_yes rfl rfl rfl) (y_move (v := .bool _) rfl rfl) rfl ?_
                        refine w_split (fun h439 => ?_) (fun h439 => ?_)
                        ·
                          try simp only [Bool.not_eq_true', Bool.not_eq_false', decide_eq_true_eq, decide_eq_false_iff_not, Int.not_lt, Int.not_le] at h439
                          refine w_pure (want_yes rfl rfl rfl) (y_move (v := .int _ _) rfl rfl) rfl ?_
                          refine w_pure (want_yes rfl rfl rfl) (y_move (v := .int _ _) rfl rfl) rfl ?_
                          refine w_pure (want_yes rfl rfl rfl) (y_leq rfl rfl rfl rfl) rfl ?_
                          refine w_pure (want_yes rfl rfl rfl) (y_pickT (v := .bool _) rfl rfl rfl rfl) rfl ?_
                          refine w_pure (want_yes rfl rfl rfl) (y_pickF (v := .bool _) rfl rfl rfl rfl) rfl ?_
                          refine w_pure want_none (y_pickT (v := .bool _) rfl rfl rfl rfl) rfl ?_
                          refine w_pure want_none (y_move (v := .bool _) rfl rfl) rfl ?_
                          refine w_split (fun h440 => ?_) (fun h440 => ?_)
                          ·
                            try simp only [Bool.not_eq_true', Bool.not_eq_false', decide_eq_true_eq, decide_eq_false_iff_not, Int.not_lt, Int.not_le] at h440
                            refine w_call (want_yes rfl rfl rfl) Try.call23 rfl rfl rfl rfl (c23 hs392) ?_
                            rintro _ w442 ⟨rfl, hs443⟩
                            refine w_pure want_none (y_pickT (v := .bool _) rfl rfl rfl rfl) rfl ?_
                            refine w_pure want_none (y_assign (v := .bool _) rfl rfl) rfl ?_
                            refine w_nil ?_
                            refine q_then (hK400 _ _ ?_)
                            refine w_ret ?_
                            refine q_ret (l := [.tmp 6]) (vs := [_]) rfl ⟨⟨rfl, show _ = (.bool _ : Value) from rfl⟩, trivial⟩ ?_
                            exact ⟨rfl, hs443.drop.drop.tail.tail.tail.tail.tail⟩
                          ·
                            exfalso
                            try simp only [Bool.not_eq_true', Bool.not_eq_false', decide_eq_true_eq, decide_eq_false_iff_not, Int.not_lt, Int.not_le] at h440
                            omega
                        ·
                          exfalso
                          try simp only [Bool.not_eq_true', Bool.not_eq_false', decide_eq_true_eq, decide_eq_false_iff_not, Int.not_lt, Int.not_le] at h439
                          omega
                    ·
                      exfalso
                      try simp only [Bool.not_eq_true', Bool.not_eq_false', decide_eq_true_eq, decide_eq_false_iff_not, Int.not_lt, Int.not_le] at h434
                      omega
                ·
                  exfalso
                  try simp only [Bool.not_eq_true', Bool.not_eq_false', decide_eq_true_eq, decide_eq_false_iff_not, Int.not_lt, Int.not_le] at h423
                  omega
        ·
          try simp only [Bool.not_eq_true', Bool.not_eq_false', decide_eq_true_eq, decide_eq_false_iff_not, Int.not_lt, Int.not_le] at h397
          refine w_skipop rfl rfl rfl ?_
          refine w_skipop rfl rfl rfl ?_
          refine w_skipop rfl rfl rfl ?_
          refine w_skipop' rfl rfl rfl ?_
          refine w_skipop' rfl rfl rfl ?_
          refine w_skipop' rfl rfl rfl ?_
          refine w_skipop rfl rfl rfl ?_
          refine w_pure want_none (y_pickF (v := _) rfl rfl rfl rfl) rfl ?_
          refine w_nil ?_
          refine q_then (hK395 _ _ ?_)
          refine w_condF rfl rfl ?_
          refine w_skip ?_
          refine q_then (hK393 _ _ ?_)
          refine w_seq (fun K445 hK444 => ?_)
          refine w_region ?_
          refine w_pure want_none (y_move (v := .int _ _) rfl rfl) rfl ?_
          refine w_pure want_none (y_eql rfl rfl rfl rfl) rfl ?_
          refine w_pure want_none (y_move (v := .bool _) rfl rfl) rfl ?_
          refine w_split (fun h446 => ?_) (fun h446 => ?_)
          ·
            try simp only [Bool.not_eq_true', Bool.not_eq_false', decide_eq_true_eq, decide_eq_false_iff_not, Int.not_lt, Int.not_le] at h446
            refine w_skipop rfl rfl rfl ?_
            refine w_skipop rfl rfl rfl ?_
            refine w_pure want_none (y_pickT (v := _) rfl rfl rfl rfl) rfl ?_
            refine w_pure want_none (y_move (v := .bool _) rfl rfl) rfl ?_
            refine w_pure (want_yes rfl rfl rfl) (y_move (v := .int _ _) rfl rfl) rfl ?_
            refine w_pure (want_yes rfl rfl rfl) (y_eql rfl rfl rfl rfl) rfl ?_
            refine w_pure (want_yes rfl rfl rfl) (y_move (v := .bool _) rfl rfl) rfl ?_
            refine w_split (fun h447 => ?_) (fun h447 => ?_)
            ·
              try simp only [Bool.not_eq_true', Bool.not_eq_false', decide_eq_true_eq, decide_eq_false_iff_not, Int.not_lt, Int.not_le] at h447
              refine w_skipop rfl rfl rfl ?_
              refine w_skipop rfl rfl rfl ?_
              refine w_pure (want_yes rfl rfl rfl) (y_pickT (v := _) rfl rfl rfl rfl) rfl ?_
              refine w_pure want_none (y_pickT (v := .bool _) rfl rfl rfl rfl) rfl ?_
              refine w_pure want_none (y_move (v := .bool _) rfl rfl) rfl ?_
              refine w_pure (want_yes rfl rfl rfl) (y_move (v := .int _ _) rfl rfl) rfl ?_
              refine w_pure (want_yes rfl rfl rfl) (y_neq rfl rfl rfl rfl) rfl ?_
              refine w_pure (want_yes rfl rfl rfl) (y_move (v := .bool _) rfl rfl) rfl ?_
              refine w_split (fun h448 => ?_) (fun h448 => ?_)
              ·
                try simp only [Bool.not_eq_true', Bool.not_eq_false', decide_eq_true_eq, decide_eq_false_iff_not, Int.not_lt, Int.not_le] at h448
                refine w_skipop rfl rfl rfl ?_
                refine w_skipop rfl rfl rfl ?_
                refine w_skipop rfl rfl rfl ?_
                refine w_skipop' rfl rfl rfl ?_
                refine w_skipop' rfl rfl rfl ?_
                refine w_skipop' rfl rfl rfl ?_
                refine w_skipop rfl rfl rfl ?_
                refine w_pure (want_yes rfl rfl rfl) (y_pickT (v := _) rfl rfl rfl rfl) rfl ?_
                refine w_pure want_none (y_pickT (v := .bool _) rfl rfl rfl rfl) rfl ?_
                refine w_pure want_none (y_move (v := .bool _) rfl rfl) rfl ?_
                refine w_call (want_yes rfl rfl rfl) Try.call23 rfl rfl rfl rfl (c23 hs392) ?_
                rintro _ w450 ⟨rfl, hs451⟩
                refine w_pure want_none (y_pickT (v := .bool _) rfl rfl rfl rfl) rfl ?_
                refine w_pure want_none (y_assign (v := .bool _) rfl rfl) rfl ?_
                refine w_nil ?_
                refine q_then (hK444 _ _ ?_)
                refine w_ret ?_
                refine q_ret (l := [.tmp 6]) (vs := [_]) rfl ⟨⟨rfl, show _ = (.bool _ : Value) from rfl⟩, trivial⟩ ?_
                exact ⟨rfl, hs451.drop.drop.tail.tail.tail.tail.tail⟩
              ·
                try simp only [Bool.not_eq_true', Bool.not_eq_false', decide_eq_true_eq, decide_eq_false_iff_not, Int.not_lt, Int.not_le] at h448
                refine w_pure (want_yes rfl rfl rfl) (y_move (v := .int _ _) rfl rfl) rfl ?_
                refine w_pure (want_yes rfl rfl rfl) (y_eql rfl rfl rfl rfl) rfl ?_
                refine w_pure (want_yes rfl rfl rfl) (y_move (v := .bool _) rfl rfl) rfl ?_
                refine w_split (fun h452 => ?_) (fun h452 => ?_)
                ·
                  try simp only [Bool.not_eq_true', Bool.not_eq_false', decide_eq_true_eq, decide_eq_false_iff_not, Int.not_lt, Int.not_le] at h452
                  refine w_pure (want_yes rfl rfl rfl) (y_move (v := .int _ _) rfl rfl) rfl ?_
                  refine w_pure (want_yes rfl rfl rfl) (y_move (v := .int _ _) rfl rfl) rfl ?_
                  refine w_pure (want_yes rfl rfl rfl) (y_leq rfl rfl rfl rfl) rfl ?_
                  refine w_pure (want_yes rfl rfl rfl) (y_pickT (v := .bool _) rfl rfl rfl rfl) rfl ?_
                  refine w_pure (want_yes rfl rfl rfl) (y_pickF (v := .bool _) rfl rfl rfl rfl) rfl ?_
                  refine w_pure want_none (y_pickT (v := .bool _) rfl rfl rfl rfl) rfl ?_
                  refine w_pure want_none (y_move (v := .bool _) rfl rfl) rfl ?_
                  refine w_split (fun h453 => ?_) (fun h453 => ?_)
                  ·
                    try simp only [Bool.not_eq_true', Bool.not_eq_false', decide_eq_true_eq, decide_eq_false_iff_not, Int.not_lt, Int.not_le] at h453
                    refine w_call (want_yes rfl rfl rfl) Try.call23 rfl rfl rfl rfl (c23 hs392) ?_
                    rintro _ w455 ⟨rfl, hs456⟩
                    refine w_pure want_none (y_pickT (v := .bool _) rfl rfl rfl rfl) rfl ?_
                    refine w_pure want_none (y_assign (v := .bool _) rfl rfl) rfl ?_
                    refine w_nil ?_
                    refine q_then (hK444 _ _ ?_)
                    refine w_ret ?_
                    refine q_ret (l := [.tmp 6]) (vs := [_]) rfl ⟨⟨rfl, show _ = (.bool _ : Value) from rfl⟩, trivial⟩ ?_
                    exact ⟨rfl, hs456.drop.drop.tail.tail.tail.tail.tail⟩
                  ·
                    exfalso
                    try simp only [Bool.not_eq_true', Bool.not_eq_false', decide_eq_true_eq, decide_eq_false_iff_not, Int.not_lt, Int.not_le] at h453
                    omega
                ·
                  exfalso
                  try simp only [Bool.not_eq_true', Bool.not_eq_false', decide_eq_true_eq, decide_eq_false_iff_not, Int.not_lt, Int.not_le] at h452
                  omega
            ·
              try simp only [Bool.not_eq_true', Bool.not_eq_false', decide_eq_true_eq, decide_eq_false_iff_not, Int.not_lt, Int.not_le] at h447
              refine w_pure (want_yes rfl rfl rfl) (y_move (v := .int _ _) rfl rfl) rfl ?_
              refine w_pure (want_yes rfl rfl rfl) (y_eql rfl rfl rfl rfl) rfl ?_
              refine w_pure (want_yes rfl rfl rfl) (y_pickF (v := .bool _) rfl rfl rfl rfl) rfl ?_
              refine w_pure want_none (y_pickT (v := .bool _) rfl rfl rfl rfl) rfl ?_
              refine w_pure want_none (y_move (v := .bool _) rfl rfl) rfl ?_
              refine w_split (fun h457 => ?_) (fun h457 => ?_)
              ·
                try simp only [Bool.not_eq_true', Bool.not_eq_false', decide_eq_true_eq, decide_eq_false_iff_not, Int.not_lt, Int.not_le] at h457
                refine w_pure (want_yes rfl rfl rfl) (y_move (v := .int _ _) rfl rfl) rfl ?_
                refine w_pure (want_yes rfl rfl rfl) (y_neq rfl rfl rfl rfl) rfl ?_
                refine w_pure (want_yes rfl rfl rfl) (y_move (v := .bool _) rfl rfl) rfl ?_
                refine w_split (fun h458 => ?_) (fun h458 => ?_)
                ·
                  try simp only [Bool.not_eq_true', Bool.not_eq_false', decide_eq_true_eq, decide_eq_false_iff_not, Int.not_lt, Int.not_le] at h458
                  refine w_skipop rfl rfl rfl ?_
                  refine w_skipop rfl rfl rfl ?_
                  refine w_skipop rfl rfl rfl ?_
                  refine w_skipop' rfl rfl rfl ?_
                  refine w_skipop' rfl rfl rfl ?_
                  refine w_skipop' rfl rfl rfl ?_
                  refine w_skipop rfl rfl rfl ?_
                  refine w_pure (want_yes rfl rfl rfl) (y_pickT (v := _) rfl rfl rfl rfl) rfl ?_
                  refine w_pure want_none (y_pickT (v := .bool _) rfl rfl rfl rfl) rfl ?_
                  refine w_pure want_none (y_move (v := .bool _) rfl rfl) rfl ?_
                  refine w_call (want_yes rfl rfl rfl) Try.call23 rfl rfl rfl rfl (c23 hs392) ?_
                  rintro _ w460 ⟨rfl, hs461⟩
                  refine w_pure want_none (y_pickT (v := .bool _) rfl rfl rfl rfl) rfl ?_
                  refine w_pure want_none (y_assign (v := .bool _) rfl rfl) rfl ?_
                  refine w_nil ?_
                  refine q_then (hK444 _ _ ?_)
                  refine w_ret ?_
                  refine q_ret (l := [.tmp 6]) (vs := [_]) rfl ⟨⟨rfl, show _ = (.bool _ : Value) from rfl⟩, trivial⟩ ?_
                  exact ⟨rfl, hs461.drop.drop.tail.tail.tail.tail.tail⟩
                ·
                  try simp only [Bool.not_eq_true', Bool.not_eq_false', decide_eq_true_eq, decide_eq_false_iff_not, Int.not_lt, Int.not_le] at h458
                  refine w_pure (want_yes rfl rfl rfl) (y_move (v := .int _ _) rfl rfl) rfl ?_
                  refine w_pure (want_yes rfl rfl rfl) (y_eql rfl rfl rfl rfl) rfl ?_
                  refine w_pure (want_yes rfl rfl rfl) (y_move (v := .bool _) rfl rfl) rfl ?_
                  refine w_split (fun h462 => ?_) (fun h462 => ?_)
                  ·
                    try simp only [Bool.not_eq_true', Bool.not_eq_false', decide_eq_true_eq, decide_eq_false_iff_not, Int.not_lt, Int.not_le] at h462
                    refine w_pure (want_yes rfl rfl rfl) (y_move (v := .int _ _) rfl rfl) rfl ?_
                    refine w_pure (want_yes rfl rfl rfl) (y_move (v := .int _ _) rfl rfl) rfl ?_
                    refine w_pure (want_yes rfl rfl rfl) (y_leq rfl rfl rfl rfl) rfl ?_
                    refine w_pure (want_yes rfl rfl rfl) (y_pickT (v := .bool _) rfl rfl rfl rfl) rfl ?_
                    refine w_pure (want_yes rfl rfl rfl) (y_pickF (v := .bool _) rfl rfl rfl rfl) rfl ?_
                    refine w_pure want_none (y_pickT (v := .bool _) rfl rfl rfl rfl) rfl ?_
                    refine w_pure want_none (y_move (v := .bool _) rfl rfl) rfl ?_
                    refine w_split (fun h463 => ?_) (fun h463 => ?_)
                    ·
                      try simp only [Bool.not_eq_true', Bool.not_eq_false', decide_eq_true_eq, decide_eq_false_iff_not, Int.not_lt, Int.not_le] at h463
                      refine w_call (want_yes rfl rfl rfl) Try.call23 rfl rfl rfl rfl (c23 hs392) ?_
                      rintro _ w465 ⟨rfl, hs466⟩
                      refine w_pure want_none (y_pickT (v := .bool _) rfl rfl rfl rfl) rfl ?_
                      refine w_pure want_none (y_assign (v := .bool _) rfl rfl) rfl ?_
                      refine w_nil ?_
                      refine q_then (hK444 _ _ ?_)
                      refine w_ret ?_
                      refine q_ret (l := [.tmp 6]) (vs := [_]) rfl ⟨⟨rfl, show _ = (.bool _ : Value) from rfl⟩, trivial⟩ ?_
                      exact ⟨rfl, hs466.drop.drop.tail.tail.tail.tail.tail⟩
                    ·
                      exfalso
                      try simp only [Bool.not_eq_true', Bool.not_eq_false', decide_eq_true_eq, decide_eq_false_iff_not, Int.not_lt, Int.not_le] at h463
                      omega
                  ·
                    exfalso
                    try simp only [Bool.not_eq_true', Bool.not_eq_false', decide_eq_true_eq, decide_eq_false_iff_not, Int.not_lt, Int.not_le] at h462
                    omega
              ·
                exfalso
                try simp only [Bool.not_eq_true', Bool.not_eq_false', decide_eq_true_eq, decide_eq_false_iff_not, Int.not_lt, Int.not_le] at h457
                omega
          ·
            try simp only [Bool.not_eq_true', Bool.not_eq_false', decide_eq_true_eq, decide_eq_false_iff_not, Int.not_lt, Int.not_le] at h446
            refine w_pure (want_yes rfl rfl rfl) (y_move (v := .int _ _) rfl rfl) rfl ?_
            refine w_pure (want_yes rfl rfl rfl) (y_eql rfl rfl rfl rfl) rfl ?_
            refine w_pure want_none (y_pickF (v := .bool _) rfl rfl rfl rfl) rfl ?_
            refine w_pure want_none (y_move (v := .bool _) rfl rfl) rfl ?_
            refine w_split (fun h467 => ?_) (fun h467 => ?_)
            ·
              try simp only [Bool.not_eq_true', Bool.not_eq_false', decide_eq_true_eq, decide_eq_false_iff_not, Int.not_lt, Int.not_le] at h467
              refine w_pure (want_yes rfl rfl rfl) (y_move (v := .int _ _) rfl rfl) rfl ?_
              refine w_pure (want_yes rfl rfl rfl) (y_eql rfl rfl rfl rfl) rfl ?_
              refine w_pure (want_yes rfl rfl rfl) (y_move (v := .bool _) rfl rfl) rfl ?_
              refine w_split (fun h468 => ?_) (fun h468 => ?_)
              ·
                try simp only [Bool.not_eq_true', Bool.not_eq_false', decide_eq_true_eq, decide_eq_false_iff_not, Int.not_lt, Int.not_le] at h468
                refine w_skipop rfl rfl rfl ?_
                refine w_skipop rfl rfl rfl ?_
                refine w_pure (want_yes rfl rfl rfl) (y_pickT (v := _) rfl rfl rfl rfl) rfl ?_
                refine w_pure want_none (y_pickT (v := .bool _) rfl rfl rfl rfl) rfl ?_
                refine w_pure want_none (y_move (v := .bool _) rfl rfl) rfl ?_
                refine w_pure (want_yes rfl rfl rfl) (y_move (v := .int _ _) rfl rfl) rfl ?_
                refine w_pure (want_yes rfl rfl rfl) (y_neq rfl rfl rfl rfl) rfl ?_
                refine w_pure (want_yes rfl rfl rfl) (y_move (v := .bool _) rfl rfl) rfl ?_
                refine w_split (fun h469 => ?_) (fun h469 => ?_)
                ·
                  try simp only [Bool.not_eq_true', Bool.not_eq_false', decide_eq_true_eq, decide_eq_false_iff_not, Int.not_lt, Int.not_le] at h469
                  refine w_skipop rfl rfl rfl ?_
                  refine w_skipop rfl rfl rfl ?_
                  refine w_skipop rfl rfl rfl ?_
                  refine w_skipop' rfl rfl rfl ?_
                  refine w_skipop' rfl rfl rfl ?_
                  refine w_skipop' rfl rfl rfl ?_
                  refine w_skipop rfl rfl rfl ?_
                  refine w_pure (want_yes rfl rfl rfl) (y_pickT (v := _) rfl rfl rfl rfl) rfl ?_
                  refine w_pure want_none (y_pickT (v := .bool _) rfl rfl rfl rfl) rfl ?_
                  refine w_pure want_none (y_move (v := .bool _) rfl rfl) rfl ?_
                  refine w_call (want_yes rfl rfl rfl) Try.call23 rfl rfl rfl rfl (c23 hs392) ?_
                  rintro _ w471 ⟨rfl, hs472⟩
                  refine w_pure want_none (y_pickT (v := .bool _) rfl rfl rfl rfl) rfl ?_
                  refine w_pure want_none (y_assign (v := .bool _) rfl rfl) rfl ?_
                  refine w_nil ?_
                  refine q_then (hK444 _ _ ?_)
                  refine w_ret ?_
                  refine q_ret (l := [.tmp 6]) (vs := [_]) rfl ⟨⟨rfl, show _ = (.bool _ : Value) from rfl⟩, trivial⟩ ?_
                  exact ⟨rfl, hs472.drop.drop.tail.tail.tail.tail.tail⟩
                ·
                  try simp only [Bool.not_eq_true', Bool.not_eq_false', decide_eq_true_eq, decide_eq_false_iff_not, Int.not_lt, Int.not_le] at h469
                  refine w_pure (want_yes rfl rfl rfl) (y_move (v := .int _ _) rfl rfl) rfl ?_
                  refine w_pure (want_yes rfl rfl rfl) (y_eql rfl rfl rfl rfl) rfl ?_
                  refine w_pure (want_yes rfl rfl rfl) (y_move (v := .bool _) rfl rfl) rfl ?_
                  refine w_split (fun h473 => ?_) (fun h473 => ?_)
                  ·
                    try simp only [Bool.not_eq_true', Bool.not_eq_false', decide_eq_true_eq, decide_eq_false_iff_not, Int.not_lt, Int.not_le] at h473
                    refine w_pure (want_yes rfl rfl rfl) (y_move (v := .int _ _) rfl rfl) rfl ?_
                    refine w_pure (want_yes rfl rfl rfl) (y_move (v := .int _ _) rfl rfl) rfl ?_
                    refine w_pure (want_yes rfl rfl rfl) (y_leq rfl rfl rfl rfl) rfl ?_
                    refine w_pure (want_yes rfl rfl rfl) (y_pickT (v := .bool _) rfl rfl rfl rfl) rfl ?_
                    refine w_pure (want_yes rfl rfl rfl) (y_pickF (v := .bool _) rfl rfl rfl rfl) rfl ?_
                    refine w_pure want_none (y_pickT (v := .bool _) rfl rfl rfl rfl) rfl ?_
                    refine w_pure want_none (y_move (v := .bool _) rfl rfl) rfl ?_
                    refine w_split (fun h474 => ?_) (fun h474 => ?_)
                    ·
                      try simp only [Bool.not_eq_true', Bool.not_eq_false', decide_eq_true_eq, decide_eq_false_iff_not, Int.not_lt, Int.not_le] at h474
                      refine w_call (want_yes rfl rfl rfl) Try.call23 rfl rfl rfl rfl (c23 hs392) ?_
                      rintro _ w476 ⟨rfl, hs477⟩
                      refine w_pure want_none (y_pickT (v := .bool _) rfl rfl rfl rfl) rfl ?_
                      refine w_pure want_none (y_assign (v := .bool _) rfl rfl) rfl ?_
                      refine w_nil ?_
                      refine q_then (hK444 _ _ ?_)
                      refine w_ret ?_
                      refine q_ret (l := [.tmp 6]) (vs := [_]) rfl ⟨⟨rfl, show _ = (.bool _ : Value) from rfl⟩, trivial⟩ ?_
                      exact ⟨rfl, hs477.drop.drop.tail.tail.tail.tail.tail⟩
                    ·
                      exfalso
                      try simp only [Bool.not_eq_true', Bool.not_eq_false', decide_eq_true_eq, decide_eq_false_iff_not, Int.not_lt, Int.not_le] at h474
                      omega
                  ·
                    exfalso
                    try simp only [Bool.not_eq_true', Bool.not_eq_false', decide_eq_true_eq, decide_eq_false_iff_not, Int.not_lt, Int.not_le] at h473
                    omega
              ·
                try simp only [Bool.not_eq_true', Bool.not_eq_false', decide_eq_true_eq, decide_eq_false_iff_not, Int.not_lt, Int.not_le] at h468
                refine w_pure (want_yes rfl rfl rfl) (y_move (v := .int _ _) rfl rfl) rfl ?_
                refine w_pure (want_yes rfl rfl rfl) (y_eql rfl rfl rfl rfl) rfl ?_
                refine w_pure (want_yes rfl rfl rfl) (y_pickF (v := .bool _) rfl rfl rfl rfl) rfl ?_
                refine w_pure want_none (y_pickT (v := .bool _) rfl rfl rfl rfl) rfl ?_
                refine w_pure want_none (y_move (v := .bool _) rfl rfl) rfl ?_
                refine w_split (fun h478 => ?_) (fun h478 => ?_)
                ·
                  try simp only [Bool.not_eq_true', Bool.not_eq_false', decide_eq_true_eq, decide_eq_false_iff_not, Int.not_lt, Int.not_le] at h478
                  refine w_pure (want_yes rfl rfl rfl) (y_move (v := .int _ _) rfl rfl) rfl ?_
                  refine w_pure (want_yes rfl rfl rfl) (y_neq rfl rfl rfl rfl) rfl ?_
                  refine w_pure (want_yes rfl rfl rfl) (y_move (v := .bool _) rfl rfl) rfl ?_
                  refine w_split (fun h479 => ?_) (fun h479 => ?_)
                  ·
                    try simp only [Bool.not_eq_true', Bool.not_eq_false', decide_eq_true_eq, decide_eq_false_iff_not, Int.not_lt, Int.not_le] at h479
                    refine w_skipop rfl rfl rfl ?_
                    refine w_skipop rfl rfl rfl ?_
                    refine w_skipop rfl rfl rfl ?_
                    refine w_skipop' rfl rfl rfl ?_
                    refine w_skipop' rfl rfl rfl ?_
                    refine w_skipop' rfl rfl rfl ?_
                    refine w_skipop rfl rfl rfl ?_
                    refine w_pure (want_yes rfl rfl rfl) (y_pickT (v := _) rfl rfl rfl rfl) rfl ?_
                    refine w_pure want_none (y_pickT (v := .bool _) rfl rfl rfl rfl) rfl ?_
                    refine w_pure want_none (y_move (v := .bool _) rfl rfl) rfl ?_
                    refine w_call (want_yes rfl rfl rfl) Try.call23 rfl rfl rfl rfl (c23 hs392) ?_
                    rintro _ w481 ⟨rfl, hs482⟩
                    refine w_pure want_none (y_pickT (v := .bool _) rfl rfl rfl rfl) rfl ?_
                    refine w_pure want_none (y_assign (v := .bool _) rfl rfl) rfl ?_
                    refine w_nil ?_
                    refine q_then (hK444 _ _ ?_)
                    refine w_ret ?_
                    refine q_ret (l := [.tmp 6]) (vs := [_]) rfl ⟨⟨rfl, show _ = (.bool _ : Value) from rfl⟩, trivial⟩ ?_
                    exact ⟨rfl, hs482.drop.drop.tail.tail.tail.tail.tail⟩
                  ·
                    try simp only [Bool.not_eq_true', Bool.not_eq_false', decide_eq_true_eq, decide_eq_false_iff_not, Int.not_lt, Int.not_le] at h479
                    refine w_pure (want_yes rfl rfl rfl) (y_move (v := .int _ _) rfl rfl) rfl ?_
                    refine w_pure (want_yes rfl rfl rfl) (y_eql rfl rfl rfl rfl) rfl ?_
                    refine w_pure (want_yes rfl rfl rfl) (y_move (v := .bool _) rfl rfl) rfl ?_
                    refine w_split (fun h483 => ?_) (fun h483 => ?_)
                    ·
                      try simp only [Bool.not_eq_true', Bool.not_eq_false', decide_eq_true_eq, decide_eq_false_iff_not, Int.not_lt, Int.not_le] at h483
                      refine w_pure (want_yes rfl rfl rfl) (y_move (v := .int _ _) rfl rfl) rfl ?_
                      refine w_pure (want_yes rfl rfl rfl) (y_move (v := .int _ _) rfl rfl) rfl ?_
                      refine w_pure (want_yes rfl rfl rfl) (y_leq rfl rfl rfl rfl) rfl ?_
                      refine w_pure (want_yes rfl rfl rfl) (y_pickT (v := .bool _) rfl rfl rfl rfl) rfl ?_
                      refine w_pure (want_yes rfl rfl rfl) (y_pickF (v := .bool _) rfl rfl rfl rfl) rfl ?_
                      refine w_pure want_none (y_pickT (v := .bool _) rfl rfl rfl rfl) rfl ?_
                      refine w_pure want_none (y_move (v := .bool _) rfl rfl) rfl ?_
                      refine w_split (fun h484 => ?_) (fun h484 => ?_)
                      ·
                        try simp only [Bool.not_eq_true', Bool.not_eq_false', decide_eq_true_eq, decide_eq_false_iff_not, Int.not_lt, Int.not_le] at h484
                        refine w_call (want_yes rfl rfl rfl) Try.call23 rfl rfl rfl rfl (c23 hs392) ?_
                        rintro _ w486 ⟨rfl, hs487⟩
                        refine w_pure want_none (y_pickT (v := .bool _) rfl rfl rfl rfl) rfl ?_
                        refine w_pure want_none (y_assign (v := .bool _) rfl rfl) rfl ?_
                        refine w_nil ?_
                        refine q_then (hK444 _ _ ?_)
                        refine w_ret ?_
                        refine q_ret (l := [.tmp 6]) (vs := [_]) rfl ⟨⟨rfl, show _ = (.bool _ : Value) from rfl⟩, trivial⟩ ?_
                        exact ⟨rfl, hs487.drop.drop.tail.tail.tail.tail.tail⟩
                      ·
                        exfalso
                        try simp only [Bool.not_eq_true', Bool.not_eq_false', decide_eq_true_eq, decide_eq_false_iff_not, Int.not_lt, Int.not_le] at h484
                        omega
                    ·
                      exfalso
                      try simp only [Bool.not_eq_true', Bool.not_eq_false', decide_eq_true_eq, decide_eq_false_iff_not, Int.not_lt, Int.not_le] at h483
                      omega
                ·
                  exfalso
                  try simp only [Bool.not_eq_true', Bool.not_eq_false', decide_eq_true_eq, decide_eq_false_iff_not, Int.not_lt, Int.not_le] at h478
                  omega
            ·
              exfalso
              try simp only [Bool.not_eq_true', Bool.not_eq_false', decide_eq_true_eq, decide_eq_false_iff_not, Int.not_lt, Int.not_le] at h467
              omega

end Go.Proofs
