/- Own texts of this claim, joined. No conditions. -/
import Derived.Test.YtfodoljacfiehaaGreatHTopNumbera
import Derived.Test.YtfodoljacfiehaaGreatHTopNumberb
import Derived.Test.YtfodoljacfiehaaGreatHTopNumberc
import Derived.Test.YtfodoljacfiehaaGreatHTopNumberd
import Derived.Test.YtfodoljacfiehaaGreatHTopNumbere
set_option linter.unusedVariables false
set_option linter.unusedSimpArgs false
set_option maxRecDepth 20000
namespace Go.Proofs.Ro
open Go.Proofs.Tryz
open Go.Rt Go.Rt.Ro
open Go.Rt.Ha (bit listL)
attribute [local irreducible] WL WC Con Yd At Ats Sl Agree DW
theorem Try_QQ_fb2 (x0 : Int) (x1 : Int) (w : World) : (Instr.buildSlice 31 1 [(0, .agg #[.int .i64 x0, .int .i64 x1])].toArray).run Tryz.prog w = .ok (.slice (some ⟨w.heap.size, 0, none⟩) 1 1) (w.alloc (Go.Rt.blk 64 [.int .i64 x0, .int .i64 x1])) := by kernel_rfl
theorem Try_QQ_fb3 (x0 : Int) (x1 : Int) (x2 : Int) (x3 : Int) (w : World) : (Instr.buildSlice 31 2 [(0, .agg #[.int .i64 x0, .int .i64 x1]),(1, .agg #[.int .i64 x2, .int .i64 x3])].toArray).run Tryz.prog w = .ok (.slice (some ⟨w.heap.size, 0, none⟩) 2 2) (w.alloc (Go.Rt.blk 64 [.int .i64 x0, .int .i64 x1, .int .i64 x2, .int .i64 x3])) := by kernel_rfl
theorem zHk (x0 : Int) (w : World) : (Instr.buildSlice 30 1 [(0, .int .i64 x0)].toArray).run Tryz.prog w = .ok (.slice (some ⟨w.heap.size, 0, none⟩) 1 1) (w.alloc (Go.Rt.blk 3 [.int .i64 x0])) := by kernel_rfl
theorem Try_QQ_fb5 (x0 : Int) (x1 : Int) (w : World) : (Instr.buildSlice 30 2 [(0, .int .i64 x0),(1, .int .i64 x1)].toArray).run Tryz.prog w = .ok (.slice (some ⟨w.heap.size, 0, none⟩) 2 2) (w.alloc (Go.Rt.blk 3 [.int .i64 x0, .int .i64 x1])) := by kernel_rfl
theorem ats_ofL {w0 w : World} {L : List (Nat × Obj)} {i b : Nat} {t : TypeId} {cs vs : List Value} (hs : St w0 w L) (hi : L[i]? = some (b, blk t cs)) (h : (cs.drop 0).take vs.length = vs) : Ats w0 L b 0 vs := zBm hi h
theorem gen_Z {w0 w : World} {L : List (Nat × Obj)} (hs : St w0 w L) : ∃ Z, Z = L ∧ St w0 w Z := ⟨L, rfl, hs⟩
theorem zD2 {k : FuncId} {args : List Value} {w : World} {x : Bool} {S : World → Prop} (h : Con Tryz.prog k args w fun v w' => v = .bool x ∧ S w') (hx : x = true) : Con Tryz.prog k args w fun v w' => v = .bool true ∧ S w' := by subst hx; exact h
theorem rin_opens {w0 : World} {F : List (Nat × Obj)} {l : List (Int × Int)} {p : AtR} {a b : Int} (h : RIn w0 F (roomL a l) p) : RIn w0 F (roomL b l) p := ⟨h.s, h.n, h.l, h.ls, h.ln, h.ll, h.nm⟩
theorem c7 {w0 w : World} {F : List (Nat × Obj)}  (hs : St w0 w F) :
  Con Tryz.prog 7 [] w fun v w' => v = .bool true ∧ St w0 w' F := by
  refine zAo (n := 188) func7 rfl rfl (zNl rfl) ?_
  refine zAf (fun K2 gI => (zAa (zA9 rfl rfl (zAe (zAb (gI _ _ (zAf (fun K4 gJ => (zAa (zA4 zAc call24 rfl rfl rfl rfl (c24 [] none 0 (by decide) (Sl.nil _ _) hs) ?_))))))))))
  rintro _ w6 ⟨L1, p1, rfl, hq1, g8⟩
  replace g8 := (show St _ _ (L1 ++ (F)) from g8)
  refine zCi zAc call25 rfl rfl rfl rfl (c25 _ _ g8) (fun w9 gK => ?_)
  refine zBc (ps := [(0, _)]) (pv := [(0, .agg #[.int _ _, .int _ _])]) (cs := [_,_]) zAc rfl rfl (fun w => Try_QQ_fb2 _ _ w) gK (fun jr js gL => ?_)
  refine zA4 zAc call24 rfl rfl rfl rfl (c24 [(1,1)] _ _ (by decide) (zBx (i := 0) (rows := [[_,_]]) rfl (by simp) rfl) gL) ?_
  rintro _ jt ⟨L2, p2, rfl, hq2, g9⟩
  replace g9 := (show St _ _ (L2 ++ (_ :: L1 ++ (F))) from g9)
  refine zCi zAc call25 rfl rfl rfl rfl (c25 _ _ g9) (fun ju gM => ?_)
  refine zCi zAc call25 rfl rfl rfl rfl (c25 _ _ gM) (fun jv gN => ?_)
  refine zBc (ps := [(0, _),(1, _)]) (pv := [(0, .agg #[.int _ _, .int _ _]),(1, .agg #[.int _ _, .int _ _])]) (cs := [_,_,_,_]) zAc rfl rfl (fun w => Try_QQ_fb3 _ _ _ _ w) gN (fun jw jx gO => ?_)
  refine zA4 zAc call24 rfl rfl rfl rfl (c24 [(1,1),(2,3)] _ _ (by decide) (zBx (i := 0) (rows := [[_,_], [_,_]]) rfl (by simp) rfl) gO) ?_
  rintro _ jy ⟨L3, p3, rfl, hq3, ga⟩
  replace ga := (show St _ _ (L3 ++ (_ :: L2 ++ (_ :: L1 ++ (F)))) from ga)
  refine zA5 (cs := [_,_,_,_,_,_,_]) zAc zeroValue33 rfl ga (fun gP jz gQ => ?_)
  refine zA5 (cs := [_,_,_,_,_,_,_]) zAc zeroValue33 rfl gQ (fun gR jA gS => ?_)
  refine zA5 (cs := [_,_,_,_,_,_,_]) zAc zeroValue33 rfl gS (fun gT jB gU => ?_)
  refine zBt 2 (.agg #[.int _ _, .int _ _, .int _ _, .slice _ _ _, .int _ _, .slice _ _ _, .slice _ _ _]) [_,_,_,_,_,_,_] sizeOf33 gU (fun jC gV => ?_)
  refine zBt 1 (.agg #[.int _ _, .int _ _, .int _ _, .slice _ _ _, .int _ _, .slice _ _ _, .slice _ _ _]) [_,_,_,_,_,_,_] sizeOf33 gV (fun jD gW => ?_)
  refine zBt 0 (.agg #[.int _ _, .int _ _, .int _ _, .slice _ _ _, .int _ _, .slice _ _ _, .slice _ _ _]) [_,_,_,_,_,_,_] sizeOf33 gW (fun jE gu => ?_)
  refine zAe (zAb (gJ _ _ (zAf (fun jF gX => (zAa (w_p (zAs (vs := [_,_,_,_,_,_,_]) isAgg33 sizeOf33 gu rfl rfl (aow 1 [_,_,_,_,_,_,_])) rfl ?_))))))
  refine zA5 (cs := [_,_,_,_,_,_,_]) zAc zeroValue33 rfl gu (fun gY jG gZ => ?_)
  refine zBt 0 (.agg #[.int _ _, .int _ _, .int _ _, .slice _ _ _, .int _ _, .slice _ _ _, .slice _ _ _]) [_,_,_,_,_,_,_] sizeOf33 gZ (fun jH hG => ?_)
  refine zAe (zAb (gX _ _ (zAf (fun jI hH => (zAa (w_p (zAd (o := 4) (i := 3) underlying33 rfl sizeOf3 rfl rfl rfl) rfl (zBt 0 (.int _ _) [_] sizeOf3 hG (fun jJ hO => ?_))))))))
  refine zAe (zAb (hH _ _ (zAf (fun jK hY => ?_))))
  obtain ⟨Z, hZ, hsZ⟩ := gen_Z hO
  have hP1 : Ats w0 Z gP 0 ((roomX 0).cells p1) := by rw [hZ]; exact zBm (i := 3) (vs := (roomX 0).cells p1) rfl rfl
  have gb : RIn w0 Z (roomX 0) p1 := by rw [hZ]; exact RIn.mono hq1 (fun w h => h.tail.tail.tail.tail.drop.tail.drop.tail)
  have hP2 : Ats w0 Z gR 0 ((roomX 1).cells p2) := by rw [hZ]; exact zBm (i := 2) (vs := (roomX 1).cells p2) rfl rfl
  have g3 : RIn w0 Z (roomX 1) p2 := by rw [hZ]; exact RIn.mono hq2 (fun w h => h.tail.tail.tail.tail.drop.tail)
  have hP3 : Ats w0 Z gT 0 ((roomX 2).cells p3) := by rw [hZ]; exact zBm (i := 1) (vs := (roomX 2).cells p3) rfl rfl
  have gw : RIn w0 Z (roomX 2) p3 := by rw [hZ]; exact RIn.mono hq3 (fun w h => h.tail.tail.tail.tail)
  have hP4 : Ats w0 Z gY 0 (roomO.cells p2) := by rw [hZ]; exact zBm (i := 0) (vs := roomO.cells p2) rfl rfl
  have j0 : RIn w0 Z roomO p2 := by rw [hZ]; exact rin_opens (RIn.mono hq2 (fun w h => h.tail.tail.tail.tail.drop.tail))
  refine zAa (w_p (zAs (vs := [_,_,_,_,_,_,_]) isAgg33 sizeOf33 hsZ rfl rfl hP1) rfl (zCi zAc call26 rfl rfl rfl rfl ((c26 (roomX 0) p1 gb (zEh 0) ex_lb0 2 (by decide) hsZ).mono (fun v w' h => (by rw [ex_wide] at h; exact h))) (fun jL j1 => ?_)))
  refine w_p (zA6 rfl rfl) rfl (w_p (zBp (v := .agg _) rfl rfl rfl) rfl (w_p (zAq rfl rfl rfl) rfl (zA5 (cs := [_,_]) zAc zeroValue28 rfl j1 (fun jM jN j3 => ?_))))
  refine zBt 0 (.agg #[.int _ _, .int _ _]) [_,_] sizeOf28 j3 (fun jO gc => ?_)
  refine zBg rfl rfl (zAe (zAb (hY _ _ (zAf (fun jP j4 => ?_)))))
  have hx5 := ats_ofL (i := 0) (vs := [_,_]) gc rfl rfl
  refine zAa (w_p (zAs (vs := [_,_,_,_,_,_,_]) isAgg33 sizeOf33 gc.tail rfl rfl hP2) rfl (zCi zAc call26 rfl rfl rfl rfl ((c26 (roomX 1) p2 g3.cons (zEh 1) ex_lb1 2 (by decide) gc).mono (fun v w' h => (by rw [ex_known] at h; exact h))) (fun jQ j5 => ?_)))
  refine w_p (zA6 rfl rfl) rfl (w_p (zBp (v := .agg _) rfl rfl rfl) rfl (w_p (zAq rfl rfl rfl) rfl (zA5 (cs := [_,_]) zAc zeroValue28 rfl j5 (fun jR jS j6 => ?_))))
  refine zBt 0 (.agg #[.int _ _, .int _ _]) [_,_] sizeOf28 j6 (fun jT gd => ?_)
  refine zBg rfl rfl (zAe (zAb (j4 _ _ (zAf (fun jU j7 => ?_)))))
  have hx7 := ats_ofL (i := 0) (vs := [_,_]) gd rfl rfl
  refine zAa (w_p (zAs (vs := [_,_,_,_,_,_,_]) isAgg33 sizeOf33 gd.tail.tail rfl rfl hP1) rfl (zCi zAc call27 rfl rfl rfl rfl ((c27 (roomX 0) p1 gb.cons.cons (zEh 0) ex_lb0 2 (by decide) (by decide +kernel) gd).mono (fun v w' h => (by rw [(Prod.mk.inj ex_two).1, (Prod.mk.inj ex_two).2] at h; exact h))) (fun jV j9 => ?_)))
  refine w_p (zA6 rfl rfl) rfl (w_p (zBp (v := .agg _) rfl rfl rfl) rfl (w_p (zAq rfl rfl rfl) rfl (zA5 (cs := [_,_]) zAc zeroValue28 rfl j9 (fun jW jX ja => ?_))))
  refine zBt 0 (.agg #[.int _ _, .int _ _]) [_,_] sizeOf28 ja (fun jY ge => ?_)
  refine zBg rfl rfl (zAe (zAb (j7 _ _ (zAf (fun jZ jb => ?_)))))
  have hx9 := ats_ofL (i := 0) (vs := [_,_]) ge rfl rfl
  refine zAa (w_p (zAs (vs := [_,_,_,_,_,_,_]) isAgg33 sizeOf33 ge.tail.tail.tail rfl rfl hP2) rfl (zCi zAc call28 rfl rfl rfl rfl ((c28 (roomX 1) p2 g3.cons.cons.cons (zEh 1) ex_lb1 ge).mono (fun v w' h => (by rw [ex_began] at h; exact h))) (fun k4 jc => ?_)))
  refine w_p (zA6 rfl rfl) rfl (w_p (zBp (v := .agg _) rfl rfl rfl) rfl (w_p (zAq rfl rfl rfl) rfl (zA5 (cs := [_,_]) zAc zeroValue28 rfl jc (fun k5 k6 jd => ?_))))
  refine zBt 0 (.agg #[.int _ _, .int _ _]) [_,_] sizeOf28 jd (fun k7 gf => ?_)
  refine zBg rfl rfl (zAe (zAb (jb _ _ (zAf (fun k8 je => ?_)))))
  have hx11 := ats_ofL (i := 0) (vs := [_,_]) gf rfl rfl
  refine zAa (w_p (zAs (vs := [_,_,_,_,_,_,_]) isAgg33 sizeOf33 gf.tail.tail.tail.tail rfl rfl hP2) rfl (zBc (ps := [(0, _)]) (pv := [(0, .int _ _)]) (cs := [_]) zAc rfl rfl (fun w => zHk _ w) gf (fun k9 ka jf => ?_)))
  refine zCi zAc call12 rfl rfl rfl rfl ((c12 (roomX 1) p2 g3.cons.cons.cons.cons.cons (zEh 1) ex_lb1 _ _ [2] (zBx (i := 0) (rows := [[_]]) rfl (by simp) rfl) (by decide) (by decide) jf).mono (fun v w' h => (by rw [ex_gas] at h; exact h))) (fun kb jg => ?_)
  refine w_p (zA6 rfl rfl) rfl (w_p (zBp (v := .agg _) rfl rfl rfl) rfl (w_p (zAq rfl rfl rfl) rfl (zA5 (cs := [_,_]) zAc zeroValue28 rfl jg (fun kc kd jh => ?_))))
  refine zBt 0 (.agg #[.int _ _, .int _ _]) [_,_] sizeOf28 jh (fun ke gg => ?_)
  refine zBg rfl rfl (zAe (zAb (je _ _ (zAf (fun kf ji => ?_)))))
  have hx13 := ats_ofL (i := 0) (vs := [_,_]) gg rfl rfl
  refine zAa (w_p (zAs (vs := [_,_,_,_,_,_,_]) isAgg33 sizeOf33 gg.tail.tail.tail.tail.tail.tail rfl rfl hP2) rfl ?_)
  refine zA4 zAc call9 rfl rfl rfl rfl ((c9 (roomX 1) p2 g3.cons.cons.cons.cons.cons.cons (zEh 1) ex_lb1 4 3 (by decide) (by decide) gg).mono (fun v w' h => (show ∃ a c Y, v = .tuple #[.slice a 2 c, .int .i64 2, .int .i64 0] ∧ Sl w0 Y a 1 [[.int .i64 0], [.int .i64 2]] ∧ St w0 w' (Y ++ _) from by
    have e := ex_plan
    rcases h with ⟨h1, _⟩ | ⟨q, a, c, Y, h1, h2, h3, _,_, h4⟩
    · rw [h1] at e; cases e
    · rw [h1] at e
      obtain ⟨e1, e2⟩ := Prod.mk.inj (Option.some.inj e)
      rw [e1] at h2 h3; rw [e2] at h2
      exact ⟨a, c, Y, h2, h3, h4⟩))) ?_
  rintro _ kg ⟨a1, c1, B1, rfl, hr1, g4⟩
  replace g4 := (show St _ _ (B1 ++ (_ :: _ :: _ :: _ :: _ :: _ :: Z)) from g4)
  refine w_p (zA6 rfl rfl) rfl (w_p (zCm rfl rfl rfl) rfl (w_p (zAq rfl rfl rfl) rfl (w_p (zAq rfl rfl rfl) rfl (w_p (zBh rfl rfl) rfl (zBg rfl rfl (zBg rfl rfl (zAe (zAb (ji _ _ (zAf (fun kh jj => (zAa (w_p (zAs (vs := [_,_,_,_,_,_,_]) isAgg33 sizeOf33 g4.drop.tail.tail.tail.tail.tail.tail rfl rfl hP4) rfl ?_)))))))))))))
  refine zA4 zAc call9 rfl rfl rfl rfl ((c9 roomO p2 j0.cons.cons.cons.cons.cons.cons.app roomO_ok ex_lbO 4 3 (by decide) (by decide) g4).mono (fun v w' h => (show v = .tuple #[.slice none 0 0, .int .i64 0, .int .i64 9] ∧ St w0 w' _ from by
    have e := ex_down
    rcases h with ⟨_, h2⟩ | ⟨q, a, c, Y, h1, _⟩
    · exact h2
    · rw [h1] at e; cases e))) ?_
  rintro _ ki ⟨rfl, gx⟩
  refine w_p (zA6 rfl rfl) rfl (w_p (zCm rfl rfl rfl) rfl (w_p (zAq rfl rfl rfl) rfl (w_p (zAq rfl rfl rfl) rfl (w_p (zBh rfl rfl) rfl (zBg rfl rfl (zBg rfl rfl (zAe (zAb (jj _ _ (zAf (fun kj jk => (zAa (w_p (zAs (vs := [_,_,_,_,_,_,_]) isAgg33 sizeOf33 gx.drop.tail.tail.tail.tail.tail.tail rfl rfl hP2) rfl ?_)))))))))))))
  refine zA4 zAc call29 rfl rfl rfl rfl ((c29y (roomX 1) p2 g3.cons.cons.cons.cons.cons.cons.app (zEh 1) ex_lb1 3 (by decide) gx).mono (fun v w' h => (by rw [ex_reach] at h; exact h))) ?_
  rintro _ km ⟨a2, c2, B2, rfl, hr2, g5⟩
  replace g5 := (show St _ _ (B2 ++ (B1 ++ (_ :: _ :: _ :: _ :: _ :: _ :: Z))) from g5)
  refine w_p (zA6 rfl rfl) rfl (w_p (zCm rfl rfl rfl) rfl (w_p (zAq rfl rfl rfl) rfl (w_p (zBh rfl rfl) rfl (zBg rfl rfl (zAe (zAb (jk _ _ (zAf (fun kn jl => (zAa (w_p (zAs (vs := [_,_,_,_,_,_,_]) isAgg33 sizeOf33 g5.drop.drop.tail.tail.tail.tail.tail.tail rfl rfl hP1) rfl ?_)))))))))))
  refine zA4 zAc call30 rfl rfl rfl rfl ((c30 (roomX 0) p1 gb.cons.cons.cons.cons.cons.cons.app.app (zEh 0) 5 (by decide) 4 (by decide) g5).mono (fun v w' h => (by have e : fillB (roomX 0) ((5 : Nat) : Int) 4 (5 + 1) = [2] := ex_fill; rw [e] at h; exact h))) ?_
  rintro _ ko ⟨a3, c3, B3, rfl, hr3, g6⟩
  replace g6 := (show St _ _ (B3 ++ (B2 ++ (B1 ++ (_ :: _ :: _ :: _ :: _ :: _ :: Z)))) from g6)
  refine w_p (zA6 rfl rfl) rfl (w_p (zCm rfl rfl rfl) rfl (w_p (zAq rfl rfl rfl) rfl (w_p (zBh rfl rfl) rfl (zBg rfl rfl (zAe (zAb (jl _ _ (zAf (fun kp jm => (zAa (w_p (zAs (vs := [_,_,_,_,_,_,_]) isAgg33 sizeOf33 g6.drop.drop.drop.tail.tail.tail.tail.tail.tail rfl rfl hP3) rfl ?_)))))))))))
  refine zA4 zAc call31 rfl rfl rfl rfl ((c31 (roomX 2) p3 gw.cons.cons.cons.cons.cons.cons.app.app.app (zEh 2) g6).mono (fun v w' h => (show ∃ a c B, v = .tuple #[.slice a 1 c, .int .i64 0] ∧ Sl w0 B a 1 [[.int .i64 0]] ∧ St w0 w' (B ++ _) from by obtain ⟨B, a, c, h⟩ := h; rw [ex_wrong] at h; exact ⟨a, c, B, h⟩))) ?_
  rintro _ kr ⟨a4, c4, B4, rfl, hr4, g7⟩
  replace g7 := (show St _ _ (B4 ++ (B3 ++ (B2 ++ (B1 ++ (_ :: _ :: _ :: _ :: _ :: _ :: Z))))) from g7)
  refine w_p (zA6 rfl rfl) rfl (w_p (zCm rfl rfl rfl) rfl (w_p (zAq rfl rfl rfl) rfl (w_p (zBh rfl rfl) rfl (zBg rfl rfl (zAe (zAb (jm _ _ (zAf (fun ku jo => (zAa (w_p (zAs (vs := [_,_,_,_,_,_,_]) isAgg33 sizeOf33 g7.drop.drop.drop.drop.tail.tail.tail.tail.tail.tail rfl rfl hP3) rfl ?_)))))))))))
  refine zCi zAc call29 rfl rfl rfl rfl ((c29z (roomX 2) p3 gw.cons.cons.cons.cons.cons.cons.app.app.app.app (zEh 2) ex_lb2 2 (by decide) g7).mono (fun v w' h => h)) (fun kw jp => ?_)
  refine w_p (zA6 rfl rfl) rfl (w_p (zCm rfl rfl rfl) rfl (w_p (zAq rfl rfl rfl) rfl (w_p (zBh rfl rfl) rfl (zBg rfl rfl (zAe (zAb (jo _ _ (zAf (fun kx jq => (zCc [] [(0,0),(1,0),(2,0),(3,0),(4,0),(5,0),(6,0),(7,0),(8,0),(9,0),(10,0),(11,0),(12,0),(13,0),(14,0),(15,0),(16,0),(17,0),(18,0),(19,0),(20,0),(21,0),(22,0),(23,0),(24,0),(25,0),(26,0),(27,0),(28,0),(29,0),(30,0),(31,0),(32,0),(33,0),(34,0),(35,0),(36,0),(37,0),(38,0),(39,0),(40,0),(41,0),(42,0),(43,1),(44,2),(45,0),(46,0),(47,0),(48,1),(49,2),(50,0),(51,0),(52,0),(53,1),(54,2),(55,0),(56,0),(57,0),(58,1),(59,2),(60,0),(61,0),(62,0),(63,1),(64,2),(65,0),(66,0),(67,0),(68,0),(69,2),(70,2),(71,0),(72,0),(73,0),(74,0),(75,0),(76,0),(77,0),(78,2),(79,2),(80,0),(81,0),(82,0),(83,2),(84,2),(85,0),(86,0),(87,0),(88,2),(89,2),(90,0),(91,0)] zB7 (zBs (by kernel_rfl)) jp (fun ky gy => ?_)))))))))))
  refine d_w rfl (fun _ => zAu rfl rfl) rfl (d_w rfl (fun _ => zCk rfl rfl rfl rfl) rfl (d_w rfl (fun _ => zAn rfl rfl) rfl ?_))
  refine zCf rfl (zAm rfl rfl rfl) rfl (fun _ => (zAu rfl rfl)) ?_
  refine zCf rfl (zAm rfl rfl rfl) rfl (fun _ => (zCk rfl rfl rfl rfl)) ?_
  refine d_w rfl (fun _ => zAt (v := .bool _) rfl rfl rfl rfl) rfl (d_w rfl (fun _ => zAn rfl rfl) rfl ?_)
  refine zCf rfl (zAm rfl rfl rfl) rfl (fun _ => (zAu rfl rfl)) ?_
  refine zCf rfl (zAm rfl rfl rfl) rfl (fun _ => (zCk rfl rfl rfl rfl)) ?_
  refine d_w rfl (fun _ => zAt (v := .bool _) rfl rfl rfl rfl) rfl (d_w rfl (fun _ => zAn rfl rfl) rfl ?_)
  refine zCf rfl (zAm rfl rfl rfl) rfl (fun _ => (zAu rfl rfl)) ?_
  refine zCf rfl (zAm rfl rfl rfl) rfl (fun _ => (zCk rfl rfl rfl rfl)) ?_
  refine d_w rfl (fun _ => zAt (v := .bool _) rfl rfl rfl rfl) rfl (d_w rfl (fun _ => zAn rfl rfl) rfl ?_)
  refine zCf rfl (zAm rfl rfl rfl) rfl (fun _ => (zAu rfl rfl)) ?_
  refine zCf rfl (zAm rfl rfl rfl) rfl (fun _ => (zCk rfl rfl rfl rfl)) ?_
  refine d_w rfl (fun _ => zAt (v := .bool _) rfl rfl rfl rfl) rfl (d_w rfl (fun _ => zAn rfl rfl) rfl ?_)
  refine zCf rfl (zAm rfl rfl rfl) rfl (fun _ => (zAu rfl rfl)) ?_
  refine zCf rfl (zAm rfl rfl rfl) rfl (fun _ => (zCk rfl rfl rfl rfl)) ?_
  refine d_w rfl (fun _ => zAt (v := .bool _) rfl rfl rfl rfl) rfl (d_w rfl (fun _ => zAn rfl rfl) rfl ?_)
  refine zCf rfl (zAm rfl rfl rfl) rfl (fun _ => (zAu rfl rfl)) ?_
  refine zCf rfl (zAm rfl rfl rfl) rfl (fun _ => (zCk rfl rfl rfl rfl)) ?_
  refine d_w rfl (fun _ => zAt (v := .bool _) rfl rfl rfl rfl) rfl (d_w rfl (fun _ => zAn rfl rfl) rfl ?_)
  refine zCf rfl (zAm rfl rfl rfl) rfl (fun _ => (zAu rfl rfl)) ?_
  refine zCf rfl (zAm rfl rfl rfl) rfl (fun _ => (zCk rfl rfl rfl rfl)) ?_
  refine d_w rfl (fun _ => zAt (v := .bool _) rfl rfl rfl rfl) rfl (d_w rfl (fun _ => zAn rfl rfl) rfl ?_)
  refine zCf rfl (zAm rfl rfl rfl) rfl (fun _ => (zAu rfl rfl)) ?_
  refine zCf rfl (zAm rfl rfl rfl) rfl (fun _ => (zCk rfl rfl rfl rfl)) ?_
  refine d_w rfl (fun _ => zAt (v := .bool _) rfl rfl rfl rfl) rfl (d_w rfl (fun _ => zAn rfl rfl) rfl ?_)
  refine zCf rfl (zAm rfl rfl rfl) rfl (fun _ => (zAu rfl rfl)) ?_
  refine zCf rfl (zAm rfl rfl rfl) rfl (fun _ => (zCk rfl rfl rfl rfl)) ?_
  refine d_w rfl (fun _ => zAt (v := .bool _) rfl rfl rfl rfl) rfl (d_w rfl (fun _ => zAn rfl rfl) rfl ?_)
  refine zCf rfl (zAm rfl rfl rfl) rfl (fun _ => (zAu rfl rfl)) ?_
  refine zCf rfl (zAm rfl rfl rfl) rfl (fun _ => (zCk rfl rfl rfl rfl)) ?_
  refine d_w rfl (fun _ => zAt (v := .bool _) rfl rfl rfl rfl) rfl (d_w rfl (fun _ => zAn rfl rfl) rfl ?_)
  refine zA3 rfl (zAm rfl rfl rfl) rfl gy (fun _ hq => (zAs (vs := [_,_]) isAgg28 sizeOf28 hq.drop.drop.drop.drop.tail.tail.tail.tail.tail rfl rfl hx5)) ?_
  refine zB0 rfl ?_
  refine zA4 (zAm rfl rfl rfl) call32 rfl rfl rfl rfl (c32 _ _ gy) ?_
  rintro _ kz ⟨rfl, gh⟩
  refine zAe (qn ⟨gh, ?_⟩)
  refine zCf rfl (zAm rfl rfl rfl) rfl (fun _ => (zEs (l := [_,_]) (m := [_,_]) eqGuardType28 zDg (by first | omega | rfl | (simp only [zL] <;> omega)) (by first | omega | rfl | (simp only [zL] <;> omega)) rfl rfl rfl rfl rfl rfl)) ?_
  refine d_w rfl (fun _ => zAt (v := .bool _) rfl rfl rfl rfl) rfl (d_w rfl (fun _ => zAn rfl rfl) rfl ?_)
  refine zEk (fun gi => ?_) (fun gi => ?_)
  ·
   try simp only [zS] at gi
   refine zA3 rfl (zAm rfl rfl rfl) rfl gh (fun _ hq => (zAs (vs := [_,_]) isAgg28 sizeOf28 hq.drop.drop.drop.drop.tail.tail.tail.tail rfl rfl hx7)) ?_
   refine zB0 rfl ?_
   refine zA4 (zAm rfl rfl rfl) call32 rfl rfl rfl rfl (c32 _ _ gh) ?_
   rintro _ kA ⟨rfl, gj⟩
   refine zAe (qn ⟨gj, ?_⟩)
   refine zCf rfl (zAm rfl rfl rfl) rfl (fun _ => (zEs (l := [_,_]) (m := [_,_]) eqGuardType28 zDg (by first | omega | rfl | (simp only [zL] <;> omega)) (by first | omega | rfl | (simp only [zL] <;> omega)) rfl rfl rfl rfl rfl rfl)) ?_
   refine d_w rfl (fun _ => zAt (v := .bool _) rfl rfl rfl rfl) rfl (d_w rfl (fun _ => zAn rfl rfl) rfl ?_)
   refine zEk (fun gk => ?_) (fun gk => ?_)
   ·
    try simp only [zS] at gk
    refine zA3 rfl (zAm rfl rfl rfl) rfl gj (fun _ hq => (zAs (vs := [_,_]) isAgg28 sizeOf28 hq.drop.drop.drop.drop.tail.tail.tail rfl rfl hx9)) ?_
    refine zB0 rfl ?_
    refine zA4 (zAm rfl rfl rfl) call32 rfl rfl rfl rfl (c32 _ _ gj) ?_
    rintro _ kB ⟨rfl, gm⟩
    refine zAe (qn ⟨gm, ?_⟩)
    refine zCf rfl (zAm rfl rfl rfl) rfl (fun _ => (zEs (l := [_,_]) (m := [_,_]) eqGuardType28 zDg (by first | omega | rfl | (simp only [zL] <;> omega)) (by first | omega | rfl | (simp only [zL] <;> omega)) rfl rfl rfl rfl rfl rfl)) ?_
    refine d_w rfl (fun _ => zAt (v := .bool _) rfl rfl rfl rfl) rfl (d_w rfl (fun _ => zAn rfl rfl) rfl ?_)
    refine zEk (fun gn => ?_) (fun gn => ?_)
    ·
     try simp only [zS] at gn
     refine zA3 rfl (zAm rfl rfl rfl) rfl gm (fun _ hq => (zAs (vs := [_,_]) isAgg28 sizeOf28 hq.drop.drop.drop.drop.tail.tail rfl rfl hx11)) ?_
     refine zB0 rfl ?_
     refine zA4 (zAm rfl rfl rfl) call32 rfl rfl rfl rfl (c32 _ _ gm) ?_
     rintro _ kC ⟨rfl, gq⟩
     refine zAe (qn ⟨gq, ?_⟩)
     refine zCf rfl (zAm rfl rfl rfl) rfl (fun _ => (zEs (l := [_,_]) (m := [_,_]) eqGuardType28 zDg (by first | omega | rfl | (simp only [zL] <;> omega)) (by first | omega | rfl | (simp only [zL] <;> omega)) rfl rfl rfl rfl rfl rfl)) ?_
     refine d_w rfl (fun _ => zAt (v := .bool _) rfl rfl rfl rfl) rfl (d_w rfl (fun _ => zAn rfl rfl) rfl ?_)
     refine zEk (fun gr => ?_) (fun gr => ?_)
     ·
      try simp only [zS] at gr
      refine zA3 rfl (zAm rfl rfl rfl) rfl gq (fun _ hq => (zAs (vs := [_,_]) isAgg28 sizeOf28 hq.drop.drop.drop.drop rfl rfl hx13)) ?_
      refine zB0 rfl ?_
      refine zA4 (zAm rfl rfl rfl) call32 rfl rfl rfl rfl (c32 _ _ gq) ?_
      rintro _ kD ⟨rfl, gz⟩
      refine zAe (qn ⟨gz, ?_⟩)
      refine zCf rfl (zAm rfl rfl rfl) rfl (fun _ => (zEs (l := [_,_]) (m := [_,_]) eqGuardType28 zDg (by first | omega | rfl | (simp only [zL] <;> omega)) (by first | omega | rfl | (simp only [zL] <;> omega)) rfl rfl rfl rfl rfl rfl)) ?_
      refine d_w rfl (fun _ => zAt (v := .bool _) rfl rfl rfl rfl) rfl (d_w rfl (fun _ => zAn rfl rfl) rfl ?_)
      refine zEk (fun gt => ?_) (fun gt => ?_)
      ·
       try simp only [zS] at gt
       refine zCf rfl (zAm rfl rfl rfl) rfl (fun _ => (zAx rfl rfl)) ?_
       refine zB0 rfl ?_
       refine zBc (ps := [(0, _),(1, _)]) (pv := [(0, .int _ _),(1, .int _ _)]) (cs := [_,_]) (zAm rfl rfl rfl) rfl rfl (fun w => Try_QQ_fb5 _ _ w) gz (fun kE kF gA => ?_)
       refine zAe (qn ⟨gA.tail, ?_⟩)
       refine zB0 rfl ?_
       refine zA4 (zAm rfl rfl rfl) call33 rfl rfl rfl rfl (zD2 (c33 _ _ [0,2] [0,2] _ _ (by decide) (sl_top hr1).app.app.app.cons (zBx (i := 0) (rows := [[_], [_]]) rfl (by simp) rfl) gA) (by decide)) ?_
       rintro _ kG ⟨rfl, gB⟩
       refine zAe (qn ⟨gB.tail, ?_⟩)
       refine d_w rfl (fun _ => zAt (v := .bool _) rfl rfl rfl rfl) rfl (d_w rfl (fun _ => zAn rfl rfl) rfl ?_)
       refine zCf rfl (zAm rfl rfl rfl) rfl (fun _ => (zAu rfl rfl)) ?_
       refine zCf rfl (zAm rfl rfl rfl) rfl (fun _ => (zCk rfl rfl rfl rfl)) ?_
       refine d_w rfl (fun _ => zAt (v := .bool _) rfl rfl rfl rfl) rfl (d_w rfl (fun _ => zAn rfl rfl) rfl ?_)
       refine zCf rfl (zAm rfl rfl rfl) rfl (fun _ => (zAx rfl rfl)) ?_
       refine zB0 rfl ?_
       refine zBc (ps := [(0, _),(1, _)]) (pv := [(0, .int _ _),(1, .int _ _)]) (cs := [_,_]) (zAm rfl rfl rfl) rfl rfl (fun w => Try_QQ_fb5 _ _ w) gB (fun kH kI gC => ?_)
       refine zAe (qn ⟨gC.tail.tail, ?_⟩)
       refine zB0 rfl ?_
       refine zA4 (zAm rfl rfl rfl) call33 rfl rfl rfl rfl (zD2 (c33 _ _ [2,3] [2,3] _ _ (by decide) (sl_top hr2).app.app.cons.cons (zBx (i := 0) (rows := [[_], [_]]) rfl (by simp) rfl) gC) (by decide)) ?_
       rintro _ kJ ⟨rfl, gD⟩
       refine zAe (qn ⟨gD.tail.tail, ?_⟩)
       refine d_w rfl (fun _ => zAt (v := .bool _) rfl rfl rfl rfl) rfl (d_w rfl (fun _ => zAn rfl rfl) rfl ?_)
       refine zCf rfl (zAm rfl rfl rfl) rfl (fun _ => (zAx rfl rfl)) ?_
       refine zB0 rfl ?_
       refine zBc (ps := [(0, _)]) (pv := [(0, .int _ _)]) (cs := [_]) (zAm rfl rfl rfl) rfl rfl (fun w => zHk _ w) gD (fun kK kL gE => ?_)
       refine zAe (qn ⟨gE.tail.tail.tail, ?_⟩)
       refine zB0 rfl ?_
       refine zA4 (zAm rfl rfl rfl) call33 rfl rfl rfl rfl (zD2 (c33 _ _ [2] [2] _ _ (by decide) (sl_top hr3).app.cons.cons.cons (zBx (i := 0) (rows := [[_]]) rfl (by simp) rfl) gE) (by decide)) ?_
       rintro _ kM ⟨rfl, gF⟩
       refine zAe (qn ⟨gF.tail.tail.tail, ?_⟩)
       refine d_w rfl (fun _ => zAt (v := .bool _) rfl rfl rfl rfl) rfl (d_w rfl (fun _ => zAn rfl rfl) rfl ?_)
       refine zCf rfl (zAm rfl rfl rfl) rfl (fun _ => (zAx rfl rfl)) ?_
       refine zB0 rfl ?_
       refine zBc (ps := [(0, _)]) (pv := [(0, .int _ _)]) (cs := [_]) (zAm rfl rfl rfl) rfl rfl (fun w => zHk _ w) gF (fun kN kO gG => ?_)
       refine zAe (qn ⟨gG.tail.tail.tail.tail, ?_⟩)
       refine zB0 rfl ?_
       refine zA4 (zAm rfl rfl rfl) call33 rfl rfl rfl rfl (zD2 (c33 _ _ [0] [0] _ _ (by decide) (sl_top hr4).cons.cons.cons.cons (zBx (i := 0) (rows := [[_]]) rfl (by simp) rfl) gG) (by decide)) ?_
       rintro _ kP ⟨rfl, gH⟩
       refine zAe (qn ⟨gH.tail.tail.tail.tail, ?_⟩)
       refine d_w rfl (fun _ => zAt (v := .bool _) rfl rfl rfl rfl) rfl (d_w rfl (fun _ => zAl rfl rfl) rfl ?_)
       refine zB5 ?_
       refine zAb (jq _ _ (zA0 (zA1 (l := [.tmp 0]) (vs := [_]) rfl ⟨⟨rfl, (rfl : _ = Value.bool _)⟩, trivial⟩ ?_)))
       exact ⟨rfl, (St.cast hZ gH.tail.tail.tail.tail.drop.drop.drop.drop.tail.tail.tail.tail.tail.tail).tail.tail.tail.tail.drop.tail.drop.tail.drop⟩
      exfalso; simp at gt
     exfalso; simp at gr
    exfalso; simp at gn
   exfalso; simp at gk
  exfalso; simp at gi

end Go.Proofs.Ro
/- The walking engine, part 31: arrays of truth values that are opaque. No conditions. -/
namespace Go.Rt
open Go.RowKit
variable {r : Option Nat} {P : Program} {ops : Array Oper} {Q : Exit → Act → World → Prop} {rest : List Oper} {n : Nat} {ρ : Nat → Value} {ds : List Deferred} {w w0 : World} {L : List (Nat × Obj)}
  {d : Option Tmp} {ty : TypeId} {p : String} {e : Array Edge} {g : Option (Nat × Bool)}
abbrev bw (l : List Bool) : List Value := l.map Value.bool
def ba (l : List Bool) : Value := .agg (bw l).toArray
theorem w_boxB {d : Nat} {t : TypeId} {x : Operand} {l : List Bool} {a : Value} (hw : Want ops (A n ρ ds) ⟨some d, .box t x, ty, p, e, g⟩) (ho : okO n x = true) (hx : ev ρ x = a) (ha : a = ba l) (hst : St w0 w L)
    (hk : ∀ b w', St w0 w' ((b, blk t (bw l)) :: L) → WL r P ops Q rest (A n (upd ρ d (.pointer (some ⟨b, 0, none⟩))) ds) w') :
    WL r P ops Q (⟨some d, .box t x, ty, p, e, g⟩ :: rest) (A n ρ ds) w := zCd (v := ba l) (cs := bw l) hw ho (hx.trans ha) rfl hst hk
theorem zGb {k : Nat} {t : TypeId} {x y : Operand} {b i : Nat} {tb : TypeId} {cs : List Value} {l : List Bool} {a : Value} (hw : Want ops (A n ρ ds) ⟨none, .store t x y, ty, p, e, g⟩) (hs : ∀ w, (sizeOf t).run P w = .ok k w) (hkl : l.length = k)
    (ho : okO n x = true) (ho1 : okO n y = true) (hx : ev ρ x = .pointer (some ⟨b, 0, none⟩)) (hy : ev ρ y = a) (ha : a = ba l) (hst : St w0 w L) (hi : L[i]? = some (b, blk tb cs)) (hl : cs.length = k)
    (hk : ∀ w', St w0 w' (L.set i (b, blk tb (bw l))) → WL r P ops Q rest (A n ρ ds) w') :
    WL r P ops Q (⟨none, .store t x y, ty, p, e, g⟩ :: rest) (A n ρ ds) w := by
  subst hkl
  refine zD9 (v := ba l) (vs := bw l) hw (by simpa using hs) ho ho1 hx (hy.trans ha) rfl (fun u hu => ?_) hst hi (by simp [hl]) (fun w' hst' => hk w' ?_)
  · obtain ⟨z, _, rfl⟩ := List.mem_map.1 hu; rfl
  · have := zF1 (bw l) [] cs (by simp [hl])
    simp only [List.nil_append, List.length_nil] at this
    rwa [this] at hst'
theorem zD8 {t : TypeId} {x y : Operand} {b i j : Nat} {tb : TypeId} {l : List Bool} {z : Bool} (hw : Want ops (A n ρ ds) ⟨none, .store t x y, ty, p, e, g⟩) (hs : ∀ w, (sizeOf t).run P w = .ok 1 w)
    (ho : okO n x = true) (ho1 : okO n y = true) (hx : ev ρ x = .pointer (some ⟨b, 0 + j * 1, none⟩)) (hy : ev ρ y = .bool z) (hst : St w0 w L) (hi : L[i]? = some (b, blk tb (bw l))) (hl : j < l.length)
    (hk : ∀ w', St w0 w' (L.set i (b, blk tb (bw (l.set j z)))) → WL r P ops Q rest (A n ρ ds) w') :
    WL r P ops Q (⟨none, .store t x y, ty, p, e, g⟩ :: rest) (A n ρ ds) w := by
  refine zD9 (v := .bool z) (vs := [.bool z]) hw hs ho ho1 hx hy rfl (by simp [Value.oneCell']) hst hi (by simp; omega) (fun w' hst' => hk w' ?_)
  have : setMany (bw l) (0 + j * 1) [.bool z] = bw (l.set j z) := by simp [setMany, bw, List.map_set]
  rwa [this] at hst'
theorem y_loadB {k : Nat} {t : TypeId} {x : Operand} {b i : Nat} {tb : TypeId} {l : List Bool} (ha : ∀ w, (isAgg t).run P w = .ok true w) (hs : ∀ w, (sizeOf t).run P w = .ok k w) (hkl : l.length = k) (hst : St w0 w L) (ho : okO n x = true) (hx : ev ρ x = .pointer (some ⟨b, 0, none⟩))
    (hi : L[i]? = some (b, blk tb (bw l))) : Yd P (A n ρ ds) ⟨d, .load t x, ty, p, e, g⟩ w (ba l) :=
  zAs (vs := bw l) ha (by subst hkl; simpa using hs) hst ho hx (zBm hi (by rw [List.drop_zero, List.take_length]))
theorem ats_bw {b i j : Nat} {t : TypeId} {l : List Bool} (hi : L[i]? = some (b, blk t (bw l))) (hj : j < l.length) : Ats w0 L b (0 + j * 1) [.bool (l.getD j false)] := by
  refine zBm hi ?_
  have h : ((bw l).drop j).take 1 = [.bool (l.getD j false)] := by
    rw [List.drop_eq_getElem_cons (by simpa using hj)]
    simp [List.getD, hj]
  simpa using h
theorem zFj {t tb : TypeId} {l : List Bool} {i b k : Nat} (ha : ∀ w, (isAgg t).run P w = .ok true w) (hs : ∀ w, (sizeOf t).run P w = .ok k w) (hkl : l.length = k) (hst : St w0 w L) (hi : L[i]? = some (b, blk tb (bw l))) : (loadVar t ⟨b, 0, none⟩).run P w = .ok (ba l) w :=
  zBv (vs := bw l) ha (by subst hkl; simpa using hs) hst (zBm hi (by rw [List.drop_zero, List.take_length]))
end Go.Rt
namespace Go.Rt
open Go.RowKit
variable {r : Option Nat} {P : Program} {ops : Array Oper} {Q : Exit → Act → World → Prop} {rest : List Oper} {n : Nat} {ρ : Nat → Value} {ds : List Deferred} {w w0 : World} {L : List (Nat × Obj)}
  {d : Option Tmp} {ty : TypeId} {p : String} {e : Array Edge} {g : Option (Nat × Bool)}
theorem fill_fold (o : Nat) : ∀ (vs pre cs : List Value), vs.length = cs.length → o = 0 → (vs.zipIdx pre.length).foldl (fun (a : Array Value) (q : Value × Nat) => a.setIfInBounds (o + q.2) q.1) (pre ++ cs).toArray = (pre ++ vs).toArray
  | [], pre, [], _, _ => rfl
  | [], _, _ :: _, h, _ => by simp at h
  | _ :: _,_, [], h, _ => by simp at h
  | v :: vs, pre, c :: cs, h, ho => by
    subst ho
    have ih := fill_fold 0 vs (pre ++ [v]) cs (by simpa using h) rfl
    rw [List.zipIdx_cons, List.foldl_cons]
    have e1 : (pre ++ c :: cs).toArray.setIfInBounds (0 + pre.length) v = ((pre ++ [v]) ++ cs).toArray := by simp
    simp only at e1 ⊢
    rw [e1]
    have e2 : (pre ++ [v]).length = pre.length + 1 := by simp
    rw [e2] at ih
    rw [ih]
    simp
theorem run_bslice1 {t el : TypeId} {sz : Nat} {z v : Value} {l : List Value} (hU : P.underlying t = some (.slice el)) (hsz : ∀ w, (sizeOf el).run P w = .ok sz w) (hz : ∀ w, (zeroValue el).run P w = .ok z w) (hp : 0 < sz) (hb : sz ≤ 2 ^ 24)
    (hv : v.cells = l.toArray) (hl : l.length = sz) (w : World) : (Instr.buildSlice t 1 #[(0, v)]).run P w = .ok (.slice (some ⟨w.heap.size, 0, none⟩) 1 1) (w.alloc (blk el l)) := by
  have h1 : ¬ 1 * sz > 2 ^ 24 := by omega
  have h2 : ¬ 1 * sz = 0 := by omega
  have h3 : ∀ C : Array Value, C.size = sz → Instr.fill (fun i => some (i * sz, sz)) C [(0, v)] = some l.toArray := by
    intro C hC
    have h4 := fill_fold (0 * sz) l [] C.toList (by simp [hl, hC]) (by simp)
    simp only [List.nil_append, List.length_nil, Array.toArray_toList] at h4
    have h5 : ¬ (v.cells.size ≠ sz || 0 * sz + v.cells.size > C.size) = true := by rw [hv, hC]; simp [hl]
    unfold Instr.fill
    simp only [h5, if_neg]
    unfold Instr.fill
    rw [hv]
    simpa using h4
  simp [Instr.buildSlice, Sem.run_bind, run_underlying hU, hsz, hz, Result.andThen, h1, h2]
  rw [if_neg (show ¬ 16777216 < sz by omega), if_neg (show ¬ sz = 0 by omega), h3 _ (by simp)]
  simp [Sem.run_bind, newRow, Result.andThen, blk]
theorem w_bslice1 {d : Nat} {t el : TypeId} {sz : Nat} {z v : Value} {x : Operand} {l : List Value} (hw : Want ops (A n ρ ds) ⟨some d, .buildSlice t 1 #[(0, x)], ty, p, e, g⟩) (hU : P.underlying t = some (.slice el)) (hsz : ∀ w, (sizeOf el).run P w = .ok sz w) (hz : ∀ w, (zeroValue el).run P w = .ok z w)
    (hp : Nat.blt 0 sz = true) (hb : Nat.ble sz (2 ^ 24) = true) (ho : okO n x = true) (hx : ev ρ x = v) (hv : v.cells = l.toArray) (hl : l.length = sz) (hst : St w0 w L)
    (hk : ∀ b w', St w0 w' ((b, blk el l) :: L) → WL r P ops Q rest (A n (upd ρ d (.slice (some ⟨b, 0, none⟩) 1 1)) ds) w') :
    WL r P ops Q (⟨some d, .buildSlice t 1 #[(0, x)], ty, p, e, g⟩ :: rest) (A n ρ ds) w :=
  zBc (ps := [(0, x)]) (pv := [(0, v)]) (len := 1) hw (by simpa using ho) (by simp [hx]) (fun w => run_bslice1 hU hsz hz (by simpa using hp) (Nat.le_of_ble_eq_true hb) hv hl w) hst hk
theorem w_storeRowB {k j : Nat} {t : TypeId} {x y : Operand} {b i : Nat} {tb : TypeId} {cs : List Value} {l : List Bool} {a : Value} (hw : Want ops (A n ρ ds) ⟨none, .store t x y, ty, p, e, g⟩) (hs : ∀ w, (sizeOf t).run P w = .ok k w) (hkl : l.length = k)
    (ho : okO n x = true) (ho1 : okO n y = true) (hx : ev ρ x = .pointer (some ⟨b, 0 + j * k, none⟩)) (hy : ev ρ y = a) (ha : a = ba l) (hst : St w0 w L) (hi : L[i]? = some (b, blk tb cs)) (hl : j * k + k ≤ cs.length)
    (hk : ∀ w', St w0 w' (L.set i (b, blk tb (setMany cs (j * k) (bw l)))) → WL r P ops Q rest (A n ρ ds) w') :
    WL r P ops Q (⟨none, .store t x y, ty, p, e, g⟩ :: rest) (A n ρ ds) w := by
  subst hkl
  rw [Nat.zero_add] at hx
  exact zD9 (v := ba l) (vs := bw l) hw (by simpa using hs) ho ho1 hx (hy.trans ha) rfl (fun u hu => by obtain ⟨z, _, rfl⟩ := List.mem_map.1 hu; rfl) hst hi (by simpa using hl) hk
end Go.Rt
/- What sets of points hold at most, of the reference of the room layer. No conditions. -/
namespace Go.Rt.Ro
open Go.Rt.Ha (bit listL)
def SubS (x : List Bool) (P : Nat → Prop) : Prop := x.length = 160 ∧ ∀ n, x.getD n false = true → P n
theorem sub_nil (P : Nat → Prop) : SubS (List.replicate 160 false) P := ⟨by simp, by
  intro n h
  rw [List.getD_eq_getElem?_getD, List.getElem?_replicate] at h
  split at h <;> simp at h⟩
theorem zFa {x : List Bool} {P : Nat → Prop} (h : SubS x P) {n : Nat} {b : Bool} (hb : b = true → P n) : SubS (x.set n b) P := ⟨by rw [List.length_set]; exact h.1, by
  intro m hm
  rw [List.getD_eq_getElem?_getD, List.getElem?_set] at hm
  split at hm
  · rename_i e
    subst e
    split at hm
    · exact hb (by simpa using hm)
    · simp at hm
  · exact h.2 m (by rw [List.getD_eq_getElem?_getD]; exact hm)⟩
theorem SubS.mono {x : List Bool} {P Q : Nat → Prop} (h : SubS x P) (hpq : ∀ n, n < 160 → P n → Q n) : SubS x Q := ⟨h.1, fun n hn => hpq n (by
  rw [← h.1]
  refine Nat.lt_of_not_le fun hl => ?_
  rw [List.getD_eq_getElem?_getD, List.getElem?_eq_none hl] at hn
  simp at hn) (h.2 n hn)⟩
def OfP (s : Int × Int) (n : Nat) : Prop := s.1 ≤ (n : Int) ∧ (n : Int) ≤ s.2
def SeenTo (r : Room) (d : Int) (n i : Nat) : Prop := ∀ j, j < i → (lookAt r j).1 = d → colour n = (lookAt r j).2
def SeenP (r : Room) (d : Int) (n : Nat) : Prop := SeenTo r d n r.looks.length
theorem seen_zero (r : Room) (d : Int) (n : Nat) : SeenTo r d n 0 := fun j h => absurd h (by omega)
theorem seen_same {r : Room} {d : Int} {n i : Nat} (h : SeenTo r d n i) (hd : ¬ (lookAt r i).1 = d) : SeenTo r d n (i + 1) := fun j hj he => if hji : j = i then absurd (hji ▸ he) hd else h j (by omega) he
theorem seen_more {r : Room} {d : Int} {n i : Nat} (h : SeenTo r d n i) (hc : (lookAt r i).2 = colour n) : SeenTo r d n (i + 1) := fun j hj he => if hji : j = i then by rw [hji]; exact hc.symm else h j (by omega) he
def BothP (a b : List Bool) (n : Nat) : Prop := a.getD n false = true ∧ b.getD n false = true
def GrownP (a : List Bool) (g : Int × Int) (n : Nat) : Prop := ∃ m : Nat, a.getD m false = true ∧ (m : Int) + g.1 ≤ n ∧ (n : Int) ≤ m + g.2
def DP (r : Room) (d n : Nat) : Prop := fwd r 0 d = true ∧ (sp r 0 d).1 ≤ (n : Int) ∧ (n : Int) ≤ (sp r 0 d).2
theorem ofC_in {n : Nat} (hn : n < 160) {c : Int} (h : colour n = c) : (ofC c).1 ≤ (n : Int) ∧ (n : Int) ≤ (ofC c).2 := by
  subst h
  unfold colour ofC
  dsimp only
  split <;> constructor <;> omega
theorem see_to {r : Room} {d n : Nat} {s : Int × Int} (hn : n < 160) (h1 : s.1 ≤ (n : Int) ∧ (n : Int) ≤ s.2) : ∀ i, SeenTo r d n i → (seeTo r 0 d s i).1 ≤ (n : Int) ∧ (n : Int) ≤ (seeTo r 0 d s i).2
  | 0, _ => h1
  | i + 1, h => by
    have ih := see_to hn h1 i (fun j hj => h j (by omega))
    rw [seeTo, seeAt]
    split
    · rename_i hc
      have h2 := ofC_in hn (h i (by omega) hc.1)
      unfold both
      dsimp only
      constructor
      · exact Int.max_le.2 ⟨ih.1, h2.1⟩
      · exact Int.le_min.2 ⟨ih.2, h2.2⟩
    · exact ih
theorem dp_zero {r : Room} {n : Nat} (hn : n < 160) (h : OfP (r.lo, r.hi) n) (h2 : SeenP r ((0 : Nat) : Int) n) : DP r 0 n := ⟨rfl, see_to hn h _ h2⟩
theorem dp_next {r : Room} {d n : Nat} {a : List Bool} (hn : n < 160) (ha : SubS a (DP r d)) (h : GrownP a (gain r d) n) (h2 : SeenP r ((d + 1 : Nat) : Int) n) : DP r (d + 1) n := by
  obtain ⟨m, hm, h3, h4⟩ := h
  obtain ⟨h5, h6, h7⟩ := ha.2 m hm
  refine ⟨?_, see_to hn ?_ _ h2⟩
  · rw [fwd, h5, Bool.true_and]
    exact decide_eq_true (by omega)
  · unfold plus
    dsimp only
    omega
theorem look_of {r : Room} {n : Nat} (h : DP r r.ran.length n) : lookB r 0 = true := by
  obtain ⟨h5, h6, h7⟩ := h
  unfold lookB
  rw [fwd, h5, Bool.true_and]
  exact decide_eq_true (by omega)
def DayS (r : Room) (Ls : List (List Bool)) : Prop := ∀ d, ∀ h : d < Ls.length, SubS Ls[d] (DP r d)
theorem days_one {r : Room} {x : List Bool} (h : SubS x (DP r 0)) : DayS r [x] := fun d hd => by
  have : d = 0 := by simp at hd; omega
  subst this; exact h
theorem days_more {r : Room} {Ls : List (List Bool)} {x : List Bool} (h : DayS r Ls) (hx : SubS x (DP r Ls.length)) : DayS r (Ls ++ [x]) := fun d hd => by
  by_cases h1 : d < Ls.length
  · rw [List.getElem_append_left h1]; exact h d h1
  · have : d = Ls.length := by simp at hd; omega
    subst this
    rw [List.getElem_append_right (Nat.le_refl _)]
    simpa using hx
theorem days_set {r : Room} {Ls : List (List Bool)} {x : List Bool} {e : Nat} (he : e < Ls.length) (h : DayS r Ls) (hx : SubS x (fun n => Ls[e].getD n false = true)) : DayS r (Ls.set e x) := fun d hd => by
  rw [List.getElem_set]
  split
  · rename_i e2; subst e2
    exact ⟨hx.1, fun n hn => (h e he).2 n (hx.2 n hn)⟩
  · exact h d (by simpa using hd)
end Go.Rt.Ro
namespace Go.Rt.Ro
def SetK (r : Room) (i : Nat) : Prop := ∀ j, j < i → ∀ h : j < r.sets.length, nmOk r.sets[j].name = true ∧ has ((r.sets.take j).map (·.name)) r.sets[j].name = false ∧ ends r.sets[j].lo r.sets[j].hi 0 15 = 0
def RanK (r : Room) (i : Nat) : Prop := ∀ j, j < i → ∀ h : j < r.ran.length, 0 ≤ r.ran[j] ∧ r.ran[j] ≤ (r.sets.length : Int) - 1
def LookK (r : Room) (i : Nat) : Prop := ∀ j, j < i → ∀ h : j < r.looks.length, (0 ≤ r.looks[j].1 ∧ r.looks[j].1 ≤ (r.ran.length : Int)) ∧ 1 ≤ r.looks[j].2 ∧ r.looks[j].2 ≤ 7
theorem setK_zero (r : Room) : SetK r 0 := fun j hj => absurd hj (by omega)
theorem ranK_zero (r : Room) : RanK r 0 := fun j hj => absurd hj (by omega)
theorem lookK_zero (r : Room) : LookK r 0 := fun j hj => absurd hj (by omega)
theorem setK_more {r : Room} {i : Nat} (hi : i < r.sets.length) (h : SetK r i) (h1 : (if nmOk r.sets[i].name = false then 6 else if has ((r.sets.take i).map (·.name)) r.sets[i].name then 5 else 0 : Int) = 0) (h2 : ends r.sets[i].lo r.sets[i].hi 0 15 = 0) : SetK r (i + 1) := fun j hj hl => by
  by_cases e : j = i
  · subst e
    refine ⟨?_, ?_, h2⟩
    · refine Bool.of_not_eq_false fun e => ?_
      rw [if_pos e] at h1; omega
    · split at h1
      · omega
      · refine Bool.of_not_eq_true fun e => ?_
        rw [if_pos e] at h1; omega
  · exact h j (by omega) hl
theorem ranK_more {r : Room} {i : Nat} (hi : i < r.ran.length) (h : RanK r i) (h1 : 0 ≤ r.ran[i] ∧ r.ran[i] ≤ (r.sets.length : Int) - 1) : RanK r (i + 1) := fun j hj hl => by
  by_cases e : j = i
  · subst e; exact h1
  · exact h j (by omega) hl
theorem lookK_more {r : Room} {i : Nat} (hi : i < r.looks.length) (h : LookK r i) (h1 : 0 ≤ r.looks[i].1 ∧ r.looks[i].1 ≤ (r.ran.length : Int)) (h2 : 1 ≤ r.looks[i].2 ∧ r.looks[i].2 ≤ 7) : LookK r (i + 1) := fun j hj hl => by
  by_cases e : j = i
  · subst e; exact ⟨h1, h2⟩
  · exact h j (by omega) hl
theorem zHd {r : Room} (h1 : 1 ≤ r.days ∧ r.days ≤ 6) (h2 : 0 ≤ r.opens ∧ r.opens ≤ 6) (h3 : ends r.lo r.hi 0 69 = 0) (h4 : 1 ≤ (r.sets.length : Int) ∧ (r.sets.length : Int) ≤ 4) (h5 : SetK r r.sets.length) (h6 : (r.ran.length : Int) ≤ r.days) (h7 : RanK r r.ran.length) (h8 : (r.looks.length : Int) ≤ 4) (h9 : LookK r r.looks.length) : r.Ok where
  days := h1
  start := ends_z h3
  opens := h2
  ls := by omega
  sets := fun s hs => by
    obtain ⟨k, hk, rfl⟩ := List.getElem_of_mem hs
    have h := h5 k hk hk
    exact ⟨h.1, ends_z h.2.2⟩
  nd := nodup_of fun k hk => by
    have h := (h5 k (by simpa using hk) (by simpa using hk)).2.1
    rw [List.getElem_map, ← List.map_take]; exact h
  lr := h6
  ran := fun z hz => by
    obtain ⟨k, hk, rfl⟩ := List.getElem_of_mem hz
    have h := h7 k hk hk
    omega
  ll := by omega
  looks := fun x hx => by
    obtain ⟨k, hk, rfl⟩ := List.getElem_of_mem hx
    have h := h9 k hk hk
    omega
theorem names_snocR {r : Room} {i : Nat} (hi : i < r.sets.length) : ((r.sets.take (i + 1)).map (·.name)).map Value.string = ((r.sets.take i).map (·.name)).map Value.string ++ [[Value.string r.sets[i].name]].flatten := by
  rw [List.take_succ_eq_append_getElem hi, List.map_append, List.map_append]; rfl
end Go.Rt.Ro
set_option maxRecDepth 20000
namespace Go.Proofs.Rr
open Go.Proofs.Tryz
open Go.Rt Go.Rt.Ro
attribute [local irreducible] WL WC Con Yd At Ats Sl Agree DW
theorem Try_XA_fb0 (x0 : Int) (x1 : Int) (w : World) : (Instr.build 28 [(0, .int .i64 x0),(1, .int .i64 x1)].toArray).run Tryz.prog w = .ok (.agg #[.int .i64 x0, .int .i64 x1]) w := by kernel_rfl
theorem sl_lrows {w0 : World} {F : List (Nat × Obj)} {a : Option Addr} {l : List (Int × Int)} {i : Nat} (h : Sl w0 F a 2 (lrows l)) (hi : i < l.length) : ∃ b off, a = some ⟨b, off, none⟩ ∧ Ats w0 F b (off + i * 2) (lcells l[i]) := by
  obtain ⟨b, off, ha, _, hat⟩ := h.at (i := i) (row := lcells l[i]) (by simp [lrows, hi])
  exact ⟨b, off, ha, hat⟩
theorem c86 {w0 w : World} {F : List (Nat × Obj)} (x : Int) (hx : 0 ≤ x ∧ x ≤ 100000) (hs : St w0 w F) :
  Con Tryz.prog 86 [.int .i64 x] w fun v w' => v = .int .i64 (colour x) ∧ St w0 w' F := by
  refine zAo (n := 7) func86 rfl rfl (zNl rfl) ?_
  refine zAf (fun K2 g3 => (zAa (zA9 rfl rfl (zAe (zAb (g3 _ _ (zAf (fun K4 g4 => (zAa (zA2 rfl rfl (w_p (y_quo rfl rfl rfl rfl (by omega) (by omega) (by omega)) rfl ?_)))))))))))
  refine w_p (zBe rfl rfl rfl rfl (by omega) (by omega)) rfl (w_p (y_min2 rfl rfl rfl rfl) rfl (zBg rfl rfl (zAe (zAb (g4 _ _ (zA0 (zA1 (l := [.tmp 2]) (vs := [_]) rfl ⟨⟨rfl, (rfl : _ = Value.int _ _)⟩, trivial⟩ ?_)))))))
  exact ⟨rfl, hs⟩

theorem c14 {w0 w : World} {F : List (Nat × Obj)} (z : Int) (hs : St w0 w F) :
  Con Tryz.prog 14 [.slice none 0 0, .int .i64 z] w fun v w' => v = .bool false ∧ St w0 w' F := by
  refine zAo (n := 23) func14 rfl rfl (zNl rfl) ?_
  refine zAf (fun K2 g4 => (zAa (zA9 rfl rfl (zAe (zAb (g4 _ _ (zAf (fun K4 g5 => (zAa (zA9 rfl rfl (zAe (zAb (g5 _ _ (zAf (fun K6 g6 => (zAf (fun K8 g7 => (zAa (zA9 rfl rfl ?_)))))))))))))))))))
  refine zAe (zAb (g7 _ _ (zAw ?_)))
  refine zB2 [5,6,7,8,9,10,11,12,13,14,15,16,17,18,19,20,21] [5,6] (fun kk vs w => vs = [.bool false, .int .i64 0] ∧ kk = 1 ∧ St w0 w F) (1) ?_ ?_
  ·
   exact ⟨rfl, rfl, hs⟩
  intro k vs μ ga hI gb gc
  clear hs
  obtain ⟨rfl, rfl, hs⟩ := hI
  refine zAf (fun gd ge => (zAf (fun gf g8 => (zAa (zA2 rfl rfl (w_p (zAx rfl rfl) rfl (w_p (zBd underlying30 rfl rfl) rfl (w_p (zCb rfl rfl rfl rfl) rfl (zAe (zAb (g8 _ _ (zAv rfl rfl (fun g3 => ?_) (fun g3 => ?_)))))))))))))
  ·
   exfalso
   try simp only [zS] at g3
   omega
  try simp only [zS] at g3
  refine zBr (zAj (zAj (zAy (zAb (g6 _ _ (zAf (fun gg g9 => (zAa (w_p (zAn rfl rfl) rfl (w_p (zAl rfl rfl) rfl ?_))))))))))
  refine zAe (zAb (g9 _ _ (zA0 (zA1 (l := [.tmp 4]) (vs := [_]) rfl ⟨⟨rfl, (rfl : _ = Value.bool _)⟩, trivial⟩ ?_))))
  exact ⟨rfl, hs⟩

theorem c56 {w0 w : World} {F : List (Nat × Obj)} (a b n : Int) (hs : St w0 w F) :
  Con Tryz.prog 56 [.agg #[.int .i64 a, .int .i64 b], .int .i64 n] w fun v w' => v = .agg #[.int .i64 (min a n), .int .i64 (max b n)] ∧ St w0 w' F := by
  refine zAo (n := 14) func56 rfl rfl (zNl rfl) ?_
  refine zAf (fun K2 g5 => (zAa (zCd (v := .agg #[.int _ _, .int _ _]) (cs := [_,_]) zAc rfl rfl rfl hs (fun b3 w4 g6 => ?_))))
  refine zA5 (cs := [_,_]) zAc zeroValue28 rfl g6 (fun b6 w7 g3 => ?_)
  refine zAe (zAb (g5 _ _ (zAf (fun g8 g7 => (zAa (w_p (zAd (o := 0) (i := 0) underlying28 rfl sizeOf3 rfl rfl rfl) rfl (w_p (zAi isAgg3 g3 rfl rfl (aow 1 [_])) rfl ?_)))))))
  refine zA2 rfl rfl (w_p (y_min2 rfl rfl rfl rfl) rfl (w_p (zAd (o := 1) (i := 1) underlying28 rfl sizeOf3 rfl rfl rfl) rfl (w_p (zAi isAgg3 g3 rfl rfl (aow 1 [_])) rfl (zA2 rfl rfl (w_p (y_max2 rfl rfl rfl rfl) rfl ?_)))))
  refine w_p (zCh (ps := [(0, _),(1, _)]) (pv := [(0, .int _ _),(1, .int _ _)]) rfl rfl (fun w => Try_XA_fb0 _ _ w)) rfl (zBt 0 (.agg #[.int _ _, .int _ _]) [_,_] sizeOf28 g3 (fun g9 g4 => ?_))
  refine zAe (zAb (g7 _ _ (zA0 (zA1 (l := [.cell 4 28]) (vs := [_]) rfl ⟨⟨rfl, _, rfl, zBv (vs := [_,_]) isAgg28 sizeOf28 g4 (aow 0 [_,_])⟩, trivial⟩ ?_))))
  exact ⟨rfl, g4.tail.tail⟩

theorem c58 {w0 w : World} {F : List (Nat × Obj)} (lo hi : Int) (hlo : 0 ≤ lo ∧ hi < 160) (hs : St w0 w F) :
  Con Tryz.prog 58 [.agg #[.int .i64 lo, .int .i64 hi]] w fun v w' => ∃ x, v = ba x ∧ SubS x (OfP (lo, hi)) ∧ St w0 w' F := by
  refine zAo (n := 17) func58 rfl rfl (zNl rfl) ?_
  obtain ⟨q0, rfl⟩ : ∃ q0 : Nat, lo = (q0 : Int) := ⟨lo.toNat, by omega⟩
  refine zAf (fun K2 g6 => (zAa (zCd (v := .agg #[.int _ _, .int _ _]) (cs := [_,_]) zAc rfl rfl rfl hs (fun b3 w4 g7 => ?_))))
  refine zA5 (cs := bw (List.replicate 160 false)) zAc zeroValue71 rfl g7 (fun b6 w7 g8 => ?_)
  refine zAe (zAb (g6 _ _ (zAf (fun gj g9 => (zAa (zA5 (cs := bw (List.replicate 160 false)) zAc zeroValue71 rfl g8 (fun ga gk g4 => ?_)))))))
  refine zAe (zAb (g9 _ _ (zAf (fun gm gb => (zAf (fun gn gc => (zAa (w_p (zAd (o := 0) (i := 0) underlying28 rfl sizeOf3 rfl rfl rfl) rfl (w_p (zAi isAgg3 g4 rfl rfl (aow 2 [_])) rfl ?_)))))))))
  refine zBg rfl rfl (zAe (zAb (gc _ _ (zAw ?_))))
  refine zB2 [4,7,8,9,10,11,12,13,14,15] [4] (fun kk vs w => ∃ (q : Nat) (x : List Bool), vs = [.int .i64 (q : Int)] ∧ q0 ≤ q ∧ kk = (hi + 1 - (q : Int)).toNat ∧ SubS x (OfP ((q0 : Int), hi)) ∧ St w0 w ((ga, blk 71 (bw x)) :: (b6, blk 71 (bw (List.replicate 160 false))) :: (b3, blk 28 [.int .i64 (q0 : Int), .int .i64 hi]) :: F)) ((hi + 1 - (q0 : Int)).toNat) ?_ ?_
  ·
   exact ⟨q0, _, rfl, by omega, rfl, sub_nil _, g4⟩
  intro k vs μ gq hI gr gd
  clear hs
  obtain ⟨q, x, rfl, hqa, rfl, hx, hs⟩ := hI
  have hxl := hx.1
  refine zAf (fun gt ge => (zAf (fun gu gf => (zAa (zA2 rfl rfl (w_p (zAd (o := 1) (i := 1) underlying28 rfl sizeOf3 rfl rfl rfl) rfl (w_p (zAi isAgg3 hs rfl rfl (aow 2 [_])) rfl ?_)))))))
  refine w_p (y_leq rfl rfl rfl rfl) rfl (zAe (zAb (gf _ _ (zAv rfl rfl (fun g3 => ?_) (fun g3 => ?_)))))
  ·
   try simp only [zS] at g3
   refine zAr (zAb (ge _ _ (zAf (fun gw gg => (zAw ?_)))))
   refine zAa (zA2 rfl rfl (w_p (zAd (o := 0) (i := 0) underlying71 rfl sizeOf69 rfl rfl rfl) rfl (w_p (zBn underlying69 sizeOf4 rfl rfl rfl rfl (i := q) (by first | rfl | omega) (by omega)) rfl ?_)))
   refine zD8 (i := 0) (j := q) zAc sizeOf4 rfl rfl rfl rfl hs rfl (by first | omega | rfl | (simp only [zL] <;> omega)) (fun gx gh => ?_)
   refine zAe (zAk (zAb (gg _ _ (zAa (zA2 rfl rfl (w_p (zBe rfl rfl rfl rfl (by omega) (by omega)) rfl (zBg rfl rfl (zAe (zAb (gd _ _ (nxI ((hi + 1 - ((q + 1 : Nat) : Int)).toNat) (by omega) ?_)))))))))))
   exact ⟨q + 1, _, rfl, by omega, rfl, zFa hx (fun _ => ⟨by dsimp only; omega, by dsimp only; omega⟩), gh⟩
  try simp only [zS] at g3
  refine zBr (zAj (zAj (zAy (zAb (gb _ _ (zAf (fun gy gi => (zAa (w_p (y_loadB (i := 0) isAgg71 sizeOf71 (by first | omega | rfl | (simp only [zL] <;> omega)) hs rfl rfl rfl) rfl ?_)))))))))
  refine zGb (i := 1) (l := _) zAc sizeOf71 (by first | omega | rfl | (simp only [zL] <;> omega)) rfl rfl rfl rfl rfl hs rfl (by first | omega | rfl | (simp only [zL] <;> omega)) (fun gz g5 => ?_)
  refine zAe (zAb (gi _ _ (zA0 (zA1 (l := [.cell 2 71]) (vs := [_]) rfl ⟨⟨rfl, _, rfl, zFj (i := 1) isAgg71 sizeOf71 (by first | omega | rfl | (simp only [zL] <;> omega)) g5 rfl⟩, trivial⟩ ?_))))
  exact ⟨_, rfl, hx, g5.tail.tail.tail⟩

theorem c57 {w0 w : World} {F : List (Nat × Obj)} (a b : List Bool) (ha : a.length = 160) (hb : b.length = 160) (hs : St w0 w F) :
  Con Tryz.prog 57 [ba a, ba b] w fun v w' => ∃ x, v = ba x ∧ SubS x (BothP a b) ∧ St w0 w' F := by
  refine zAo (n := 25) func57 rfl rfl (zNl rfl) ?_
  refine zAf (fun K2 g8 => (zAa (w_boxB (l := _) zAc rfl rfl rfl hs (fun b3 w4 g9 => ?_))))
  refine w_boxB (l := _) zAc rfl rfl rfl g9 (fun b6 w7 ga => ?_)
  refine zA5 (cs := bw (List.replicate 160 false)) zAc zeroValue71 rfl ga (fun b9 gn gb => ?_)
  refine zAe (zAb (g8 _ _ (zAf (fun gq gc => (zAa (zA5 (cs := bw (List.replicate 160 false)) zAc zeroValue71 rfl gb (fun gd gr ge => ?_)))))))
  refine zAe (zAb (gc _ _ (zAf (fun gt gf => (zAf (fun gu gg => (zAa (zA9 rfl rfl (zAe (zAb (gg _ _ (zAw ?_))))))))))))
  refine zB2 [6,7,8,9,10,11,12,13,14,15,16,17,18,19,20,21,22,23] [6] (fun kk vs w => ∃ (q : Nat) (x : List Bool), vs = [.int .i64 (q : Int)] ∧ q ≤ 160 ∧ kk = 160 - q ∧ SubS x (BothP a b) ∧ St w0 w ((gd, blk 71 (bw x)) :: (b9, blk 71 (bw (List.replicate 160 false))) :: (b6, blk 71 (bw b)) :: (b3, blk 71 (bw a)) :: F)) (160) ?_ ?_
  ·
   exact ⟨0, _, rfl, by omega, rfl, sub_nil _, ge⟩
  intro k vs μ gw hI gx g5
  clear hs
  obtain ⟨q, x, rfl, hqa, rfl, hx, hs⟩ := hI
  have hxl := hx.1
  refine zAf (fun gy gh => (zAf (fun gz gi => (zAa (zA2 rfl rfl (w_p (zCb rfl rfl rfl rfl) rfl (zAe (zAb (gi _ _ (zAv rfl rfl (fun g3 => ?_) (fun g3 => ?_)))))))))))
  ·
   try simp only [zS] at g3
   refine zAr (zAb (gh _ _ (zAf (fun gA g6 => (zAw ?_)))))
   refine zAa (zA2 rfl rfl (zA2 rfl rfl (w_p (zAd (o := 0) (i := 0) underlying71 rfl sizeOf69 rfl rfl rfl) rfl (w_p (zBn underlying69 sizeOf4 rfl rfl rfl rfl (i := q) (by first | rfl | omega) (by omega)) rfl ?_))))
   refine w_p (zAi isAgg4 hs rfl rfl (ats_bw (i := 3) (j := q) rfl (by first | omega | rfl | (simp only [zL] <;> omega)))) rfl ?_
   refine w_p (zAn rfl rfl) rfl (zBk (fun g4 => ?_) (fun g4 => ?_))
   ·
    try simp only [zS] at g4
    refine w_y rfl rfl rfl (zAu rfl rfl) rfl ?_
    refine w_y rfl rfl rfl (zAd (o := 0) (i := 0) underlying71 rfl sizeOf69 rfl rfl rfl) rfl ?_
    refine w_y rfl rfl rfl (zBn underlying69 sizeOf4 rfl rfl rfl rfl (i := q) (by first | rfl | omega) (by omega)) rfl ?_
    refine w_y rfl rfl rfl (zAi isAgg4 hs rfl rfl (ats_bw (i := 2) (j := q) rfl (by first | omega | rfl | (simp only [zL] <;> omega)))) rfl ?_
    refine w_p (zAt (v := .bool _) rfl rfl rfl rfl) rfl (w_p (zAd (o := 0) (i := 0) underlying71 rfl sizeOf69 rfl rfl rfl) rfl (w_p (zBn underlying69 sizeOf4 rfl rfl rfl rfl (i := q) (by first | rfl | omega) (by omega)) rfl ?_))
    refine zD8 (i := 0) (j := q) zAc sizeOf4 rfl rfl rfl rfl hs rfl (by first | omega | rfl | (simp only [zL] <;> omega)) (fun gB gj => ?_)
    refine zAe (zAk (zAb (g6 _ _ (zAa (zA2 rfl rfl (w_p (zBe rfl rfl rfl rfl (by omega) (by omega)) rfl (zBg rfl rfl (zAe (zAb (g5 _ _ (nxI (160 - (q + 1)) (by omega) ?_)))))))))))
    exact ⟨q + 1, _, rfl, by omega, rfl, zFa hx (by first | (intro hz; exact ⟨by assumption, hz⟩) | (intro hz; cases hz)), gj⟩
   try simp only [zS] at g4
   refine zAg rfl rfl rfl ?_
   refine zAg rfl rfl rfl ?_
   refine zAg rfl rfl rfl ?_
   refine zAg rfl rfl rfl ?_
   refine w_p (zBb (v := _) rfl rfl rfl rfl) rfl (w_p (zAd (o := 0) (i := 0) underlying71 rfl sizeOf69 rfl rfl rfl) rfl (w_p (zBn underlying69 sizeOf4 rfl rfl rfl rfl (i := q) (by first | rfl | omega) (by omega)) rfl ?_))
   refine zD8 (i := 0) (j := q) zAc sizeOf4 rfl rfl rfl rfl hs rfl (by first | omega | rfl | (simp only [zL] <;> omega)) (fun gC gk => ?_)
   refine zAe (zAk (zAb (g6 _ _ (zAa (zA2 rfl rfl (w_p (zBe rfl rfl rfl rfl (by omega) (by omega)) rfl (zBg rfl rfl (zAe (zAb (g5 _ _ (nxI (160 - (q + 1)) (by omega) ?_)))))))))))
   exact ⟨q + 1, _, rfl, by omega, rfl, zFa hx (by first | (intro hz; exact ⟨by assumption, hz⟩) | (intro hz; cases hz)), gk⟩
  try simp only [zS] at g3
  refine zBr (zAj (zAj (zAy (zAb (gf _ _ (zAf (fun gD gm => (zAa (w_p (y_loadB (i := 0) isAgg71 sizeOf71 (by first | omega | rfl | (simp only [zL] <;> omega)) hs rfl rfl rfl) rfl ?_)))))))))
  refine zGb (i := 1) (l := _) zAc sizeOf71 (by first | omega | rfl | (simp only [zL] <;> omega)) rfl rfl rfl rfl rfl hs rfl (by first | omega | rfl | (simp only [zL] <;> omega)) (fun gE g7 => ?_)
  refine zAe (zAb (gm _ _ (zA0 (zA1 (l := [.cell 4 71]) (vs := [_]) rfl ⟨⟨rfl, _, rfl, zFj (i := 1) isAgg71 sizeOf71 (by first | omega | rfl | (simp only [zL] <;> omega)) g7 rfl⟩, trivial⟩ ?_))))
  exact ⟨_, rfl, hx, g7.tail.tail.tail.tail⟩

theorem c60 {w0 w : World} {F : List (Nat × Obj)} (a : List Bool) (ha : a.length = 160) (g1 g2 : Int) (hg : 0 ≤ g1 ∧ g2 ≤ 100) (hs : St w0 w F) :
  Con Tryz.prog 60 [ba a, .agg #[.int .i64 g1, .int .i64 g2]] w fun v w' => ∃ x, v = ba x ∧ SubS x (GrownP a (g1, g2)) ∧ St w0 w' F := by
  refine zAo (n := 36) func60 rfl rfl (zNl rfl) ?_
  obtain ⟨g0, rfl⟩ : ∃ g0 : Nat, g1 = (g0 : Int) := ⟨g1.toNat, by omega⟩
  refine zAf (fun K2 gf => (zAa (w_boxB (l := _) zAc rfl rfl rfl hs (fun b3 w4 gg => ?_))))
  refine zCd (v := .agg #[.int _ _, .int _ _]) (cs := [_,_]) zAc rfl rfl rfl gg (fun b6 w7 gh => ?_)
  refine zA5 (cs := bw (List.replicate 160 false)) zAc zeroValue71 rfl gh (fun b9 gy gi => ?_)
  refine zAe (zAb (gf _ _ (zAf (fun gz gj => (zAa (zA5 (cs := bw (List.replicate 160 false)) zAc zeroValue71 rfl gi (fun g7 gA gk => ?_)))))))
  refine zAe (zAb (gj _ _ (zAf (fun gB gm => (zAf (fun gC gn => (zAa (zA9 rfl rfl (zAe (zAb (gn _ _ (zAw ?_))))))))))))
  refine zB2 [6,7,8,9,10,11,12,13,14,15,16,17,18,19,20,21,22,23,24,25,26,27,28,29,30,31,32,33,34] [6] (fun kk vs w => ∃ (q : Nat) (x : List Bool), vs = [.int .i64 (q : Int)] ∧ q ≤ 160 ∧ kk = 160 - q ∧ SubS x (GrownP a ((g0 : Int), g2)) ∧ St w0 w ((g7, blk 71 (bw x)) :: (b9, blk 71 (bw (List.replicate 160 false))) :: (b6, blk 28 [.int .i64 (g0 : Int), .int .i64 g2]) :: (b3, blk 71 (bw a)) :: F)) (160) ?_ ?_
  ·
   exact ⟨0, _, rfl, by omega, rfl, sub_nil _, gk⟩
  intro k vs μ gD hI gE g8
  clear hs
  obtain ⟨q, x, rfl, hqa, rfl, hx, hs⟩ := hI
  have hxl := hx.1
  refine zAf (fun gF gq => (zAf (fun gG gr => (zAa (zA2 rfl rfl (w_p (zCb rfl rfl rfl rfl) rfl (zAe (zAb (gr _ _ (zAv rfl rfl (fun g3 => ?_) (fun g3 => ?_)))))))))))
  ·
   try simp only [zS] at g3
   refine zAr (zAb (gq _ _ (zAf (fun gH g9 => (zAw ?_)))))
   refine zAf (fun gI gt => (zAa (w_p (zAd (o := 0) (i := 0) underlying28 rfl sizeOf3 rfl rfl rfl) rfl (w_p (zAi isAgg3 hs rfl rfl (aow 2 [_])) rfl (zBg rfl rfl (zAe ?_))))))
   refine zAb (gt _ _ (zAw ?_))
   refine zB2 [7,14,15,16,17,18,19,20,21,22,23,24,25,26,27,28,29,30,31,32,33,34] [7] (fun kk vs w => ∃ (e : Nat) (x : List Bool), vs = [.int .i64 (e : Int)] ∧ g0 ≤ e ∧ kk = (g2 + 1 - (e : Int)).toNat ∧ SubS x (GrownP a ((g0 : Int), g2)) ∧ St w0 w ((g7, blk 71 (bw x)) :: (b9, blk 71 (bw (List.replicate 160 false))) :: (b6, blk 28 [.int .i64 (g0 : Int), .int .i64 g2]) :: (b3, blk 71 (bw a)) :: F)) ((g2 + 1 - (g0 : Int)).toNat) ?_ ?_
   ·
    exact ⟨g0, x, rfl, by omega, rfl, hx, hs⟩
   intro k vs μ gJ hI gK ga
   clear hs hx hxl x
   obtain ⟨e, x, rfl, hea, rfl, hx, hs⟩ := hI
   have hxl := hx.1
   refine zAf (fun gL gu => (zAf (fun gM gb => (zAa (zA2 rfl rfl (w_p (zAd (o := 1) (i := 1) underlying28 rfl sizeOf3 rfl rfl rfl) rfl (w_p (zAi isAgg3 hs rfl rfl (aow 2 [_])) rfl ?_)))))))
   refine w_p (y_leq rfl rfl rfl rfl) rfl (w_p (zAn rfl rfl) rfl (zBk (fun g4 => ?_) (fun g4 => ?_)))
   ·
    try simp only [zS] at g4
    refine w_y rfl rfl rfl (zAu rfl rfl) rfl ?_
    refine w_y rfl rfl rfl (zAd (o := 0) (i := 0) underlying71 rfl sizeOf69 rfl rfl rfl) rfl ?_
    refine w_y rfl rfl rfl (zBn underlying69 sizeOf4 rfl rfl rfl rfl (i := q) (by first | rfl | omega) (by omega)) rfl ?_
    refine w_y rfl rfl rfl (zAi isAgg4 hs rfl rfl (ats_bw (i := 3) (j := q) rfl (by first | omega | rfl | (simp only [zL] <;> omega)))) rfl ?_
    refine w_p (zAt (v := .bool _) rfl rfl rfl rfl) rfl (zAe (zAb (gb _ _ (zAv rfl rfl (fun g5 => ?_) (fun g5 => ?_)))))
    ·
     try simp only [zS] at g5
     refine zAr (zAb (gu _ _ (zAf (fun gN gc => (zAw ?_)))))
     refine zAf (fun gO gw => (zAa (zA2 rfl rfl (zA2 rfl rfl (w_p (zBe rfl rfl rfl rfl (by omega) (by omega)) rfl (w_p (zCb rfl rfl rfl rfl) rfl (zAe (zAb (gw _ _ (zAv rfl rfl (fun g6 => ?_) (fun g6 => ?_)))))))))))
     ·
      try simp only [zS] at g6
      refine zAa (zA2 rfl rfl (zA2 rfl rfl (w_p (zBe rfl rfl rfl rfl (by omega) (by omega)) rfl (w_p (zAd (o := 0) (i := 0) underlying71 rfl sizeOf69 rfl rfl rfl) rfl (w_p (zBn underlying69 sizeOf4 rfl rfl rfl rfl (i := q + e) (by omega) (by omega)) rfl ?_)))))
      refine zD8 (i := 0) (j := q + e) zAc sizeOf4 rfl rfl rfl rfl hs rfl (by first | omega | rfl | (simp only [zL] <;> omega)) (fun gP gd => ?_)
      refine zAe (zAk (zAb (gc _ _ (zAa (zA2 rfl rfl (w_p (zBe rfl rfl rfl rfl (by omega) (by omega)) rfl (zBg rfl rfl (zAe (zAb (ga _ _ (nxI ((g2 + 1 - ((e + 1 : Nat) : Int)).toNat) (by omega) ?_)))))))))))
      first
        | exact ⟨e + 1, _, rfl, by omega, rfl, zFa hx (fun _ => ⟨q, by assumption, by dsimp only; omega, by dsimp only; omega⟩), gd⟩
        | exact ⟨e + 1, x, rfl, by omega, rfl, hx, gd⟩
     try simp only [zS] at g6
     refine zAr (zAk (zAb (gc _ _ (zAa (zA2 rfl rfl (w_p (zBe rfl rfl rfl rfl (by omega) (by omega)) rfl (zBg rfl rfl (zAe (zAb (ga _ _ (nxI ((g2 + 1 - ((e + 1 : Nat) : Int)).toNat) (by omega) ?_)))))))))))
     first
       | exact ⟨e + 1, _, rfl, by omega, rfl, zFa hx (fun _ => ⟨q, by assumption, by dsimp only; omega, by dsimp only; omega⟩), hs⟩
       | exact ⟨e + 1, x, rfl, by omega, rfl, hx, hs⟩
    try simp only [zS] at g5
    refine zBr (zAj (zAj (zAy (zAk (zAb (g9 _ _ (zAa (zA2 rfl rfl (w_p (zBe rfl rfl rfl rfl (by omega) (by omega)) rfl ?_)))))))))
    refine zBg rfl rfl (zAe (zAb (g8 _ _ (nxI (160 - (q + 1)) (by omega) ?_))))
    exact ⟨q + 1, _, rfl, by omega, rfl, hx, hs⟩
   try simp only [zS] at g4
   refine zAg rfl rfl rfl ?_
   refine zAg rfl rfl rfl ?_
   refine zAg rfl rfl rfl ?_
   refine zAg rfl rfl rfl ?_
   refine w_p (zBb (v := _) rfl rfl rfl rfl) rfl (zAe (zAb (gb _ _ (zBj rfl rfl ?_))))
   refine zBr (zAj (zAj (zAy (zAk (zAb (g9 _ _ (zAa (zA2 rfl rfl (w_p (zBe rfl rfl rfl rfl (by omega) (by omega)) rfl ?_)))))))))
   refine zBg rfl rfl (zAe (zAb (g8 _ _ (nxI (160 - (q + 1)) (by omega) ?_))))
   exact ⟨q + 1, _, rfl, by omega, rfl, hx, hs⟩
  try simp only [zS] at g3
  refine zBr (zAj (zAj (zAy (zAb (gm _ _ (zAf (fun gQ gx => (zAa (w_p (y_loadB (i := 0) isAgg71 sizeOf71 (by first | omega | rfl | (simp only [zL] <;> omega)) hs rfl rfl rfl) rfl ?_)))))))))
  refine zGb (i := 1) (l := _) zAc sizeOf71 (by first | omega | rfl | (simp only [zL] <;> omega)) rfl rfl rfl rfl rfl hs rfl (by first | omega | rfl | (simp only [zL] <;> omega)) (fun gR ge => ?_)
  refine zAe (zAb (gx _ _ (zA0 (zA1 (l := [.cell 4 71]) (vs := [_]) rfl ⟨⟨rfl, _, rfl, zFj (i := 1) isAgg71 sizeOf71 (by first | omega | rfl | (simp only [zL] <;> omega)) ge rfl⟩, trivial⟩ ?_))))
  exact ⟨_, rfl, hx, ge.tail.tail.tail.tail⟩

theorem c61 {w0 w : World} {F : List (Nat × Obj)} (a : List Bool) (ha : a.length = 160) (g1 g2 : Int) (hg : 0 ≤ g1 ∧ g2 ≤ 100) (hs : St w0 w F) :
  Con Tryz.prog 61 [ba a, .agg #[.int .i64 g1, .int .i64 g2]] w fun v w' => ∃ x, v = ba x ∧ SubS x (fun _ => True) ∧ St w0 w' F := by
  refine zAo (n := 36) func61 rfl rfl (zNl rfl) ?_
  obtain ⟨g0, rfl⟩ : ∃ g0 : Nat, g1 = (g0 : Int) := ⟨g1.toNat, by omega⟩
  refine zAf (fun K2 gd => (zAa (w_boxB (l := _) zAc rfl rfl rfl hs (fun b3 w4 ge => ?_))))
  refine zCd (v := .agg #[.int _ _, .int _ _]) (cs := [_,_]) zAc rfl rfl rfl ge (fun b6 w7 gf => ?_)
  refine zA5 (cs := bw (List.replicate 160 false)) zAc zeroValue71 rfl gf (fun b9 gy gg => ?_)
  refine zAe (zAb (gd _ _ (zAf (fun gz gh => (zAa (zA5 (cs := bw (List.replicate 160 false)) zAc zeroValue71 rfl gg (fun g9 gA gi => ?_)))))))
  refine zAe (zAb (gh _ _ (zAf (fun gB gj => (zAf (fun gC gk => (zAa (zA9 rfl rfl (zAe (zAb (gk _ _ (zAw ?_))))))))))))
  refine zB2 [6,7,8,9,10,11,12,13,14,15,16,17,18,19,20,21,22,23,24,25,26,27,28,29,30,31,32,33,34] [6] (fun kk vs w => ∃ (q : Nat) (x : List Bool), vs = [.int .i64 (q : Int)] ∧ q ≤ 160 ∧ kk = 160 - q ∧ SubS x (fun _ => True) ∧ St w0 w ((g9, blk 71 (bw x)) :: (b9, blk 71 (bw (List.replicate 160 false))) :: (b6, blk 28 [.int .i64 (g0 : Int), .int .i64 g2]) :: (b3, blk 71 (bw a)) :: F)) (160) ?_ ?_
  ·
   exact ⟨0, _, rfl, by omega, rfl, sub_nil _, gi⟩
  intro k vs μ gD hI gE gm
  clear hs
  obtain ⟨q, x, rfl, hqa, rfl, hx, hs⟩ := hI
  have hxl := hx.1
  refine zAf (fun gF gn => (zAf (fun gG gq => (zAa (zA2 rfl rfl (w_p (zCb rfl rfl rfl rfl) rfl (zAe (zAb (gq _ _ (zAv rfl rfl (fun g3 => ?_) (fun g3 => ?_)))))))))))
  ·
   try simp only [zS] at g3
   refine zAr (zAb (gn _ _ (zAf (fun gH gr => (zAw ?_)))))
   refine zAf (fun gI gt => (zAa (w_p (zAd (o := 0) (i := 0) underlying28 rfl sizeOf3 rfl rfl rfl) rfl (w_p (zAi isAgg3 hs rfl rfl (aow 2 [_])) rfl (zBg rfl rfl (zAe ?_))))))
   refine zAb (gt _ _ (zAw ?_))
   refine zB2 [7,14,15,16,17,18,19,20,21,22,23,24,25,26,27,28,29,30,31,32,33,34] [7] (fun kk vs w => ∃ (e : Nat) (x : List Bool), vs = [.int .i64 (e : Int)] ∧ g0 ≤ e ∧ kk = (g2 + 1 - (e : Int)).toNat ∧ SubS x (fun _ => True) ∧ St w0 w ((g9, blk 71 (bw x)) :: (b9, blk 71 (bw (List.replicate 160 false))) :: (b6, blk 28 [.int .i64 (g0 : Int), .int .i64 g2]) :: (b3, blk 71 (bw a)) :: F)) ((g2 + 1 - (g0 : Int)).toNat) ?_ ?_
   ·
    exact ⟨g0, x, rfl, by omega, rfl, hx, hs⟩
   intro k vs μ gJ hI gK g4
   clear hs hx hxl x
   obtain ⟨e, x, rfl, hea, rfl, hx, hs⟩ := hI
   have hxl := hx.1
   refine zAf (fun gL gu => (zAf (fun gM gw => (zAa (zA2 rfl rfl (w_p (zAd (o := 1) (i := 1) underlying28 rfl sizeOf3 rfl rfl rfl) rfl (w_p (zAi isAgg3 hs rfl rfl (aow 2 [_])) rfl ?_)))))))
   refine w_p (y_leq rfl rfl rfl rfl) rfl (zAe (zAb (gw _ _ (zAv rfl rfl (fun g5 => ?_) (fun g5 => ?_)))))
   ·
    try simp only [zS] at g5
    refine zAr (zAb (gu _ _ (zAf (fun gN g6 => (zAw ?_)))))
    refine zAf (fun gO ga => (zAa (zA2 rfl rfl (zA2 rfl rfl (w_p (zBe rfl rfl rfl rfl (by omega) (by omega)) rfl (w_p (zCb rfl rfl rfl rfl) rfl (w_p (zAn rfl rfl) rfl ?_)))))))
    refine zBk (fun g7 => ?_) (fun g7 => ?_)
    ·
     try simp only [zS] at g7
     refine w_y rfl rfl rfl (zAu rfl rfl) rfl ?_
     refine w_y rfl rfl rfl (zAu rfl rfl) rfl ?_
     refine w_y rfl rfl rfl (zBe rfl rfl rfl rfl (by omega) (by omega)) rfl ?_
     refine w_y rfl rfl rfl (zAd (o := 0) (i := 0) underlying71 rfl sizeOf69 rfl rfl rfl) rfl ?_
     refine w_y rfl rfl rfl (zBn underlying69 sizeOf4 rfl rfl rfl rfl (i := q + e) (by omega) (by omega)) rfl ?_
     refine w_y rfl rfl rfl (zAi isAgg4 hs rfl rfl (ats_bw (i := 3) (j := q + e) rfl (by first | omega | rfl | (simp only [zL] <;> omega)))) rfl ?_
     refine w_p (zAt (v := .bool _) rfl rfl rfl rfl) rfl (zAe (zAb (ga _ _ (zAv rfl rfl (fun g8 => ?_) (fun g8 => ?_)))))
     ·
      try simp only [zS] at g8
      refine zAa (zA2 rfl rfl (w_p (zAd (o := 0) (i := 0) underlying71 rfl sizeOf69 rfl rfl rfl) rfl (w_p (zBn underlying69 sizeOf4 rfl rfl rfl rfl (i := q) (by first | rfl | omega) (by omega)) rfl ?_)))
      refine zD8 (i := 0) (j := q) zAc sizeOf4 rfl rfl rfl rfl hs rfl (by first | omega | rfl | (simp only [zL] <;> omega)) (fun gP gb => ?_)
      refine zAe (zAk (zAb (g6 _ _ (zAa (zA2 rfl rfl (w_p (zBe rfl rfl rfl rfl (by omega) (by omega)) rfl (zBg rfl rfl (zAe (zAb (g4 _ _ (nxI ((g2 + 1 - ((e + 1 : Nat) : Int)).toNat) (by omega) ?_)))))))))))
      first
        | exact ⟨e + 1, x, rfl, by omega, rfl, hx, gb⟩
        | exact ⟨e + 1, _, rfl, by omega, rfl, zFa hx (fun _ => trivial), gb⟩
     try simp only [zS] at g8
     refine zAr (zAk (zAb (g6 _ _ (zAa (zA2 rfl rfl (w_p (zBe rfl rfl rfl rfl (by omega) (by omega)) rfl (zBg rfl rfl (zAe (zAb (g4 _ _ (nxI ((g2 + 1 - ((e + 1 : Nat) : Int)).toNat) (by omega) ?_)))))))))))
     first
       | exact ⟨e + 1, x, rfl, by omega, rfl, hx, hs⟩
       | exact ⟨e + 1, _, rfl, by omega, rfl, zFa hx (fun _ => trivial), hs⟩
    try simp only [zS] at g7
    refine zAg rfl rfl rfl ?_
    refine zAg rfl rfl rfl ?_
    refine zAg rfl rfl rfl ?_
    refine zAg rfl rfl rfl ?_
    refine zAg rfl rfl rfl ?_
    refine zAg rfl rfl rfl ?_
    refine w_p (zBb (v := _) rfl rfl rfl rfl) rfl (zAe (zAb (ga _ _ (zBj rfl rfl ?_))))
    refine zAr (zAk (zAb (g6 _ _ (zAa (zA2 rfl rfl (w_p (zBe rfl rfl rfl rfl (by omega) (by omega)) rfl (zBg rfl rfl (zAe (zAb (g4 _ _ (nxI ((g2 + 1 - ((e + 1 : Nat) : Int)).toNat) (by omega) ?_)))))))))))
    first
      | exact ⟨e + 1, x, rfl, by omega, rfl, hx, hs⟩
      | exact ⟨e + 1, _, rfl, by omega, rfl, zFa hx (fun _ => trivial), hs⟩
   try simp only [zS] at g5
   refine zBr (zAj (zAj (zAy (zAk (zAb (gr _ _ (zAa (zA2 rfl rfl (w_p (zBe rfl rfl rfl rfl (by omega) (by omega)) rfl ?_)))))))))
   refine zBg rfl rfl (zAe (zAb (gm _ _ (nxI (160 - (q + 1)) (by omega) ?_))))
   exact ⟨q + 1, _, rfl, by omega, rfl, hx, hs⟩
  try simp only [zS] at g3
  refine zBr (zAj (zAj (zAy (zAb (gj _ _ (zAf (fun gQ gx => (zAa (w_p (y_loadB (i := 0) isAgg71 sizeOf71 (by first | omega | rfl | (simp only [zL] <;> omega)) hs rfl rfl rfl) rfl ?_)))))))))
  refine zGb (i := 1) (l := _) zAc sizeOf71 (by first | omega | rfl | (simp only [zL] <;> omega)) rfl rfl rfl rfl rfl hs rfl (by first | omega | rfl | (simp only [zL] <;> omega)) (fun gR gc => ?_)
  refine zAe (zAb (gx _ _ (zA0 (zA1 (l := [.cell 4 71]) (vs := [_]) rfl ⟨⟨rfl, _, rfl, zFj (i := 1) isAgg71 sizeOf71 (by first | omega | rfl | (simp only [zL] <;> omega)) gc rfl⟩, trivial⟩ ?_))))
  exact ⟨_, rfl, hx, gc.tail.tail.tail.tail⟩

theorem c22 {w0 w : World} {F : List (Nat × Obj)} (x : List Bool) (hxl : x.length = 160) (hs : St w0 w F) :
  Con Tryz.prog 22 [ba x] w fun v w' => ∃ s1 s2 bb, v = .tuple #[.agg #[.int .i64 s1, .int .i64 s2], .bool bb] ∧ (bb = true → ∃ n, x.getD n false = true) ∧ St w0 w' F := by
  refine zAo (n := 22) func22 rfl rfl (zNl rfl) ?_
  refine zAf (fun K2 ga => (zAa (w_boxB (l := _) zAc rfl rfl rfl hs (fun b3 w4 gb => ?_))))
  refine zA5 (cs := [_,_]) zAc zeroValue28 rfl gb (fun b6 w7 gc => ?_)
  refine zA9 rfl rfl (zAe (zAb (ga _ _ (zAf (fun gt gd => (zAa (w_p (zCh (ps := [(0, _),(1, _)]) (pv := [(0, .int _ _),(1, .int _ _)]) rfl rfl (fun w => Try_XA_fb0 _ _ w)) rfl ?_)))))))
  refine zA5 (cs := [_,_]) zAc zeroValue28 rfl gc (fun ge gu gf => ?_)
  refine zBt 0 (.agg #[.int _ _, .int _ _]) [_,_] sizeOf28 gf (fun gw gg => ?_)
  refine zAe (zAb (gd _ _ (zAf (fun gx gh => (zAf (fun gy gi => (zAa (zA9 rfl rfl (zAe (zAb (gi _ _ (zAw ?_))))))))))))
  refine zB2 [5,7,8,9,10,11,12,13,14,15,16,17] [5] (fun kk vs w => ∃ (q : Nat) (s1 s2 : Int), vs = [.int .i64 (q : Int)] ∧ q ≤ 160 ∧ kk = 160 - q ∧ (0 ≤ s2 → ∃ n, x.getD n false = true) ∧ St w0 w ((ge, blk 28 [.int .i64 s1, .int .i64 s2]) :: (b6, blk 28 [.int .i64 0, .int .i64 0]) :: (b3, blk 71 (bw x)) :: F)) (160) ?_ ?_
  ·
   exact ⟨0,160, -1, rfl, by omega, rfl, fun h => absurd h (by omega), gg⟩
  intro k vs μ gz hI gA g7
  clear hs
  obtain ⟨q, s1, s2, rfl, hqa, rfl, hE, hs⟩ := hI
  refine zAf (fun gB gj => (zAf (fun gC gk => (zAa (zA2 rfl rfl (w_p (zCb rfl rfl rfl rfl) rfl (zAe (zAb (gk _ _ (zAv rfl rfl (fun g3 => ?_) (fun g3 => ?_)))))))))))
  ·
   try simp only [zS] at g3
   refine zAr (zAb (gj _ _ (zAf (fun gD g8 => (zAw ?_)))))
   refine zAf (fun gE gm => (zAa (zA2 rfl rfl (w_p (zAd (o := 0) (i := 0) underlying71 rfl sizeOf69 rfl rfl rfl) rfl (w_p (zBn underlying69 sizeOf4 rfl rfl rfl rfl (i := q) (by first | rfl | omega) (by omega)) rfl ?_)))))
   refine w_p (zAi isAgg4 hs rfl rfl (ats_bw (i := 2) (j := q) rfl (by first | omega | rfl | (simp only [zL] <;> omega)))) rfl ?_
   refine zAe (zAb (gm _ _ (zAv rfl rfl (fun g4 => ?_) (fun g4 => ?_))))
   ·
    try simp only [zS] at g4
    refine zAa (w_p (zAs (vs := [_,_]) isAgg28 sizeOf28 hs rfl rfl (aow 0 [_,_])) rfl (zA2 rfl rfl ?_))
    refine zCi zAc call56 rfl rfl rfl rfl (c56 _ _ _ hs) (fun gF gn => ?_)
    refine zBt 0 (.agg #[.int _ _, .int _ _]) [_,_] sizeOf28 gn (fun gG g9 => ?_)
    refine zAe (zAk (zAb (g8 _ _ (zAa (zA2 rfl rfl (w_p (zBe rfl rfl rfl rfl (by omega) (by omega)) rfl (zBg rfl rfl (zAe (zAb (g7 _ _ (nxI (160 - (q + 1)) (by omega) ?_)))))))))))
    first
      | exact ⟨q + 1, _,_, rfl, by omega, rfl, fun _ => ⟨q, by assumption⟩, g9⟩
      | exact ⟨q + 1, s1, s2, rfl, by omega, rfl, hE, g9⟩
   try simp only [zS] at g4
   refine zAr (zAk (zAb (g8 _ _ (zAa (zA2 rfl rfl (w_p (zBe rfl rfl rfl rfl (by omega) (by omega)) rfl (zBg rfl rfl (zAe (zAb (g7 _ _ (nxI (160 - (q + 1)) (by omega) ?_)))))))))))
   first
     | exact ⟨q + 1, _,_, rfl, by omega, rfl, fun _ => ⟨q, by assumption⟩, hs⟩
     | exact ⟨q + 1, s1, s2, rfl, by omega, rfl, hE, hs⟩
  try simp only [zS] at g3
  refine zBr (zAj (zAj (zAy (zAb (gh _ _ (zAf (fun gH gq => ?_)))))))
  have gr := (show St _ _ (_ :: _ :: _ :: F) from St.pk [[_], [_], [_]] [1,0,2] hs)
  refine w_drawD (C0 := fun w => St w0 w _) (C := fun w => St w0 w _) [] [(0,1),(1,0),(2,1),(3,0),(4,2),(5,0)] zB7 (zBs (by kernel_rfl)) gr (fun _ h => h.tail) (fun _ h => h.drew) (fun gI g5 => ?_)
  refine zA3 rfl zAc rfl g5.tail (fun _ hq => (zAs (vs := [_,_]) isAgg28 sizeOf28 hq rfl rfl (aow 0 [_,_]))) ?_
  refine d_w rfl (fun _ => zAd (o := 1) (i := 1) underlying28 rfl sizeOf3 rfl rfl rfl) rfl ?_
  refine zA3 rfl zAc rfl g5.tail (fun _ hq => (zAi isAgg3 hq rfl rfl (aow 0 [_]))) ?_
  refine d_w rfl (fun _ => zHv rfl rfl rfl rfl) rfl ?_
  refine zB0 rfl ?_
  refine zBt 0 (.agg #[.int _ _, .int _ _]) [_,_] sizeOf28 g5 (fun gJ g6 => ?_)
  refine zAe (qn ⟨g6.tail, ?_⟩)
  refine d_w rfl (fun _ => zAl rfl rfl) rfl ?_
  refine zB5 ?_
  refine zAb (gq _ _ (zA0 (zA1 (l := [.cell 2 28, .tmp 3]) (vs := [_,_]) rfl ⟨⟨rfl, _, rfl, zBv (vs := [_,_]) isAgg28 sizeOf28 g6 (aow 0 [_,_])⟩, ⟨rfl, (rfl : _ = Value.bool _)⟩, trivial⟩ ?_)))
  exact ⟨_, _,_, rfl, fun h => hE (by simpa using h), g6.tail.tail.tail⟩

end Go.Proofs.Rr
set_option maxRecDepth 20000
namespace Go.Proofs.Rr
open Go.Proofs.Tryz
open Go.Rt Go.Rt.Ro
open Go.Proofs.Ro (RIn zCq)
attribute [local irreducible] WL WC Con Yd At Ats Sl Agree DW

theorem c59 {w0 w : World} {F : List (Nat × Obj)} (r : Room) (p : AtR) (hm : RIn w0 F r p) (hr : r.Ok) (d : Int) (hs : St w0 w F) :
  Con Tryz.prog 59 [.agg (r.cells p).toArray, .int .i64 d, .slice none 0 0] w fun v w' => ∃ x, v = ba x ∧ SubS x (SeenP r d) ∧ St w0 w' F := by
  refine zAo (n := 53) func59 rfl rfl (zNl rfl) ?_
  have hll := hr.ll
  refine zAf (fun K2 ge => (zAa (zCd (v := .agg #[.int _ _, .int _ _, .int _ _, .slice _ _ _, .int _ _, .slice _ _ _, .slice _ _ _]) (cs := [_,_,_,_,_,_,_]) zAc rfl rfl rfl hs (fun b3 w4 gf => ?_))))
  refine zA5 (cs := bw (List.replicate 160 false)) zAc zeroValue71 rfl gf (fun b6 w7 gg => ?_)
  refine zAe (zAb (ge _ _ (zAf (fun gC gh => (zAa (zA5 (cs := bw (List.replicate 160 false)) zAc zeroValue71 rfl gg (fun gb gD gi => ?_)))))))
  refine zAe (zAb (gh _ _ (zAf (fun gE gj => (zAf (fun gF gk => (zAa (zA9 rfl rfl (zAe (zAb (gk _ _ (zAw ?_))))))))))))
  refine zB2 [8,9,10,11,12,13,14,15,16,17,18,19,20,21,22,23,24,25,26,27,28,29,30,31,32,33,34,35,36,37,38,39,40,41,42,43,44,45,46,47,48,49,50,51] [8] (fun kk vs w => ∃ (q : Nat) (x : List Bool), vs = [.int .i64 (q : Int)] ∧ q ≤ 160 ∧ kk = 160 - q ∧ SubS x (SeenP r d) ∧ St w0 w ((gb, blk 71 (bw x)) :: (b6, blk 71 (bw (List.replicate 160 false))) :: (b3, blk 33 (r.cells p)) :: F)) (160) ?_ ?_
  ·
   exact ⟨0, _, rfl, by omega, rfl, sub_nil _, gi⟩
  intro k vs μ gG hI gH gm
  clear hs
  obtain ⟨q, x, rfl, hqa, rfl, hx, hs⟩ := hI
  have hxl := hx.1
  refine zAf (fun gI gn => (zAf (fun gJ gq => (zAa (zA2 rfl rfl (w_p (zCb rfl rfl rfl rfl) rfl (zAe (zAb (gq _ _ (zAv rfl rfl (fun g5 => ?_) (fun g5 => ?_)))))))))))
  ·
   try simp only [zS] at g5
   refine zAr (zAb (gn _ _ (zAf (fun gK gr => (zAw ?_)))))
   refine zAf (fun gL gt => (zAa (zA9 rfl rfl (zAe (zAb (gt _ _ (zAf (fun gM gu => (zAf (fun gN gw => (zAa (zA9 rfl rfl (zAe (zAb (gw _ _ (zAw ?_))))))))))))))))
   refine zB2 [9,10,15,16,17,18,19,20,21,22,23,24,25,26,27,28,29,30,31,32,33,34,35,36,37,38,39,40,41,42,43,44,45,46,47] [9,10] (fun kk vs w => ∃ (i : Nat) (so : Bool), vs = [.bool so, .int .i64 (i : Int)] ∧ i ≤ r.looks.length ∧ kk = r.looks.length - i ∧ (so = true → SeenTo r d q i) ∧ St w0 w ((gb, blk 71 (bw x)) :: (b6, blk 71 (bw (List.replicate 160 false))) :: (b3, blk 33 (r.cells p)) :: F)) (r.looks.length) ?_ ?_
   ·
    exact ⟨0, true, rfl, by omega, rfl, fun _ => seen_zero _ _ _, hs⟩
   intro k vs μ gO hI gP g6
   clear hs
   obtain ⟨i, so, rfl, hia, rfl, hso, hs⟩ := hI
   refine zAf (fun gQ gx => (zAf (fun gR gy => (zAa (zA2 rfl rfl (w_p (zAd (o := 6) (i := 5) underlying33 rfl sizeOf31 rfl rfl rfl) rfl (w_p (zAi isAgg31 hs rfl rfl (aow 2 [_])) rfl ?_)))))))
   refine w_p (zBd underlying31 rfl rfl) rfl (w_p (zCb rfl rfl rfl rfl) rfl (zAe (zAb (gy _ _ (zAv rfl rfl (fun g7 => ?_) (fun g7 => ?_))))))
   ·
    try simp only [zS] at g7
    refine zAr (zAb (gx _ _ (zAf (fun gS g8 => (zAw ?_)))))
    refine zAf (fun gT gc => ?_)
    have hi2 : i < r.looks.length := by omega
    obtain ⟨bl, ol, hbl, hlx⟩ := sl_lrows hm.l hi2
    refine zAa (w_p (zAd (o := 6) (i := 5) underlying33 rfl sizeOf31 rfl rfl rfl) rfl (w_p (zAi isAgg31 hs rfl rfl (aow 2 [_])) rfl (zA2 rfl rfl (w_p (zA7 underlying31 sizeOf64 rfl rfl (congrArg (fun a => Value.slice a _ _) hbl) rfl (i := i) rfl hi2) rfl ?_))))
    refine w_p (zAd (o := 0) (i := 0) underlying64 rfl sizeOf3 rfl rfl rfl) rfl (w_p (zAi isAgg3 hs.tail.tail.tail rfl rfl (show Ats _ _ _ _ [_] from Ats.part hlx 0 1)) rfl (zA2 rfl rfl (w_p (zCk rfl rfl rfl rfl) rfl (w_p (zAn rfl rfl) rfl (zBk (fun g9 => ?_) (fun g9 => ?_))))))
    ·
     try simp only [zS] at g9
     refine w_y rfl rfl rfl (zAx rfl rfl) rfl ?_
     refine w_y rfl rfl rfl (zAu rfl rfl) rfl ?_
     refine zA4 (zAm rfl rfl rfl) call14 rfl rfl rfl rfl (c14 _ hs) ?_
     rintro _ gU ⟨rfl, gz⟩
     refine w_y rfl rfl rfl (zC0 rfl rfl) rfl ?_
     refine w_p (zAt (v := .bool _) rfl rfl rfl rfl) rfl (zAe (zAb (gc _ _ (zBz rfl rfl ?_))))
     refine zCc [] [(0,0),(1,0),(2,0),(3,1),(4,0),(5,0),(6,0),(7,1),(8,0),(9,2),(10,0),(11,0),(12,0)] zB7 (zBs (by kernel_rfl)) gz (fun gV g3 => ?_)
     refine d_w rfl (fun _ => zAn rfl rfl) rfl (d_w rfl (fun _ => zAn rfl rfl) rfl ?_)
     refine zEk (fun ga => ?_) (fun ga => ?_)
     ·
      subst ga
      refine zCf rfl (zAm rfl rfl rfl) rfl (fun _ => (zAd (o := 6) (i := 5) underlying33 rfl sizeOf31 rfl rfl rfl)) ?_
      refine zA3 rfl (zAm rfl rfl rfl) rfl g3 (fun _ hq => (zAi isAgg31 hq rfl rfl (aow 2 [_]))) ?_
      refine zCf rfl (zAm rfl rfl rfl) rfl (fun _ => (zAu rfl rfl)) ?_
      refine zCf rfl (zAm rfl rfl rfl) rfl (fun _ => (zA7 underlying31 sizeOf64 rfl rfl (congrArg (fun a => Value.slice a _ _) hbl) rfl (i := i) rfl hi2)) ?_
      refine zCf rfl (zAm rfl rfl rfl) rfl (fun _ => (zAd (o := 1) (i := 1) underlying64 rfl sizeOf3 rfl rfl rfl)) ?_
      refine zA3 rfl (zAm rfl rfl rfl) rfl g3 (fun _ hq => (zAi isAgg3 hq.tail.tail.tail rfl rfl (show Ats _ _ _ _ [_] from Ats.part hlx 1 1))) ?_
      refine zCf rfl (zAm rfl rfl rfl) rfl (fun _ => (zAu rfl rfl)) ?_
      refine zB0 rfl ?_
      refine zA4 (zAm rfl rfl rfl) call86 rfl rfl rfl rfl (c86 _ (by omega) g3) ?_
      rintro _ gW ⟨rfl, g4⟩
      refine zAe (qn ⟨g4, ?_⟩)
      refine zCf rfl (zAm rfl rfl rfl) rfl (fun _ => (zCk rfl rfl rfl rfl)) ?_
      refine d_w rfl (fun _ => zAt (v := .bool _) rfl rfl rfl rfl) rfl (d_w rfl (fun _ => zAl rfl rfl) rfl ?_)
      refine zB5 ?_
      refine zAk (zAb (g8 _ _ (zAa (zA2 rfl rfl (w_p (zBe rfl rfl rfl rfl (by omega) (by omega)) rfl (zBg rfl rfl (zAe (zAb (g6 _ _ (nxI (r.looks.length - (i + 1)) (by omega) ?_))))))))))
      first
        | exact ⟨i + 1, so, rfl, by omega, rfl, fun h => seen_same (hso h) (by rw [zFn hi2]; assumption), g4⟩
        | exact ⟨i + 1, false, rfl, by omega, rfl, fun h => (by cases h), g4⟩
        | exact ⟨i + 1, _, rfl, by omega, rfl, fun h => seen_more (hso rfl) (by rw [zFn hi2]; exact of_decide_eq_true h), g4⟩
     subst ga
     refine zCe rfl rfl rfl rfl ?_
     refine zD1 rfl rfl rfl rfl g3 ?_
     refine zCe rfl rfl rfl rfl ?_
     refine zCe rfl rfl rfl rfl ?_
     refine zCe rfl rfl rfl rfl ?_
     refine zD1 rfl rfl rfl rfl g3 ?_
     refine zCe rfl rfl rfl rfl ?_
     refine zB0 rfl ?_
     refine zAg rfl rfl rfl ?_
     refine zAe (qn ⟨g3, ?_⟩)
     refine zCe rfl rfl rfl rfl ?_
     refine d_w rfl (fun _ => zBb (v := _) rfl rfl rfl rfl) rfl (d_w rfl (fun _ => zAl rfl rfl) rfl ?_)
     refine zB5 ?_
     refine zAk (zAb (g8 _ _ (zAa (zA2 rfl rfl (w_p (zBe rfl rfl rfl rfl (by omega) (by omega)) rfl (zBg rfl rfl (zAe (zAb (g6 _ _ (nxI (r.looks.length - (i + 1)) (by omega) ?_))))))))))
     first
       | exact ⟨i + 1, so, rfl, by omega, rfl, fun h => seen_same (hso h) (by rw [zFn hi2]; assumption), g3⟩
       | exact ⟨i + 1, false, rfl, by omega, rfl, fun h => (by cases h), g3⟩
       | exact ⟨i + 1, _, rfl, by omega, rfl, fun h => seen_more (hso rfl) (by rw [zFn hi2]; exact of_decide_eq_true h), g3⟩
    try simp only [zS] at g9
    refine zAg rfl rfl rfl ?_
    refine zAg rfl rfl rfl ?_
    refine zAg rfl rfl rfl ?_
    refine zAg rfl rfl rfl ?_
    refine w_p (zBb (v := _) rfl rfl rfl rfl) rfl (zAe (zAb (gc _ _ (zBj rfl rfl ?_))))
    refine zAr (zAk (zAb (g8 _ _ (zAa (zA2 rfl rfl (w_p (zBe rfl rfl rfl rfl (by omega) (by omega)) rfl (zBg rfl rfl (zAe (zAb (g6 _ _ (nxI (r.looks.length - (i + 1)) (by omega) ?_)))))))))))
    first
      | exact ⟨i + 1, so, rfl, by omega, rfl, fun h => seen_same (hso h) (by rw [zFn hi2]; assumption), hs⟩
      | exact ⟨i + 1, false, rfl, by omega, rfl, fun h => (by cases h), hs⟩
      | exact ⟨i + 1, _, rfl, by omega, rfl, fun h => seen_more (hso rfl) (by rw [zFn hi2]; exact of_decide_eq_true h), hs⟩
   try simp only [zS] at g7
   refine zBr (zAj (zAj (zAy (zAb (gu _ _ ?_)))))
   have hir : i = r.looks.length := by omega
   subst hir
   refine zAa (zA2 rfl rfl (w_p (zAn rfl rfl) rfl (w_p (zAd (o := 0) (i := 0) underlying71 rfl sizeOf69 rfl rfl rfl) rfl (w_p (zBn underlying69 sizeOf4 rfl rfl rfl rfl (i := q) (by first | rfl | omega) (by omega)) rfl ?_))))
   refine zD8 (i := 0) (j := q) zAc sizeOf4 rfl rfl rfl rfl hs rfl (by first | omega | rfl | (simp only [zL] <;> omega)) (fun gX gA => ?_)
   refine zAe (zAk (zAb (gr _ _ (zAa (zA2 rfl rfl (w_p (zBe rfl rfl rfl rfl (by omega) (by omega)) rfl (zBg rfl rfl (zAe (zAb (gm _ _ (nxI (160 - (q + 1)) (by omega) ?_)))))))))))
   exact ⟨q + 1, _, rfl, by omega, rfl, zFa hx (fun h => hso h), gA⟩
  try simp only [zS] at g5
  refine zBr (zAj (zAj (zAy (zAb (gj _ _ (zAf (fun gY gB => (zAa (w_p (y_loadB (i := 0) isAgg71 sizeOf71 (by first | omega | rfl | (simp only [zL] <;> omega)) hs rfl rfl rfl) rfl ?_)))))))))
  refine zGb (i := 1) (l := _) zAc sizeOf71 (by first | omega | rfl | (simp only [zL] <;> omega)) rfl rfl rfl rfl rfl hs rfl (by first | omega | rfl | (simp only [zL] <;> omega)) (fun gZ gd => ?_)
  refine zAe (zAb (gB _ _ (zA0 (zA1 (l := [.cell 6 71]) (vs := [_]) rfl ⟨⟨rfl, _, rfl, zFj (i := 1) isAgg71 sizeOf71 (by first | omega | rfl | (simp only [zL] <;> omega)) gd rfl⟩, trivial⟩ ?_))))
  exact ⟨_, rfl, hx, gd.tail.tail.tail⟩

end Go.Proofs.Rr
set_option maxRecDepth 20000
namespace Go.Proofs.Rr
open Go.Proofs.Tryz
open Go.Rt Go.Rt.Ro
open Go.Proofs.Ro (RIn zCq)
attribute [local irreducible] WL WC Con Yd At Ats Sl Agree DW
theorem Try_info71 : Tryz.prog.info? 71 = some Tryz.t71 := by kernel_rfl
theorem c20 {w0 w : World} {F : List (Nat × Obj)} (r : Room) (p : AtR) (hs : St w0 w F) :
  Con Tryz.prog 20 [.agg (r.cells p).toArray] w fun v w' => v = .int .i64 (r.ran.length : Int) ∧ St w0 w' F := by
  refine zAo (n := 6) func20 rfl rfl (zNl rfl) ?_
  refine zAf (fun K2 g4 => (zAa (zCd (v := .agg #[.int _ _, .int _ _, .int _ _, .slice _ _ _, .int _ _, .slice _ _ _, .slice _ _ _]) (cs := [_,_,_,_,_,_,_]) zAc rfl rfl rfl hs (fun b3 w4 g3 => ?_))))
  refine zA9 rfl rfl (zAe (zAb (g4 _ _ (zAf (fun K7 g5 => (zAa (w_p (zAd (o := 5) (i := 4) underlying33 rfl sizeOf30 rfl rfl rfl) rfl (w_p (zAi isAgg30 g3 rfl rfl (aow 0 [_])) rfl ?_))))))))
  refine w_p (zBd underlying30 rfl rfl) rfl (zBg rfl rfl (zAe (zAb (g5 _ _ (zA0 (zA1 (l := [.tmp 2]) (vs := [_]) rfl ⟨⟨rfl, (rfl : _ = Value.int _ _)⟩, trivial⟩ ?_))))))
  exact ⟨rfl, g3.tail⟩

theorem own_day {t : TypeId} {b : Nat} {x : List Bool} (h : x.length = 160) : Rt.Own (.slice (some ⟨b, 0, none⟩) 1 1) t 160 1 (([x].map bw).flatten) [(b, blk t (bw x))] := by
  have h2 := own_lit (t := t) (sz := 160) (n := 1) (b := b) (cs := bw x) (by simp [h]) (by simp [maxLen])
  simpa using h2
theorem bw_len {x : List Bool} (h : x.length = 160) : (bw x).length = 160 := by simpa using h
theorem zH1 {r : Room} {Ls : List (List Bool)} (h : DayS r Ls) : ∀ row ∈ Ls.map bw, row.length = 160 := by
  intro row hr
  obtain ⟨x, hx, rfl⟩ := List.mem_map.1 hr
  obtain ⟨i, hi, rfl⟩ := List.mem_iff_getElem.1 hx
  exact bw_len (h i hi).1
theorem own_day_at {w0 : World} {r : Room} {v : Value} {t : TypeId} {n d : Nat} {Ls : List (List Bool)} {B : List (Nat × Obj)} (h : Rt.Own v t 160 n (Ls.map bw).flatten B) (hl : Ls.length = n) (hD : DayS r Ls) (hd : d < Ls.length) : ∃ b off c, v = .slice (some ⟨b, off, none⟩) n c ∧ Ats w0 B b (off + d * 160) (bw Ls[d]) := by
  obtain ⟨a, c, h1, h2⟩ := Rt.Own.sl (w0 := w0) h (rows := Ls.map bw) (zH1 hD) (by simpa using hl) rfl []
  rw [List.append_nil] at h2
  obtain ⟨b, off, ha, _, hat⟩ := h2.at (i := d) (row := bw Ls[d]) (by simp [hd])
  rw [ha, List.length_map, hl] at h1
  exact ⟨b, off, c, h1, hat⟩
theorem own_day_cs {v : Value} {t : TypeId} {n : Nat} {xs : List Value} {B : List (Nat × Obj)} (h : Rt.Own v t 160 n xs B) (hn : 0 < n) : ∃ b cap cs, v = .slice (some ⟨b, 0, none⟩) n cap ∧ B = [(b, blk t cs)] ∧ n ≤ cap ∧ cs.length = cap * 160 ∧ cs.take (n * 160) = xs := by
  rcases h.2 with ⟨_, h0, _⟩ | ⟨b, cap, cs, h1, h2, h3, _, h5, h6⟩
  · omega
  · exact ⟨b, cap, cs, h1, h2, h3, h5, h6⟩
theorem day_row {w0 w : World} {r : Room} {L : List (Nat × Obj)} {i b n j : Nat} {t : TypeId} {cs : List Value} {Ls : List (List Bool)} (_hs : St w0 w L) (hi : L[i]? = some (b, blk t cs)) (hD : DayS r Ls) (hn : Ls.length = n) (h : cs.take (n * 160) = (Ls.map bw).flatten) (hj : j < Ls.length) : Ats w0 L b (0 + j * 160) (bw Ls[j]) := by
  have h1 : Sl w0 L (some ⟨b, 0, none⟩) 160 (Ls.map bw) := zBx hi (zH1 hD) (by rw [List.length_map, hn]; exact h)
  obtain ⟨b2, off, ha, _, hat⟩ := h1.at (i := j) (row := bw Ls[j]) (by simp [hj])
  cases ha
  exact hat
theorem day_put {r : Room} {n j : Nat} {cs : List Value} {Ls : List (List Bool)} {x : List Bool} (hD : DayS r Ls) (hn : Ls.length = n) (h : cs.take (n * 160) = (Ls.map bw).flatten) (hj : j < Ls.length) (hx : x.length = 160) : (setMany cs (j * 160) (bw x)).take (n * 160) = ((Ls.set j x).map bw).flatten := by
  have := zHq (rows := Ls.map bw) (sz := 160) (i := j) (n := n) (row := bw x) (cs := cs) (by simpa using hn) (zH1 hD) (by simpa using hj) (bw_len hx) h
  rw [this, List.map_set]
theorem own_day_more {v : Value} {t : TypeId} {n : Nat} {Ls : List (List Bool)} {x : List Bool} {B : List (Nat × Obj)} (h : Rt.Own v t 160 (n + 1) ((Ls.map bw).flatten ++ [bw x].flatten) B) : Rt.Own v t 160 (n + 1) ((Ls ++ [x]).map bw).flatten B := by simpa using h
theorem iv_v {a b : Int} (h : a = b) : [Value.int .i64 a] = [Value.int .i64 b] := by rw [h]
theorem st_drop2 {w0 w : World} {x y : Nat × Obj} {F : List (Nat × Obj)} (h : St w0 w (x :: y :: F)) : St w0 w ([x] ++ F) := (h.perm (List.Perm.swap y x F)).tail
theorem c23 {w0 w : World} {F : List (Nat × Obj)} (r : Room) (p : AtR) (hm : RIn w0 F r p) (hr : r.Ok)  (hs : St w0 w F) :
  Con Tryz.prog 23 [.agg (r.cells p).toArray, .slice none 0 0] w fun v w' => ∃ (Ls : List (List Bool)) (a : Option Addr) (c : Nat) (B : List (Nat × Obj)), v = .slice a Ls.length c ∧ Ls.length = r.ran.length + 1 ∧ DayS r Ls ∧ Sl w0 B a 160 (Ls.map bw) ∧ St w0 w' (B ++ F) := by
  refine zAo (n := 78) func23 rfl rfl (zNl rfl) ?_
  have hst := hr.start
  have hdy := hr.days
  have hlr := hr.lr
  refine zAf (fun K2 gn => (zAa (zCd (v := .agg #[.int _ _, .int _ _, .int _ _, .slice _ _ _, .int _ _, .slice _ _ _, .slice _ _ _]) (cs := [_,_,_,_,_,_,_]) zAc rfl rfl rfl hs (fun b3 w4 gq => ?_))))
  refine zA9 rfl rfl (zAe (zAb (gn _ _ (zAf (fun K7 gr => (zCc [] [(0,0),(1,1),(3,1),(4,0),(2,2),(5,2),(6,2),(7,2),(8,0)] zB7 (zBs (by kernel_rfl)) gq (fun w8 g6 => ?_)))))))
  refine d_w rfl (fun _ => zAd (o := 1) (i := 1) underlying33 rfl sizeOf28 rfl rfl rfl) rfl ?_
  refine zA3 rfl zAc rfl g6 (fun _ hq => (zAs (vs := [_,_]) isAgg28 sizeOf28 hq rfl rfl (aow 0 [_,_]))) ?_
  refine zA3 rfl zAc rfl g6 (fun _ hq => (zAs (vs := [_,_,_,_,_,_,_]) isAgg33 sizeOf33 hq rfl rfl (aow 0 [_,_,_,_,_,_,_]))) ?_
  refine d_w rfl (fun _ => zAx rfl rfl) rfl ?_
  refine zB0 rfl ?_
  refine zA4 zAc call58 rfl rfl rfl rfl (c58 r.lo r.hi (by omega) g6) ?_
  rintro _ gP ⟨xo, rfl, hxo, gc⟩
  refine zAe (qn ⟨gc, ?_⟩)
  refine zB0 rfl ?_
  refine zA4 zAc call59 rfl rfl rfl rfl (c59 r p hm.cons hr ((0 : Nat) : Int) gc) ?_
  rintro _ gQ ⟨xs, rfl, hxs, gd⟩
  refine zAe (qn ⟨gd, ?_⟩)
  refine zB0 rfl ?_
  refine zA4 zAc call57 rfl rfl rfl rfl (c57 xo xs hxo.1 hxs.1 gd) ?_
  rintro _ gR ⟨xb, rfl, hxb, ge⟩
  have hD0 : SubS xb (DP r 0) := hxb.mono (fun n hn h => dp_zero hn (hxo.2 n h.1) (hxs.2 n h.2))
  have hxl := hxb.1
  refine zAe (qn ⟨ge, ?_⟩)
  refine zB0 rfl ?_
  refine w_bslice1 (v := ba _) (l := bw _) zAc underlying72 sizeOf71 zeroValue71 rfl rfl rfl rfl rfl (by first | omega | rfl | (simp only [zL] <;> omega)) ge (fun gS gT gf => ?_)
  refine zAe (qn ⟨gf.tail, ?_⟩)
  refine d_w rfl (fun _ => zBh rfl rfl) rfl ?_
  refine zB5 ?_
  refine zAb (gr _ _ (zAf (fun gU gt => (zAf (fun gV gu => (zAa (zA9 rfl rfl (zAe (zAb (gu _ _ (zAw ?_)))))))))))
  have gw := (show St _ _ (_ :: _ :: F) from St.pk [[_], [_]] [1,0] gf)
  refine zB2 [5,6,16,17,18,19,20,21,22,23,24,25,26,27,28,29,30,31,32,33,34,35,36,37,38,39,40,41,42,43,44,45] [5,6] (fun kk vs w => ∃ (d : Nat) (v : Value) (B : List (Nat × Obj)) (Ls : List (List Bool)), vs = [v, .int .i64 (d : Int)] ∧ d ≤ r.ran.length ∧ kk = r.ran.length - d ∧ Ls.length = d + 1 ∧ DayS r Ls ∧ Rt.Own v 71 160 (d + 1) (Ls.map bw).flatten B ∧ St w0 w ((b3, blk 33 (r.cells p)) :: (B ++ F))) (r.ran.length) ?_ ?_
  ·
   exact ⟨0, _, [_], [xb], rfl, by omega, rfl, rfl, days_one hD0, own_day hxl, gw⟩
  intro k vs μ gW hI gX gx
  clear hs
  obtain ⟨d, v, B, Ls, rfl, hda, rfl, hLl, hD, hown, hs⟩ := hI
  refine zAf (fun gY gy => (zAf (fun gZ gz => (zAa (zA2 rfl rfl (w_p (zAs (vs := [_,_,_,_,_,_,_]) isAgg33 sizeOf33 hs rfl rfl (aow 0 [_,_,_,_,_,_,_])) rfl ?_))))))
  refine zCi zAc call20 rfl rfl rfl rfl (c20 r p hs) (fun hG g5 => ?_)
  refine w_p (zCb rfl rfl rfl rfl) rfl (zAe (zAb (gz _ _ (zAv rfl rfl (fun g7 => ?_) (fun g7 => ?_)))))
  ·
   try simp only [zS] at g7
   refine zAr (zAb (gy _ _ (zAf (fun hH gA => (zAw ?_)))))
   have hi2 : d < r.ran.length := by omega
   have hdL : d < Ls.length := by omega
   obtain ⟨bX, oX, cX, rfl, hX⟩ := own_day_at (w0 := w0) hown hLl hD hdL
   have hLd := (hD d hdL).1
   obtain ⟨bn, on, hbn, hn⟩ := zCy hm.n (show d < r.ran.length by omega)
   obtain ⟨z0, hz0, hz1⟩ : ∃ z0 : Nat, r.ran[d] = (z0 : Int) ∧ z0 < r.sets.length := by
     have h9 := hr.ran _ (List.getElem_mem (show d < r.ran.length by omega))
     exact ⟨r.ran[d].toNat, by omega, by omega⟩
   obtain ⟨bs, os_, hbs, g8⟩ := Go.Proofs.Ro.sl_trows hm.s hz1
   have hgz := gain_at (show d < r.ran.length by omega) hz0 hz1
   have hso := hr.sets _ (List.getElem_mem hz1)
   refine zCc [23] [(0,0),(1,0),(2,0),(3,0),(4,1),(5,0),(6,1),(7,0),(8,1),(9,0),(10,0),(11,1),(12,0),(13,0),(14,1),(16,1),(17,0),(18,0),(19,0),(15,2),(20,2),(21,2),(22,2),(23,3),(24,0)] zB7 (zBs (by kernel_rfl)) g5 (fun hO g3 => ?_)
   refine d_w rfl (fun _ => zAx rfl rfl) rfl (d_w rfl (fun _ => zAx rfl rfl) rfl (d_w rfl (fun _ => zAu rfl rfl) rfl (d_w rfl (fun _ => zA7 underlying72 sizeOf71 rfl rfl rfl rfl (i := d) rfl (by omega)) rfl ?_)))
   refine zA3 rfl zAc rfl g3 (fun _ hq => (zAs (vs := bw _) isAgg71 (fun w => by rw [show (bw _).length = 160 from (by first | omega | rfl | (simp only [zL] <;> omega))]; exact sizeOf71 w) hq.tail rfl rfl (hX.mono fun _ h => h.front))) ?_
   refine d_w rfl (fun _ => zAd (o := 3) (i := 2) underlying33 rfl sizeOf29 rfl rfl rfl) rfl ?_
   refine zA3 rfl zAc rfl g3 (fun _ hq => (zCq hbs (zAi isAgg29 hq rfl rfl (aow 0 [_])))) ?_
   refine d_w rfl (fun _ => zAd (o := 5) (i := 4) underlying33 rfl sizeOf30 rfl rfl rfl) rfl ?_
   refine zA3 rfl zAc rfl g3 (fun _ hq => (zCq hbn (zAi isAgg30 hq rfl rfl (aow 0 [_])))) ?_
   refine d_w rfl (fun _ => zAu rfl rfl) rfl (d_w rfl (fun _ => zA7 underlying30 sizeOf3 rfl rfl rfl rfl (i := d) rfl hi2) rfl ?_)
   refine zA3 rfl zAc rfl g3 (fun _ hq => (zAi isAgg3 hq.tail.drop rfl rfl hn)) ?_
   refine d_w rfl (fun _ => zA7 underlying29 sizeOf61 rfl rfl rfl rfl (i := z0) hz0 hz1) rfl (d_w rfl (fun _ => zAd (o := 1) (i := 1) underlying61 rfl sizeOf28 rfl rfl rfl) rfl ?_)
   refine zA3 rfl zAc rfl g3 (fun _ hq => (zAs (vs := [_,_]) isAgg28 sizeOf28 hq.tail.drop rfl rfl (show Ats _ _ _ _ [_,_] from Ats.part g8 1 2))) ?_
   refine zA3 rfl zAc rfl g3 (fun _ hq => (zAs (vs := [_,_,_,_,_,_,_]) isAgg33 sizeOf33 hq rfl rfl (aow 0 [_,_,_,_,_,_,_]))) ?_
   refine d_w rfl (fun _ => zAu rfl rfl) rfl (d_w rfl (fun _ => zBe rfl rfl rfl rfl (by omega) (by omega)) rfl (d_w rfl (fun _ => zAx rfl rfl) rfl ?_))
   refine zB0 rfl ?_
   refine zA4 zAc call60 rfl rfl rfl rfl (c60 Ls[d] (hD d hdL).1 r.sets[z0].lo r.sets[z0].hi (by omega) g3) ?_
   rintro _ hY ⟨xg, rfl, hxg, gg⟩
   refine zAe (qn ⟨gg, ?_⟩)
   refine zB0 rfl ?_
   refine zA4 zAc call59 rfl rfl rfl rfl (c59 r p hm.app.cons hr ((d + 1 : Nat) : Int) gg) ?_
   rintro _ j0 ⟨xs, rfl, hxs, gh⟩
   refine zAe (qn ⟨gh, ?_⟩)
   refine zB0 rfl ?_
   refine zA4 zAc call57 rfl rfl rfl rfl (c57 xg xs hxg.1 hxs.1 gh) ?_
   rintro _ j1 ⟨xb, rfl, hxb, gi⟩
   have hxl := hxb.1
   refine zAe (qn ⟨gi, ?_⟩)
   refine zB0 rfl ?_
   refine w_bslice1 (v := ba _) (l := bw _) zAc underlying72 sizeOf71 zeroValue71 rfl rfl rfl rfl rfl (by first | omega | rfl | (simp only [zL] <;> omega)) gi (fun j3 j4 gj => ?_)
   refine zAe (qn ⟨gj.tail, ?_⟩)
   have gB := (show St _ _ (_ :: (B ++ (_ :: F))) from St.pk [[_], [_], B] [0,2,1] gj)
   refine zCa rfl ?_
   refine zDd (X := (_ :: [])) (B := B) (rows := [bw xb]) (sz := 160) (bytes := 160) zAc underlying72 Try_info71 rfl rfl rfl rfl rfl rfl rfl rfl rfl gB hown (zBx (i := 0) (rows := [bw xb]) rfl (by intro row hq; rw [List.mem_singleton.1 hq]; exact bw_len hxl) (by rw [List.length_singleton, Nat.one_mul, List.flatten_cons, List.flatten_nil, List.append_nil]; exact List.take_of_length_le (Nat.le_of_eq (bw_len hxl)))) rfl (by simp) (by intro row hq u hu; rw [List.mem_singleton.1 hq] at hu; obtain ⟨z, _, rfl⟩ := List.mem_map.1 hu; rfl) (by simp only [maxLen]; omega) (by omega) (fun gC j5 g9 gD ga => ?_)
   replace ga := (show St _ _ (_ :: g9 ++ (_ :: F)) from ga)
   refine zAe (qn ?_)
   refine d_w rfl (fun _ => zB9 (v := gC) rfl rfl) rfl ?_
   refine zB5 ?_
   refine zAk (zAb (gA _ _ (zAa (zA2 rfl rfl (w_p (zBe rfl rfl rfl rfl (by omega) (by omega)) rfl (zBg rfl rfl (zAe (zAb (gx _ _ (nxI (r.ran.length - (d + 1)) (by omega) ?_))))))))))
   have gE := (show St _ _ (_ :: (g9 ++ (F))) from St.pk [[_], g9, [_]] [2,1] ga)
   exact ⟨d + 1, _,_, Ls ++ [xb], rfl, by omega, rfl, by simp; omega, days_more hD (by rw [hLl]; exact hxb.mono (fun n hn h => dp_next hn (hD d hdL) (by rw [hgz]; exact hxg.2 n h.1) (hxs.2 n h.2))), own_day_more gD, gE⟩
  try simp only [zS] at g7
  refine zBr (zAj (zAj (zAy (zAb (gt _ _ (zAf (fun j6 gF => (zAf (fun j7 gG => ?_)))))))))
  have hdn : d = r.ran.length := by omega
  subst hdn
  obtain ⟨bS, cap, cs, rfl, rfl, hcap, hcl, htk⟩ := own_day_cs hown (by omega)
  replace g5 := (show St _ _ ((b3, blk 33 (r.cells p)) :: (bS, blk 71 cs) :: F) from g5)
  refine zAa (w_p (zAs (vs := [_,_,_,_,_,_,_]) isAgg33 sizeOf33 g5 rfl rfl (aow 0 [_,_,_,_,_,_,_])) rfl ?_)
  refine zCi zAc call20 rfl rfl rfl rfl (c20 r p g5) (fun j9 gH => ?_)
  refine w_p (zDk rfl rfl rfl rfl (by omega) (by omega)) rfl (zBg rfl rfl (zAe (zAb (gG _ _ (zAw ?_)))))
  have gI := (show St _ _ (_ :: _ :: F) from St.pk [[_], [_]] [1,0] gH)
  refine zB2 [7,49,50,51,52,53,54,55,56,57,58,59,60,61,62,63,64,65,66,67,68,69,70,71,72,73,74,75,76] [7] (fun kk vs w => ∃ (e : Nat) (Ls : List (List Bool)) (cs : List Value), vs = [.int .i64 ((e : Int) - 1)] ∧ e ≤ r.ran.length ∧ kk = e ∧ Ls.length = r.ran.length + 1 ∧ DayS r Ls ∧ cs.length = cap * 160 ∧ cs.take ((r.ran.length + 1) * 160) = (Ls.map bw).flatten ∧ St w0 w ((bS, blk 71 cs) :: (b3, blk 33 (r.cells p)) :: F)) (r.ran.length) ?_ ?_
  ·
   exact ⟨r.ran.length, Ls, cs, rfl, by omega, rfl, hLl, hD, hcl, htk, gI⟩
  intro k vs μ ja hI jb gJ
  clear hs hLl hD hown htk hcl
  obtain ⟨e, Ls, cs, rfl, hea, hek, hLl, hD, hcl, htk, hs⟩ := hI
  refine zAf (fun jc gK => (zAf (fun jd gL => (zAa (zA2 rfl rfl (w_p (zHv rfl rfl rfl rfl) rfl (zAe (zAb (gL _ _ (zAv rfl rfl (fun gb => ?_) (fun gb => ?_)))))))))))
  ·
   try simp only [zS] at gb
   refine zAr (zAb (gK _ _ (zAf (fun je gM => (zAw ?_)))))
   obtain ⟨e', rfl⟩ : ∃ e', e = e' + 1 := ⟨e - 1, by omega⟩
   have hd0 : e' < Ls.length := by omega
   have hd1 : e' + 1 < Ls.length := by omega
   have hLd := (hD _ hd0).1
   have hLe := (hD _ hd1).1
   have hA1 := day_row (i := 0) hs rfl hD hLl htk hd0
   have hA2 := day_row (i := 0) hs rfl hD hLl htk hd1
   obtain ⟨bn, on, hbn, hn⟩ := zCy hm.n (show e' < r.ran.length by omega)
   obtain ⟨z0, hz0, hz1⟩ : ∃ z0 : Nat, r.ran[e'] = (z0 : Int) ∧ z0 < r.sets.length := by
     have h9 := hr.ran _ (List.getElem_mem (show e' < r.ran.length by omega))
     exact ⟨r.ran[e'].toNat, by omega, by omega⟩
   obtain ⟨bs, os_, hbs, g8⟩ := Go.Proofs.Ro.sl_trows hm.s hz1
   have hgz := gain_at (show e' < r.ran.length by omega) hz0 hz1
   have hso := hr.sets _ (List.getElem_mem hz1)
   refine zCc [24] [(0,0),(1,0),(2,0),(3,0),(4,0),(5,1),(6,0),(7,0),(8,0),(9,0),(10,1),(11,0),(12,1),(13,0),(14,1),(15,0),(16,0),(17,1),(18,0),(19,0),(20,1),(21,2),(22,2),(23,0),(24,3)] zB7 (zBs (by kernel_rfl)) hs (fun jf g4 => ?_)
   refine d_w rfl (fun _ => zAx rfl rfl) rfl (d_w rfl (fun _ => zAu rfl rfl) rfl (d_w rfl (fun _ => zAx rfl rfl) rfl (d_w rfl (fun _ => zAu rfl rfl) rfl (d_w rfl (fun _ => zA7 underlying72 sizeOf71 rfl rfl rfl rfl (i := e') (by omega) (by omega)) rfl ?_))))
   refine zA3 rfl zAc rfl g4 (fun _ hq => (zAs (vs := bw _) isAgg71 (fun w => by rw [show (bw _).length = 160 from (by first | omega | rfl | (simp only [zL] <;> omega))]; exact sizeOf71 w) hq rfl rfl hA1)) ?_
   refine d_w rfl (fun _ => zAx rfl rfl) rfl (d_w rfl (fun _ => zAu rfl rfl) rfl (d_w rfl (fun _ => zBe rfl rfl rfl rfl (by omega) (by omega)) rfl (d_w rfl (fun _ => zA7 underlying72 sizeOf71 rfl rfl rfl rfl (i := e' + 1) (by omega) (by omega)) rfl ?_)))
   refine zA3 rfl zAc rfl g4 (fun _ hq => (zAs (vs := bw _) isAgg71 (fun w => by rw [show (bw _).length = 160 from (by first | omega | rfl | (simp only [zL] <;> omega))]; exact sizeOf71 w) hq rfl rfl hA2)) ?_
   refine d_w rfl (fun _ => zAd (o := 3) (i := 2) underlying33 rfl sizeOf29 rfl rfl rfl) rfl ?_
   refine zA3 rfl zAc rfl g4 (fun _ hq => (zCq hbs (zAi isAgg29 hq rfl rfl (aow 1 [_])))) ?_
   refine d_w rfl (fun _ => zAd (o := 5) (i := 4) underlying33 rfl sizeOf30 rfl rfl rfl) rfl ?_
   refine zA3 rfl zAc rfl g4 (fun _ hq => (zCq hbn (zAi isAgg30 hq rfl rfl (aow 1 [_])))) ?_
   refine d_w rfl (fun _ => zAu rfl rfl) rfl (d_w rfl (fun _ => zA7 underlying30 sizeOf3 rfl rfl rfl rfl (i := e') (by omega) (by omega)) rfl ?_)
   refine zA3 rfl zAc rfl g4 (fun _ hq => (zAi isAgg3 hq.tail.tail rfl rfl hn)) ?_
   refine d_w rfl (fun _ => zA7 underlying29 sizeOf61 rfl rfl rfl rfl (i := z0) hz0 hz1) rfl (d_w rfl (fun _ => zAd (o := 1) (i := 1) underlying61 rfl sizeOf28 rfl rfl rfl) rfl ?_)
   refine zA3 rfl zAc rfl g4 (fun _ hq => (zAs (vs := [_,_]) isAgg28 sizeOf28 hq.tail.tail rfl rfl (show Ats _ _ _ _ [_,_] from Ats.part g8 1 2))) ?_
   refine zB0 rfl ?_
   refine zA4 zAc call61 rfl rfl rfl rfl (c61 Ls[e' + 1] (hD _ hd1).1 r.sets[z0].lo r.sets[z0].hi (by omega) g4) ?_
   rintro _ jg ⟨xk, rfl, hxk, gk⟩
   refine zAe (qn ⟨gk, ?_⟩)
   refine zB0 rfl ?_
   refine zA4 zAc call57 rfl rfl rfl rfl (c57 Ls[e'] xk (hD _ hd0).1 hxk.1 gk) ?_
   rintro _ jh ⟨xb, rfl, hxb, gm⟩
   have hxl := hxb.1
   refine zAe (qn ⟨gm, ?_⟩)
   refine d_w rfl (fun _ => zA7 underlying72 sizeOf71 rfl rfl rfl rfl (i := e') (by omega) (by omega)) rfl ?_
   refine zCa rfl ?_
   refine w_storeRowB (i := 0) (j := e') (l := xb) zAc sizeOf71 hxl rfl rfl rfl rfl rfl gm rfl (by omega) (fun ji gN => ?_)
   refine zAe (qn ?_)
   refine zB5 ?_
   refine zAk (zAb (gM _ _ (zAa (zA2 rfl rfl (w_p (zDk rfl rfl rfl rfl (by omega) (by omega)) rfl (zBg rfl rfl (zAe (zAb (gJ _ _ (nxI (e') (by omega) ?_))))))))))
   exact ⟨e', Ls.set e' xb, _, iv_v (by omega), by omega, rfl, by rw [List.length_set]; exact hLl, days_set hd0 hD ⟨hxl, fun n hn => (hxb.2 n hn).1⟩, by rw [setMany_len]; exact hcl, day_put hD hLl htk hd0 hxl, gN⟩
  try simp only [zS] at gb
  refine zBr (zAj (zAj (zAy (zAb (gF _ _ (zAf (fun jj gO => (zAa (w_p (zAx rfl rfl) rfl (w_p (zBh rfl rfl) rfl ?_))))))))))
  refine zAe (zAb (gO _ _ (zA0 (zA1 (l := [.tmp 4]) (vs := [_]) rfl ⟨⟨rfl, show _ = (.slice _ _ _ : Value) from rfl⟩, trivial⟩ ?_))))
  exact ⟨Ls, some ⟨bS, 0, none⟩, cap, [_], by rw [hLl]; rfl, hLl, hD, zBx (i := 0) rfl (zH1 hD) (by rw [List.length_map, hLl]; exact htk), st_drop2 hs⟩

end Go.Proofs.Rr
set_option maxRecDepth 20000
namespace Go.Proofs.Rr
open Go.Proofs.Tryz
open Go.Rt Go.Rt.Ro
open Go.Proofs.Ro (RIn zCq)
attribute [local irreducible] WL WC Con Yd At Ats Sl Agree DW

theorem sl_day {w0 : World} {r : Room} {a : Option Addr} {d : Nat} {Ls : List (List Bool)} {B : List (Nat × Obj)} (h : Sl w0 B a 160 (Ls.map bw)) (hd : d < Ls.length) : ∃ b off, a = some ⟨b, off, none⟩ ∧ Ats w0 B b (off + d * 160) (bw Ls[d]) := by
  obtain ⟨b, off, ha, _, hat⟩ := h.at (i := d) (row := bw Ls[d]) (by simp [hd])
  exact ⟨b, off, ha, hat⟩
theorem c6 {w0 w : World} {F : List (Nat × Obj)} (r : Room) (p : AtR) (hm : RIn w0 F r p) (hr : r.Ok)  (hs : St w0 w F) :
  Con Tryz.prog 6 [.agg (r.cells p).toArray, .slice none 0 0] w fun v w' => ∃ b, v = .bool b ∧ (b = true → lookB r 0 = true) ∧ St w0 w' F := by
  refine zAo (n := 19) func6 rfl rfl (zNl rfl) ?_
  have hdy := hr.days
  have hlr := hr.lr
  refine zAf (fun K2 gk => (zAa (zCd (v := .agg #[.int _ _, .int _ _, .int _ _, .slice _ _ _, .int _ _, .slice _ _ _, .slice _ _ _]) (cs := [_,_,_,_,_,_,_]) zAc rfl rfl rfl hs (fun b3 w4 gm => ?_))))
  refine zA9 rfl rfl (zAe (zAb (gk _ _ (zAf (fun K7 g4 => (w_drawT (C := fun w => St w0 w _) [12] (.two [(0,1),(1,0),(3,1)] 2 11 (.two [] 4 11 (.two [(5,0)] 6 11 (.two [] 7 11 (.done [(8,0),(9,0),(10,0),(11,2),(12,3),(13,0)]) (.done [(7,2),(8,0),(9,0),(10,0),(12,3),(13,0)])) (.done [(6,2),(7,2),(8,0),(9,0),(10,0),(12,3),(13,0)])) (.done [(4,2),(5,0),(6,2),(7,2),(8,0),(9,0),(10,0),(12,3),(13,0)])) (.done [(2,2),(4,2),(5,0),(6,2),(7,2),(8,0),(9,0),(10,0),(12,3),(13,0)])) zB7 (by kernel_rfl) gm (fun _ h => h.drew) (fun w8 g6 => ?_)))))))
  refine zEu ?_
  refine zA3 rfl zAc rfl g6 (fun _ hq => (zAs (vs := [_,_,_,_,_,_,_]) isAgg33 sizeOf33 hq rfl rfl (aow 0 [_,_,_,_,_,_,_]))) ?_
  refine d_w rfl (fun _ => zAx rfl rfl) rfl ?_
  refine zA3 rfl zAc rfl g6 (fun _ hq => (zAs (vs := [_,_,_,_,_,_,_]) isAgg33 sizeOf33 hq rfl rfl (aow 0 [_,_,_,_,_,_,_]))) ?_
  refine zGy rfl rfl ?_ ?_
  ·
   refine zA4 zAc call23 rfl rfl rfl rfl (c23 r p hm.cons hr g6) ?_
   rintro _ gC ⟨Ls, aL, cL, B, rfl, hLl, hD, hslL, g5⟩
   replace g5 := (show St _ _ (B ++ (_ :: F)) from g5)
   have hdL : r.ran.length < Ls.length := by omega
   obtain ⟨bX, oX, rfl, hX⟩ := sl_day (r := r) hslL hdL
   have hLd := (hD _ hdL).1
   refine zAe (qn ⟨g5.drop, ?_⟩)
   refine zEu ?_
   refine zGy rfl rfl ?_ ?_
   ·
    refine zCi zAc call20 rfl rfl rfl rfl (c20 r p g5) (fun gD g3 => ?_)
    refine zAe (qn ⟨g3.drop, ?_⟩)
    refine zEu ?_
    refine d_w rfl (fun _ => zA7 underlying72 sizeOf71 rfl rfl rfl rfl (i := r.ran.length) rfl (by omega)) rfl ?_
    refine zGy rfl rfl ?_ ?_
    ·
     refine w_p (zAs (vs := bw _) isAgg71 (fun w => by rw [show (bw _).length = 160 from (by first | omega | rfl | (simp only [zL] <;> omega))]; exact sizeOf71 w) g3 rfl rfl (hX.mono fun _ h => h.front)) rfl ?_
     refine zAe (qn ⟨g3.drop, ?_⟩)
     refine zEu ?_
     refine zGy rfl rfl ?_ ?_
     ·
      refine zA4 zAc call22 rfl rfl rfl rfl (c22 Ls[r.ran.length] hLd g3) ?_
      rintro _ gE ⟨s1, s2, bb, rfl, hbb, gb⟩
      refine zAe (qn ⟨gb.drop, ?_⟩)
      refine zC8 ?_
      refine d_w rfl (fun _ => zA6 rfl rfl) rfl (d_w rfl (fun _ => zBp (v := .agg _) rfl rfl rfl) rfl (d_w rfl (fun _ => zBf rfl rfl rfl) rfl ?_))
      refine zB0 rfl ?_
      refine zA5 (cs := [_,_]) zAc zeroValue28 rfl gb (fun gF gG gc => ?_)
      refine zAe (qn ⟨gc.tail.drop, ?_⟩)
      refine zCa rfl ?_
      refine zBt 0 (.agg #[.int _ _, .int _ _]) [_,_] sizeOf28 gc (fun gH gn => ?_)
      refine zAe (qn ?_)
      refine d_w rfl (fun _ => zAl rfl rfl) rfl ?_
      refine zB5 ?_
      refine zAb (g4 _ _ (zAf (fun gI gq => (zAa (w_p (zAn rfl rfl) rfl (w_p (zAl rfl rfl) rfl (zAe (zAb (gq _ _ (zA0 (zA1 (l := [.tmp 4]) (vs := [_]) rfl ⟨⟨rfl, (rfl : _ = Value.bool _)⟩, trivial⟩ ?_)))))))))))
      exact ⟨bb, rfl, fun h => (by obtain ⟨n, hn⟩ := hbb h; exact look_of ((hD _ hdL).2 n hn)), gn.tail.drop.tail⟩
     refine zA5 (cs := [_,_]) zAc zeroValue28 rfl g3 (fun gJ gK gd => ?_)
     refine zAe (qn ⟨gd.tail.drop, ?_⟩)
     refine zC8 ?_
     refine zB0 rfl ?_
     refine zA4 zAc call22 rfl rfl rfl rfl (c22 Ls[r.ran.length] hLd gd) ?_
     rintro _ gL ⟨s1, s2, bb, rfl, hbb, ge⟩
     refine zAe (qn ⟨ge.tail.drop, ?_⟩)
     refine d_w rfl (fun _ => zA6 rfl rfl) rfl (d_w rfl (fun _ => zBp (v := .agg _) rfl rfl rfl) rfl (d_w rfl (fun _ => zBf rfl rfl rfl) rfl ?_))
     refine zCa rfl ?_
     refine zBt 0 (.agg #[.int _ _, .int _ _]) [_,_] sizeOf28 ge (fun gM gr => ?_)
     refine zAe (qn ?_)
     refine d_w rfl (fun _ => zAl rfl rfl) rfl ?_
     refine zB5 ?_
     refine zAb (g4 _ _ (zAf (fun gN gt => (zAa (w_p (zAn rfl rfl) rfl (w_p (zAl rfl rfl) rfl (zAe (zAb (gt _ _ (zA0 (zA1 (l := [.tmp 4]) (vs := [_]) rfl ⟨⟨rfl, (rfl : _ = Value.bool _)⟩, trivial⟩ ?_)))))))))))
     exact ⟨bb, rfl, fun h => (by obtain ⟨n, hn⟩ := hbb h; exact look_of ((hD _ hdL).2 n hn)), gr.tail.drop.tail⟩
    refine zA5 (cs := [_,_]) zAc zeroValue28 rfl g3 (fun gO gP g7 => ?_)
    refine zAe (qn ⟨g7.tail.drop, ?_⟩)
    refine zC8 ?_
    refine zB0 rfl ?_
    refine w_p (zAs (vs := bw _) isAgg71 (fun w => by rw [show (bw _).length = 160 from (by first | omega | rfl | (simp only [zL] <;> omega))]; exact sizeOf71 w) g7.tail rfl rfl (hX.mono fun _ h => h.front)) rfl ?_
    refine zAe (qn ⟨g7.tail.drop, ?_⟩)
    refine zB0 rfl ?_
    refine zA4 zAc call22 rfl rfl rfl rfl (c22 Ls[r.ran.length] hLd g7) ?_
    rintro _ gQ ⟨s1, s2, bb, rfl, hbb, gf⟩
    refine zAe (qn ⟨gf.tail.drop, ?_⟩)
    refine d_w rfl (fun _ => zA6 rfl rfl) rfl (d_w rfl (fun _ => zBp (v := .agg _) rfl rfl rfl) rfl (d_w rfl (fun _ => zBf rfl rfl rfl) rfl ?_))
    refine zCa rfl ?_
    refine zBt 0 (.agg #[.int _ _, .int _ _]) [_,_] sizeOf28 gf (fun gR gu => ?_)
    refine zAe (qn ?_)
    refine d_w rfl (fun _ => zAl rfl rfl) rfl ?_
    refine zB5 ?_
    refine zAb (g4 _ _ (zAf (fun gS gw => (zAa (w_p (zAn rfl rfl) rfl (w_p (zAl rfl rfl) rfl (zAe (zAb (gw _ _ (zA0 (zA1 (l := [.tmp 4]) (vs := [_]) rfl ⟨⟨rfl, (rfl : _ = Value.bool _)⟩, trivial⟩ ?_)))))))))))
    exact ⟨bb, rfl, fun h => (by obtain ⟨n, hn⟩ := hbb h; exact look_of ((hD _ hdL).2 n hn)), gu.tail.drop.tail⟩
   refine zA5 (cs := [_,_]) zAc zeroValue28 rfl g5 (fun gT gU gg => ?_)
   refine zAe (qn ⟨gg.tail.drop, ?_⟩)
   refine zC8 ?_
   refine zB0 rfl ?_
   refine zCi zAc call20 rfl rfl rfl rfl (c20 r p gg) (fun gV g8 => ?_)
   refine zAe (qn ⟨g8.tail.drop, ?_⟩)
   refine d_w rfl (fun _ => zA7 underlying72 sizeOf71 rfl rfl rfl rfl (i := r.ran.length) rfl (by omega)) rfl ?_
   refine zB0 rfl ?_
   refine w_p (zAs (vs := bw _) isAgg71 (fun w => by rw [show (bw _).length = 160 from (by first | omega | rfl | (simp only [zL] <;> omega))]; exact sizeOf71 w) g8.tail rfl rfl (hX.mono fun _ h => h.front)) rfl ?_
   refine zAe (qn ⟨g8.tail.drop, ?_⟩)
   refine zB0 rfl ?_
   refine zA4 zAc call22 rfl rfl rfl rfl (c22 Ls[r.ran.length] hLd g8) ?_
   rintro _ gW ⟨s1, s2, bb, rfl, hbb, gh⟩
   refine zAe (qn ⟨gh.tail.drop, ?_⟩)
   refine d_w rfl (fun _ => zA6 rfl rfl) rfl (d_w rfl (fun _ => zBp (v := .agg _) rfl rfl rfl) rfl (d_w rfl (fun _ => zBf rfl rfl rfl) rfl ?_))
   refine zCa rfl ?_
   refine zBt 0 (.agg #[.int _ _, .int _ _]) [_,_] sizeOf28 gh (fun gX gx => ?_)
   refine zAe (qn ?_)
   refine d_w rfl (fun _ => zAl rfl rfl) rfl ?_
   refine zB5 ?_
   refine zAb (g4 _ _ (zAf (fun gY gy => (zAa (w_p (zAn rfl rfl) rfl (w_p (zAl rfl rfl) rfl (zAe (zAb (gy _ _ (zA0 (zA1 (l := [.tmp 4]) (vs := [_]) rfl ⟨⟨rfl, (rfl : _ = Value.bool _)⟩, trivial⟩ ?_)))))))))))
   exact ⟨bb, rfl, fun h => (by obtain ⟨n, hn⟩ := hbb h; exact look_of ((hD _ hdL).2 n hn)), gx.tail.drop.tail⟩
  refine zA5 (cs := [_,_]) zAc zeroValue28 rfl g6 (fun gZ hG gi => ?_)
  refine zAe (qn ⟨gi.tail, ?_⟩)
  refine zC8 ?_
  refine zB0 rfl ?_
  refine zA4 zAc call23 rfl rfl rfl rfl (c23 r p hm.cons.cons hr gi) ?_
  rintro _ hH ⟨Ls, aL, cL, B, rfl, hLl, hD, hslL, g9⟩
  replace g9 := (show St _ _ (B ++ (_ :: _ :: F)) from g9)
  have hdL : r.ran.length < Ls.length := by omega
  obtain ⟨bX, oX, rfl, hX⟩ := sl_day (r := r) hslL hdL
  have hLd := (hD _ hdL).1
  refine zAe (qn ⟨g9.drop.tail, ?_⟩)
  refine zB0 rfl ?_
  refine zCi zAc call20 rfl rfl rfl rfl (c20 r p g9) (fun hO ga => ?_)
  refine zAe (qn ⟨ga.drop.tail, ?_⟩)
  refine d_w rfl (fun _ => zA7 underlying72 sizeOf71 rfl rfl rfl rfl (i := r.ran.length) rfl (by omega)) rfl ?_
  refine zB0 rfl ?_
  refine w_p (zAs (vs := bw _) isAgg71 (fun w => by rw [show (bw _).length = 160 from (by first | omega | rfl | (simp only [zL] <;> omega))]; exact sizeOf71 w) ga rfl rfl (hX.mono fun _ h => h.front)) rfl ?_
  refine zAe (qn ⟨ga.drop.tail, ?_⟩)
  refine zB0 rfl ?_
  refine zA4 zAc call22 rfl rfl rfl rfl (c22 Ls[r.ran.length] hLd ga) ?_
  rintro _ hY ⟨s1, s2, bb, rfl, hbb, gj⟩
  refine zAe (qn ⟨gj.drop.tail, ?_⟩)
  refine d_w rfl (fun _ => zA6 rfl rfl) rfl (d_w rfl (fun _ => zBp (v := .agg _) rfl rfl rfl) rfl (d_w rfl (fun _ => zBf rfl rfl rfl) rfl ?_))
  have gz := (show St _ _ (_ :: (B ++ (_ :: F))) from St.pk [B, [_], [_]] [1,0,2] gj)
  refine zCa rfl ?_
  refine zBt 0 (.agg #[.int _ _, .int _ _]) [_,_] sizeOf28 gz (fun j0 gA => ?_)
  refine zAe (qn ?_)
  refine d_w rfl (fun _ => zAl rfl rfl) rfl ?_
  refine zB5 ?_
  refine zAb (g4 _ _ (zAf (fun j1 gB => (zAa (w_p (zAn rfl rfl) rfl (w_p (zAl rfl rfl) rfl (zAe (zAb (gB _ _ (zA0 (zA1 (l := [.tmp 4]) (vs := [_]) rfl ⟨⟨rfl, (rfl : _ = Value.bool _)⟩, trivial⟩ ?_)))))))))))
  exact ⟨bb, rfl, fun h => (by obtain ⟨n, hn⟩ := hbb h; exact look_of ((hD _ hdL).2 n hn)), gA.tail.drop.tail⟩

end Go.Proofs.Rr
set_option maxRecDepth 20000
namespace Go.Proofs.Rr
open Go.Proofs.Tryz
open Go.Rt Go.Rt.Ro
open Go.Proofs.Ro (RIn zCq)
attribute [local irreducible] WL WC Con Yd At Ats Sl Agree DW
theorem Try_XE_fb1 (x0 : ByteArray) (w : World) : (Instr.buildSlice 55 1 [(0, .string x0)].toArray).run Tryz.prog w = .ok (.slice (some ⟨w.heap.size, 0, none⟩) 1 1) (w.alloc (Go.Rt.blk 9 [.string x0])) := by kernel_rfl
theorem zE3 : Tryz.prog.info? 9 = some Tryz.t9 := by kernel_rfl
theorem c19 {w0 w : World} {F : List (Nat × Obj)} (r : Room) (p : AtR) (hls : r.sets.length ≤ 9223372036854775807) (z : Int) (hs : St w0 w F) :
  Con Tryz.prog 19 [.agg (r.cells p).toArray, .int .i64 z] w fun v w' => v = .bool (decide (0 ≤ z ∧ z ≤ (r.sets.length : Int) - 1)) ∧ St w0 w' F := by
  refine zAo (n := 11) func19 rfl rfl (zNl rfl) ?_
  refine zAf (fun K2 g4 => (zAa (zCd (v := .agg #[.int _ _, .int _ _, .int _ _, .slice _ _ _, .int _ _, .slice _ _ _, .slice _ _ _]) (cs := [_,_,_,_,_,_,_]) zAc rfl rfl rfl hs (fun b3 w4 g3 => ?_))))
  refine zA9 rfl rfl (zAe (zAb (g4 _ _ (zAf (fun K7 g5 => (zAa (zA2 rfl rfl (w_p (zAd (o := 3) (i := 2) underlying33 rfl sizeOf29 rfl rfl rfl) rfl (w_p (zAi isAgg29 g3 rfl rfl (aow 0 [_])) rfl ?_)))))))))
  refine w_p (zBd underlying29 rfl rfl) rfl (w_p (zDk rfl rfl rfl rfl (by omega) (by omega)) rfl (zCi zAc call17 rfl rfl rfl rfl (c17 _ _ _ g3) (fun w9 g6 => ?_)))
  refine w_p (zAl rfl rfl) rfl (zAe (zAb (g5 _ _ (zA0 (zA1 (l := [.tmp 4]) (vs := [_]) rfl ⟨⟨rfl, (rfl : _ = Value.bool _)⟩, trivial⟩ ?_)))))
  exact ⟨rfl, g6.tail⟩

theorem c21 {w0 w : World} {F : List (Nat × Obj)} (z : Int) (hs : St w0 w F) :
  Con Tryz.prog 21 [.int .i64 z] w fun v w' => v = .bool (decide (1 ≤ z ∧ z ≤ 7)) ∧ St w0 w' F := by
  refine zAo (n := 5) func21 rfl rfl (zNl rfl) ?_
  refine zAf (fun K2 g3 => (zAa (zA9 rfl rfl (zAe (zAb (g3 _ _ (zAf (fun K4 g4 => (zAa (zA2 rfl rfl (zCi zAc call17 rfl rfl rfl rfl (c17 _ _ _ hs) (fun w6 g5 => ?_))))))))))))
  refine w_p (zAl rfl rfl) rfl (zAe (zAb (g4 _ _ (zA0 (zA1 (l := [.tmp 2]) (vs := [_]) rfl ⟨⟨rfl, (rfl : _ = Value.bool _)⟩, trivial⟩ ?_)))))
  exact ⟨rfl, g5⟩

theorem c5 {w0 w : World} {F : List (Nat × Obj)} (r : Room) (p : AtR) (hm : RIn w0 F r p)  (hs : St w0 w F) :
  Con Tryz.prog 5 [.agg (r.cells p).toArray] w fun v w' => ∃ i j e : Int, v = .tuple #[.int .i64 i, .int .i64 j, .int .i64 e] ∧ (e = 0 → r.Ok) ∧ St w0 w' F := by
  refine zAo (n := 127) func5 rfl rfl (zNl rfl) ?_
  have hls := hm.ls
  have hln := hm.ln
  have hll := hm.ll
  refine zAf (fun K2 gJ => (zAa (zCd (v := .agg #[.int _ _, .int _ _, .int _ _, .slice _ _ _, .int _ _, .slice _ _ _, .slice _ _ _]) (cs := [_,_,_,_,_,_,_]) zAc rfl rfl rfl hs (fun b3 w4 gB => ?_))))
  refine zA9 rfl rfl (zA9 rfl rfl (zA9 rfl rfl (zAe (zAb (gJ _ _ (zAf (fun K7 gK => (zAa (w_p (zAd (o := 1) (i := 1) underlying33 rfl sizeOf28 rfl rfl rfl) rfl ?_)))))))))
  refine w_p (zAs (vs := [_,_]) isAgg28 sizeOf28 gB rfl rfl (aow 0 [_,_])) rfl ?_
  refine zCi zAc call18 rfl rfl rfl rfl (c18 _ _ _ _ gB) (fun w9 gC => ?_)
  refine zBg rfl rfl (zAe (zAb (gK _ _ (zAf (fun jy gL => (zAf (fun jz gd => (zAa (w_p (zAd (o := 0) (i := 0) underlying33 rfl sizeOf3 rfl rfl rfl) rfl ?_)))))))))
  refine w_p (zAi isAgg3 gC rfl rfl (aow 0 [_])) rfl ?_
  refine zCi zAc call17 rfl rfl rfl rfl (c17 _ _ _ gC) (fun jA g5 => ?_)
  refine w_p (zC0 rfl rfl) rfl (w_p (zAn rfl rfl) rfl (zBk (fun ge => ?_) (fun ge => ?_)))
  ·
   try simp only [zS] at ge
   refine zAg rfl rfl rfl ?_
   refine zAg rfl rfl rfl ?_
   refine w_p (zAt (v := _) rfl rfl rfl rfl) rfl (w_p (zAn rfl rfl) rfl (zAg rfl rfl rfl ?_))
   refine zAg rfl rfl rfl ?_
   refine zAg rfl rfl rfl ?_
   refine zAg rfl rfl rfl ?_
   refine w_p (zAt (v := _) rfl rfl rfl rfl) rfl (zAe (zAb (gd _ _ (zBz rfl rfl ?_))))
   refine zAf (fun jB gM => (zAa (zA9 rfl rfl (zA9 rfl rfl (zA9 rfl rfl (zAe (zAb (gM _ _ (zA0 (zAh (zA1 (l := [.tmp 2, .tmp 3, .tmp 4]) (vs := [_,_,_]) rfl ⟨⟨rfl, (rfl : _ = Value.int _ _)⟩, ⟨rfl, (rfl : _ = Value.int _ _)⟩, ⟨rfl, (rfl : _ = Value.int _ _)⟩, trivial⟩ ?_)))))))))))
   first
     | contradiction
     | exact ⟨_, _,_, rfl, fun h => absurd h (by decide), g5.tail⟩
     | exact ⟨_, _,_, rfl, fun h => absurd h (by assumption), g5.tail⟩
     | exact ⟨_, _,_, rfl, fun _ => zHd (by omega) (by omega) (by assumption) (by omega) hKs (by omega) hKr (by omega) (by have hie : i = r.looks.length := (by omega); subst hie; exact hK), g5.tail⟩
  try simp only [zS] at ge
  refine w_y rfl rfl rfl (zAu rfl rfl) rfl ?_
  refine w_y rfl rfl rfl (zCk rfl rfl rfl rfl) rfl ?_
  refine w_p (zBb (v := .bool _) rfl rfl rfl rfl) rfl (w_p (zAn rfl rfl) rfl (zBk (fun gf => ?_) (fun gf => ?_)))
  ·
   try simp only [zS] at gf
   refine zAg rfl rfl rfl ?_
   refine zAg rfl rfl rfl ?_
   refine zAg rfl rfl rfl ?_
   refine zAg rfl rfl rfl ?_
   refine w_p (zAt (v := _) rfl rfl rfl rfl) rfl (zAe (zAb (gd _ _ (zBz rfl rfl ?_))))
   refine zAf (fun jC gN => (zAa (zA9 rfl rfl (zA9 rfl rfl (zA9 rfl rfl (zAe (zAb (gN _ _ (zA0 (zAh (zA1 (l := [.tmp 2, .tmp 3, .tmp 4]) (vs := [_,_,_]) rfl ⟨⟨rfl, (rfl : _ = Value.int _ _)⟩, ⟨rfl, (rfl : _ = Value.int _ _)⟩, ⟨rfl, (rfl : _ = Value.int _ _)⟩, trivial⟩ ?_)))))))))))
   first
     | contradiction
     | exact ⟨_, _,_, rfl, fun h => absurd h (by decide), g5.tail⟩
     | exact ⟨_, _,_, rfl, fun h => absurd h (by assumption), g5.tail⟩
     | exact ⟨_, _,_, rfl, fun _ => zHd (by omega) (by omega) (by assumption) (by omega) hKs (by omega) hKr (by omega) (by have hie : i = r.looks.length := (by omega); subst hie; exact hK), g5.tail⟩
  try simp only [zS] at gf
  refine w_y rfl rfl rfl (zAd (o := 4) (i := 3) underlying33 rfl sizeOf3 rfl rfl rfl) rfl ?_
  refine w_y rfl rfl rfl (zAi isAgg3 g5 rfl rfl (aow 0 [_])) rfl ?_
  refine zA4 (zAm rfl rfl rfl) call17 rfl rfl rfl rfl (c17 _ _ _ g5) ?_
  rintro _ jD ⟨rfl, g6⟩
  refine w_y rfl rfl rfl (zC0 rfl rfl) rfl ?_
  refine w_p (zBb (v := .bool _) rfl rfl rfl rfl) rfl (zAe (zAb (gd _ _ (zAv rfl rfl (fun gg => ?_) (fun gg => ?_)))))
  ·
   try simp only [zS] at gg
   refine zAf (fun jE gO => (zAa (zA9 rfl rfl (zA9 rfl rfl (zA9 rfl rfl (zAe (zAb (gO _ _ (zA0 (zAh (zA1 (l := [.tmp 2, .tmp 3, .tmp 4]) (vs := [_,_,_]) rfl ⟨⟨rfl, (rfl : _ = Value.int _ _)⟩, ⟨rfl, (rfl : _ = Value.int _ _)⟩, ⟨rfl, (rfl : _ = Value.int _ _)⟩, trivial⟩ ?_)))))))))))
   first
     | contradiction
     | exact ⟨_, _,_, rfl, fun h => absurd h (by decide), g6.tail⟩
     | exact ⟨_, _,_, rfl, fun h => absurd h (by assumption), g6.tail⟩
     | exact ⟨_, _,_, rfl, fun _ => zHd (by omega) (by omega) (by assumption) (by omega) hKs (by omega) hKr (by omega) (by have hie : i = r.looks.length := (by omega); subst hie; exact hK), g6.tail⟩
  try simp only [zS] at gg
  refine zAr (zAb (gL _ _ (zAf (fun jF gP => (zAf (fun jG gQ => (zAa (zA2 rfl rfl (w_p (zCj rfl rfl rfl rfl) rfl (zAe (zAb (gQ _ _ (zAv rfl rfl (fun gh => ?_) (fun gh => ?_))))))))))))))
  ·
   try simp only [zS] at gh
   refine zAf (fun jH gR => (zAa (zA2 rfl rfl (zA9 rfl rfl (zA9 rfl rfl (zBg rfl rfl (zAe (zAb (gR _ _ (zA0 (zAh (zA1 (l := [.tmp 2, .tmp 3, .tmp 4]) (vs := [_,_,_]) rfl ⟨⟨rfl, (rfl : _ = Value.int _ _)⟩, ⟨rfl, (rfl : _ = Value.int _ _)⟩, ⟨rfl, (rfl : _ = Value.int _ _)⟩, trivial⟩ ?_))))))))))))
   first
     | contradiction
     | exact ⟨_, _,_, rfl, fun h => absurd h (by decide), g6.tail⟩
     | exact ⟨_, _,_, rfl, fun h => absurd h (by assumption), g6.tail⟩
     | exact ⟨_, _,_, rfl, fun _ => zHd (by omega) (by omega) (by assumption) (by omega) hKs (by omega) hKr (by omega) (by have hie : i = r.looks.length := (by omega); subst hie; exact hK), g6.tail⟩
  try simp only [zS] at gh
  refine zAr (zAb (gP _ _ (zAf (fun jI gS => (zAf (fun jJ gT => (zAa (w_p (zAd (o := 3) (i := 2) underlying33 rfl sizeOf29 rfl rfl rfl) rfl (w_p (zAi isAgg29 g6 rfl rfl (aow 0 [_])) rfl ?_)))))))))
  refine w_p (zBd underlying29 rfl rfl) rfl (zCi zAc call17 rfl rfl rfl rfl (c17 _ _ _ g6) (fun jK g9 => ?_))
  refine w_p (zC0 rfl rfl) rfl (zAe (zAb (gT _ _ (zAv rfl rfl (fun gi => ?_) (fun gi => ?_)))))
  ·
   try simp only [zS] at gi
   refine zAf (fun jL gU => (zAa (zA9 rfl rfl (zA9 rfl rfl (zA9 rfl rfl (zAe (zAb (gU _ _ (zA0 (zAh (zA1 (l := [.tmp 2, .tmp 3, .tmp 4]) (vs := [_,_,_]) rfl ⟨⟨rfl, (rfl : _ = Value.int _ _)⟩, ⟨rfl, (rfl : _ = Value.int _ _)⟩, ⟨rfl, (rfl : _ = Value.int _ _)⟩, trivial⟩ ?_)))))))))))
   first
     | contradiction
     | exact ⟨_, _,_, rfl, fun h => absurd h (by decide), g9.tail⟩
     | exact ⟨_, _,_, rfl, fun h => absurd h (by assumption), g9.tail⟩
     | exact ⟨_, _,_, rfl, fun _ => zHd (by omega) (by omega) (by assumption) (by omega) hKs (by omega) hKr (by omega) (by have hie : i = r.looks.length := (by omega); subst hie; exact hK), g9.tail⟩
  try simp only [zS] at gi
  refine zAr (zAb (gS _ _ (zAf (fun jM gV => (zAa (zA9 rfl rfl (zAe (zAb (gV _ _ (zAf (fun jN gW => (zAf (fun jO gX => (zAa (zA9 rfl rfl ?_)))))))))))))))
  refine zAe (zAb (gX _ _ (zAw ?_)))
  refine zB2 [2,3,4,6,7,8,36,37,38,39,40,41,42,43,44,45,46,47,48,49,50,51,52,53,54,55,56,57,58,59,60,61,62,63,64,65,66,67,68,69,70,71,72] [6,7] (fun kk vs w => ∃ (i : Nat) (v : Value) (B : List (Nat × Obj)), vs = [v, .int .i64 (i : Int)] ∧ i ≤ r.sets.length ∧ kk = r.sets.length - i ∧ SetK r i ∧ Rt.Own v 9 1 i (((r.sets.take i).map Sett.name).map Value.string) B ∧ St w0 w ((b3, blk 33 (r.cells p)) :: (B ++ F))) (r.sets.length) ?_ ?_
  ·
   exact ⟨0, _, [], rfl, by omega, rfl, setK_zero r, zEv 9 1, g9⟩
  intro k vs μ jP hI jQ gD
  clear hs
  obtain ⟨i, v, B, rfl, hia, rfl, hK, hown, hs⟩ := hI
  refine zAf (fun jR gY => (zAf (fun jS gZ => (zAa (zA2 rfl rfl (w_p (zAd (o := 3) (i := 2) underlying33 rfl sizeOf29 rfl rfl rfl) rfl (w_p (zAi isAgg29 hs rfl rfl (aow 0 [_])) rfl ?_)))))))
  refine w_p (zBd underlying29 rfl rfl) rfl (w_p (zCb rfl rfl rfl rfl) rfl (zAe (zAb (gZ _ _ (zAv rfl rfl (fun gj => ?_) (fun gj => ?_))))))
  ·
   try simp only [zS] at gj
   refine zAr (zAb (gY _ _ (zAf (fun jT gE => (zAw ?_)))))
   refine zAf (fun jU hG => ?_)
   have hi2 : i < r.sets.length := by omega
   have hn2 : ((r.sets.take i).map Sett.name).length = i := by simp; omega
   obtain ⟨bx, ox, hbx, hx⟩ := Go.Proofs.Ro.sl_trows hm.s hi2
   obtain ⟨an, cn, rfl, hsn⟩ := zEe (w0 := w0) hown hn2 F
   have hnl : ((r.sets.take i).map Sett.name).length ≤ 9223372036854775807 := by omega
   have hnz := hm.nm _ (List.getElem_mem hi2)
   refine zAa (w_p (zAd (o := 3) (i := 2) underlying33 rfl sizeOf29 rfl rfl rfl) rfl (w_p (zAi isAgg29 hs rfl rfl (aow 0 [_])) rfl (zA2 rfl rfl (w_p (zA7 underlying29 sizeOf61 rfl rfl (congrArg (fun a => Value.slice a _ _) hbx) rfl (i := i) rfl hi2) rfl ?_))))
   refine w_p (zAd (o := 0) (i := 0) underlying61 rfl sizeOf9 rfl rfl rfl) rfl (w_p (zAi isAgg9 hs.tail.drop rfl rfl (show Ats _ _ _ _ [_] from Ats.part hx 0 1)) rfl (w_p (zAx rfl rfl) rfl (zCi zAc call15 rfl rfl rfl rfl (c15 _ _ ((r.sets.take i).map Sett.name) _ hnz hnl hsn.cons hs) (fun jV gk => ?_))))
   refine zBg rfl rfl (zAe (zAb (hG _ _ (zAf (fun jW hH => (zAa (w_p (zAx rfl rfl) rfl (w_p (zAd (o := 3) (i := 2) underlying33 rfl sizeOf29 rfl rfl rfl) rfl ?_))))))))
   refine w_p (zAi isAgg29 gk rfl rfl (aow 0 [_])) rfl (zA2 rfl rfl (w_p (zA7 underlying29 sizeOf61 rfl rfl (congrArg (fun a => Value.slice a _ _) hbx) rfl (i := i) rfl hi2) rfl (w_p (zAd (o := 0) (i := 0) underlying61 rfl sizeOf9 rfl rfl rfl) rfl ?_)))
   refine w_p (zAi isAgg9 gk.tail.drop rfl rfl (show Ats _ _ _ _ [_] from Ats.part hx 0 1)) rfl (zBc (ps := [(0, _)]) (pv := [(0, .string _)]) (cs := [_]) zAc rfl rfl (fun w => Try_XE_fb1 _ w) gk (fun jX jY hO => ?_))
   refine zDd (X := (_ :: _ :: [])) (B := B) (rows := [[_]]) (sz := 1) (bytes := 16) zAc underlying55 zE3 rfl rfl rfl rfl rfl rfl rfl rfl rfl hO hown (zBx (i := 0) rfl (by simp) rfl) rfl (by simp) (by simp [Value.oneCell']) (by simp only [maxLen]; omega) (by omega) (fun hY jZ gm gF g4 => ?_)
   replace g4 := (show St _ _ (_ :: _ :: gm ++ (F)) from g4)
   refine w_p (zB9 (v := hY) rfl rfl) rfl (zAe (zAb (hH _ _ (zAf (fun k4 gG => (zAf (fun k5 j0 => (zAa (zA2 rfl rfl (w_p (zCk rfl rfl rfl rfl) rfl ?_))))))))))
   refine zAe (zAb (j0 _ _ (zAv rfl rfl (fun gn => ?_) (fun gn => ?_))))
   ·
    try simp only [zS] at gn
    refine zAa (w_p (zAd (o := 3) (i := 2) underlying33 rfl sizeOf29 rfl rfl rfl) rfl (w_p (zAi isAgg29 g4 rfl rfl (aow 1 [_])) rfl (zA2 rfl rfl (w_p (zA7 underlying29 sizeOf61 rfl rfl (congrArg (fun a => Value.slice a _ _) hbx) rfl (i := i) rfl hi2) rfl ?_))))
    refine w_p (zAd (o := 1) (i := 1) underlying61 rfl sizeOf28 rfl rfl rfl) rfl (w_p (zAs (vs := [_,_]) isAgg28 sizeOf28 g4.tail.tail.drop rfl rfl (show Ats _ _ _ _ [_,_] from Ats.part hx 1 2)) rfl (zCi zAc call18 rfl rfl rfl rfl (c18 _ _ _ _ g4) (fun k6 ga => ?_)))
    refine zBg rfl rfl (zAe (zAb (gG _ _ (zAf (fun k7 j1 => (zAa (zA2 rfl rfl (w_p (zCj rfl rfl rfl rfl) rfl (zAe (zAb (j1 _ _ (zAv rfl rfl (fun gq => ?_) (fun gq => ?_)))))))))))))
    ·
     try simp only [zS] at gq
     refine zAf (fun k8 j3 => (zAa (zA2 rfl rfl (zA2 rfl rfl (zA9 rfl rfl (zBg rfl rfl (zBg rfl rfl (zAe (zAb (j3 _ _ (zA0 (zAz (zAh (zAh (zAz (zAh (zA1 (l := [.tmp 2, .tmp 3, .tmp 4]) (vs := [_,_,_]) rfl ⟨⟨rfl, (rfl : _ = Value.int _ _)⟩, ⟨rfl, (rfl : _ = Value.int _ _)⟩, ⟨rfl, (rfl : _ = Value.int _ _)⟩, trivial⟩ ?_)))))))))))))))))
     first
       | contradiction
       | exact ⟨_, _,_, rfl, fun h => absurd h (by decide), ga.tail.tail.drop⟩
       | exact ⟨_, _,_, rfl, fun h => absurd h (by assumption), ga.tail.tail.drop⟩
       | exact ⟨_, _,_, rfl, fun _ => zHd (by omega) (by omega) (by assumption) (by omega) hKs (by omega) hKr (by omega) (by have hie : i = r.looks.length := (by omega); subst hie; exact hK), ga.tail.tail.drop⟩
    try simp only [zS] at gq
    refine zAr (zAk (zAb (gE _ _ (zAa (zA2 rfl rfl (w_p (zBe rfl rfl rfl rfl (by omega) (by omega)) rfl (zBg rfl rfl (zAe (zAb (gD _ _ (nxI (r.sets.length - (i + 1)) (by omega) ?_)))))))))))
    have j4 := (show St _ _ (_ :: (gm ++ (F))) from ga.tail)
    first
      | contradiction
      | exact ⟨i + 1, _,_, rfl, by omega, rfl, setK_more hi2 hK (by assumption) (by assumption), by rw [names_snocR hi2]; exact gF, j4⟩
   try simp only [zS] at gn
   refine zAr (zAb (gG _ _ (zAf (fun k9 j5 => (zAa (zA2 rfl rfl (w_p (zCj rfl rfl rfl rfl) rfl (zAe (zAb (j5 _ _ (zAv rfl rfl (fun gr => ?_) (fun gr => ?_))))))))))))
   ·
    try simp only [zS] at gr
    refine zAf (fun ka j6 => (zAa (zA2 rfl rfl (zA2 rfl rfl (zA9 rfl rfl (zBg rfl rfl (zBg rfl rfl (zAe (zAb (j6 _ _ (zA0 (zAz (zAh (zAh (zAz (zAh (zA1 (l := [.tmp 2, .tmp 3, .tmp 4]) (vs := [_,_,_]) rfl ⟨⟨rfl, (rfl : _ = Value.int _ _)⟩, ⟨rfl, (rfl : _ = Value.int _ _)⟩, ⟨rfl, (rfl : _ = Value.int _ _)⟩, trivial⟩ ?_)))))))))))))))))
    first
      | contradiction
      | exact ⟨_, _,_, rfl, fun h => absurd h (by decide), g4.tail.tail.drop⟩
      | exact ⟨_, _,_, rfl, fun h => absurd h (by assumption), g4.tail.tail.drop⟩
      | exact ⟨_, _,_, rfl, fun _ => zHd (by omega) (by omega) (by assumption) (by omega) hKs (by omega) hKr (by omega) (by have hie : i = r.looks.length := (by omega); subst hie; exact hK), g4.tail.tail.drop⟩
   try simp only [zS] at gr
   refine zAr (zAk (zAb (gE _ _ (zAa (zA2 rfl rfl (w_p (zBe rfl rfl rfl rfl (by omega) (by omega)) rfl (zBg rfl rfl (zAe (zAb (gD _ _ (nxI (r.sets.length - (i + 1)) (by omega) ?_)))))))))))
   have j7 := (show St _ _ (_ :: (gm ++ (F))) from g4.tail)
   first
     | contradiction
     | exact ⟨i + 1, _,_, rfl, by omega, rfl, setK_more hi2 hK (by assumption) (by assumption), by rw [names_snocR hi2]; exact gF, j7⟩
  try simp only [zS] at gj
  refine zBr (zAj (zAj (zAy (zAb (gW _ _ (zAf (fun kb j9 => (zAf (fun kc ja => ?_)))))))))
  have hie : i = r.sets.length := by omega
  subst hie
  have hKs := hK
  clear hK
  refine zAa (w_p (zAd (o := 5) (i := 4) underlying33 rfl sizeOf30 rfl rfl rfl) rfl (w_p (zAi isAgg30 hs rfl rfl (aow 0 [_])) rfl (w_p (zBd underlying30 rfl rfl) rfl (w_p (zAd (o := 0) (i := 0) underlying33 rfl sizeOf3 rfl rfl rfl) rfl ?_))))
  refine w_p (zAi isAgg3 hs rfl rfl (aow 0 [_])) rfl (w_p (zD5 rfl rfl rfl rfl) rfl (zAe ?_))
  refine zAb (ja _ _ (zAv rfl rfl (fun gt => ?_) (fun gt => ?_)))
  ·
   try simp only [zS] at gt
   refine zAf (fun kd jb => (zAa (zA9 rfl rfl (zA9 rfl rfl (zA9 rfl rfl (zAe (zAb (jb _ _ (zA0 (zAh (zA1 (l := [.tmp 2, .tmp 3, .tmp 4]) (vs := [_,_,_]) rfl ⟨⟨rfl, (rfl : _ = Value.int _ _)⟩, ⟨rfl, (rfl : _ = Value.int _ _)⟩, ⟨rfl, (rfl : _ = Value.int _ _)⟩, trivial⟩ ?_)))))))))))
   first
     | contradiction
     | exact ⟨_, _,_, rfl, fun h => absurd h (by decide), hs.tail.drop⟩
     | exact ⟨_, _,_, rfl, fun h => absurd h (by assumption), hs.tail.drop⟩
     | exact ⟨_, _,_, rfl, fun _ => zHd (by omega) (by omega) (by assumption) (by omega) hKs (by omega) hKr (by omega) (by have hie : i = r.looks.length := (by omega); subst hie; exact hK), hs.tail.drop⟩
  try simp only [zS] at gt
  refine zAr (zAb (j9 _ _ (zAf (fun ke jc => (zAf (fun kf jd => (zAa (zA9 rfl rfl (zAe (zAb (jd _ _ (zAw ?_))))))))))))
  have je := (show St _ _ (_ :: F) from St.pk [[_], B] [0] hs)
  refine zB2 [2,3,4,9,79,80,81,82,83,84,85,86,87,88,89,90,91,92,93,94] [9] (fun kk vs w => ∃ (i : Nat), vs = [.int .i64 (i : Int)] ∧ i ≤ r.ran.length ∧ kk = r.ran.length - i ∧ RanK r i ∧ St w0 w ((b3, blk 33 (r.cells p)) :: F)) (r.ran.length) ?_ ?_
  ·
   exact ⟨0, rfl, by omega, rfl, ranK_zero r, je⟩
  intro k vs μ kg hI kh jf
  clear hs
  obtain ⟨i, rfl, hia, rfl, hK, hs⟩ := hI
  refine zAf (fun ki jg => (zAf (fun kj jh => (zAa (zA2 rfl rfl (w_p (zAd (o := 5) (i := 4) underlying33 rfl sizeOf30 rfl rfl rfl) rfl (w_p (zAi isAgg30 hs rfl rfl (aow 0 [_])) rfl ?_)))))))
  refine w_p (zBd underlying30 rfl rfl) rfl (w_p (zCb rfl rfl rfl rfl) rfl (zAe (zAb (jh _ _ (zAv rfl rfl (fun gu => ?_) (fun gu => ?_))))))
  ·
   try simp only [zS] at gu
   refine zAr (zAb (jg _ _ (zAf (fun km ji => (zAw ?_)))))
   refine zAf (fun kn jj => ?_)
   have hi2 : i < r.ran.length := by omega
   obtain ⟨bn, on, hbn, hn⟩ := zCy hm.n hi2
   refine zCc [] [(0,1),(1,0),(2,1),(3,0),(4,0),(5,1),(6,2),(7,0)] zB7 (zBs (by kernel_rfl)) hs (fun ko gb => ?_)
   refine zA3 rfl zAc rfl gb (fun _ hq => (zAs (vs := [_,_,_,_,_,_,_]) isAgg33 sizeOf33 hq rfl rfl (aow 0 [_,_,_,_,_,_,_]))) ?_
   refine d_w rfl (fun _ => zAd (o := 5) (i := 4) underlying33 rfl sizeOf30 rfl rfl rfl) rfl ?_
   refine zA3 rfl zAc rfl gb (fun _ hq => (zCq hbn (zAi isAgg30 hq rfl rfl (aow 0 [_])))) ?_
   refine d_w rfl (fun _ => zAu rfl rfl) rfl (d_w rfl (fun _ => zA7 underlying30 sizeOf3 rfl rfl rfl rfl (i := i) rfl hi2) rfl ?_)
   refine zA3 rfl zAc rfl gb (fun _ hq => (zAi isAgg3 hq.tail rfl rfl hn)) ?_
   refine zB0 rfl ?_
   refine zCi zAc call19 rfl rfl rfl rfl (c19 r p hls.1 _ gb) (fun kp g7 => ?_)
   refine zAe (qn ⟨g7, ?_⟩)
   refine d_w rfl (fun _ => zC0 rfl rfl) rfl ?_
   refine zB5 ?_
   refine zAb (jj _ _ (zAv rfl rfl (fun gw => ?_) (fun gw => ?_)))
   ·
    try simp only [zS] at gw
    refine zAf (fun kr jk => (zAa (zA2 rfl rfl (zA9 rfl rfl (zBg rfl rfl (zA9 rfl rfl (zAe (zAb (jk _ _ (zA0 (zAz (zAh (zAh (zAz (zAh (zA1 (l := [.tmp 2, .tmp 3, .tmp 4]) (vs := [_,_,_]) rfl ⟨⟨rfl, (rfl : _ = Value.int _ _)⟩, ⟨rfl, (rfl : _ = Value.int _ _)⟩, ⟨rfl, (rfl : _ = Value.int _ _)⟩, trivial⟩ ?_))))))))))))))))
    first
      | contradiction
      | exact ⟨_, _,_, rfl, fun h => absurd h (by decide), g7.tail⟩
      | exact ⟨_, _,_, rfl, fun h => absurd h (by assumption), g7.tail⟩
      | exact ⟨_, _,_, rfl, fun _ => zHd (by omega) (by omega) (by assumption) (by omega) hKs (by omega) hKr (by omega) (by have hie : i = r.looks.length := (by omega); subst hie; exact hK), g7.tail⟩
   try simp only [zS] at gw
   refine zAr (zAk (zAb (ji _ _ (zAa (zA2 rfl rfl (w_p (zBe rfl rfl rfl rfl (by omega) (by omega)) rfl (zBg rfl rfl (zAe (zAb (jf _ _ (nxI (r.ran.length - (i + 1)) (by omega) ?_)))))))))))
   exact ⟨i + 1, rfl, by omega, rfl, ranK_more hi2 hK (by omega), g7⟩
  try simp only [zS] at gu
  refine zBr (zAj (zAj (zAy (zAb (jc _ _ (zAf (fun ku jl => (zAf (fun kw jm => ?_)))))))))
  have hie : i = r.ran.length := by omega
  subst hie
  have hKr := hK
  clear hK
  refine zAa (w_p (zAd (o := 6) (i := 5) underlying33 rfl sizeOf31 rfl rfl rfl) rfl (w_p (zAi isAgg31 hs rfl rfl (aow 0 [_])) rfl (w_p (zBd underlying31 rfl rfl) rfl (w_p (zD5 rfl rfl rfl rfl) rfl (zAe ?_)))))
  refine zAb (jm _ _ (zAv rfl rfl (fun gx => ?_) (fun gx => ?_)))
  ·
   try simp only [zS] at gx
   refine zAf (fun kx jo => (zAa (zA9 rfl rfl (zA9 rfl rfl (zA9 rfl rfl (zAe (zAb (jo _ _ (zA0 (zAh (zA1 (l := [.tmp 2, .tmp 3, .tmp 4]) (vs := [_,_,_]) rfl ⟨⟨rfl, (rfl : _ = Value.int _ _)⟩, ⟨rfl, (rfl : _ = Value.int _ _)⟩, ⟨rfl, (rfl : _ = Value.int _ _)⟩, trivial⟩ ?_)))))))))))
   first
     | contradiction
     | exact ⟨_, _,_, rfl, fun h => absurd h (by decide), hs.tail⟩
     | exact ⟨_, _,_, rfl, fun h => absurd h (by assumption), hs.tail⟩
     | exact ⟨_, _,_, rfl, fun _ => zHd (by omega) (by omega) (by assumption) (by omega) hKs (by omega) hKr (by omega) (by have hie : i = r.looks.length := (by omega); subst hie; exact hK), hs.tail⟩
  try simp only [zS] at gx
  refine zAr (zAb (jl _ _ (zAf (fun ky jp => (zAf (fun kz jq => (zAa (zA9 rfl rfl (zAe (zAb (jq _ _ (zAw ?_))))))))))))
  refine zB2 [2,3,4,10,99,100,101,102,103,104,105,106,107,108,109,110,111,112,113,114,115,116,117,118,119,120,121,122,123,124,125,126] [10] (fun kk vs w => ∃ (i : Nat), vs = [.int .i64 (i : Int)] ∧ i ≤ r.looks.length ∧ kk = r.looks.length - i ∧ LookK r i ∧ St w0 w ((b3, blk 33 (r.cells p)) :: F)) (r.looks.length) ?_ ?_
  ·
   exact ⟨0, rfl, by omega, rfl, lookK_zero r, hs⟩
  intro k vs μ kA hI kB jr
  clear hs
  obtain ⟨i, rfl, hia, rfl, hK, hs⟩ := hI
  refine zAf (fun kC js => (zAf (fun kD jt => (zAa (zA2 rfl rfl (w_p (zAd (o := 6) (i := 5) underlying33 rfl sizeOf31 rfl rfl rfl) rfl (w_p (zAi isAgg31 hs rfl rfl (aow 0 [_])) rfl ?_)))))))
  refine w_p (zBd underlying31 rfl rfl) rfl (w_p (zCb rfl rfl rfl rfl) rfl (zAe (zAb (jt _ _ (zAv rfl rfl (fun gy => ?_) (fun gy => ?_))))))
  ·
   try simp only [zS] at gy
   refine zAr (zAb (js _ _ (zAf (fun kE ju => (zAw ?_)))))
   refine zAf (fun kF gH => ?_)
   have hi2 : i < r.looks.length := by omega
   obtain ⟨bl, ol, hbl, hlx⟩ := Go.Proofs.Ro.sl_lrows hm.l hi2
   refine zCc [] [(0,0),(1,1),(2,0),(3,0),(4,0),(5,1),(6,1),(7,2),(8,2),(9,0),(10,0),(11,0),(12,1),(13,0),(14,0),(15,0),(16,1),(17,2),(18,0),(19,0)] zB7 (zBs (by kernel_rfl)) hs (fun kG gc => ?_)
   refine d_w rfl (fun _ => zAd (o := 6) (i := 5) underlying33 rfl sizeOf31 rfl rfl rfl) rfl ?_
   refine zA3 rfl zAc rfl gc (fun _ hq => (zCq hbl (zAi isAgg31 hq rfl rfl (aow 0 [_])))) ?_
   refine d_w rfl (fun _ => zAu rfl rfl) rfl (d_w rfl (fun _ => zA7 underlying31 sizeOf64 rfl rfl rfl rfl (i := i) rfl hi2) rfl (d_w rfl (fun _ => zAd (o := 0) (i := 0) underlying64 rfl sizeOf3 rfl rfl rfl) rfl ?_))
   refine zA3 rfl zAc rfl gc (fun _ hq => (zAi isAgg3 hq.tail rfl rfl (show Ats _ _ _ _ [_] from Ats.part hlx 0 1))) ?_
   refine zA3 rfl zAc rfl gc (fun _ hq => (zAs (vs := [_,_,_,_,_,_,_]) isAgg33 sizeOf33 hq rfl rfl (aow 0 [_,_,_,_,_,_,_]))) ?_
   refine zB0 rfl ?_
   refine zCi zAc call20 rfl rfl rfl rfl (c20 r p gc) (fun kH gI => ?_)
   refine zAe (qn ⟨gI, ?_⟩)
   refine zB0 rfl ?_
   refine zCi zAc call17 rfl rfl rfl rfl (c17 _ _ _ gI) (fun kI g3 => ?_)
   refine zAe (qn ⟨g3, ?_⟩)
   refine d_w rfl (fun _ => zC0 rfl rfl) rfl (d_w rfl (fun _ => zAn rfl rfl) rfl ?_)
   refine zEk (fun gz => ?_) (fun gz => ?_)
   ·
    try simp only [zS] at gz
    refine zCe rfl rfl rfl rfl ?_
    refine zD1 rfl rfl rfl rfl g3 ?_
    refine zCe rfl rfl rfl rfl ?_
    refine zCe rfl rfl rfl rfl ?_
    refine zCe rfl rfl rfl rfl ?_
    refine zD1 rfl rfl rfl rfl g3 ?_
    refine zB0 rfl ?_
    refine zAg rfl rfl rfl ?_
    refine zAe (qn ⟨g3, ?_⟩)
    refine zCe rfl rfl rfl rfl ?_
    refine d_w rfl (fun _ => zAt (v := _) rfl rfl rfl rfl) rfl ?_
    refine zB5 ?_
    refine zAb (gH _ _ (zBz rfl rfl ?_))
    refine zAf (fun kJ jv => (zAa (zA2 rfl rfl (zA9 rfl rfl (zBg rfl rfl (zA9 rfl rfl (zAe (zAb (jv _ _ (zA0 (zAz (zAh (zAh (zAz (zAh (zA1 (l := [.tmp 2, .tmp 3, .tmp 4]) (vs := [_,_,_]) rfl ⟨⟨rfl, (rfl : _ = Value.int _ _)⟩, ⟨rfl, (rfl : _ = Value.int _ _)⟩, ⟨rfl, (rfl : _ = Value.int _ _)⟩, trivial⟩ ?_))))))))))))))))
    first
      | contradiction
      | exact ⟨_, _,_, rfl, fun h => absurd h (by decide), g3.tail⟩
      | exact ⟨_, _,_, rfl, fun h => absurd h (by assumption), g3.tail⟩
      | exact ⟨_, _,_, rfl, fun _ => zHd (by omega) (by omega) (by assumption) (by omega) hKs (by omega) hKr (by omega) (by have hie : i = r.looks.length := (by omega); subst hie; exact hK), g3.tail⟩
   try simp only [zS] at gz
   refine zCf rfl (zAm rfl rfl rfl) rfl (fun _ => (zAd (o := 6) (i := 5) underlying33 rfl sizeOf31 rfl rfl rfl)) ?_
   refine zA3 rfl (zAm rfl rfl rfl) rfl g3 (fun _ hq => (zCq hbl (zAi isAgg31 hq rfl rfl (aow 0 [_])))) ?_
   refine zCf rfl (zAm rfl rfl rfl) rfl (fun _ => (zAu rfl rfl)) ?_
   refine zCf rfl (zAm rfl rfl rfl) rfl (fun _ => (zA7 underlying31 sizeOf64 rfl rfl rfl rfl (i := i) rfl hi2)) ?_
   refine zCf rfl (zAm rfl rfl rfl) rfl (fun _ => (zAd (o := 1) (i := 1) underlying64 rfl sizeOf3 rfl rfl rfl)) ?_
   refine zA3 rfl (zAm rfl rfl rfl) rfl g3 (fun _ hq => (zAi isAgg3 hq.tail rfl rfl (show Ats _ _ _ _ [_] from Ats.part hlx 1 1))) ?_
   refine zB0 rfl ?_
   refine zA4 (zAm rfl rfl rfl) call21 rfl rfl rfl rfl (c21 _ g3) ?_
   rintro _ kK ⟨rfl, g8⟩
   refine zAe (qn ⟨g8, ?_⟩)
   refine zCf rfl (zAm rfl rfl rfl) rfl (fun _ => (zC0 rfl rfl)) ?_
   refine d_w rfl (fun _ => zBb (v := .bool _) rfl rfl rfl rfl) rfl ?_
   refine zB5 ?_
   refine zAb (gH _ _ (zAv rfl rfl (fun gA => ?_) (fun gA => ?_)))
   ·
    try simp only [zS] at gA
    refine zAf (fun kL jw => (zAa (zA2 rfl rfl (zA9 rfl rfl (zBg rfl rfl (zA9 rfl rfl (zAe (zAb (jw _ _ (zA0 (zAz (zAh (zAh (zAz (zAh (zA1 (l := [.tmp 2, .tmp 3, .tmp 4]) (vs := [_,_,_]) rfl ⟨⟨rfl, (rfl : _ = Value.int _ _)⟩, ⟨rfl, (rfl : _ = Value.int _ _)⟩, ⟨rfl, (rfl : _ = Value.int _ _)⟩, trivial⟩ ?_))))))))))))))))
    first
      | contradiction
      | exact ⟨_, _,_, rfl, fun h => absurd h (by decide), g8.tail⟩
      | exact ⟨_, _,_, rfl, fun h => absurd h (by assumption), g8.tail⟩
      | exact ⟨_, _,_, rfl, fun _ => zHd (by omega) (by omega) (by assumption) (by omega) hKs (by omega) hKr (by omega) (by have hie : i = r.looks.length := (by omega); subst hie; exact hK), g8.tail⟩
   try simp only [zS] at gA
   refine zAr (zAk (zAb (ju _ _ (zAa (zA2 rfl rfl (w_p (zBe rfl rfl rfl rfl (by omega) (by omega)) rfl (zBg rfl rfl (zAe (zAb (jr _ _ (nxI (r.looks.length - (i + 1)) (by omega) ?_)))))))))))
   exact ⟨i + 1, rfl, by omega, rfl, lookK_more hi2 hK (by omega) (by omega), g8⟩
  try simp only [zS] at gy
  refine zBr (zAj (zAj (zAy (zAb (jp _ _ (zAf (fun kM jx => (zAa (zA9 rfl rfl (zA9 rfl rfl (zA9 rfl rfl (zAe (zAb (jx _ _ (zA0 (zA1 (l := [.tmp 2, .tmp 3, .tmp 4]) (vs := [_,_,_]) rfl ⟨⟨rfl, (rfl : _ = Value.int _ _)⟩, ⟨rfl, (rfl : _ = Value.int _ _)⟩, ⟨rfl, (rfl : _ = Value.int _ _)⟩, trivial⟩ ?_))))))))))))))))
  first
    | contradiction
    | exact ⟨_, _,_, rfl, fun h => absurd h (by decide), hs.tail⟩
    | exact ⟨_, _,_, rfl, fun h => absurd h (by assumption), hs.tail⟩
    | exact ⟨_, _,_, rfl, fun _ => zHd (by omega) (by omega) (by assumption) (by omega) hKs (by omega) hKr (by omega) (by have hie : i = r.looks.length := (by omega); subst hie; exact hK), hs.tail⟩

end Go.Proofs.Rr
