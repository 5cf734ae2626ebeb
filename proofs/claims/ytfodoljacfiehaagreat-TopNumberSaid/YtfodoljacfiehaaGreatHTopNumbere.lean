/- Own texts of this claim, joined. No conditions. -/
import Derived.Test.YtfodoljacfiehaaGreatHTopNumbera
import Derived.Test.YtfodoljacfiehaaGreatHTopNumberb
import Derived.Test.YtfodoljacfiehaaGreatHTopNumberc
import Derived.Test.YtfodoljacfiehaaGreatHTopNumberd
set_option linter.unusedVariables false
set_option linter.unusedSimpArgs false
set_option maxRecDepth 20000
namespace Go.Proofs.Ro
open Go.Proofs.Tryz
open Go.Rt Go.Rt.Ro
open Go.Rt.Ha (bit listL)
attribute [local irreducible] WL WC Con Yd At Ats Sl Agree DW
theorem Try_QI_fb2 (x0 : Int) (x1 : Int) (w : World) : (Instr.build 28 [(0, .int .i64 x0),(1, .int .i64 x1)].toArray).run Tryz.prog w = .ok (.agg #[.int .i64 x0, .int .i64 x1]) w := by kernel_rfl
theorem next_all {w0 : World} {F : List (Nat × Obj)} {yv : Value} (r : Room) (p : AtR) (rb mm : Nat) (hk : RK w0 F r p rb mm) (many : Nat) (hmany : many ≤ 6) (changes : Int) (hch : 0 ≤ changes ∧ changes ≤ 6) (bp bM bC bY bR bn : Nat) (h2 : Ats w0 F bM 0 [.int .i64 (many : Int)]) (h3 : Ats w0 F bC 0 [.int .i64 changes]) (h4 : Ats w0 F bY 0 [yv]) (h5 : Ats w0 F bR 0 [.pointer (some ⟨rb, 0, none⟩)]) (h6 : Ats w0 F bn 0 [.func (.func 102) #[] #[.pointer (some ⟨bp, 0, none⟩), .pointer (some ⟨bM, 0, none⟩), .pointer (some ⟨bC, 0, none⟩), .pointer (some ⟨bY, 0, none⟩), .pointer (some ⟨bR, 0, none⟩), .pointer (some ⟨bn, 0, none⟩)]]) (Ls : List Plan) (J : Nat → List (Nat × Obj) → Prop) (Js : Nat → Value → List (Nat × Obj) → Prop) (hy : ∀ (i : Nat) (hi : i < Ls.length) (v : Value) (B X : List (Nat × Obj)) (w : World), VP w0 Ls[i] v X → J i B → St w0 w (X ++ (B ++ F)) → FCon Tryz.prog yv [v] w fun u w' => ∃ B', St w0 w' (X ++ (B' ++ F)) ∧ (u = .bool true ∧ J (i + 1) B' ∨ u = .bool false ∧ Js i v B')) (rem : Nat) : NextP r many changes bp bM bC bY bR bn Ls J Js w0 F rem := by
  induction rem with
  | zero => exact c102 r p rb mm hk many hmany changes hch bp bM bC bY bR bn h2 h3 h4 h5 h6 Ls J Js hy 0 (fun k h => by omega)
  | succ k ih => exact c102 r p rb mm hk many hmany changes hch bp bM bC bY bR bn h2 h3 h4 h5 h6 Ls J Js hy (k + 1) (fun q h => by have : q = k := (by omega); subst this; exact ih)
theorem hy_in {w0 : World} {F : List (Nat × Obj)} {yv : Value} {Ls : List Plan} {J : Nat → List (Nat × Obj) → Prop} {Js : Nat → Value → List (Nat × Obj) → Prop} (FR : List (Nat × Obj))
    (hy : ∀ (i : Nat) (hi : i < Ls.length) (v : Value) (B X : List (Nat × Obj)) (w : World), VP w0 Ls[i] v X → J i B → St w0 w (X ++ (B ++ F)) → FCon Tryz.prog yv [v] w fun u w' => ∃ B', St w0 w' (X ++ (B' ++ F)) ∧ (u = .bool true ∧ J (i + 1) B' ∨ u = .bool false ∧ Js i v B')) :
    ∀ (i : Nat) (hi : i < Ls.length) (v : Value) (B X : List (Nat × Obj)) (w : World), VP w0 Ls[i] v X → J i B → St w0 w (X ++ (B ++ (FR ++ F))) → FCon Tryz.prog yv [v] w fun u w' => ∃ B', St w0 w' (X ++ (B' ++ (FR ++ F))) ∧ (u = .bool true ∧ J (i + 1) B' ∨ u = .bool false ∧ Js i v B') := by
  intro i hi v B X w hV hJ hs
  have g4 : St w0 w ((X ++ FR) ++ (B ++ F)) := by rw [List.append_assoc]; exact St.pk [X, B, FR] [0,2,1] hs
  refine (hy i hi v B (X ++ FR) w hV.top hJ g4).mono ?_
  rintro u w' ⟨B', g3, h⟩
  refine ⟨B', ?_, h⟩
  rw [List.append_assoc] at g3
  exact St.pk [X, FR, B'] [0,2,1] g3
theorem drop_end {α : Type} {l : List α} {i : Nat} (hi : i ≤ l.length) (h : l.drop i = []) : i = l.length := by rw [List.drop_eq_nil_iff] at h; omega
theorem pair_dec {a b c d : Int} : decide ([a, b] = [c, d]) = decide ((a, b) = (c, d)) := by rw [decide_eq_decide]; simp
theorem plans_iter {w0 : World} {F : List (Nat × Obj)} (r : Room) (p : AtR) (rb mm : Nat) (hk : RK w0 F r p rb mm) (many : Nat) (hmany : many ≤ 6) (changes : Int) (hch : 0 ≤ changes ∧ changes ≤ 6) (before : Int) (hbf : -1 ≤ before ∧ before ≤ 3) (m1 m2 m3 m4 : Nat) (h1 : Ats w0 F m1 0 [.int .i64 (many : Int)]) (h2 : Ats w0 F m2 0 [.int .i64 changes]) (h3 : Ats w0 F m3 0 [.pointer (some ⟨rb, 0, none⟩)]) (h4 : Ats w0 F m4 0 [.int .i64 before]) : IterV Tryz.prog 101 [] [.pointer (some ⟨m1,0, none⟩), .pointer (some ⟨m2,0, none⟩), .pointer (some ⟨m3,0, none⟩), .pointer (some ⟨m4,0, none⟩)] (plansF r.sets.length changes many before noPlan) (VP w0) w0 F := by
  intro J Js yv B X w hyv hy hJ hs
  obtain ⟨yf, ya, yb, rfl⟩ := hyv
  show Con Tryz.prog 101 [.func yf ya yb, .pointer (some ⟨m1,0, none⟩), .pointer (some ⟨m2,0, none⟩), .pointer (some ⟨m3,0, none⟩), .pointer (some ⟨m4,0, none⟩)] w _
  refine zAo (n := 12) func101 rfl rfl (zNl rfl) ?_
  refine zAf (fun K2 g6 => (zAa (zCd (v := .func _ _ _) (cs := [_]) zAc rfl rfl rfl hs (fun b3 w4 g7 => ?_))))
  refine zAe (zAb (g6 _ _ (zAf (fun K7 g8 => (zAa (zA5 (cs := [_,_,_,_,_,_]) zAc zeroValue96 rfl g7 (fun b8 w9 g9 => ?_)))))))
  refine zAe (zAb (g8 _ _ (zAf (fun gg ga => (zAa (zA5 (cs := [_]) zAc zeroValue66 rfl g9 (fun g4 gh gb => ?_)))))))
  refine zAe (zAb (ga _ _ (zAf (fun gi gc => (zAa (w_p (zCl (fv := []) (cv := [_,_,_,_,_,_]) rfl rfl rfl rfl) rfl (zBt 0 (.func _ _ _) [_] sizeOf66 gb (fun gj g5 => ?_))))))))
  refine zAe (zAb (gc _ _ (zAa (w_p (zAi isAgg66 g5 rfl rfl (aow 0 [_])) rfl (w_p (zAi isAgg3 g5.tail.tail.tail.drop.drop rfl rfl h4) rfl ?_)))))
  have gd := (show St _ _ (_ :: (X ++ ((B ++ (_ :: _ :: F))))) from St.pk [[_], [_], [_], X, B] [1,3,4,0,2] g5)
  refine zA4 zAc call102 rfl rfl rfl rfl (next_all (yv := .func yf ya yb) (F := (g4, blk 66 [.func (.func 102) #[] #[.pointer (some ⟨b8,0, none⟩), .pointer (some ⟨m1,0, none⟩), .pointer (some ⟨m2,0, none⟩), .pointer (some ⟨b3,0, none⟩), .pointer (some ⟨m3,0, none⟩), .pointer (some ⟨g4,0, none⟩)]]) :: (b3, blk 140 [.func yf ya yb]) :: F) r p rb mm hk.cons.cons many hmany changes hch b8 m1 m2 b3 m3 g4 h1.cons.cons h2.cons.cons (zBm (i := 1) rfl rfl) h3.cons.cons (zBm (i := 0) rfl rfl) (plansF r.sets.length changes many before noPlan) J Js (hy_in [(g4, blk 66 [.func (.func 102) #[] #[.pointer (some ⟨b8,0, none⟩), .pointer (some ⟨m1,0, none⟩), .pointer (some ⟨m2,0, none⟩), .pointer (some ⟨b3,0, none⟩), .pointer (some ⟨m3,0, none⟩), .pointer (some ⟨g4,0, none⟩)]]), (b3, blk 140 [.func yf ya yb])] hy) many before noPlan none 0 0 [] [] B X _ hbf (by show 0 + many = many; omega) (pok_no r) (Sl.nil _ _) (fun _ => rfl) (by decide) (Nat.zero_le _) (by rw [List.drop_zero, List.append_nil]) hJ gd) ?_
  rintro _ gk (⟨rfl, B2, i2, cs2, hi2, hp2, hJ2, hcs2, g3⟩ | ⟨rfl, j2, hj2, u2, Z2, B2, cs2, hV2, hJ2, g3⟩)
  ·
   replace g3 := (show St _ _ (_ :: X ++ (B2 ++ (_ :: _ :: F))) from g3)
   refine zAe (q_end (l := []) (vs := []) rfl trivial ?_)
   have ge := (show St _ _ ((X ++ ((B2 ++ (F))))) from St.pk [[_], X, B2, [_], [_]] [1,2] g3)
   exact .inl ⟨B2, ge, by rw [← drop_end hi2 hp2]; exact hJ2⟩
  replace g3 := (show St _ _ (_ :: X ++ (Z2 ++ (B2 ++ (_ :: _ :: F)))) from g3)
  refine zAe (q_end (l := []) (vs := []) rfl trivial ?_)
  have gf := (show St _ _ ((X ++ ((Z2 ++ ((B2 ++ (F))))))) from St.pk [[_], X, Z2, B2, [_], [_]] [1,2,3] g3)
  exact .inr ⟨j2, hj2, u2, Z2, B2, hV2, hJ2, gf⟩

theorem c76 {w0 w : World} {F : List (Nat × Obj)} (rb : Nat) (before many changes : Int) (hs : St w0 w F) :
  Con Tryz.prog 76 [.pointer (some ⟨rb, 0, none⟩), .int .i64 before, .int .i64 many, .int .i64 changes] w fun v w' => ∃ c7 c6 c5 c4, v = .func (.func 101) #[] #[.pointer (some ⟨c6,0, none⟩), .pointer (some ⟨c7,0, none⟩), .pointer (some ⟨c4,0, none⟩), .pointer (some ⟨c5,0, none⟩)] ∧ St w0 w' ((c7, blk 3 [.int .i64 changes]) :: (c6, blk 3 [.int .i64 many]) :: (c5, blk 3 [.int .i64 before]) :: (c4, blk 88 [.pointer (some ⟨rb, 0, none⟩)]) :: F) := by
  refine zAo (n := 10) func76 rfl rfl (zNl rfl) ?_
  refine zAf (fun K2 g3 => (zAa (zCd (v := .pointer _) (cs := [_]) zAc rfl rfl rfl hs (fun b3 w4 g4 => ?_))))
  refine zCd (v := .int _ _) (cs := [_]) zAc rfl rfl rfl g4 (fun b6 w7 g5 => ?_)
  refine zCd (v := .int _ _) (cs := [_]) zAc rfl rfl rfl g5 (fun b9 g9 g6 => ?_)
  refine zCd (v := .int _ _) (cs := [_]) zAc rfl rfl rfl g6 (fun ga gb g7 => ?_)
  refine zA9 rfl rfl (zAe (zAb (g3 _ _ (zAf (fun gc g8 => (zAa (w_p (zCl (fv := []) (cv := [_,_,_,_]) rfl rfl rfl rfl) rfl (w_p (zB9 (v := .func _ _ _) rfl rfl) rfl ?_))))))))
  refine zAe (zAb (g8 _ _ (zA0 (zA1 (l := [.tmp 8]) (vs := [_]) rfl ⟨⟨rfl, show _ = (.func _ _ _ : Value) from rfl⟩, trivial⟩ ?_))))
  exact ⟨_, _,_,_, rfl, g7⟩

theorem gv_st {w0 w : World} {x : Nat × Obj} {X M F : List (Nat × Obj)} : St w0 w (x :: (X ++ (M ++ F))) ↔ St w0 w ((x :: X) ++ (M ++ F)) := Iff.rfl
theorem c74 {w0 w : World} {X M F : List (Nat × Obj)} (r : Room) (p : AtR) (rb mm : Nat) (hk : RK w0 F r p rb mm) (now : Int × Int) (hnow : 0 ≤ now.1 ∧ now.1 ≤ 1000 ∧ 0 ≤ now.2 ∧ now.2 ≤ 1000) (want : Int) (bN bR bW : Nat) (hN : Ats w0 F bN 0 [.int .i64 now.1, .int .i64 now.2]) (hR : Ats w0 F bR 0 [.pointer (some ⟨rb, 0, none⟩)]) (hW : Ats w0 F bW 0 [.int .i64 want]) (q : Plan) (a : Option Addr) (c : Nat) (hq : Wok q.ways) (hM : Memo r mm M) (hs : St w0 w (X ++ (M ++ F))) :
  Con Tryz.prog 74 [.agg (q.cells a c).toArray, .pointer (some ⟨bN, 0, none⟩), .pointer (some ⟨bR, 0, none⟩), .pointer (some ⟨bW, 0, none⟩)] w fun v w' => v = .bool (gives r now want q) ∧ ∃ M', Memo r mm M' ∧ St w0 w' (X ++ (M' ++ F)) := by
  refine zAo (n := 17) func74 rfl rfl (zNl rfl) ?_
  obtain ⟨x1, x2, x3, x4, hw4⟩ := ways4 hq.len
  obtain ⟨ql, qw, qc⟩ := q
  have hw5 : qw = [x1, x2, x3, x4] := hw4
  subst hw5
  have hls := hk.ok.ls
  have hsb : 0 ≤ (sum r [x1, x2, x3, x4]).1 ∧ (sum r [x1, x2, x3, x4]).1 ≤ 300 * (r.sets.length : Int) ∧ 0 ≤ (sum r [x1, x2, x3, x4]).2 ∧ (sum r [x1, x2, x3, x4]).2 ≤ 300 * (r.sets.length : Int) := sum_bd hk.ok hq r.sets.length
  refine zAf (fun K2 g8 => (zAa (zCd (v := .agg #[.slice _ _ _, .int _ _, .int _ _, .int _ _, .int _ _, .int _ _]) (cs := [_,_,_,_,_,_]) zAc rfl rfl rfl hs (fun b3 w4 g9 => ?_))))
  refine zA9 rfl rfl (zAe (zAb (g8 _ _ (zAf (fun K7 ga => ?_)))))
  have hww : ∀ M : List (Nat × Obj), Ats w0 ((b3, blk 96 [.slice a ql.length c, .int .i64 x1, .int .i64 x2, .int .i64 x3, .int .i64 x4, .int .i64 qc]) :: (X ++ (M ++ F))) b3 (0 + 1) (iv [x1, x2, x3, x4]) := fun M => zBm (i := 0) rfl rfl
  refine w_drawC (C := fun w => ∃ M, Memo r mm M ∧ St w0 w ((b3, blk 96 [.slice a ql.length c, .int .i64 x1, .int .i64 x2, .int .i64 x3, .int .i64 x4, .int .i64 qc]) :: (X ++ (M ++ F)))) [] [(0,1),(1,1),(2,0),(3,1),(7,1),(8,1),(9,0),(4,2),(5,2),(6,2),(10,0),(11,0)] zB7 (zBs (by kernel_rfl)) ⟨_, hM, g9⟩ (fun _ ⟨M, h1, h2⟩ => ⟨M, h1, h2.drew⟩) (fun w8 ⟨M, hM, g3⟩ => ?_)
  refine d_takeC rfl zAc rfl ⟨_, hM, g3⟩ (fun _ ⟨M, hM, hq⟩ => (zAs (vs := [_,_]) isAgg28 sizeOf28 hq.tail.drop.drop rfl rfl hN)) ?_
  refine d_takeC rfl zAc rfl ⟨_, hM, g3⟩ (fun _ ⟨M, hM, hq⟩ => (zAi isAgg88 hq.tail.drop.drop rfl rfl hR)) ?_
  refine d_w rfl (fun _ => zAd (o := 1) (i := 1) underlying96 rfl sizeOf94 rfl rfl rfl) rfl ?_
  refine d_takeC rfl zAc rfl ⟨_, hM, g3⟩ (fun _ ⟨M, hM, hq⟩ => (zAs (vs := iv _) isAgg94 (fun w => by rw [show (iv _).length = 4 from (by first | omega | rfl | (simp only [zL] <;> omega))]; exact sizeOf94 w) hq rfl rfl (hww _))) ?_
  refine d_takeC rfl zAc rfl ⟨_, hM, g3⟩ (fun _ ⟨M, hM, hq⟩ => (zAi isAgg3 hq.tail.drop.drop rfl rfl hW)) ?_
  refine d_takeC rfl zAc rfl ⟨_, hM, g3⟩ (fun _ ⟨M, hM, hq⟩ => (zAi isAgg3 hq.tail.drop.drop rfl rfl hW)) ?_
  refine d_w rfl (fun _ => zCh (ps := [(0, _),(1, _)]) (pv := [(0, .int _ _),(1, .int _ _)]) rfl rfl (fun w => Try_QI_fb2 _ _ w)) rfl ?_
  refine zB0 rfl ?_
  refine zA4 zAc call75 rfl rfl rfl rfl (sum_con (X := _ :: X) (M := M) (F := F) r p rb mm hk [x1, x2, x3, x4] hq hM (gv_st.1 g3)) ?_
  rintro _ gb ⟨rfl, M2, g4, g5⟩
  replace g5 := (show St _ _ (_ :: X ++ (M2 ++ (F))) from g5)
  refine zAe (qn ⟨⟨_, g4, g5⟩, ?_⟩)
  refine zB0 rfl ?_
  refine zCi zAc call52 rfl rfl rfl rfl (c52 _ _ _ _ (by omega) (by omega) (by omega) (by omega) g5) (fun gc g6 => ?_)
  refine zAe (qn ⟨⟨_, g4, g6⟩, ?_⟩)
  refine zB0 rfl ?_
  refine zCi zAc call53 rfl rfl rfl rfl (c53 _ _ (by omega) (by omega) g6) (fun gd g7 => ?_)
  refine zAe (qn ⟨⟨_, g4, g7⟩, ?_⟩)
  refine d_w rfl (fun _ => zEs (l := [_,_]) (m := [_,_]) eqGuardType28 zDg (by first | omega | rfl | (simp only [zL] <;> omega)) (by first | omega | rfl | (simp only [zL] <;> omega)) rfl rfl rfl rfl rfl rfl) rfl ?_
  refine d_w rfl (fun _ => zAl rfl rfl) rfl ?_
  refine zB5 ?_
  refine zAb (ga _ _ (zA0 (zA1 (l := [.tmp 5]) (vs := [_]) rfl ⟨⟨rfl, (rfl : _ = Value.bool _)⟩, trivial⟩ ?_)))
  exact ⟨congrArg Value.bool pair_dec, _, g4, g7.tail⟩

end Go.Proofs.Ro
set_option maxRecDepth 20000
namespace Go.Proofs.Ro
open Go.Proofs.Tryz
open Go.Rt Go.Rt.Ro
open Go.Rt.Ha (bit listL)
attribute [local irreducible] WL WC Con Yd At Ats Sl Agree DW
theorem Try_QJ_fb2  (w : World) : (Instr.build 96 [].toArray).run Tryz.prog w = .ok (.agg #[.slice none 0 0, .int .i64 0, .int .i64 0, .int .i64 0, .int .i64 0, .int .i64 0]) w := by kernel_rfl
theorem c42 {w0 w : World} {M F : List (Nat × Obj)} (r : Room) (p : AtR) (rb mm : Nat) (hk : RK w0 F r p rb mm) (now : Int × Int) (hnow : 0 ≤ now.1 ∧ now.1 ≤ 1000 ∧ 0 ≤ now.2 ∧ now.2 ≤ 1000) (before : Int) (hbf : -1 ≤ before ∧ before ≤ 3) (many : Nat) (hmany : many ≤ 6) (want : Int) (hM : Memo r mm M) (hs : St w0 w (M ++ F)) :
  Con Tryz.prog 42 [.pointer (some ⟨rb, 0, none⟩), .agg #[.int .i64 now.1, .int .i64 now.2], .int .i64 before, .int .i64 (many : Int), .int .i64 want] w fun v w' => (first r now before many want = none ∧ v = .tuple #[.agg #[.slice none 0 0, .int .i64 0, .int .i64 0, .int .i64 0, .int .i64 0, .int .i64 0], .bool false] ∧ ∃ M', Memo r mm M' ∧ St w0 w' (M' ++ F)) ∨ ∃ q a c Y M', first r now before many want = some q ∧ v = .tuple #[.agg (q.cells a c).toArray, .bool true] ∧ Sl w0 Y a 1 (q.l.map fun x => [Value.int .i64 x]) ∧ (a = none → c = 0) ∧ q.l.length ≤ c ∧ Memo r mm M' ∧ St w0 w' (Y ++ (M' ++ F)) := by
  refine con_of_wcM (n := 39) func42 rfl rfl (zNl rfl) ?_
  have hop := hk.ok.opens
  have hls := hk.ok.ls
  refine zAf (fun K2 gg => (zAa (zCd (v := .pointer _) (cs := [_]) zAc rfl rfl rfl hs (fun b3 w4 gh => ?_))))
  refine zCd (v := .agg #[.int _ _, .int _ _]) (cs := [_,_]) zAc rfl rfl rfl gh (fun b6 w7 gi => ?_)
  refine zCd (v := .int _ _) (cs := [_]) zAc rfl rfl rfl gi (fun b9 gT gj => ?_)
  refine zA5 (cs := [_,_,_,_,_,_]) zAc zeroValue96 rfl gj (fun g7 gU gk => ?_)
  refine zA5 (cs := [_]) zAc zeroValue4 rfl gk (fun g8 gV gm => ?_)
  refine zAe (zAb (gg _ _ (zAf (fun gW gn => (zAa (w_p (zCl (fv := []) (cv := [_,_,_]) rfl rfl rfl rfl) rfl (zA5 (cs := [_]) zAc zeroValue140 rfl gm (fun g3 gX gq => ?_))))))))
  refine zBt 0 (.func _ _ _) [_] sizeOf140 gq (fun gY g9 => ?_)
  refine zAe (zAb (gn _ _ (zAf (fun gZ gr => (zAf (fun hG gt => (zAa (w_p (zAi isAgg88 g9 rfl rfl (aow 5 [_])) rfl (w_p (zBl rfl rfl) rfl ?_)))))))))
  refine w_p (zAd (o := 0) (i := 0) underlying103 rfl sizeOf33 rfl rfl rfl) rfl (w_p (zAd (o := 4) (i := 3) underlying33 rfl sizeOf3 rfl rfl rfl) rfl (w_p (zAi isAgg3 g9.tail.tail.tail.tail.tail.tail.drop rfl rfl (show Ats _ _ _ _ [_] from Ats.part hk.c 4 1)) rfl (zA2 rfl rfl (w_p (y_min2 rfl rfl rfl rfl) rfl ?_))))
  refine w_p (zCt (z' := ((min r.opens.toNat many + 1 : Nat) : Int)) (by omega) (zBe rfl rfl rfl rfl (by omega) (by omega))) rfl (w_p (zBo (v := _) rfl rfl) rfl (zAe (zAb (gt _ _ (zAw ?_)))))
  refine w_loopD [13,24,25,26,27,28,29,30,31,37] [24] (fun kk vs bs w => ∃ (cN : Nat) (M : List (Nat × Obj)), vs = [.int .i64 (cN : Int)] ∧ cN ≤ (min r.opens.toNat many + 1) ∧ kk = (min r.opens.toNat many + 1) - cN ∧ firstN r now before many want cN = none ∧ Memo r mm M ∧ St w0 w ((g3, blk 140 [.func (.func 74) #[] #[.pointer (some ⟨b6,0, none⟩), .pointer (some ⟨b3,0, none⟩), .pointer (some ⟨b9,0, none⟩)]]) :: (g8, blk 4 [.bool false]) :: (g7, blk 96 [.slice none 0 0, .int .i64 0, .int .i64 0, .int .i64 0, .int .i64 0, .int .i64 0]) :: (b9, blk 3 [.int .i64 want]) :: (b6, blk 28 [.int .i64 now.1, .int .i64 now.2]) :: (b3, blk 88 [.pointer (some ⟨rb, 0, none⟩)]) :: (dfs bs ++ (M ++ F)))) ((min r.opens.toNat many + 1)) [] ?_ ?_
  ·
   exact ⟨0, M, rfl, by omega, by omega, rfl, hM, g9⟩
  intro k vs μ bs hH hI hO gu
  clear hs hM
  obtain ⟨cN, M, rfl, hca, rfl, hprev, hM, hs⟩ := hI
  refine zAf (fun hY gw => (zAa (w_p (zCb rfl rfl rfl rfl) rfl (zAe (zAb (gw _ _ (zAf (fun j0 gx => (zAv rfl rfl (fun ga => ?_) (fun ga => ?_))))))))))
  ·
   try simp only [zS] at ga
   refine zAr (zAb (gx _ _ (zAf (fun j1 gy => (zAw ?_)))))
   refine zAf (fun j3 gz => (zAa (zA2 rfl rfl (zBg rfl rfl (zAe (zAb (gz _ _ (zAf (fun j4 gA => (zAa (w_p (zAi isAgg88 hs rfl rfl (aow 5 [_])) rfl ?_)))))))))))
   refine zA2 rfl rfl (zA2 rfl rfl (zA2 rfl rfl (zA4 zAc call76 rfl rfl rfl rfl (c76 rb before (many : Int) (cN : Int) hs) ?_)))
   rintro _ j5 ⟨c7, c6, c5, c4, rfl, gb⟩
   replace gb := (show St _ _ (_ :: _ :: _ :: _ :: _ :: _ :: _ :: _ :: _ :: _ :: (dfs bs) ++ (M ++ (F))) from gb)
   refine zAe (zAb (gA _ _ (zAw ?_)))
   have gB := (show St _ _ (_ :: _ :: (M ++ (_ :: _ :: _ :: _ :: _ :: _ :: _ :: _ :: ((dfs bs) ++ (F))))) from St.pk [[_], [_], [_], [_], [_], [_], [_], [_], [_], [_], (dfs bs), M] [5,6,11,0,1,2,3,4,7,8,9,10] gb)
   refine w_rangeV (V := VP w0) (fun _ _ b _ h => VP.cons b h) (_ :: _ :: M) (fun i Bx => ∃ M, Bx = (g8, blk 4 [.bool false]) :: (g7, blk 96 [.slice none 0 0, .int .i64 0, .int .i64 0, .int .i64 0, .int .i64 0, .int .i64 0]) :: M ∧ Memo r mm M ∧ ((plansF r.sets.length (cN : Int) many before noPlan).take i).find? (gives r now want) = none) (fun i v cd Bx => cd = .ret ∧ ∃ (M : List (Nat × Obj)) (cs : List Value) (q : Plan), Bx = (g8, blk 4 [.bool true]) :: (g7, blk 96 cs) :: M ∧ Memo r mm M ∧ v = .agg cs.toArray ∧ (plansF r.sets.length (cN : Int) many before noPlan)[i]? = some q ∧ (plansF r.sets.length (cN : Int) many before noPlan).find? (gives r now want) = some q) rfl rfl rfl call101 (plans_iter r p rb mm (RK.cons (RK.cons (RK.cons (RK.cons (RK.cons (RK.cons (RK.cons (RK.cons (hk.app))))))))) many hmany (cN : Int) (by omega) before hbf c6 c7 c4 c5 (zBm (i := 1) rfl rfl) (zBm (i := 0) rfl rfl) (zBm (i := 3) rfl rfl) (zBm (i := 2) rfl rfl)) gB (.refl _) ⟨_, rfl, hM, rfl⟩ ?_ ?_ ?_
   ·
    intro lp i hi v Bx Xr Xr2 j6 hV hV2 hJ hs K gC
    obtain ⟨M3, rfl, g4, hno⟩ := hJ
    obtain ⟨q, hqe⟩ : ∃ q, q = (plansF r.sets.length (cN : Int) many before noPlan)[i] := ⟨_, rfl⟩
    have hqp := zGn (by omega) (cN : Int) many before noPlan (pok_no r) _ (List.getElem_mem hi)
    have hqi : (plansF r.sets.length (cN : Int) many before noPlan)[i]? = some q := by rw [List.getElem?_eq_getElem hi, hqe]
    rw [← hqe] at hqp hV
    obtain ⟨a, c, rfl, _⟩ := hV
    obtain ⟨x1, x2, x3, x4, hw4⟩ := ways4 hqp.1.wl
    obtain ⟨ql, qw, qc⟩ := q
    have hw5 : qw = [x1, x2, x3, x4] := hw4
    subst hw5
    have hwk := pok_ways hqp.1 (by rw [hqp.2]; simp [noPlan]; omega)
    have hx12 : Ats w0 ((c7, blk 3 [.int .i64 (cN : Int)]) :: (c6, blk 3 [.int .i64 (many : Int)]) :: (c5, blk 3 [.int .i64 before]) :: (c4, blk 88 [.pointer (some ⟨rb, 0, none⟩)]) :: (g3, blk 140 [.func (.func 74) #[] #[.pointer (some ⟨b6,0, none⟩), .pointer (some ⟨b3,0, none⟩), .pointer (some ⟨b9,0, none⟩)]]) :: (b9, blk 3 [.int .i64 want]) :: (b6, blk 28 [.int .i64 now.1, .int .i64 now.2]) :: (b3, blk 88 [.pointer (some ⟨rb, 0, none⟩)]) :: (dfs bs ++ F)) g3 0 [.func (.func 74) #[] #[.pointer (some ⟨b6,0, none⟩), .pointer (some ⟨b3,0, none⟩), .pointer (some ⟨b9,0, none⟩)]] := zBm (i := 4) rfl rfl
    have hx9 : Ats w0 ((c7, blk 3 [.int .i64 (cN : Int)]) :: (c6, blk 3 [.int .i64 (many : Int)]) :: (c5, blk 3 [.int .i64 before]) :: (c4, blk 88 [.pointer (some ⟨rb, 0, none⟩)]) :: (g3, blk 140 [.func (.func 74) #[] #[.pointer (some ⟨b6,0, none⟩), .pointer (some ⟨b3,0, none⟩), .pointer (some ⟨b9,0, none⟩)]]) :: (b9, blk 3 [.int .i64 want]) :: (b6, blk 28 [.int .i64 now.1, .int .i64 now.2]) :: (b3, blk 88 [.pointer (some ⟨rb, 0, none⟩)]) :: (dfs bs ++ F)) b9 0 [.int .i64 want] := zBm (i := 5) rfl rfl
    have hx6 : Ats w0 ((c7, blk 3 [.int .i64 (cN : Int)]) :: (c6, blk 3 [.int .i64 (many : Int)]) :: (c5, blk 3 [.int .i64 before]) :: (c4, blk 88 [.pointer (some ⟨rb, 0, none⟩)]) :: (g3, blk 140 [.func (.func 74) #[] #[.pointer (some ⟨b6,0, none⟩), .pointer (some ⟨b3,0, none⟩), .pointer (some ⟨b9,0, none⟩)]]) :: (b9, blk 3 [.int .i64 want]) :: (b6, blk 28 [.int .i64 now.1, .int .i64 now.2]) :: (b3, blk 88 [.pointer (some ⟨rb, 0, none⟩)]) :: (dfs bs ++ F)) b6 0 [.int .i64 now.1, .int .i64 now.2] := zBm (i := 6) rfl rfl
    have hx5 : Ats w0 ((c7, blk 3 [.int .i64 (cN : Int)]) :: (c6, blk 3 [.int .i64 (many : Int)]) :: (c5, blk 3 [.int .i64 before]) :: (c4, blk 88 [.pointer (some ⟨rb, 0, none⟩)]) :: (g3, blk 140 [.func (.func 74) #[] #[.pointer (some ⟨b6,0, none⟩), .pointer (some ⟨b3,0, none⟩), .pointer (some ⟨b9,0, none⟩)]]) :: (b9, blk 3 [.int .i64 want]) :: (b6, blk 28 [.int .i64 now.1, .int .i64 now.2]) :: (b3, blk 88 [.pointer (some ⟨rb, 0, none⟩)]) :: (dfs bs ++ F)) b3 0 [.pointer (some ⟨rb, 0, none⟩)] := zBm (i := 7) rfl rfl
    replace hs := (show St _ _ (_ :: _ :: (M3 ++ (Xr ++ ((c7, blk 3 [.int .i64 (cN : Int)]) :: (c6, blk 3 [.int .i64 (many : Int)]) :: (c5, blk 3 [.int .i64 before]) :: (c4, blk 88 [.pointer (some ⟨rb, 0, none⟩)]) :: (g3, blk 140 [.func (.func 74) #[] #[.pointer (some ⟨b6,0, none⟩), .pointer (some ⟨b3,0, none⟩), .pointer (some ⟨b9,0, none⟩)]]) :: (b9, blk 3 [.int .i64 want]) :: (b6, blk 28 [.int .i64 now.1, .int .i64 now.2]) :: (b3, blk 88 [.pointer (some ⟨rb, 0, none⟩)]) :: (dfs bs ++ F))))) from hs)
    refine zAa (zA5 (cs := [_,_,_,_,_,_]) zAc zeroValue96 rfl hs (fun j7 j9 gD => ?_))
    refine zBt 0 (.agg #[.slice _ _ _, .int _ _, .int _ _, .int _ _, .int _ _, .int _ _]) [_,_,_,_,_,_] sizeOf96 gD (fun ja gE => ?_)
    refine zAe (zAb (gC _ _ (_ :: _ :: _ :: M3) gE (fun jb g5 => ?_)))
    replace g5 := (show St _ _ (_ :: _ :: _ :: M3 ++ (Xr2 ++ (_ :: _ :: _ :: _ :: _ :: _ :: _ :: _ :: (dfs bs) ++ (F)))) from g5)
    refine zAw ?_
    refine zAf (fun jc gF => (zAa (w_p (zAi isAgg140 g5.tail.tail.tail.drop.drop rfl rfl hx12) rfl (w_p (zAs (vs := [_,_,_,_,_,_]) isAgg96 sizeOf96 g5 rfl rfl (aow 0 [_,_,_,_,_,_])) rfl ?_))))
    refine zA4 zAc call74 rfl rfl rfl rfl (c74 (X := [_,_,_]) (M := M3) (F := Xr2 ++ ((c7, blk 3 [.int .i64 (cN : Int)]) :: (c6, blk 3 [.int .i64 (many : Int)]) :: (c5, blk 3 [.int .i64 before]) :: (c4, blk 88 [.pointer (some ⟨rb, 0, none⟩)]) :: (g3, blk 140 [.func (.func 74) #[] #[.pointer (some ⟨b6,0, none⟩), .pointer (some ⟨b3,0, none⟩), .pointer (some ⟨b9,0, none⟩)]]) :: (b9, blk 3 [.int .i64 want]) :: (b6, blk 28 [.int .i64 now.1, .int .i64 now.2]) :: (b3, blk 88 [.pointer (some ⟨rb, 0, none⟩)]) :: (dfs bs ++ F))) r p rb mm (RK.cons (RK.cons (RK.cons (RK.cons (RK.cons (RK.cons (RK.cons (RK.cons (hk.app))))))))).app now hnow want _ _ _ hx6.app hx5.app hx9.app (⟨ql, [x1, x2, x3, x4], qc⟩ : Plan) a c hwk g4 g5) ?_
    rintro _ jd ⟨rfl, M4, gf, g6⟩
    replace g6 := (show St _ _ (_ :: _ :: _ :: M4 ++ (Xr2 ++ (_ :: _ :: _ :: _ :: _ :: _ :: _ :: _ :: (dfs bs) ++ (F)))) from g6)
    refine zAe (zAb (gF _ _ (zAv rfl rfl (fun gc => ?_) (fun gc => ?_))))
    ·
     try simp only [zS] at gc
     refine zAf (fun je gG => (zAa (w_p (zAs (vs := [_,_,_,_,_,_]) isAgg96 sizeOf96 g6 rfl rfl (aow 0 [_,_,_,_,_,_])) rfl ?_)))
     refine zBt 2 (.agg #[.slice _ _ _, .int _ _, .int _ _, .int _ _, .int _ _, .int _ _]) [_,_,_,_,_,_] sizeOf96 g6 (fun jf gH => ?_)
     refine zBt 1 (.bool _) [_] sizeOf4 gH (fun jg gI => ?_)
     refine zAe (zAb (gG _ _ (zA0 (zAz (rd_ret (_ :: _ :: M4) gI.tail ?_)))))
     exact ⟨rfl, M4, _,_, rfl, gf, rfl, hqi, by rw [hqe]; exact find_hit hi hno (by rw [← hqe]; assumption)⟩
    try simp only [zS] at gc
    refine zAr (zAk (rd_normal (_ :: _ :: M4) g6.tail ?_))
    exact ⟨M4, rfl, gf, find_step hi hno (by rw [← hqe]; assumption)⟩
   ·
    intro bd Bx jh hJ hs
    obtain ⟨M3, rfl, g4, hno⟩ := hJ
    rw [List.take_of_length_le (Nat.le_refl _)] at hno
    replace hs := (show St _ _ (_ :: _ :: _ :: (M3 ++ ((c7, blk 3 [.int .i64 (cN : Int)]) :: (c6, blk 3 [.int .i64 (many : Int)]) :: (c5, blk 3 [.int .i64 before]) :: (c4, blk 88 [.pointer (some ⟨rb, 0, none⟩)]) :: (g3, blk 140 [.func (.func 74) #[] #[.pointer (some ⟨b6,0, none⟩), .pointer (some ⟨b3,0, none⟩), .pointer (some ⟨b9,0, none⟩)]]) :: (b9, blk 3 [.int .i64 want]) :: (b6, blk 28 [.int .i64 now.1, .int .i64 now.2]) :: (b3, blk 88 [.pointer (some ⟨rb, 0, none⟩)]) :: (dfs bs ++ F)))) from hs)
    refine zAk (zAk (zAb (gy _ _ (zAa ?_))))
    have gJ := (show St _ _ (_ :: _ :: _ :: _ :: _ :: _ :: _ :: ((dfs bs) ++ ((M3 ++ (F))))) from St.pk [[_], [_], [_], M3, [_], [_], [_], [_], [_], [_], [_], [_], (dfs bs)] [8,1,2,9,10,11,0,12,3] hs)
    have gK := (show St _ _ (_ :: _ :: _ :: _ :: _ :: _ :: (dfs (bd :: bs) ++ (M3 ++ F))) from gJ)
    refine w_p (zBe rfl rfl rfl rfl (by omega) (by omega)) rfl (zA2 rfl rfl (zAe (zAb (gu _ _ (NxD.intro (bd :: bs) ((min r.opens.toNat many + 1) - (cN + 1)) (by omega) (by repeat (first | exact zD4 | refine zD3 rfl ?_ | refine zD0 rfl ?_ _ | refine agree_mixin rfl ?_)) ?_)))))
    exact ⟨cN + 1, M3, rfl, by omega, rfl, first_none hprev hno, g4, gK⟩
   intro bd c i hi v Y Bx ji hV hJ hs
   obtain ⟨rfl, M3, cs, q, rfl, g4, hvc, hqi, hfq⟩ := hJ
   have hqe : q = (plansF r.sets.length (cN : Int) many before noPlan)[i] := by rw [List.getElem?_eq_getElem hi] at hqi; injection hqi with e; exact e.symm
   have hqp := zGn (by omega) (cN : Int) many before noPlan (pok_no r) _ (List.getElem_mem hi)
   rw [← hqe] at hqp hV
   obtain ⟨a, c, hva, hslY, hnil, hcap⟩ := hV
   obtain ⟨x1, x2, x3, x4, hw4⟩ := ways4 hqp.1.wl
   obtain ⟨ql, qw, qc⟩ := q
   have hw5 : qw = [x1, x2, x3, x4] := hw4
   subst hw5
   have hcs : cs = [.slice a ql.length c, .int .i64 x1, .int .i64 x2, .int .i64 x3, .int .i64 x4, .int .i64 qc] := by
     rw [hvc] at hva; injection hva with e; exact List.toArray_inj e
   subst hcs
   replace hs := (show St _ _ (_ :: (Y ++ (_ :: _ :: (M3 ++ ((c7, blk 3 [.int .i64 (cN : Int)]) :: (c6, blk 3 [.int .i64 (many : Int)]) :: (c5, blk 3 [.int .i64 before]) :: (c4, blk 88 [.pointer (some ⟨rb, 0, none⟩)]) :: (g3, blk 140 [.func (.func 74) #[] #[.pointer (some ⟨b6,0, none⟩), .pointer (some ⟨b3,0, none⟩), .pointer (some ⟨b9,0, none⟩)]]) :: (b9, blk 3 [.int .i64 want]) :: (b6, blk 28 [.int .i64 now.1, .int .i64 now.2]) :: (b3, blk 88 [.pointer (some ⟨rb, 0, none⟩)]) :: (dfs bs ++ F)))))) from hs)
   have gL := (show St _ _ (_ :: ((dfs bs) ++ (_ :: _ :: (Y ++ ((M3 ++ (F))))))) from St.pk [[_], Y, [_], [_], M3, [_], [_], [_], [_], [_], [_], [_], [_], (dfs bs)] [0,13,2,3,1,4] hs)
   have gM := (show St _ _ (dfs (bd :: bs) ++ (_ :: _ :: (Y ++ (M3 ++ F)))) from gL)
   refine zA0 (zAz (zAz (zAh (zAh (zAz (zAh (q_retMM (bs := (bd :: bs)) (l := [.cell 10 96, .cell 11 4]) (vs := [_,_]) gM rfl (fun jj gd => ⟨⟨⟨rfl, _, rfl, zBv (vs := [_,_,_,_,_,_]) isAgg96 sizeOf96 gd (aow 1 [_,_,_,_,_,_])⟩, ⟨rfl, _, rfl, zFi isAgg4 gd (aow 0 [_])⟩, trivial⟩, ?_⟩))))))))
   have gN := (show St _ _ ((Y ++ ((M3 ++ (F))))) from gd.tail.tail)
   exact .inr ⟨(⟨ql, [x1, x2, x3, x4], qc⟩ : Plan), a, c, Y, M3, first_some hprev hfq _ (by omega), rfl, hslY, hnil, hcap, g4, gN⟩
  try simp only [zS] at ga
  refine zBr (zAj (zAj (zAy (zAb (gr _ _ (zAf (fun jk gO => (zAa (w_p (zCh (ps := []) (pv := []) rfl rfl (fun w => Try_QJ_fb2  w)) rfl ?_)))))))))
  refine zBt 2 (.agg #[.slice _ _ _, .int _ _, .int _ _, .int _ _, .int _ _, .int _ _]) [_,_,_,_,_,_] sizeOf96 hs (fun jl gP => ?_)
  refine zBt 1 (.bool _) [_] sizeOf4 gP (fun jm gQ => ?_)
  refine zAe (zAb (gO _ _ (zA0 ?_)))
  have gR := (show St _ _ (((dfs bs) ++ (_ :: _ :: (M ++ (F))))) from St.pk [[_], [_], [_], [_], [_], [_], (dfs bs), M] [6,1,2,7] gQ)
  refine q_retMM (l := [.cell 10 96, .cell 11 4]) (vs := [_,_]) gR rfl (fun jo ge => ⟨⟨⟨rfl, _, rfl, zBv (vs := [_,_,_,_,_,_]) isAgg96 sizeOf96 ge (aow 1 [_,_,_,_,_,_])⟩, ⟨rfl, _, rfl, zFi isAgg4 ge (aow 0 [_])⟩, trivial⟩, ?_⟩)
  have gS := (show St _ _ ((M ++ (F))) from ge.tail.tail)
  have hcl : cN = (min r.opens.toNat many + 1) := by omega
  subst hcl
  exact .inl ⟨hprev, rfl, M, hM, gS⟩

end Go.Proofs.Ro
/- The walking engine, part 21: regions that draw their order, where up to four operations can come: all ways are walked; a state that is reached in several ways is proved once. No conditions. -/
namespace Go.Rt
open Go.RowKit
variable {r : Option Nat} {P : Program} {ops : Array Oper} {K K' : Act → World → Prop} {n : Nat} {ρ : Nat → Value} {ds : List Deferred} {w w0 : World} {L : List (Nat × Obj)}
inductive OF where
  | done (pre : List (Nat × Nat))
  | one (pre : List (Nat × Nat)) (i : Nat) (a : OF)
  | two (pre : List (Nat × Nat)) (i j : Nat) (a b : OF)
  | three (pre : List (Nat × Nat)) (i j k : Nat) (a b c : OF)
  | four (pre : List (Nat × Nat)) (i j k m : Nat) (a b c d : OF)
def OF.len : OF → Nat
  | .done pre => pre.length
  | .one pre _ a => pre.length + (a.len + 1)
  | .two pre _ _ a _ => pre.length + (a.len + 1)
  | .three pre _ _ _ a _ _ => pre.length + (a.len + 1)
  | .four pre _ _ _ _ a _ _ _ => pre.length + (a.len + 1)
end Go.Rt
/- The walking engine, part 30: regions that draw, behind which some blocks are kept from view. No conditions. -/
namespace Go.Rt
open Go.RowKit
variable {r : Option Nat} {P : Program} {n : Nat} {ρ : Nat → Value} {ds : List Deferred} {w w0 : World}
theorem w_drawTD {id : Nat} {l : List Oper} {Q : Exit → Act → World → Prop} {C0 C : World → Prop} (late : List Nat) (T : OT) (hm : P.follows .mixedOrders = true) (hB : drawTOK l.toArray late T = true) (hC : C0 w) (h0 : ∀ w, C0 w → C w)
    (hdrew : ∀ w, C0 w → C0 { w with drawn := w.drawn + 1 }) (h : ∀ w', C0 w' → DT r P l.toArray (fun a w => Q .normal a w) C T (A n ρ ds) w') : WC r P (.region id l.toArray true) Q (A n ρ ds) w := by
  unfold drawTOK at hB
  simp only [Bool.and_eq_true] at hB
  obtain ⟨⟨⟨h1, h2⟩, h3⟩, h4⟩ := hB
  have hst' := hdrew _ hC
  have hsz : T.len = l.toArray.size := Nat.eq_of_beq_eq_true h3
  have := zGd h1 h2 T (Array.replicate l.toArray.size false) (A n ρ ds) _ (by simp) h4 (fun _ => h0 _ hst') (h _ hst')
  have hany := zEb _ _ _ _ this
  rw [hsz] at hany
  refine wpIn_mono (wpIn_region_any hm hany) ?_
  intro e a w hq
  cases e <;> first | exact hq | exact hq.elim
end Go.Rt
set_option maxRecDepth 20000
namespace Go.Proofs.Ro
open Go.Proofs.Tryz
open Go.Rt Go.Rt.Ro
open Go.Rt.Ha (bit listL)
attribute [local irreducible] WL WC Con Yd At Ats Sl Agree DW
theorem Try_QK_fb2 (x0 : Int) (x1 : Int) (x2 : Int) (x3 : Int) (x4 : Int) (x5 : Int) (w : World) : (Instr.buildSlice 30 6 [(0, .int .i64 x0),(1, .int .i64 x1),(2, .int .i64 x2),(3, .int .i64 x3),(4, .int .i64 x4),(5, .int .i64 x5)].toArray).run Tryz.prog w = .ok (.slice (some ⟨w.heap.size, 0, none⟩) 6 6) (w.alloc (Go.Rt.blk 3 [.int .i64 x0, .int .i64 x1, .int .i64 x2, .int .i64 x3, .int .i64 x4, .int .i64 x5])) := by kernel_rfl
theorem before_in {r : Room} (hr : r.Ok) : -1 ≤ beforeR r ∧ beforeR r ≤ 3 := by
  unfold beforeR
  split
  · omega
  · rename_i h
    have h1 : r.ran.length - 1 < r.ran.length := by omega
    rw [ran_at h1]
    have := hr.ran _ (List.getElem_mem h1)
    have := hr.ls
    omega
theorem c9 {w0 w : World} {F : List (Nat × Obj)} (r : Room) (p : AtR) (hm : RIn w0 F r p) (hr : r.Ok) (hlb : lookB r 0 = true) (day want : Int) (hday : (r.ran.length : Int) ≤ day ∧ day ≤ r.days) (hwant : 1 ≤ want ∧ want ≤ 7) (hs : St w0 w F) :
  Con Tryz.prog 9 [.agg (r.cells p).toArray, .int .i64 day, .int .i64 want] w fun v w' => (planO r day want = none ∧ v = .tuple #[.slice none 0 0, .int .i64 0, .int .i64 9] ∧ St w0 w' F) ∨ ∃ q a c Y, planO r day want = some q ∧ v = .tuple #[.slice a q.l.length c, .int .i64 q.ch, .int .i64 0] ∧ Sl w0 Y a 1 (q.l.map fun x => [Value.int .i64 x]) ∧ (a = none → c = 0) ∧ q.l.length ≤ c ∧ St w0 w' (Y ++ F) := by
  refine zAo (n := 54) func9 rfl rfl (zNl rfl) ?_
  have hdy := hr.days
  have hlr := hr.lr
  have hll := hr.ll
  have hn6 : r.ran.length ≤ 6 := by omega
  have hls := hr.ls
  have hst := hr.start
  refine zAf (fun K2 gF => (zAa (zCd (v := .agg #[.int _ _, .int _ _, .int _ _, .slice _ _ _, .int _ _, .slice _ _ _, .slice _ _ _]) (cs := [_,_,_,_,_,_,_]) zAc rfl rfl rfl hs (fun b3 w4 gG => ?_))))
  refine zA9 rfl rfl (zA9 rfl rfl (zA9 rfl rfl (zAe (zAb (gF _ _ (zAf (fun K7 gH => (zCc [] [(0,1),(1,0),(2,0),(3,1),(4,0),(5,0),(6,1),(7,0),(8,2),(9,2),(10,2),(11,0),(12,0),(13,0),(14,0),(15,0)] zB7 (zBs (by kernel_rfl)) gG (fun w8 ga => ?_)))))))))
  refine zA3 rfl zAc rfl ga (fun _ hq => (zAs (vs := [_,_,_,_,_,_,_]) isAgg33 sizeOf33 hq rfl rfl (aow 0 [_,_,_,_,_,_,_]))) ?_
  refine d_w rfl (fun _ => zAu rfl rfl) rfl (d_w rfl (fun _ => zAd (o := 5) (i := 4) underlying33 rfl sizeOf30 rfl rfl rfl) rfl ?_)
  refine zA3 rfl zAc rfl ga (fun _ hq => (zAi isAgg30 hq rfl rfl (aow 0 [_]))) ?_
  refine d_w rfl (fun _ => zBd underlying30 rfl rfl) rfl (d_w rfl (fun _ => zAd (o := 0) (i := 0) underlying33 rfl sizeOf3 rfl rfl rfl) rfl ?_)
  refine zA3 rfl zAc rfl ga (fun _ hq => (zAi isAgg3 hq rfl rfl (aow 0 [_]))) ?_
  refine d_w rfl (fun _ => zAu rfl rfl) rfl ?_
  refine zB0 rfl ?_
  refine zBc (ps := [(0, _),(1, _),(2, _),(3, _),(4, _),(5, _)]) (pv := [(0, .int _ _),(1, .int _ _),(2, .int _ _),(3, .int _ _),(4, .int _ _),(5, .int _ _)]) (cs := [_,_,_,_,_,_]) zAc rfl rfl (fun w => Try_QK_fb2 _ _ _ _ _ _ w) ga (fun jJ jK gq => ?_)
  refine zAe (qn ⟨gq.tail, ?_⟩)
  refine zB0 rfl ?_
  refine zA4 zAc call41 rfl rfl rfl rfl (c41 _ _ _ gq) ?_
  rintro _ jL ⟨bwi, rfl, gb⟩
  replace gb := (show St _ _ (_ :: _ :: _ :: F) from gb)
  refine zAe (qn ⟨gb.tail.tail, ?_⟩)
  refine zB0 rfl ?_
  refine zA4 zAc call40 rfl rfl rfl rfl (c40y r p hm.cons.cons.cons hr (.func (.func 73) #[] #[.pointer (some ⟨bwi, 0, none⟩)]) (fun X w hs => zDs call73 (c73 bwi _ _ [_,_,_,_,_,_] (fun q hq => by have : q = 0 ∨ q = 1 := (by simp at hq; omega); rcases this with rfl | rfl; (show (r.ran.length : Int) ≤ day ∧ day ≤ r.days; omega); (show (1 : Int) ≤ want ∧ want ≤ 7; omega)) (by simp) (Ats.app (aow 0 [_])) (Sl.app (zBx (i := 1) (rows := [[_], [_], [_], [_], [_], [_]]) rfl (by simp) rfl)) hs)) hlb gb) ?_
  rintro _ jM ⟨rb, mm, rfl, gc⟩
  replace gc := (show St _ _ (_ :: _ :: _ :: _ :: _ :: F) from gc)
  refine zAe (qn ⟨gc.tail.tail.tail.tail, ?_⟩)
  refine d_w rfl (fun _ => zA6 rfl rfl) rfl (d_w rfl (fun _ => zBy rfl rfl rfl) rfl (d_w rfl (fun _ => zAq rfl rfl rfl) rfl (d_w rfl (fun _ => zBu rfl rfl) rfl (d_w rfl (fun _ => zC3 rfl rfl) rfl ?_))))
  refine zB5 ?_
  refine zAb (gH _ _ (zAf (fun jN gI => (zAf (fun jO gJ => (zAa (zA2 rfl rfl (w_p (zCj rfl rfl rfl rfl) rfl (zAe (zAb (gJ _ _ (zBj rfl rfl ?_))))))))))))
  refine zAr (zAb (gI _ _ (zAf (fun jP g3 => ?_))))
  have ge := (show St _ _ (_ :: _ :: _ :: F) from St.pk [[_], [_], [_], [_], [_]] [1,0,4] gc)
  obtain ⟨many, hmn⟩ : ∃ many : Nat, day - (r.ran.length : Int) = (many : Int) := ⟨(day - (r.ran.length : Int)).toNat, by omega⟩
  have htd := today_in hr hlb
  have hbi := before_in hr
  have hPd := rc_at (i := 0) ge.tail rfl (zHa 0) (show r.ran.length < 7 by omega) rfl
  have hrbA := rc_room (i := 0) ge.tail rfl
  refine w_drawTD (C0 := fun w => St w0 w _) (C := fun w => St w0 w _) [20] (.two [(0,0),(1,0),(2,0),(4,0),(5,0),(8,0),(10,0),(11,0),(14,0)] 3 19 (.two [(6,0),(7,1)] 9 19 (.two [] 12 19 (.two [(13,0)] 15 19 (.done [(16,0),(17,0),(18,0),(19,2),(20,3),(21,0)]) (.done [(15,2),(16,0),(17,0),(18,0),(20,3),(21,0)])) (.done [(12,2),(13,0),(15,2),(16,0),(17,0),(18,0),(20,3),(21,0)])) (.done [(9,2),(12,2),(13,0),(15,2),(16,0),(17,0),(18,0),(20,3),(21,0)])) (.done [(3,2),(6,0),(7,1),(9,2),(12,2),(13,0),(15,2),(16,0),(17,0),(18,0),(20,3),(21,0)])) zB7 (by kernel_rfl) ge (fun _ h => h.tail) (fun _ h => h.drew) (fun jQ gr => ?_)
  refine zEu ?_
  refine d_w rfl (fun _ => zBi rfl rfl) rfl (d_w rfl (fun _ => zBi rfl rfl) rfl (d_w rfl (fun _ => zBi rfl rfl) rfl (d_w rfl (fun _ => zBl rfl rfl) rfl (d_w rfl (fun _ => zAd (o := 7) (i := 1) underlying103 rfl sizeOf100 rfl rfl rfl) rfl (d_w rfl (fun _ => zBi rfl rfl) rfl (d_w rfl (fun _ => zAu rfl rfl) rfl ?_))))))
  refine d_w rfl (fun _ => zBi rfl rfl) rfl (d_w rfl (fun _ => zAu rfl rfl) rfl ?_)
  refine zGy rfl rfl ?_ ?_
  ·
   refine zCi zAc call43 rfl rfl rfl rfl (c43 r p rb hrbA.cons gr) (fun jR gd => ?_)
   refine zAe (qn ⟨gd.tail, ?_⟩)
   refine zEu ?_
   refine d_w rfl (fun _ => zBn underlying100 sizeOf28 rfl rfl rfl rfl (i := _) rfl (by omega)) rfl ?_
   refine zA3 rfl zAc rfl gd.tail (fun _ hq => (zAs (vs := [_,_]) isAgg28 sizeOf28 hq rfl rfl hPd)) ?_
   refine zGy rfl rfl ?_ ?_
   ·
    refine zCi zAc call44 rfl rfl rfl rfl (c44 r p hm.cons.cons.cons hr rb hrbA.cons gd) (fun jS gf => ?_)
    refine zAe (qn ⟨gf.tail, ?_⟩)
    refine zEu ?_
    refine zGy rfl rfl ?_ ?_
    ·
     refine zCi zAc call43 rfl rfl rfl rfl (c43 r p rb hrbA.cons gf) (fun jT gg => ?_)
     refine zAe (qn ⟨gg.tail, ?_⟩)
     refine zEu ?_
     refine d_w rfl (fun _ => zCt (z' := ((many : Nat) : Int)) hmn (zDk rfl rfl rfl rfl (by omega) (by omega))) rfl ?_
     refine zGy rfl rfl ?_ ?_
     ·
      refine zA4 zAc call42 rfl rfl rfl rfl (c42 (M := [_]) r p rb mm (rk_new (t := 103) hm.cons hr hlb) (today r) (by omega) (beforeR r) hbi many (by omega) want (zEl r mm) gg) ?_
      rintro _ jU (⟨hfn, rfl, M2, g4, g5⟩ | ⟨q, a, c, Y, M2, hfn, rfl, hslY, hnil, hcap, g4, g5⟩)
      ·
       replace g5 := (show St _ _ (M2 ++ (_ :: _ :: F)) from g5)
       refine zAe (qn ⟨g5.drop, ?_⟩)
       refine zC8 ?_
       refine d_w rfl (fun _ => zA6 rfl rfl) rfl (d_w rfl (fun _ => zBp (v := .agg _) rfl rfl rfl) rfl (d_w rfl (fun _ => zBf rfl rfl rfl) rfl ?_))
       refine zB0 rfl ?_
       refine zA5 (cs := [_,_,_,_,_,_]) zAc zeroValue96 rfl g5 (fun jV jW gt => ?_)
       refine zAe (qn ⟨gt.tail.drop, ?_⟩)
       refine zCa rfl ?_
       refine zBt 0 (.agg #[.slice _ _ _, .int _ _, .int _ _, .int _ _, .int _ _, .int _ _]) [_,_,_,_,_,_] sizeOf96 gt (fun jX gK => ?_)
       refine zAe (qn ?_)
       refine d_w rfl (fun _ => zAl rfl rfl) rfl ?_
       refine zB5 ?_
       refine zAb (g3 _ _ (zAf (fun jY jZ => (zAf (fun k4 gL => ?_)))))
       have gM := (show St _ _ (_ :: _ :: _ :: (M2 ++ (F))) from St.pk [[_], M2, [_], [_]] [0,2,3,1] gK)
       refine zAa (w_p (zAn rfl rfl) rfl (w_p (zC0 rfl rfl) rfl (zAe (zAb (gL _ _ (zBz rfl rfl ?_))))))
       refine zAf (fun k5 gN => (zAa (zA9 rfl rfl (zA9 rfl rfl (zA9 rfl rfl (zAe (zAb (gN _ _ (zA0 (zAh (zA1 (l := [.tmp 6, .tmp 7, .tmp 8]) (vs := [_,_,_]) rfl ⟨⟨rfl, show _ = (.slice _ _ _ : Value) from rfl⟩, ⟨rfl, (rfl : _ = Value.int _ _)⟩, ⟨rfl, (rfl : _ = Value.int _ _)⟩, trivial⟩ ?_)))))))))))
       exact .inl ⟨by unfold planO; rw [hmn]; exact hfn, rfl, gM.tail.tail.tail.drop⟩
      replace g5 := (show St _ _ (Y ++ (M2 ++ (_ :: _ :: F))) from g5)
      have hqp := first_pok (by omega) _ hfn
      obtain ⟨x1, x2, x3, x4, hw4⟩ := ways4 hqp.1.wl
      obtain ⟨ql, qw, qc⟩ := q
      have hw5 : qw = [x1, x2, x3, x4] := hw4
      subst hw5
      refine zAe (qn ⟨g5.drop.drop, ?_⟩)
      refine zC8 ?_
      refine d_w rfl (fun _ => zA6 rfl rfl) rfl (d_w rfl (fun _ => zBp (v := .agg _) rfl rfl rfl) rfl (d_w rfl (fun _ => zBf rfl rfl rfl) rfl ?_))
      refine zB0 rfl ?_
      refine zA5 (cs := [_,_,_,_,_,_]) zAc zeroValue96 rfl g5 (fun k6 k7 gu => ?_)
      refine zAe (qn ⟨gu.tail.drop.drop, ?_⟩)
      refine zCa rfl ?_
      refine zBt 0 (.agg #[.slice _ _ _, .int _ _, .int _ _, .int _ _, .int _ _, .int _ _]) [_,_,_,_,_,_] sizeOf96 gu (fun k8 gO => ?_)
      refine zAe (qn ?_)
      refine d_w rfl (fun _ => zAl rfl rfl) rfl ?_
      refine zB5 ?_
      refine zAb (g3 _ _ (zAf (fun k9 gP => (zAf (fun ka gQ => ?_)))))
      have gR := (show St _ _ (_ :: _ :: _ :: (Y ++ ((M2 ++ (F))))) from St.pk [[_], Y, M2, [_], [_]] [0,3,4,1,2] gO)
      refine zAa (w_p (zAn rfl rfl) rfl (w_p (zC0 rfl rfl) rfl (zAe (zAb (gQ _ _ (zBj rfl rfl ?_))))))
      refine zAr (zAb (gP _ _ (zAf (fun kb gS => (zCc [] [(0,0),(1,1),(2,0),(3,1),(4,0),(5,0),(6,0)] zB7 (zBs (by kernel_rfl)) gR (fun kc gh => ?_))))))
      refine d_w rfl (fun _ => zAd (o := 0) (i := 0) underlying96 rfl sizeOf30 rfl rfl rfl) rfl ?_
      refine zA3 rfl zAc rfl gh (fun _ hq => (zAi isAgg30 hq rfl rfl (aow 0 [_]))) ?_
      refine d_w rfl (fun _ => zAd (o := 5) (i := 2) underlying96 rfl sizeOf3 rfl rfl rfl) rfl ?_
      refine zA3 rfl zAc rfl gh (fun _ hq => (zAi isAgg3 hq rfl rfl (aow 0 [_]))) ?_
      refine d_w rfl (fun _ => zBh rfl rfl) rfl (d_w rfl (fun _ => zC3 rfl rfl) rfl (d_w rfl (fun _ => zB9 (v := _) rfl rfl) rfl ?_))
      refine zB5 ?_
      refine zAb (gS _ _ (zA0 (zA1 (l := [.tmp 6, .tmp 7, .tmp 8]) (vs := [_,_,_]) rfl ⟨⟨rfl, show _ = (.slice _ _ _ : Value) from rfl⟩, ⟨rfl, (rfl : _ = Value.int _ _)⟩, ⟨rfl, (rfl : _ = Value.int _ _)⟩, trivial⟩ ?_)))
      have gT := (show St _ _ ((Y ++ (F))) from St.pk [[_], [_], [_], Y, M2] [3] gh)
      exact .inr ⟨_, a, c, Y, by unfold planO; rw [hmn]; exact hfn, rfl, hslY, hnil, hcap, gT⟩
     refine zA5 (cs := [_,_,_,_,_,_]) zAc zeroValue96 rfl gg (fun kd ke gw => ?_)
     refine zAe (qn ⟨gw.tail.tail, ?_⟩)
     refine zC8 ?_
     have gU := (show St _ _ (_ :: _ :: _ :: _ :: F) from St.pk [[_], [_], [_], [_]] [1,0,2,3] gw)
     refine zB0 rfl ?_
     refine zA4 zAc call42 rfl rfl rfl rfl (c42 (M := [_]) r p rb mm (rk_new (t := 103) hm.cons hr hlb).cons (today r) (by omega) (beforeR r) hbi many (by omega) want (zEl r mm) gU) ?_
     rintro _ kf (⟨hfn, rfl, M2, g4, g6⟩ | ⟨q, a, c, Y, M2, hfn, rfl, hslY, hnil, hcap, g4, g6⟩)
     ·
      replace g6 := (show St _ _ (M2 ++ (_ :: _ :: _ :: F)) from g6)
      refine zAe (qn ⟨g6.drop.tail, ?_⟩)
      refine d_w rfl (fun _ => zA6 rfl rfl) rfl (d_w rfl (fun _ => zBp (v := .agg _) rfl rfl rfl) rfl (d_w rfl (fun _ => zBf rfl rfl rfl) rfl ?_))
      have gV := (show St _ _ (_ :: (M2 ++ (_ :: _ :: F))) from St.pk [M2, [_], [_], [_]] [1,0,2,3] g6)
      refine zCa rfl ?_
      refine zBt 0 (.agg #[.slice _ _ _, .int _ _, .int _ _, .int _ _, .int _ _, .int _ _]) [_,_,_,_,_,_] sizeOf96 gV (fun kg gW => ?_)
      refine zAe (qn ?_)
      refine d_w rfl (fun _ => zAl rfl rfl) rfl ?_
      refine zB5 ?_
      refine zAb (g3 _ _ (zAf (fun kh ki => (zAf (fun kj gX => ?_)))))
      have gY := (show St _ _ (_ :: _ :: _ :: (M2 ++ (F))) from St.pk [[_], M2, [_], [_]] [0,2,3,1] gW)
      refine zAa (w_p (zAn rfl rfl) rfl (w_p (zC0 rfl rfl) rfl (zAe (zAb (gX _ _ (zBz rfl rfl ?_))))))
      refine zAf (fun km gZ => (zAa (zA9 rfl rfl (zA9 rfl rfl (zA9 rfl rfl (zAe (zAb (gZ _ _ (zA0 (zAh (zA1 (l := [.tmp 6, .tmp 7, .tmp 8]) (vs := [_,_,_]) rfl ⟨⟨rfl, show _ = (.slice _ _ _ : Value) from rfl⟩, ⟨rfl, (rfl : _ = Value.int _ _)⟩, ⟨rfl, (rfl : _ = Value.int _ _)⟩, trivial⟩ ?_)))))))))))
      exact .inl ⟨by unfold planO; rw [hmn]; exact hfn, rfl, gY.tail.tail.tail.drop⟩
     replace g6 := (show St _ _ (Y ++ (M2 ++ (_ :: _ :: _ :: F))) from g6)
     have hqp := first_pok (by omega) _ hfn
     obtain ⟨x1, x2, x3, x4, hw4⟩ := ways4 hqp.1.wl
     obtain ⟨ql, qw, qc⟩ := q
     have hw5 : qw = [x1, x2, x3, x4] := hw4
     subst hw5
     refine zAe (qn ⟨g6.drop.drop.tail, ?_⟩)
     refine d_w rfl (fun _ => zA6 rfl rfl) rfl (d_w rfl (fun _ => zBp (v := .agg _) rfl rfl rfl) rfl (d_w rfl (fun _ => zBf rfl rfl rfl) rfl ?_))
     have hG := (show St _ _ (_ :: (Y ++ ((M2 ++ (_ :: _ :: F))))) from St.pk [Y, M2, [_], [_], [_]] [2,0,1,3,4] g6)
     refine zCa rfl ?_
     refine zBt 0 (.agg #[.slice _ _ _, .int _ _, .int _ _, .int _ _, .int _ _, .int _ _]) [_,_,_,_,_,_] sizeOf96 hG (fun kn hH => ?_)
     refine zAe (qn ?_)
     refine d_w rfl (fun _ => zAl rfl rfl) rfl ?_
     refine zB5 ?_
     refine zAb (g3 _ _ (zAf (fun ko hO => (zAf (fun kp hY => ?_)))))
     have j0 := (show St _ _ (_ :: _ :: _ :: (Y ++ ((M2 ++ (F))))) from St.pk [[_], Y, M2, [_], [_]] [0,3,4,1,2] hH)
     refine zAa (w_p (zAn rfl rfl) rfl (w_p (zC0 rfl rfl) rfl (zAe (zAb (hY _ _ (zBj rfl rfl ?_))))))
     refine zAr (zAb (hO _ _ (zAf (fun kr j1 => (zCc [] [(0,0),(1,1),(2,0),(3,1),(4,0),(5,0),(6,0)] zB7 (zBs (by kernel_rfl)) j0 (fun ku gi => ?_))))))
     refine d_w rfl (fun _ => zAd (o := 0) (i := 0) underlying96 rfl sizeOf30 rfl rfl rfl) rfl ?_
     refine zA3 rfl zAc rfl gi (fun _ hq => (zAi isAgg30 hq rfl rfl (aow 0 [_]))) ?_
     refine d_w rfl (fun _ => zAd (o := 5) (i := 2) underlying96 rfl sizeOf3 rfl rfl rfl) rfl ?_
     refine zA3 rfl zAc rfl gi (fun _ hq => (zAi isAgg3 hq rfl rfl (aow 0 [_]))) ?_
     refine d_w rfl (fun _ => zBh rfl rfl) rfl (d_w rfl (fun _ => zC3 rfl rfl) rfl (d_w rfl (fun _ => zB9 (v := _) rfl rfl) rfl ?_))
     refine zB5 ?_
     refine zAb (j1 _ _ (zA0 (zA1 (l := [.tmp 6, .tmp 7, .tmp 8]) (vs := [_,_,_]) rfl ⟨⟨rfl, show _ = (.slice _ _ _ : Value) from rfl⟩, ⟨rfl, (rfl : _ = Value.int _ _)⟩, ⟨rfl, (rfl : _ = Value.int _ _)⟩, trivial⟩ ?_)))
     have j3 := (show St _ _ ((Y ++ (F))) from St.pk [[_], [_], [_], Y, M2] [3] gi)
     exact .inr ⟨_, a, c, Y, by unfold planO; rw [hmn]; exact hfn, rfl, hslY, hnil, hcap, j3⟩
    refine zA5 (cs := [_,_,_,_,_,_]) zAc zeroValue96 rfl gf (fun kw kx gx => ?_)
    refine zAe (qn ⟨gx.tail.tail, ?_⟩)
    refine zC8 ?_
    refine zB0 rfl ?_
    refine zCi zAc call43 rfl rfl rfl rfl (c43 r p rb hrbA.cons.cons gx) (fun ky gy => ?_)
    refine zAe (qn ⟨gy.tail.tail, ?_⟩)
    refine d_w rfl (fun _ => zCt (z' := ((many : Nat) : Int)) hmn (zDk rfl rfl rfl rfl (by omega) (by omega))) rfl ?_
    have j4 := (show St _ _ (_ :: _ :: _ :: _ :: F) from St.pk [[_], [_], [_], [_]] [1,0,2,3] gy)
    refine zB0 rfl ?_
    refine zA4 zAc call42 rfl rfl rfl rfl (c42 (M := [_]) r p rb mm (rk_new (t := 103) hm.cons hr hlb).cons (today r) (by omega) (beforeR r) hbi many (by omega) want (zEl r mm) j4) ?_
    rintro _ kz (⟨hfn, rfl, M2, g4, g7⟩ | ⟨q, a, c, Y, M2, hfn, rfl, hslY, hnil, hcap, g4, g7⟩)
    ·
     replace g7 := (show St _ _ (M2 ++ (_ :: _ :: _ :: F)) from g7)
     refine zAe (qn ⟨g7.drop.tail, ?_⟩)
     refine d_w rfl (fun _ => zA6 rfl rfl) rfl (d_w rfl (fun _ => zBp (v := .agg _) rfl rfl rfl) rfl (d_w rfl (fun _ => zBf rfl rfl rfl) rfl ?_))
     have j5 := (show St _ _ (_ :: (M2 ++ (_ :: _ :: F))) from St.pk [M2, [_], [_], [_]] [1,0,2,3] g7)
     refine zCa rfl ?_
     refine zBt 0 (.agg #[.slice _ _ _, .int _ _, .int _ _, .int _ _, .int _ _, .int _ _]) [_,_,_,_,_,_] sizeOf96 j5 (fun kA j6 => ?_)
     refine zAe (qn ?_)
     refine d_w rfl (fun _ => zAl rfl rfl) rfl ?_
     refine zB5 ?_
     refine zAb (g3 _ _ (zAf (fun kB kC => (zAf (fun kD j7 => ?_)))))
     have j9 := (show St _ _ (_ :: _ :: _ :: (M2 ++ (F))) from St.pk [[_], M2, [_], [_]] [0,2,3,1] j6)
     refine zAa (w_p (zAn rfl rfl) rfl (w_p (zC0 rfl rfl) rfl (zAe (zAb (j7 _ _ (zBz rfl rfl ?_))))))
     refine zAf (fun kE ja => (zAa (zA9 rfl rfl (zA9 rfl rfl (zA9 rfl rfl (zAe (zAb (ja _ _ (zA0 (zAh (zA1 (l := [.tmp 6, .tmp 7, .tmp 8]) (vs := [_,_,_]) rfl ⟨⟨rfl, show _ = (.slice _ _ _ : Value) from rfl⟩, ⟨rfl, (rfl : _ = Value.int _ _)⟩, ⟨rfl, (rfl : _ = Value.int _ _)⟩, trivial⟩ ?_)))))))))))
     exact .inl ⟨by unfold planO; rw [hmn]; exact hfn, rfl, j9.tail.tail.tail.drop⟩
    replace g7 := (show St _ _ (Y ++ (M2 ++ (_ :: _ :: _ :: F))) from g7)
    have hqp := first_pok (by omega) _ hfn
    obtain ⟨x1, x2, x3, x4, hw4⟩ := ways4 hqp.1.wl
    obtain ⟨ql, qw, qc⟩ := q
    have hw5 : qw = [x1, x2, x3, x4] := hw4
    subst hw5
    refine zAe (qn ⟨g7.drop.drop.tail, ?_⟩)
    refine d_w rfl (fun _ => zA6 rfl rfl) rfl (d_w rfl (fun _ => zBp (v := .agg _) rfl rfl rfl) rfl (d_w rfl (fun _ => zBf rfl rfl rfl) rfl ?_))
    have jb := (show St _ _ (_ :: (Y ++ ((M2 ++ (_ :: _ :: F))))) from St.pk [Y, M2, [_], [_], [_]] [2,0,1,3,4] g7)
    refine zCa rfl ?_
    refine zBt 0 (.agg #[.slice _ _ _, .int _ _, .int _ _, .int _ _, .int _ _, .int _ _]) [_,_,_,_,_,_] sizeOf96 jb (fun kF jc => ?_)
    refine zAe (qn ?_)
    refine d_w rfl (fun _ => zAl rfl rfl) rfl ?_
    refine zB5 ?_
    refine zAb (g3 _ _ (zAf (fun kG jd => (zAf (fun kH je => ?_)))))
    have jf := (show St _ _ (_ :: _ :: _ :: (Y ++ ((M2 ++ (F))))) from St.pk [[_], Y, M2, [_], [_]] [0,3,4,1,2] jc)
    refine zAa (w_p (zAn rfl rfl) rfl (w_p (zC0 rfl rfl) rfl (zAe (zAb (je _ _ (zBj rfl rfl ?_))))))
    refine zAr (zAb (jd _ _ (zAf (fun kI jg => (zCc [] [(0,0),(1,1),(2,0),(3,1),(4,0),(5,0),(6,0)] zB7 (zBs (by kernel_rfl)) jf (fun kJ gj => ?_))))))
    refine d_w rfl (fun _ => zAd (o := 0) (i := 0) underlying96 rfl sizeOf30 rfl rfl rfl) rfl ?_
    refine zA3 rfl zAc rfl gj (fun _ hq => (zAi isAgg30 hq rfl rfl (aow 0 [_]))) ?_
    refine d_w rfl (fun _ => zAd (o := 5) (i := 2) underlying96 rfl sizeOf3 rfl rfl rfl) rfl ?_
    refine zA3 rfl zAc rfl gj (fun _ hq => (zAi isAgg3 hq rfl rfl (aow 0 [_]))) ?_
    refine d_w rfl (fun _ => zBh rfl rfl) rfl (d_w rfl (fun _ => zC3 rfl rfl) rfl (d_w rfl (fun _ => zB9 (v := _) rfl rfl) rfl ?_))
    refine zB5 ?_
    refine zAb (jg _ _ (zA0 (zA1 (l := [.tmp 6, .tmp 7, .tmp 8]) (vs := [_,_,_]) rfl ⟨⟨rfl, show _ = (.slice _ _ _ : Value) from rfl⟩, ⟨rfl, (rfl : _ = Value.int _ _)⟩, ⟨rfl, (rfl : _ = Value.int _ _)⟩, trivial⟩ ?_)))
    have jh := (show St _ _ ((Y ++ (F))) from St.pk [[_], [_], [_], Y, M2] [3] gj)
    exact .inr ⟨_, a, c, Y, by unfold planO; rw [hmn]; exact hfn, rfl, hslY, hnil, hcap, jh⟩
   refine zA5 (cs := [_,_,_,_,_,_]) zAc zeroValue96 rfl gd (fun kK kL gz => ?_)
   refine zAe (qn ⟨gz.tail.tail, ?_⟩)
   refine zC8 ?_
   refine zB0 rfl ?_
   refine zCi zAc call44 rfl rfl rfl rfl (c44 r p hm.cons.cons.cons.cons hr rb hrbA.cons.cons gz) (fun kM gA => ?_)
   refine zAe (qn ⟨gA.tail.tail, ?_⟩)
   refine zB0 rfl ?_
   refine zCi zAc call43 rfl rfl rfl rfl (c43 r p rb hrbA.cons.cons gA) (fun kN gB => ?_)
   refine zAe (qn ⟨gB.tail.tail, ?_⟩)
   refine d_w rfl (fun _ => zCt (z' := ((many : Nat) : Int)) hmn (zDk rfl rfl rfl rfl (by omega) (by omega))) rfl ?_
   have ji := (show St _ _ (_ :: _ :: _ :: _ :: F) from St.pk [[_], [_], [_], [_]] [1,0,2,3] gB)
   refine zB0 rfl ?_
   refine zA4 zAc call42 rfl rfl rfl rfl (c42 (M := [_]) r p rb mm (rk_new (t := 103) hm.cons hr hlb).cons (today r) (by omega) (beforeR r) hbi many (by omega) want (zEl r mm) ji) ?_
   rintro _ kO (⟨hfn, rfl, M2, g4, g8⟩ | ⟨q, a, c, Y, M2, hfn, rfl, hslY, hnil, hcap, g4, g8⟩)
   ·
    replace g8 := (show St _ _ (M2 ++ (_ :: _ :: _ :: F)) from g8)
    refine zAe (qn ⟨g8.drop.tail, ?_⟩)
    refine d_w rfl (fun _ => zA6 rfl rfl) rfl (d_w rfl (fun _ => zBp (v := .agg _) rfl rfl rfl) rfl (d_w rfl (fun _ => zBf rfl rfl rfl) rfl ?_))
    have jj := (show St _ _ (_ :: (M2 ++ (_ :: _ :: F))) from St.pk [M2, [_], [_], [_]] [1,0,2,3] g8)
    refine zCa rfl ?_
    refine zBt 0 (.agg #[.slice _ _ _, .int _ _, .int _ _, .int _ _, .int _ _, .int _ _]) [_,_,_,_,_,_] sizeOf96 jj (fun kP jk => ?_)
    refine zAe (qn ?_)
    refine d_w rfl (fun _ => zAl rfl rfl) rfl ?_
    refine zB5 ?_
    refine zAb (g3 _ _ (zAf (fun kQ kR => (zAf (fun kS jl => ?_)))))
    have jm := (show St _ _ (_ :: _ :: _ :: (M2 ++ (F))) from St.pk [[_], M2, [_], [_]] [0,2,3,1] jk)
    refine zAa (w_p (zAn rfl rfl) rfl (w_p (zC0 rfl rfl) rfl (zAe (zAb (jl _ _ (zBz rfl rfl ?_))))))
    refine zAf (fun kT jo => (zAa (zA9 rfl rfl (zA9 rfl rfl (zA9 rfl rfl (zAe (zAb (jo _ _ (zA0 (zAh (zA1 (l := [.tmp 6, .tmp 7, .tmp 8]) (vs := [_,_,_]) rfl ⟨⟨rfl, show _ = (.slice _ _ _ : Value) from rfl⟩, ⟨rfl, (rfl : _ = Value.int _ _)⟩, ⟨rfl, (rfl : _ = Value.int _ _)⟩, trivial⟩ ?_)))))))))))
    exact .inl ⟨by unfold planO; rw [hmn]; exact hfn, rfl, jm.tail.tail.tail.drop⟩
   replace g8 := (show St _ _ (Y ++ (M2 ++ (_ :: _ :: _ :: F))) from g8)
   have hqp := first_pok (by omega) _ hfn
   obtain ⟨x1, x2, x3, x4, hw4⟩ := ways4 hqp.1.wl
   obtain ⟨ql, qw, qc⟩ := q
   have hw5 : qw = [x1, x2, x3, x4] := hw4
   subst hw5
   refine zAe (qn ⟨g8.drop.drop.tail, ?_⟩)
   refine d_w rfl (fun _ => zA6 rfl rfl) rfl (d_w rfl (fun _ => zBp (v := .agg _) rfl rfl rfl) rfl (d_w rfl (fun _ => zBf rfl rfl rfl) rfl ?_))
   have jp := (show St _ _ (_ :: (Y ++ ((M2 ++ (_ :: _ :: F))))) from St.pk [Y, M2, [_], [_], [_]] [2,0,1,3,4] g8)
   refine zCa rfl ?_
   refine zBt 0 (.agg #[.slice _ _ _, .int _ _, .int _ _, .int _ _, .int _ _, .int _ _]) [_,_,_,_,_,_] sizeOf96 jp (fun kU jq => ?_)
   refine zAe (qn ?_)
   refine d_w rfl (fun _ => zAl rfl rfl) rfl ?_
   refine zB5 ?_
   refine zAb (g3 _ _ (zAf (fun kV jr => (zAf (fun kW js => ?_)))))
   have jt := (show St _ _ (_ :: _ :: _ :: (Y ++ ((M2 ++ (F))))) from St.pk [[_], Y, M2, [_], [_]] [0,3,4,1,2] jq)
   refine zAa (w_p (zAn rfl rfl) rfl (w_p (zC0 rfl rfl) rfl (zAe (zAb (js _ _ (zBj rfl rfl ?_))))))
   refine zAr (zAb (jr _ _ (zAf (fun kX ju => (zCc [] [(0,0),(1,1),(2,0),(3,1),(4,0),(5,0),(6,0)] zB7 (zBs (by kernel_rfl)) jt (fun kY gk => ?_))))))
   refine d_w rfl (fun _ => zAd (o := 0) (i := 0) underlying96 rfl sizeOf30 rfl rfl rfl) rfl ?_
   refine zA3 rfl zAc rfl gk (fun _ hq => (zAi isAgg30 hq rfl rfl (aow 0 [_]))) ?_
   refine d_w rfl (fun _ => zAd (o := 5) (i := 2) underlying96 rfl sizeOf3 rfl rfl rfl) rfl ?_
   refine zA3 rfl zAc rfl gk (fun _ hq => (zAi isAgg3 hq rfl rfl (aow 0 [_]))) ?_
   refine d_w rfl (fun _ => zBh rfl rfl) rfl (d_w rfl (fun _ => zC3 rfl rfl) rfl (d_w rfl (fun _ => zB9 (v := _) rfl rfl) rfl ?_))
   refine zB5 ?_
   refine zAb (ju _ _ (zA0 (zA1 (l := [.tmp 6, .tmp 7, .tmp 8]) (vs := [_,_,_]) rfl ⟨⟨rfl, show _ = (.slice _ _ _ : Value) from rfl⟩, ⟨rfl, (rfl : _ = Value.int _ _)⟩, ⟨rfl, (rfl : _ = Value.int _ _)⟩, trivial⟩ ?_)))
   have jv := (show St _ _ ((Y ++ (F))) from St.pk [[_], [_], [_], Y, M2] [3] gk)
   exact .inr ⟨_, a, c, Y, by unfold planO; rw [hmn]; exact hfn, rfl, hslY, hnil, hcap, jv⟩
  refine zA5 (cs := [_,_,_,_,_,_]) zAc zeroValue96 rfl gr (fun kZ m0 gC => ?_)
  refine zAe (qn ⟨gC.tail.tail, ?_⟩)
  refine zC8 ?_
  refine zB0 rfl ?_
  refine zCi zAc call43 rfl rfl rfl rfl (c43 r p rb hrbA.cons.cons gC) (fun m5 gm => ?_)
  refine zAe (qn ⟨gm.tail.tail, ?_⟩)
  refine d_w rfl (fun _ => zBn underlying100 sizeOf28 rfl rfl rfl rfl (i := _) rfl (by omega)) rfl ?_
  refine zA3 rfl zAc rfl gm.tail.tail (fun _ hq => (zAs (vs := [_,_]) isAgg28 sizeOf28 hq rfl rfl hPd)) ?_
  refine zB0 rfl ?_
  refine zCi zAc call44 rfl rfl rfl rfl (c44 r p hm.cons.cons.cons.cons hr rb hrbA.cons.cons gm) (fun m6 gD => ?_)
  refine zAe (qn ⟨gD.tail.tail, ?_⟩)
  refine zB0 rfl ?_
  refine zCi zAc call43 rfl rfl rfl rfl (c43 r p rb hrbA.cons.cons gD) (fun m7 gE => ?_)
  refine zAe (qn ⟨gE.tail.tail, ?_⟩)
  refine d_w rfl (fun _ => zCt (z' := ((many : Nat) : Int)) hmn (zDk rfl rfl rfl rfl (by omega) (by omega))) rfl ?_
  have jw := (show St _ _ (_ :: _ :: _ :: _ :: F) from St.pk [[_], [_], [_], [_]] [1,0,2,3] gE)
  refine zB0 rfl ?_
  refine zA4 zAc call42 rfl rfl rfl rfl (c42 (M := [_]) r p rb mm (rk_new (t := 103) hm.cons hr hlb).cons (today r) (by omega) (beforeR r) hbi many (by omega) want (zEl r mm) jw) ?_
  rintro _ m8 (⟨hfn, rfl, M2, g4, g9⟩ | ⟨q, a, c, Y, M2, hfn, rfl, hslY, hnil, hcap, g4, g9⟩)
  ·
   replace g9 := (show St _ _ (M2 ++ (_ :: _ :: _ :: F)) from g9)
   refine zAe (qn ⟨g9.drop.tail, ?_⟩)
   refine d_w rfl (fun _ => zA6 rfl rfl) rfl (d_w rfl (fun _ => zBp (v := .agg _) rfl rfl rfl) rfl (d_w rfl (fun _ => zBf rfl rfl rfl) rfl ?_))
   have jx := (show St _ _ (_ :: (M2 ++ (_ :: _ :: F))) from St.pk [M2, [_], [_], [_]] [1,0,2,3] g9)
   refine zCa rfl ?_
   refine zBt 0 (.agg #[.slice _ _ _, .int _ _, .int _ _, .int _ _, .int _ _, .int _ _]) [_,_,_,_,_,_] sizeOf96 jx (fun m9 jy => ?_)
   refine zAe (qn ?_)
   refine d_w rfl (fun _ => zAl rfl rfl) rfl ?_
   refine zB5 ?_
   refine zAb (g3 _ _ (zAf (fun ma mc => (zAf (fun md jz => ?_)))))
   have jA := (show St _ _ (_ :: _ :: _ :: (M2 ++ (F))) from St.pk [[_], M2, [_], [_]] [0,2,3,1] jy)
   refine zAa (w_p (zAn rfl rfl) rfl (w_p (zC0 rfl rfl) rfl (zAe (zAb (jz _ _ (zBz rfl rfl ?_))))))
   refine zAf (fun me jB => (zAa (zA9 rfl rfl (zA9 rfl rfl (zA9 rfl rfl (zAe (zAb (jB _ _ (zA0 (zAh (zA1 (l := [.tmp 6, .tmp 7, .tmp 8]) (vs := [_,_,_]) rfl ⟨⟨rfl, show _ = (.slice _ _ _ : Value) from rfl⟩, ⟨rfl, (rfl : _ = Value.int _ _)⟩, ⟨rfl, (rfl : _ = Value.int _ _)⟩, trivial⟩ ?_)))))))))))
   exact .inl ⟨by unfold planO; rw [hmn]; exact hfn, rfl, jA.tail.tail.tail.drop⟩
  replace g9 := (show St _ _ (Y ++ (M2 ++ (_ :: _ :: _ :: F))) from g9)
  have hqp := first_pok (by omega) _ hfn
  obtain ⟨x1, x2, x3, x4, hw4⟩ := ways4 hqp.1.wl
  obtain ⟨ql, qw, qc⟩ := q
  have hw5 : qw = [x1, x2, x3, x4] := hw4
  subst hw5
  refine zAe (qn ⟨g9.drop.drop.tail, ?_⟩)
  refine d_w rfl (fun _ => zA6 rfl rfl) rfl (d_w rfl (fun _ => zBp (v := .agg _) rfl rfl rfl) rfl (d_w rfl (fun _ => zBf rfl rfl rfl) rfl ?_))
  have jC := (show St _ _ (_ :: (Y ++ ((M2 ++ (_ :: _ :: F))))) from St.pk [Y, M2, [_], [_], [_]] [2,0,1,3,4] g9)
  refine zCa rfl ?_
  refine zBt 0 (.agg #[.slice _ _ _, .int _ _, .int _ _, .int _ _, .int _ _, .int _ _]) [_,_,_,_,_,_] sizeOf96 jC (fun mf jD => ?_)
  refine zAe (qn ?_)
  refine d_w rfl (fun _ => zAl rfl rfl) rfl ?_
  refine zB5 ?_
  refine zAb (g3 _ _ (zAf (fun mg jE => (zAf (fun mh jF => ?_)))))
  have jG := (show St _ _ (_ :: _ :: _ :: (Y ++ ((M2 ++ (F))))) from St.pk [[_], Y, M2, [_], [_]] [0,3,4,1,2] jD)
  refine zAa (w_p (zAn rfl rfl) rfl (w_p (zC0 rfl rfl) rfl (zAe (zAb (jF _ _ (zBj rfl rfl ?_))))))
  refine zAr (zAb (jE _ _ (zAf (fun mi jH => (zCc [] [(0,0),(1,1),(2,0),(3,1),(4,0),(5,0),(6,0)] zB7 (zBs (by kernel_rfl)) jG (fun mj gn => ?_))))))
  refine d_w rfl (fun _ => zAd (o := 0) (i := 0) underlying96 rfl sizeOf30 rfl rfl rfl) rfl ?_
  refine zA3 rfl zAc rfl gn (fun _ hq => (zAi isAgg30 hq rfl rfl (aow 0 [_]))) ?_
  refine d_w rfl (fun _ => zAd (o := 5) (i := 2) underlying96 rfl sizeOf3 rfl rfl rfl) rfl ?_
  refine zA3 rfl zAc rfl gn (fun _ hq => (zAi isAgg3 hq rfl rfl (aow 0 [_]))) ?_
  refine d_w rfl (fun _ => zBh rfl rfl) rfl (d_w rfl (fun _ => zC3 rfl rfl) rfl (d_w rfl (fun _ => zB9 (v := _) rfl rfl) rfl ?_))
  refine zB5 ?_
  refine zAb (jH _ _ (zA0 (zA1 (l := [.tmp 6, .tmp 7, .tmp 8]) (vs := [_,_,_]) rfl ⟨⟨rfl, show _ = (.slice _ _ _ : Value) from rfl⟩, ⟨rfl, (rfl : _ = Value.int _ _)⟩, ⟨rfl, (rfl : _ = Value.int _ _)⟩, trivial⟩ ?_)))
  have jI := (show St _ _ ((Y ++ (F))) from St.pk [[_], [_], [_], Y, M2] [3] gn)
  exact .inr ⟨_, a, c, Y, by unfold planO; rw [hmn]; exact hfn, rfl, hslY, hnil, hcap, jI⟩

end Go.Proofs.Ro
set_option maxRecDepth 20000
namespace Go.Proofs.Ro
open Go.Proofs.Tryz
open Go.Rt Go.Rt.Ro
open Go.Rt.Ha (bit listL)
attribute [local irreducible] WL WC Con Yd At Ats Sl Agree DW
theorem Try_QL_fb2 (x0 : Int) (x1 : Int) (x2 : Int) (w : World) : (Instr.buildSlice 30 3 [(0, .int .i64 x0),(1, .int .i64 x1),(2, .int .i64 x2)].toArray).run Tryz.prog w = .ok (.slice (some ⟨w.heap.size, 0, none⟩) 3 3) (w.alloc (Go.Rt.blk 3 [.int .i64 x0, .int .i64 x1, .int .i64 x2])) := by kernel_rfl
theorem zE4 (x0 : Int) (w : World) : (Instr.buildSlice 30 1 [(0, .int .i64 x0)].toArray).run Tryz.prog w = .ok (.slice (some ⟨w.heap.size, 0, none⟩) 1 1) (w.alloc (Go.Rt.blk 3 [.int .i64 x0])) := by kernel_rfl
theorem reachTo_le (r : Room) (day : Int) : ∀ n, (reachTo r day n).length ≤ n
  | 0 => Nat.le_refl _
  | n + 1 => by have := reachTo_le r day n; unfold reachTo; split <;> simp <;> omega
theorem reach_y {r : Room} {day : Int} {i : Nat} {q : Plan} (h : planO r day ((i : Int) + 1) = some q) : reachTo r day (i + 1) = reachTo r day i ++ [(i : Int) + 1] := by rw [reachTo, h]; rfl
theorem reach_n {r : Room} {day : Int} {i : Nat} (h : planO r day ((i : Int) + 1) = none) : reachTo r day (i + 1) = reachTo r day i := by rw [reachTo, h]; rfl
theorem c29y {w0 w : World} {F : List (Nat × Obj)} (r : Room) (p : AtR) (hm : RIn w0 F r p) (hr : r.Ok) (hlb : lookB r 0 = true) (day : Int) (hday : (r.ran.length : Int) ≤ day ∧ day ≤ r.days)  (hs : St w0 w F) :
  Con Tryz.prog 29 [.agg (r.cells p).toArray, .int .i64 day] w fun v w' => ∃ a c LB, v = .tuple #[.slice a (reachTo r day 7).length c, .int .i64 0] ∧ Sl w0 LB a 1 ((reachTo r day 7).map fun x => [Value.int .i64 x]) ∧ St w0 w' (LB ++ F) := by
  refine zAo (n := 60) func29 rfl rfl (zNl rfl) ?_
  have hdy := hr.days
  have hlr := hr.lr
  have hll := hr.ll
  have hn6 : r.ran.length ≤ 6 := by omega
  have hls := hr.ls
  have hst := hr.start
  refine zAf (fun K2 gM => (zAa (zCd (v := .agg #[.int _ _, .int _ _, .int _ _, .slice _ _ _, .int _ _, .slice _ _ _, .slice _ _ _]) (cs := [_,_,_,_,_,_,_]) zAc rfl rfl rfl hs (fun b3 w4 gN => ?_))))
  refine zA9 rfl rfl (zA9 rfl rfl (zAe (zAb (gM _ _ (zAf (fun K7 gO => (zCc [] [(0,1),(1,0),(2,0),(3,1),(4,0),(5,0),(6,1),(7,2),(8,2),(9,2),(10,0),(11,0),(12,0),(13,0),(14,0)] zB7 (zBs (by kernel_rfl)) gN (fun w8 gc => ?_))))))))
  refine zA3 rfl zAc rfl gc (fun _ hq => (zAs (vs := [_,_,_,_,_,_,_]) isAgg33 sizeOf33 hq rfl rfl (aow 0 [_,_,_,_,_,_,_]))) ?_
  refine d_w rfl (fun _ => zAu rfl rfl) rfl (d_w rfl (fun _ => zAd (o := 5) (i := 4) underlying33 rfl sizeOf30 rfl rfl rfl) rfl ?_)
  refine zA3 rfl zAc rfl gc (fun _ hq => (zAi isAgg30 hq rfl rfl (aow 0 [_]))) ?_
  refine d_w rfl (fun _ => zBd underlying30 rfl rfl) rfl (d_w rfl (fun _ => zAd (o := 0) (i := 0) underlying33 rfl sizeOf3 rfl rfl rfl) rfl ?_)
  refine zA3 rfl zAc rfl gc (fun _ hq => (zAi isAgg3 hq rfl rfl (aow 0 [_]))) ?_
  refine zB0 rfl ?_
  refine zBc (ps := [(0, _),(1, _),(2, _)]) (pv := [(0, .int _ _),(1, .int _ _),(2, .int _ _)]) (cs := [_,_,_]) zAc rfl rfl (fun w => Try_QL_fb2 _ _ _ w) gc (fun jZ k4 gz => ?_)
  refine zAe (qn ⟨gz.tail, ?_⟩)
  refine zB0 rfl ?_
  refine zA4 zAc call41 rfl rfl rfl rfl (c41 _ _ _ gz) ?_
  rintro _ k5 ⟨bwi, rfl, gd⟩
  replace gd := (show St _ _ (_ :: _ :: _ :: F) from gd)
  refine zAe (qn ⟨gd.tail.tail, ?_⟩)
  refine zB0 rfl ?_
  refine zA4 zAc call40 rfl rfl rfl rfl (c40y r p hm.cons.cons.cons hr (.func (.func 73) #[] #[.pointer (some ⟨bwi, 0, none⟩)]) (fun X w hs => zDs call73 (c73 bwi _ _ [_,_,_] (fun q hq => by have : q = 0 := (by simp at hq; omega); subst this; show (r.ran.length : Int) ≤ day ∧ day ≤ r.days; omega) (by simp) (Ats.app (aow 0 [_])) (Sl.app (zBx (i := 1) (rows := [[_], [_], [_]]) rfl (by simp) rfl)) hs)) hlb gd) ?_
  rintro _ k6 ⟨rb, mm, rfl, ge⟩
  replace ge := (show St _ _ (_ :: _ :: _ :: _ :: _ :: F) from ge)
  refine zAe (qn ⟨ge.tail.tail.tail.tail, ?_⟩)
  refine d_w rfl (fun _ => zA6 rfl rfl) rfl (d_w rfl (fun _ => zBy rfl rfl rfl) rfl (d_w rfl (fun _ => zAq rfl rfl rfl) rfl (d_w rfl (fun _ => zBu rfl rfl) rfl (d_w rfl (fun _ => zC3 rfl rfl) rfl ?_))))
  refine zB5 ?_
  refine zAb (gO _ _ (zAf (fun k7 gP => (zAf (fun k8 gQ => (zAa (zA2 rfl rfl (w_p (zCj rfl rfl rfl rfl) rfl (zAe (zAb (gQ _ _ (zBj rfl rfl ?_))))))))))))
  refine zAr (zAb (gP _ _ (zAf (fun k9 gR => (zAa (w_p (zBi rfl rfl) rfl (w_p (zCl (fv := [_]) (cv := []) rfl rfl rfl rfl) rfl (w_p (zB9 (v := .func _ _ _) rfl rfl) rfl ?_))))))))
  refine zAe (zAb (gR _ _ (zAf (fun ka gS => (zAf (fun kb gT => ?_))))))
  have gU := (show St _ _ (_ :: _ :: F) from St.pk [[_], [_], [_], [_], [_]] [1,0] ge)
  obtain ⟨many, hmn⟩ : ∃ many : Nat, day - (r.ran.length : Int) = (many : Int) := ⟨(day - (r.ran.length : Int)).toNat, by omega⟩
  have htd := today_in hr hlb
  have hbi := before_in hr
  refine zAa (w_p (zBo (v := _) rfl rfl) rfl (zAe (zAb (gT _ _ (zAw ?_)))))
  refine zB2 [4,8,9,10,29,30,31,32,33,34,35,36,37,38,39,40,41,42,43,44,45,46,47,48,49,50,51,52,53,54,55,56,57,58] [4,29] (fun kk vs w => ∃ (i : Nat) (v : Value) (LB M : List (Nat × Obj)), vs = [v, .int .i64 (i : Int)] ∧ i ≤ 7 ∧ kk = 7 - i ∧ Rt.Own v 3 1 (reachTo r day i).length (iv (reachTo r day i)) LB ∧ Memo r mm M ∧ St w0 w (M ++ ((rb, blk 103 (RC r p (pts r 0) mm)) :: (LB ++ F)))) (7) ?_ ?_
  ·
   exact ⟨0, _, [], [_], rfl, by omega, by omega, zEv 3 1, zEl r mm, gU⟩
  intro k vs μ kc hI kd g4
  clear hs
  obtain ⟨i, v, LB, M, rfl, hia, rfl, hown, hM, hs⟩ := hI
  have hPd := rc_at (i := 0) hs.drop rfl (zHa 0) (show r.ran.length < 7 by omega) rfl
  have hrbA := rc_room (i := 0) hs.drop rfl
  have hk := rk_new (t := 103) (rb := rb) (mm := mm) (RIn.app (B := LB) hm) hr hlb
  have hrl := reachTo_le r day i
  refine zAf (fun ke gV => (zAa (w_p (zCb rfl rfl rfl rfl) rfl (zAe (zAb (gV _ _ (zAf (fun kf gW => (zAv rfl rfl (fun gg => ?_) (fun gg => ?_))))))))))
  ·
   try simp only [zS] at gg
   refine zAr (zAb (gW _ _ (zAf (fun kg g5 => (zAw ?_)))))
   refine zAf (fun kh gX => (zAa (zA2 rfl rfl (zBg rfl rfl (zAe (zAb (gX _ _ (zAf (fun ki g6 => (w_drawTD (C0 := fun w => St w0 w _) (C := fun w => St w0 w _) [21] (.two [(0,0),(1,0),(2,0),(4,0),(5,0),(8,0),(10,0),(11,0),(14,0),(15,0)] 3 20 (.two [(6,0),(7,1)] 9 20 (.two [] 12 20 (.two [(13,0)] 16 20 (.done [(17,0),(18,0),(19,0),(20,2),(21,3),(22,0)]) (.done [(16,2),(17,0),(18,0),(19,0),(21,3),(22,0)])) (.done [(12,2),(13,0),(16,2),(17,0),(18,0),(19,0),(21,3),(22,0)])) (.done [(9,2),(12,2),(13,0),(16,2),(17,0),(18,0),(19,0),(21,3),(22,0)])) (.done [(3,2),(6,0),(7,1),(9,2),(12,2),(13,0),(16,2),(17,0),(18,0),(19,0),(21,3),(22,0)])) zB7 (by kernel_rfl) hs (fun _ h => h.drop) (fun _ h => h.drew) (fun kj gA => ?_)))))))))))
   refine zEu ?_
   refine d_w rfl (fun _ => zBo (v := .func _ _ _) rfl rfl) rfl (d_w rfl (fun _ => zBi rfl rfl) rfl (d_w rfl (fun _ => zBi rfl rfl) rfl (d_w rfl (fun _ => zBl rfl rfl) rfl (d_w rfl (fun _ => zAd (o := 7) (i := 1) underlying103 rfl sizeOf100 rfl rfl rfl) rfl (d_w rfl (fun _ => zBi rfl rfl) rfl ?_)))))
   refine d_w rfl (fun _ => zAu rfl rfl) rfl (d_w rfl (fun _ => zBi rfl rfl) rfl (d_w rfl (fun _ => zAu rfl rfl) rfl (d_w rfl (fun _ => zBe rfl rfl rfl rfl (by omega) (by omega)) rfl ?_)))
   refine zGy rfl rfl ?_ ?_
   ·
    refine zCi zAc call43 rfl rfl rfl rfl (c43 r p rb hrbA.app gA) (fun km gf => ?_)
    refine zAe (qn ⟨gf.drop, ?_⟩)
    refine zEu ?_
    refine d_w rfl (fun _ => zBn underlying100 sizeOf28 rfl rfl rfl rfl (i := _) rfl (by omega)) rfl ?_
    refine zA3 rfl zAc rfl gf.drop (fun _ hq => (zAs (vs := [_,_]) isAgg28 sizeOf28 hq rfl rfl hPd)) ?_
    refine zGy rfl rfl ?_ ?_
    ·
     refine zCi zAc call44 rfl rfl rfl rfl (c44 r p (RIn.app (B := LB) hm).cons.app hr rb hrbA.app gf) (fun kn gh => ?_)
     refine zAe (qn ⟨gh.drop, ?_⟩)
     refine zEu ?_
     refine zGy rfl rfl ?_ ?_
     ·
      refine zCi zAc call43 rfl rfl rfl rfl (c43 r p rb hrbA.app gh) (fun ko gi => ?_)
      refine zAe (qn ⟨gi.drop, ?_⟩)
      refine zEu ?_
      refine d_w rfl (fun _ => zCt (z' := ((many : Nat) : Int)) hmn (zDk rfl rfl rfl rfl (by omega) (by omega))) rfl ?_
      refine zGy rfl rfl ?_ ?_
      ·
       refine zA4 zAc call42 rfl rfl rfl rfl (c42 (M := M) r p rb mm hk (today r) (by omega) (beforeR r) hbi many (by omega) ((i : Int) + 1) hM gi) ?_
       rintro _ kp (⟨hfn, rfl, M2, g3, g7⟩ | ⟨q, a, c, Y, M2, hfn, rfl, hslY, hnil, hcap, g3, g7⟩)
       ·
        replace g7 := (show St _ _ (M2 ++ (_ :: LB ++ (F))) from g7)
        refine zAe (qn ⟨g7.drop, ?_⟩)
        refine zC8 ?_
        refine d_w rfl (fun _ => zA6 rfl rfl) rfl (d_w rfl (fun _ => zBp (v := .agg _) rfl rfl rfl) rfl (d_w rfl (fun _ => zBf rfl rfl rfl) rfl ?_))
        refine zB0 rfl ?_
        refine zA5 (cs := [_,_,_,_,_,_]) zAc zeroValue96 rfl g7 (fun kr ku gB => ?_)
        refine zAe (qn ⟨gB.tail.drop, ?_⟩)
        refine zCa rfl ?_
        refine zBt 0 (.agg #[.slice _ _ _, .int _ _, .int _ _, .int _ _, .int _ _, .int _ _]) [_,_,_,_,_,_] sizeOf96 gB (fun kw gY => ?_)
        refine zAe (qn ?_)
        refine d_w rfl (fun _ => zAl rfl rfl) rfl ?_
        refine zB5 ?_
        refine zAb (g6 _ _ (zAf (fun kx gZ => (zAa (w_p (zAn rfl rfl) rfl (zAe (zAb (gZ _ _ (zBj rfl rfl ?_)))))))))
        refine zAr (zAk (zAb (g5 _ _ (zAa (w_p (zBe rfl rfl rfl rfl (by omega) (by omega)) rfl (zA2 rfl rfl (zAe (zAb (g4 _ _ (nxI (7 - (i + 1)) (by omega) ?_))))))))))
        have hG := (show St _ _ ((M2 ++ (_ :: (LB ++ (F))))) from gY.tail)
        exact ⟨i + 1, v, LB, M2, rfl, by omega, rfl, by rw [reach_n (by unfold planO; rw [hmn]; exact hfn)]; exact hown, g3, hG⟩
       replace g7 := (show St _ _ (Y ++ (M2 ++ (_ :: LB ++ (F)))) from g7)
       have hqp := first_pok (by omega) _ hfn
       obtain ⟨x1, x2, x3, x4, hw4⟩ := ways4 hqp.1.wl
       obtain ⟨ql, qw, qc⟩ := q
       have hw5 : qw = [x1, x2, x3, x4] := hw4
       subst hw5
       refine zAe (qn ⟨g7.drop.drop, ?_⟩)
       refine zC8 ?_
       refine d_w rfl (fun _ => zA6 rfl rfl) rfl (d_w rfl (fun _ => zBp (v := .agg _) rfl rfl rfl) rfl (d_w rfl (fun _ => zBf rfl rfl rfl) rfl ?_))
       refine zB0 rfl ?_
       refine zA5 (cs := [_,_,_,_,_,_]) zAc zeroValue96 rfl g7 (fun ky kz gC => ?_)
       refine zAe (qn ⟨gC.tail.drop.drop, ?_⟩)
       refine zCa rfl ?_
       refine zBt 0 (.agg #[.slice _ _ _, .int _ _, .int _ _, .int _ _, .int _ _, .int _ _]) [_,_,_,_,_,_] sizeOf96 gC (fun kA hH => ?_)
       refine zAe (qn ?_)
       refine d_w rfl (fun _ => zAl rfl rfl) rfl ?_
       refine zB5 ?_
       refine zAb (g6 _ _ (zAf (fun kB hO => (zAa (w_p (zAn rfl rfl) rfl (zAe (zAb (hO _ _ (zBz rfl rfl ?_)))))))))
       refine zAa (w_p (zBo (v := v) rfl rfl) rfl (zA2 rfl rfl (w_p (zBe rfl rfl rfl rfl (by omega) (by omega)) rfl (zBc (ps := [(0, _)]) (pv := [(0, .int _ _)]) (cs := [_]) zAc rfl rfl (fun w => zE4 _ w) hH (fun kC kD hY => ?_)))))
       have j0 := (show St _ _ (_ :: (LB ++ (_ :: (Y ++ ((M2 ++ (_ :: F))))))) from St.pk [[_], [_], Y, M2, [_], LB] [0,5,1,2,3,4] hY)
       refine zDd (X := (_ :: [])) (B := LB) (rows := [[_]]) (sz := 1) (bytes := 8) zAc underlying30 zDf rfl rfl rfl rfl rfl rfl rfl rfl rfl j0 hown (zBx (i := 0) rfl (by simp) rfl) rfl (by simp) (by simp [Value.oneCell']) (by simp only [maxLen]; omega) (by omega) (fun j1 kE gj j3 gk => ?_)
       replace gk := (show St _ _ (_ :: gj ++ (_ :: Y ++ (M2 ++ (_ :: F)))) from gk)
       refine w_p (zB9 (v := j1) rfl rfl) rfl (zAe (zAk (zAb (g5 _ _ (zAa (w_p (zBe rfl rfl rfl rfl (by omega) (by omega)) rfl (zA2 rfl rfl (zAe (zAb (g4 _ _ (nxI (7 - (i + 1)) (by omega) ?_)))))))))))
       have j4 := (show St _ _ ((M2 ++ (_ :: (gj ++ (F))))) from St.pk [[_], gj, [_], Y, M2, [_]] [4,5,1] gk)
       exact ⟨i + 1, _,_, M2, rfl, by omega, rfl, by rw [reach_y (by unfold planO; rw [hmn]; exact hfn)]; exact zEi j3, g3, j4⟩
      refine zA5 (cs := [_,_,_,_,_,_]) zAc zeroValue96 rfl gi (fun kF kG gD => ?_)
      refine zAe (qn ⟨gD.tail.drop, ?_⟩)
      refine zC8 ?_
      have j5 := (show St _ _ ((M ++ (_ :: _ :: (LB ++ (F))))) from St.pk [[_], M, [_], LB] [1,0,2,3] gD)
      refine zB0 rfl ?_
      refine zA4 zAc call42 rfl rfl rfl rfl (c42 (M := M) r p rb mm hk.cons (today r) (by omega) (beforeR r) hbi many (by omega) ((i : Int) + 1) hM j5) ?_
      rintro _ kH (⟨hfn, rfl, M2, g3, g8⟩ | ⟨q, a, c, Y, M2, hfn, rfl, hslY, hnil, hcap, g3, g8⟩)
      ·
       replace g8 := (show St _ _ (M2 ++ (_ :: _ :: LB ++ (F))) from g8)
       refine zAe (qn ⟨g8.drop.tail, ?_⟩)
       refine d_w rfl (fun _ => zA6 rfl rfl) rfl (d_w rfl (fun _ => zBp (v := .agg _) rfl rfl rfl) rfl (d_w rfl (fun _ => zBf rfl rfl rfl) rfl ?_))
       have j6 := (show St _ _ (_ :: (M2 ++ (_ :: (LB ++ (F))))) from St.pk [M2, [_], [_], LB] [1,0,2,3] g8)
       refine zCa rfl ?_
       refine zBt 0 (.agg #[.slice _ _ _, .int _ _, .int _ _, .int _ _, .int _ _, .int _ _]) [_,_,_,_,_,_] sizeOf96 j6 (fun kI j7 => ?_)
       refine zAe (qn ?_)
       refine d_w rfl (fun _ => zAl rfl rfl) rfl ?_
       refine zB5 ?_
       refine zAb (g6 _ _ (zAf (fun kJ j9 => (zAa (w_p (zAn rfl rfl) rfl (zAe (zAb (j9 _ _ (zBj rfl rfl ?_)))))))))
       refine zAr (zAk (zAb (g5 _ _ (zAa (w_p (zBe rfl rfl rfl rfl (by omega) (by omega)) rfl (zA2 rfl rfl (zAe (zAb (g4 _ _ (nxI (7 - (i + 1)) (by omega) ?_))))))))))
       have ja := (show St _ _ ((M2 ++ (_ :: (LB ++ (F))))) from j7.tail)
       exact ⟨i + 1, v, LB, M2, rfl, by omega, rfl, by rw [reach_n (by unfold planO; rw [hmn]; exact hfn)]; exact hown, g3, ja⟩
      replace g8 := (show St _ _ (Y ++ (M2 ++ (_ :: _ :: LB ++ (F)))) from g8)
      have hqp := first_pok (by omega) _ hfn
      obtain ⟨x1, x2, x3, x4, hw4⟩ := ways4 hqp.1.wl
      obtain ⟨ql, qw, qc⟩ := q
      have hw5 : qw = [x1, x2, x3, x4] := hw4
      subst hw5
      refine zAe (qn ⟨g8.drop.drop.tail, ?_⟩)
      refine d_w rfl (fun _ => zA6 rfl rfl) rfl (d_w rfl (fun _ => zBp (v := .agg _) rfl rfl rfl) rfl (d_w rfl (fun _ => zBf rfl rfl rfl) rfl ?_))
      have jb := (show St _ _ (_ :: (Y ++ ((M2 ++ (_ :: (LB ++ (F))))))) from St.pk [Y, M2, [_], [_], LB] [2,0,1,3,4] g8)
      refine zCa rfl ?_
      refine zBt 0 (.agg #[.slice _ _ _, .int _ _, .int _ _, .int _ _, .int _ _, .int _ _]) [_,_,_,_,_,_] sizeOf96 jb (fun kK jc => ?_)
      refine zAe (qn ?_)
      refine d_w rfl (fun _ => zAl rfl rfl) rfl ?_
      refine zB5 ?_
      refine zAb (g6 _ _ (zAf (fun kL jd => (zAa (w_p (zAn rfl rfl) rfl (zAe (zAb (jd _ _ (zBz rfl rfl ?_)))))))))
      refine zAa (w_p (zBo (v := v) rfl rfl) rfl (zA2 rfl rfl (w_p (zBe rfl rfl rfl rfl (by omega) (by omega)) rfl (zBc (ps := [(0, _)]) (pv := [(0, .int _ _)]) (cs := [_]) zAc rfl rfl (fun w => zE4 _ w) jc (fun kM kN je => ?_)))))
      have jf := (show St _ _ (_ :: (LB ++ (_ :: (Y ++ ((M2 ++ (_ :: F))))))) from St.pk [[_], [_], Y, M2, [_], LB] [0,5,1,2,3,4] je)
      refine zDd (X := (_ :: [])) (B := LB) (rows := [[_]]) (sz := 1) (bytes := 8) zAc underlying30 zDf rfl rfl rfl rfl rfl rfl rfl rfl rfl jf hown (zBx (i := 0) rfl (by simp) rfl) rfl (by simp) (by simp [Value.oneCell']) (by simp only [maxLen]; omega) (by omega) (fun jg kO gm jh gn => ?_)
      replace gn := (show St _ _ (_ :: gm ++ (_ :: Y ++ (M2 ++ (_ :: F)))) from gn)
      refine w_p (zB9 (v := jg) rfl rfl) rfl (zAe (zAk (zAb (g5 _ _ (zAa (w_p (zBe rfl rfl rfl rfl (by omega) (by omega)) rfl (zA2 rfl rfl (zAe (zAb (g4 _ _ (nxI (7 - (i + 1)) (by omega) ?_)))))))))))
      have ji := (show St _ _ ((M2 ++ (_ :: (gm ++ (F))))) from St.pk [[_], gm, [_], Y, M2, [_]] [4,5,1] gn)
      exact ⟨i + 1, _,_, M2, rfl, by omega, rfl, by rw [reach_y (by unfold planO; rw [hmn]; exact hfn)]; exact zEi jh, g3, ji⟩
     refine zA5 (cs := [_,_,_,_,_,_]) zAc zeroValue96 rfl gh (fun kP kQ gE => ?_)
     refine zAe (qn ⟨gE.tail.drop, ?_⟩)
     refine zC8 ?_
     refine zB0 rfl ?_
     refine zCi zAc call43 rfl rfl rfl rfl (c43 r p rb hrbA.app.cons gE) (fun kR gF => ?_)
     refine zAe (qn ⟨gF.tail.drop, ?_⟩)
     refine d_w rfl (fun _ => zCt (z' := ((many : Nat) : Int)) hmn (zDk rfl rfl rfl rfl (by omega) (by omega))) rfl ?_
     have jj := (show St _ _ ((M ++ (_ :: _ :: (LB ++ (F))))) from St.pk [[_], M, [_], LB] [1,0,2,3] gF)
     refine zB0 rfl ?_
     refine zA4 zAc call42 rfl rfl rfl rfl (c42 (M := M) r p rb mm hk.cons (today r) (by omega) (beforeR r) hbi many (by omega) ((i : Int) + 1) hM jj) ?_
     rintro _ kS (⟨hfn, rfl, M2, g3, g9⟩ | ⟨q, a, c, Y, M2, hfn, rfl, hslY, hnil, hcap, g3, g9⟩)
     ·
      replace g9 := (show St _ _ (M2 ++ (_ :: _ :: LB ++ (F))) from g9)
      refine zAe (qn ⟨g9.drop.tail, ?_⟩)
      refine d_w rfl (fun _ => zA6 rfl rfl) rfl (d_w rfl (fun _ => zBp (v := .agg _) rfl rfl rfl) rfl (d_w rfl (fun _ => zBf rfl rfl rfl) rfl ?_))
      have jk := (show St _ _ (_ :: (M2 ++ (_ :: (LB ++ (F))))) from St.pk [M2, [_], [_], LB] [1,0,2,3] g9)
      refine zCa rfl ?_
      refine zBt 0 (.agg #[.slice _ _ _, .int _ _, .int _ _, .int _ _, .int _ _, .int _ _]) [_,_,_,_,_,_] sizeOf96 jk (fun kT jl => ?_)
      refine zAe (qn ?_)
      refine d_w rfl (fun _ => zAl rfl rfl) rfl ?_
      refine zB5 ?_
      refine zAb (g6 _ _ (zAf (fun kU jm => (zAa (w_p (zAn rfl rfl) rfl (zAe (zAb (jm _ _ (zBj rfl rfl ?_)))))))))
      refine zAr (zAk (zAb (g5 _ _ (zAa (w_p (zBe rfl rfl rfl rfl (by omega) (by omega)) rfl (zA2 rfl rfl (zAe (zAb (g4 _ _ (nxI (7 - (i + 1)) (by omega) ?_))))))))))
      have jo := (show St _ _ ((M2 ++ (_ :: (LB ++ (F))))) from jl.tail)
      exact ⟨i + 1, v, LB, M2, rfl, by omega, rfl, by rw [reach_n (by unfold planO; rw [hmn]; exact hfn)]; exact hown, g3, jo⟩
     replace g9 := (show St _ _ (Y ++ (M2 ++ (_ :: _ :: LB ++ (F)))) from g9)
     have hqp := first_pok (by omega) _ hfn
     obtain ⟨x1, x2, x3, x4, hw4⟩ := ways4 hqp.1.wl
     obtain ⟨ql, qw, qc⟩ := q
     have hw5 : qw = [x1, x2, x3, x4] := hw4
     subst hw5
     refine zAe (qn ⟨g9.drop.drop.tail, ?_⟩)
     refine d_w rfl (fun _ => zA6 rfl rfl) rfl (d_w rfl (fun _ => zBp (v := .agg _) rfl rfl rfl) rfl (d_w rfl (fun _ => zBf rfl rfl rfl) rfl ?_))
     have jp := (show St _ _ (_ :: (Y ++ ((M2 ++ (_ :: (LB ++ (F))))))) from St.pk [Y, M2, [_], [_], LB] [2,0,1,3,4] g9)
     refine zCa rfl ?_
     refine zBt 0 (.agg #[.slice _ _ _, .int _ _, .int _ _, .int _ _, .int _ _, .int _ _]) [_,_,_,_,_,_] sizeOf96 jp (fun kV jq => ?_)
     refine zAe (qn ?_)
     refine d_w rfl (fun _ => zAl rfl rfl) rfl ?_
     refine zB5 ?_
     refine zAb (g6 _ _ (zAf (fun kW jr => (zAa (w_p (zAn rfl rfl) rfl (zAe (zAb (jr _ _ (zBz rfl rfl ?_)))))))))
     refine zAa (w_p (zBo (v := v) rfl rfl) rfl (zA2 rfl rfl (w_p (zBe rfl rfl rfl rfl (by omega) (by omega)) rfl (zBc (ps := [(0, _)]) (pv := [(0, .int _ _)]) (cs := [_]) zAc rfl rfl (fun w => zE4 _ w) jq (fun kX kY js => ?_)))))
     have jt := (show St _ _ (_ :: (LB ++ (_ :: (Y ++ ((M2 ++ (_ :: F))))))) from St.pk [[_], [_], Y, M2, [_], LB] [0,5,1,2,3,4] js)
     refine zDd (X := (_ :: [])) (B := LB) (rows := [[_]]) (sz := 1) (bytes := 8) zAc underlying30 zDf rfl rfl rfl rfl rfl rfl rfl rfl rfl jt hown (zBx (i := 0) rfl (by simp) rfl) rfl (by simp) (by simp [Value.oneCell']) (by simp only [maxLen]; omega) (by omega) (fun ju kZ gq jv gr => ?_)
     replace gr := (show St _ _ (_ :: gq ++ (_ :: Y ++ (M2 ++ (_ :: F)))) from gr)
     refine w_p (zB9 (v := ju) rfl rfl) rfl (zAe (zAk (zAb (g5 _ _ (zAa (w_p (zBe rfl rfl rfl rfl (by omega) (by omega)) rfl (zA2 rfl rfl (zAe (zAb (g4 _ _ (nxI (7 - (i + 1)) (by omega) ?_)))))))))))
     have jw := (show St _ _ ((M2 ++ (_ :: (gq ++ (F))))) from St.pk [[_], gq, [_], Y, M2, [_]] [4,5,1] gr)
     exact ⟨i + 1, _,_, M2, rfl, by omega, rfl, by rw [reach_y (by unfold planO; rw [hmn]; exact hfn)]; exact zEi jv, g3, jw⟩
    refine zA5 (cs := [_,_,_,_,_,_]) zAc zeroValue96 rfl gf (fun m0 m5 gG => ?_)
    refine zAe (qn ⟨gG.tail.drop, ?_⟩)
    refine zC8 ?_
    refine zB0 rfl ?_
    refine zCi zAc call44 rfl rfl rfl rfl (c44 r p (RIn.app (B := LB) hm).cons.app.cons hr rb hrbA.app.cons gG) (fun m6 gH => ?_)
    refine zAe (qn ⟨gH.tail.drop, ?_⟩)
    refine zB0 rfl ?_
    refine zCi zAc call43 rfl rfl rfl rfl (c43 r p rb hrbA.app.cons gH) (fun m7 gI => ?_)
    refine zAe (qn ⟨gI.tail.drop, ?_⟩)
    refine d_w rfl (fun _ => zCt (z' := ((many : Nat) : Int)) hmn (zDk rfl rfl rfl rfl (by omega) (by omega))) rfl ?_
    have jx := (show St _ _ ((M ++ (_ :: _ :: (LB ++ (F))))) from St.pk [[_], M, [_], LB] [1,0,2,3] gI)
    refine zB0 rfl ?_
    refine zA4 zAc call42 rfl rfl rfl rfl (c42 (M := M) r p rb mm hk.cons (today r) (by omega) (beforeR r) hbi many (by omega) ((i : Int) + 1) hM jx) ?_
    rintro _ m8 (⟨hfn, rfl, M2, g3, ga⟩ | ⟨q, a, c, Y, M2, hfn, rfl, hslY, hnil, hcap, g3, ga⟩)
    ·
     replace ga := (show St _ _ (M2 ++ (_ :: _ :: LB ++ (F))) from ga)
     refine zAe (qn ⟨ga.drop.tail, ?_⟩)
     refine d_w rfl (fun _ => zA6 rfl rfl) rfl (d_w rfl (fun _ => zBp (v := .agg _) rfl rfl rfl) rfl (d_w rfl (fun _ => zBf rfl rfl rfl) rfl ?_))
     have jy := (show St _ _ (_ :: (M2 ++ (_ :: (LB ++ (F))))) from St.pk [M2, [_], [_], LB] [1,0,2,3] ga)
     refine zCa rfl ?_
     refine zBt 0 (.agg #[.slice _ _ _, .int _ _, .int _ _, .int _ _, .int _ _, .int _ _]) [_,_,_,_,_,_] sizeOf96 jy (fun m9 jz => ?_)
     refine zAe (qn ?_)
     refine d_w rfl (fun _ => zAl rfl rfl) rfl ?_
     refine zB5 ?_
     refine zAb (g6 _ _ (zAf (fun ma jA => (zAa (w_p (zAn rfl rfl) rfl (zAe (zAb (jA _ _ (zBj rfl rfl ?_)))))))))
     refine zAr (zAk (zAb (g5 _ _ (zAa (w_p (zBe rfl rfl rfl rfl (by omega) (by omega)) rfl (zA2 rfl rfl (zAe (zAb (g4 _ _ (nxI (7 - (i + 1)) (by omega) ?_))))))))))
     have jB := (show St _ _ ((M2 ++ (_ :: (LB ++ (F))))) from jz.tail)
     exact ⟨i + 1, v, LB, M2, rfl, by omega, rfl, by rw [reach_n (by unfold planO; rw [hmn]; exact hfn)]; exact hown, g3, jB⟩
    replace ga := (show St _ _ (Y ++ (M2 ++ (_ :: _ :: LB ++ (F)))) from ga)
    have hqp := first_pok (by omega) _ hfn
    obtain ⟨x1, x2, x3, x4, hw4⟩ := ways4 hqp.1.wl
    obtain ⟨ql, qw, qc⟩ := q
    have hw5 : qw = [x1, x2, x3, x4] := hw4
    subst hw5
    refine zAe (qn ⟨ga.drop.drop.tail, ?_⟩)
    refine d_w rfl (fun _ => zA6 rfl rfl) rfl (d_w rfl (fun _ => zBp (v := .agg _) rfl rfl rfl) rfl (d_w rfl (fun _ => zBf rfl rfl rfl) rfl ?_))
    have jC := (show St _ _ (_ :: (Y ++ ((M2 ++ (_ :: (LB ++ (F))))))) from St.pk [Y, M2, [_], [_], LB] [2,0,1,3,4] ga)
    refine zCa rfl ?_
    refine zBt 0 (.agg #[.slice _ _ _, .int _ _, .int _ _, .int _ _, .int _ _, .int _ _]) [_,_,_,_,_,_] sizeOf96 jC (fun mc jD => ?_)
    refine zAe (qn ?_)
    refine d_w rfl (fun _ => zAl rfl rfl) rfl ?_
    refine zB5 ?_
    refine zAb (g6 _ _ (zAf (fun md jE => (zAa (w_p (zAn rfl rfl) rfl (zAe (zAb (jE _ _ (zBz rfl rfl ?_)))))))))
    refine zAa (w_p (zBo (v := v) rfl rfl) rfl (zA2 rfl rfl (w_p (zBe rfl rfl rfl rfl (by omega) (by omega)) rfl (zBc (ps := [(0, _)]) (pv := [(0, .int _ _)]) (cs := [_]) zAc rfl rfl (fun w => zE4 _ w) jD (fun me mf jF => ?_)))))
    have jG := (show St _ _ (_ :: (LB ++ (_ :: (Y ++ ((M2 ++ (_ :: F))))))) from St.pk [[_], [_], Y, M2, [_], LB] [0,5,1,2,3,4] jF)
    refine zDd (X := (_ :: [])) (B := LB) (rows := [[_]]) (sz := 1) (bytes := 8) zAc underlying30 zDf rfl rfl rfl rfl rfl rfl rfl rfl rfl jG hown (zBx (i := 0) rfl (by simp) rfl) rfl (by simp) (by simp [Value.oneCell']) (by simp only [maxLen]; omega) (by omega) (fun jH mg gt jI gu => ?_)
    replace gu := (show St _ _ (_ :: gt ++ (_ :: Y ++ (M2 ++ (_ :: F)))) from gu)
    refine w_p (zB9 (v := jH) rfl rfl) rfl (zAe (zAk (zAb (g5 _ _ (zAa (w_p (zBe rfl rfl rfl rfl (by omega) (by omega)) rfl (zA2 rfl rfl (zAe (zAb (g4 _ _ (nxI (7 - (i + 1)) (by omega) ?_)))))))))))
    have jJ := (show St _ _ ((M2 ++ (_ :: (gt ++ (F))))) from St.pk [[_], gt, [_], Y, M2, [_]] [4,5,1] gu)
    exact ⟨i + 1, _,_, M2, rfl, by omega, rfl, by rw [reach_y (by unfold planO; rw [hmn]; exact hfn)]; exact zEi jI, g3, jJ⟩
   refine zA5 (cs := [_,_,_,_,_,_]) zAc zeroValue96 rfl gA (fun mh mi gJ => ?_)
   refine zAe (qn ⟨gJ.tail.drop, ?_⟩)
   refine zC8 ?_
   refine zB0 rfl ?_
   refine zCi zAc call43 rfl rfl rfl rfl (c43 r p rb hrbA.app.cons gJ) (fun mj gw => ?_)
   refine zAe (qn ⟨gw.tail.drop, ?_⟩)
   refine d_w rfl (fun _ => zBn underlying100 sizeOf28 rfl rfl rfl rfl (i := _) rfl (by omega)) rfl ?_
   refine zA3 rfl zAc rfl gw.tail.drop (fun _ hq => (zAs (vs := [_,_]) isAgg28 sizeOf28 hq rfl rfl hPd)) ?_
   refine zB0 rfl ?_
   refine zCi zAc call44 rfl rfl rfl rfl (c44 r p (RIn.app (B := LB) hm).cons.app.cons hr rb hrbA.app.cons gw) (fun ml gK => ?_)
   refine zAe (qn ⟨gK.tail.drop, ?_⟩)
   refine zB0 rfl ?_
   refine zCi zAc call43 rfl rfl rfl rfl (c43 r p rb hrbA.app.cons gK) (fun mn gL => ?_)
   refine zAe (qn ⟨gL.tail.drop, ?_⟩)
   refine d_w rfl (fun _ => zCt (z' := ((many : Nat) : Int)) hmn (zDk rfl rfl rfl rfl (by omega) (by omega))) rfl ?_
   have jK := (show St _ _ ((M ++ (_ :: _ :: (LB ++ (F))))) from St.pk [[_], M, [_], LB] [1,0,2,3] gL)
   refine zB0 rfl ?_
   refine zA4 zAc call42 rfl rfl rfl rfl (c42 (M := M) r p rb mm hk.cons (today r) (by omega) (beforeR r) hbi many (by omega) ((i : Int) + 1) hM jK) ?_
   rintro _ mo (⟨hfn, rfl, M2, g3, gb⟩ | ⟨q, a, c, Y, M2, hfn, rfl, hslY, hnil, hcap, g3, gb⟩)
   ·
    replace gb := (show St _ _ (M2 ++ (_ :: _ :: LB ++ (F))) from gb)
    refine zAe (qn ⟨gb.drop.tail, ?_⟩)
    refine d_w rfl (fun _ => zA6 rfl rfl) rfl (d_w rfl (fun _ => zBp (v := .agg _) rfl rfl rfl) rfl (d_w rfl (fun _ => zBf rfl rfl rfl) rfl ?_))
    have jL := (show St _ _ (_ :: (M2 ++ (_ :: (LB ++ (F))))) from St.pk [M2, [_], [_], LB] [1,0,2,3] gb)
    refine zCa rfl ?_
    refine zBt 0 (.agg #[.slice _ _ _, .int _ _, .int _ _, .int _ _, .int _ _, .int _ _]) [_,_,_,_,_,_] sizeOf96 jL (fun mp jM => ?_)
    refine zAe (qn ?_)
    refine d_w rfl (fun _ => zAl rfl rfl) rfl ?_
    refine zB5 ?_
    refine zAb (g6 _ _ (zAf (fun mq jN => (zAa (w_p (zAn rfl rfl) rfl (zAe (zAb (jN _ _ (zBj rfl rfl ?_)))))))))
    refine zAr (zAk (zAb (g5 _ _ (zAa (w_p (zBe rfl rfl rfl rfl (by omega) (by omega)) rfl (zA2 rfl rfl (zAe (zAb (g4 _ _ (nxI (7 - (i + 1)) (by omega) ?_))))))))))
    have jO := (show St _ _ ((M2 ++ (_ :: (LB ++ (F))))) from jM.tail)
    exact ⟨i + 1, v, LB, M2, rfl, by omega, rfl, by rw [reach_n (by unfold planO; rw [hmn]; exact hfn)]; exact hown, g3, jO⟩
   replace gb := (show St _ _ (Y ++ (M2 ++ (_ :: _ :: LB ++ (F)))) from gb)
   have hqp := first_pok (by omega) _ hfn
   obtain ⟨x1, x2, x3, x4, hw4⟩ := ways4 hqp.1.wl
   obtain ⟨ql, qw, qc⟩ := q
   have hw5 : qw = [x1, x2, x3, x4] := hw4
   subst hw5
   refine zAe (qn ⟨gb.drop.drop.tail, ?_⟩)
   refine d_w rfl (fun _ => zA6 rfl rfl) rfl (d_w rfl (fun _ => zBp (v := .agg _) rfl rfl rfl) rfl (d_w rfl (fun _ => zBf rfl rfl rfl) rfl ?_))
   have jP := (show St _ _ (_ :: (Y ++ ((M2 ++ (_ :: (LB ++ (F))))))) from St.pk [Y, M2, [_], [_], LB] [2,0,1,3,4] gb)
   refine zCa rfl ?_
   refine zBt 0 (.agg #[.slice _ _ _, .int _ _, .int _ _, .int _ _, .int _ _, .int _ _]) [_,_,_,_,_,_] sizeOf96 jP (fun mr jQ => ?_)
   refine zAe (qn ?_)
   refine d_w rfl (fun _ => zAl rfl rfl) rfl ?_
   refine zB5 ?_
   refine zAb (g6 _ _ (zAf (fun ms jR => (zAa (w_p (zAn rfl rfl) rfl (zAe (zAb (jR _ _ (zBz rfl rfl ?_)))))))))
   refine zAa (w_p (zBo (v := v) rfl rfl) rfl (zA2 rfl rfl (w_p (zBe rfl rfl rfl rfl (by omega) (by omega)) rfl (zBc (ps := [(0, _)]) (pv := [(0, .int _ _)]) (cs := [_]) zAc rfl rfl (fun w => zE4 _ w) jQ (fun mu mv jS => ?_)))))
   have jT := (show St _ _ (_ :: (LB ++ (_ :: (Y ++ ((M2 ++ (_ :: F))))))) from St.pk [[_], [_], Y, M2, [_], LB] [0,5,1,2,3,4] jS)
   refine zDd (X := (_ :: [])) (B := LB) (rows := [[_]]) (sz := 1) (bytes := 8) zAc underlying30 zDf rfl rfl rfl rfl rfl rfl rfl rfl rfl jT hown (zBx (i := 0) rfl (by simp) rfl) rfl (by simp) (by simp [Value.oneCell']) (by simp only [maxLen]; omega) (by omega) (fun jU mw gx jV gy => ?_)
   replace gy := (show St _ _ (_ :: gx ++ (_ :: Y ++ (M2 ++ (_ :: F)))) from gy)
   refine w_p (zB9 (v := jU) rfl rfl) rfl (zAe (zAk (zAb (g5 _ _ (zAa (w_p (zBe rfl rfl rfl rfl (by omega) (by omega)) rfl (zA2 rfl rfl (zAe (zAb (g4 _ _ (nxI (7 - (i + 1)) (by omega) ?_)))))))))))
   have jW := (show St _ _ ((M2 ++ (_ :: (gx ++ (F))))) from St.pk [[_], gx, [_], Y, M2, [_]] [4,5,1] gy)
   exact ⟨i + 1, _,_, M2, rfl, by omega, rfl, by rw [reach_y (by unfold planO; rw [hmn]; exact hfn)]; exact zEi jV, g3, jW⟩
  try simp only [zS] at gg
  refine zBr (zAj (zAj (zAy (zAb (gS _ _ (zAf (fun mx jX => (zAa (w_p (zBo (v := v) rfl rfl) rfl (w_p (zB9 (v := v) rfl rfl) rfl ?_))))))))))
  refine zA9 rfl rfl (zAe (zAb (jX _ _ (zA0 (zA1 (l := [.tmp 4, .tmp 5]) (vs := [_,_]) rfl ⟨⟨rfl, show _ = (v : Value) from rfl⟩, ⟨rfl, (rfl : _ = Value.int _ _)⟩, trivial⟩ ?_)))))
  have jY := (show St _ _ ((LB ++ (F))) from hs.drop.tail)
  have hi7 : i = 7 := by omega
  subst hi7
  obtain ⟨a, c, hva, hsl, hnil⟩ := zHx (w0 := w0) hown
  exact ⟨a, c, LB, by rw [hva]; rfl, hsl, jY⟩

theorem c29z {w0 w : World} {F : List (Nat × Obj)} (r : Room) (p : AtR) (hm : RIn w0 F r p) (hr : r.Ok) (hlb : lookB r 0 = false) (day : Int) (hday : (r.ran.length : Int) ≤ day ∧ day ≤ r.days)  (hs : St w0 w F) :
  Con Tryz.prog 29 [.agg (r.cells p).toArray, .int .i64 day] w fun v w' => v = .tuple #[.slice none 0 0, .int .i64 8] ∧ St w0 w' F := by
  refine zAo (n := 60) func29 rfl rfl (zNl rfl) ?_
  have hdy := hr.days
  have hlr := hr.lr
  have hll := hr.ll
  have hn6 : r.ran.length ≤ 6 := by omega
  have hls := hr.ls
  have hst := hr.start
  refine zAf (fun K2 g7 => (zAa (zCd (v := .agg #[.int _ _, .int _ _, .int _ _, .slice _ _ _, .int _ _, .slice _ _ _, .slice _ _ _]) (cs := [_,_,_,_,_,_,_]) zAc rfl rfl rfl hs (fun b3 w4 g8 => ?_))))
  refine zA9 rfl rfl (zA9 rfl rfl (zAe (zAb (g7 _ _ (zAf (fun K7 g9 => (zCc [] [(0,1),(1,0),(2,0),(3,1),(4,0),(5,0),(6,1),(7,2),(8,2),(9,2),(10,0),(11,0),(12,0),(13,0),(14,0)] zB7 (zBs (by kernel_rfl)) g8 (fun w8 g3 => ?_))))))))
  refine zA3 rfl zAc rfl g3 (fun _ hq => (zAs (vs := [_,_,_,_,_,_,_]) isAgg33 sizeOf33 hq rfl rfl (aow 0 [_,_,_,_,_,_,_]))) ?_
  refine d_w rfl (fun _ => zAu rfl rfl) rfl (d_w rfl (fun _ => zAd (o := 5) (i := 4) underlying33 rfl sizeOf30 rfl rfl rfl) rfl ?_)
  refine zA3 rfl zAc rfl g3 (fun _ hq => (zAi isAgg30 hq rfl rfl (aow 0 [_]))) ?_
  refine d_w rfl (fun _ => zBd underlying30 rfl rfl) rfl (d_w rfl (fun _ => zAd (o := 0) (i := 0) underlying33 rfl sizeOf3 rfl rfl rfl) rfl ?_)
  refine zA3 rfl zAc rfl g3 (fun _ hq => (zAi isAgg3 hq rfl rfl (aow 0 [_]))) ?_
  refine zB0 rfl ?_
  refine zBc (ps := [(0, _),(1, _),(2, _)]) (pv := [(0, .int _ _),(1, .int _ _),(2, .int _ _)]) (cs := [_,_,_]) zAc rfl rfl (fun w => Try_QL_fb2 _ _ _ w) g3 (fun gc gd g5 => ?_)
  refine zAe (qn ⟨g5.tail, ?_⟩)
  refine zB0 rfl ?_
  refine zA4 zAc call41 rfl rfl rfl rfl (c41 _ _ _ g5) ?_
  rintro _ ge ⟨bwi, rfl, g4⟩
  replace g4 := (show St _ _ (_ :: _ :: _ :: F) from g4)
  refine zAe (qn ⟨g4.tail.tail, ?_⟩)
  refine zB0 rfl ?_
  refine zCi zAc call40 rfl rfl rfl rfl (c40z r p hm.cons.cons.cons hr (.func (.func 73) #[] #[.pointer (some ⟨bwi, 0, none⟩)]) (fun X w hs => zDs call73 (c73 bwi _ _ [_,_,_] (fun q hq => by have : q = 0 := (by simp at hq; omega); subst this; show (r.ran.length : Int) ≤ day ∧ day ≤ r.days; omega) (by simp) (Ats.app (aow 0 [_])) (Sl.app (zBx (i := 1) (rows := [[_], [_], [_]]) rfl (by simp) rfl)) hs)) hlb g4) (fun gf g6 => ?_)
  refine zAe (qn ⟨g6.tail.tail, ?_⟩)
  refine d_w rfl (fun _ => zA6 rfl rfl) rfl (d_w rfl (fun _ => zBy rfl rfl rfl) rfl (d_w rfl (fun _ => zAq rfl rfl rfl) rfl (d_w rfl (fun _ => zBu rfl rfl) rfl (d_w rfl (fun _ => zC3 rfl rfl) rfl ?_))))
  refine zB5 ?_
  refine zAb (g9 _ _ (zAf (fun gg gh => (zAf (fun gi ga => (zAa (zA2 rfl rfl (w_p (zCj rfl rfl rfl rfl) rfl (zAe (zAb (ga _ _ (zBz rfl rfl ?_))))))))))))
  refine zAf (fun gj gb => (zAa (zA2 rfl rfl (zA9 rfl rfl (zBg rfl rfl (zAe (zAb (gb _ _ (zA0 (zAh (zA1 (l := [.tmp 4, .tmp 5]) (vs := [_,_]) rfl ⟨⟨rfl, show _ = (.slice _ _ _ : Value) from rfl⟩, ⟨rfl, (rfl : _ = Value.int _ _)⟩, trivial⟩ ?_)))))))))))
  exact ⟨rfl, g6.tail.tail.tail⟩

end Go.Proofs.Ro
set_option maxRecDepth 20000
namespace Go.Proofs.Ro
open Go.Proofs.Tryz
open Go.Rt Go.Rt.Ro
attribute [local irreducible] WL WC Con Yd At Ats Sl Agree DW

def cmpI (a b : Int) : Int := if a < b then -1 else if b < a then 1 else 0
theorem cmp_zero {a b : Int} (h : cmpI a b = 0) : a = b := by
  unfold cmpI at h
  split at h
  · omega
  · split at h <;> omega
theorem zEm {a b : List Int} {i : Nat} (h : a.take i = b.take i) (ha : i < a.length) (hb : i < b.length) (hne : ¬ cmpI a[i] b[i] = 0) : decide (0 < cmpI a[i] b[i]) = less b a := by
  have hn : a[i] ≠ b[i] := fun e => hne (by unfold cmpI; rw [e]; simp)
  rw [zDn h.symm hb ha (fun e => hn e.symm)]
  unfold cmpI
  rw [Bool.eq_iff_iff]
  simp only [decide_eq_true_eq]
  split
  · simp; omega
  · split <;> simp <;> omega
theorem c117 {w0 w : World} {F : List (Nat × Obj)} (x : Int) (hs : St w0 w F) :
  Con Tryz.prog 117 [.int .i64 x] w fun v w' => v = .bool false ∧ St w0 w' F := by
  refine zAo (n := 6) func117 rfl rfl (zNl rfl) ?_
  refine zAf (fun K2 g3 => (zAa (zA9 rfl rfl (zAe (zAb (g3 _ _ (zAf (fun K4 g4 => (zAa (zA2 rfl rfl (zA2 rfl rfl (w_p (zCj rfl rfl rfl rfl) rfl ?_))))))))))))
  refine w_p (zAl rfl rfl) rfl (zAe (zAb (g4 _ _ (zA0 (zA1 (l := [.tmp 2]) (vs := [_]) rfl ⟨⟨rfl, (rfl : _ = Value.bool _)⟩, trivial⟩ ?_)))))
  exact ⟨by simp [retV], hs⟩

theorem c99 {w0 w : World} {F : List (Nat × Obj)} (a b : Int) (hs : St w0 w F) :
  Con Tryz.prog 99 [.int .i64 a, .int .i64 b] w fun v w' => v = .int .i64 (cmpI a b) ∧ St w0 w' F := by
  refine zAo (n := 20) func99 rfl rfl (zNl rfl) ?_
  refine zAf (fun K2 g6 => (zAa (zA9 rfl rfl (zAe (zAb (g6 _ _ (zAf (fun K4 g7 => (zAa (zA2 rfl rfl (zCi zAc call117 rfl rfl rfl rfl (c117 _ hs) (fun w6 g8 => ?_))))))))))))
  refine w_p (zAl rfl rfl) rfl (zAe (zAb (g7 _ _ (zAf (fun K9 g9 => (zAa (zA2 rfl rfl (zCi zAc call117 rfl rfl rfl rfl (c117 _ g8) (fun gm g3 => ?_)))))))))
  refine w_p (zAl rfl rfl) rfl (zAe (zAb (g9 _ _ (zAf (fun gn ga => (zAf (fun gq gb => (zAa (w_p (zAn rfl rfl) rfl (zAe (zAb (gb _ _ (zBj rfl rfl ?_)))))))))))))
  refine zAr (zAb (ga _ _ (zAf (fun gr gc => (zAf (fun gt gd => (zAa (w_p (zAn rfl rfl) rfl (zAe (zAb (gd _ _ (zBj rfl rfl ?_))))))))))))
  refine zAr (zAb (gc _ _ (zAf (fun gu ge => (zAf (fun gw gf => (zAa (zA2 rfl rfl (zA2 rfl rfl (w_p (zCb rfl rfl rfl rfl) rfl (zAe (zAb (gf _ _ (zAv rfl rfl (fun g4 => ?_) (fun g4 => ?_)))))))))))))))
  ·
   try simp only [zS] at g4
   refine zAf (fun gx gg => (zAa (zA9 rfl rfl (zAe (zAb (gg _ _ (zA0 (zAh (zA1 (l := [.tmp 4]) (vs := [_]) rfl ⟨⟨rfl, (rfl : _ = Value.int _ _)⟩, trivial⟩ ?_)))))))))
   exact ⟨congrArg (Value.int .i64) (by unfold cmpI; (repeat' split) <;> first | rfl | omega), g3⟩
  try simp only [zS] at g4
  refine zAr (zAb (ge _ _ (zAf (fun gy gh => (zAf (fun gz gi => (zAa (zA2 rfl rfl (zA2 rfl rfl (w_p (zD5 rfl rfl rfl rfl) rfl (zAe (zAb (gi _ _ (zAv rfl rfl (fun g5 => ?_) (fun g5 => ?_)))))))))))))))
  ·
   try simp only [zS] at g5
   refine zAf (fun gA gj => (zAa (zA9 rfl rfl (zAe (zAb (gj _ _ (zA0 (zAh (zA1 (l := [.tmp 4]) (vs := [_]) rfl ⟨⟨rfl, (rfl : _ = Value.int _ _)⟩, trivial⟩ ?_)))))))))
   exact ⟨congrArg (Value.int .i64) (by unfold cmpI; (repeat' split) <;> first | rfl | omega), g3⟩
  try simp only [zS] at g5
  refine zAr (zAb (gh _ _ (zAf (fun gB gk => (zAa (zA9 rfl rfl (zAe (zAb (gk _ _ (zA0 (zA1 (l := [.tmp 4]) (vs := [_]) rfl ⟨⟨rfl, (rfl : _ = Value.int _ _)⟩, trivial⟩ ?_)))))))))))
  exact ⟨congrArg (Value.int .i64) (by unfold cmpI; (repeat' split) <;> first | rfl | omega), g3⟩

theorem c65 {w0 w : World} {F : List (Nat × Obj)} (aa ab : Option Addr) (a b : List Int) (ca cb : Nat) (hla : a.length ≤ 9223372036854775807) (hlb : b.length ≤ 9223372036854775807) (ha : Sl w0 F aa 1 (a.map fun x => [Value.int .i64 x])) (hb : Sl w0 F ab 1 (b.map fun x => [Value.int .i64 x])) (hs : St w0 w F) :
  Con Tryz.prog 65 [.slice aa a.length ca, .slice ab b.length cb] w fun v w' => (∃ z, v = .int .i64 z ∧ decide (0 < z) = less b a) ∧ St w0 w' F := by
  refine zAo (n := 36) func65 rfl rfl (zNl rfl) ?_
  refine zAf (fun K2 g8 => (zAa (zA9 rfl rfl (zAe (zAb (g8 _ _ (zAf (fun K4 g9 => (zAf (fun K6 ga => (zAa (w_p (zAx rfl rfl) rfl ?_))))))))))))
  refine w_p (zBd underlying30 rfl rfl) rfl (w_p (zBo (v := _) rfl rfl) rfl (zAe (zAb (ga _ _ (zAw ?_)))))
  refine zB2 [4,5,6,7,8,11,12,13,14,15,16,17,18,19,20,21,22,23,24,25,26,27,28,29,30] [11] (fun k vs w => ∃ i : Nat, vs = [.int .i64 i] ∧ i ≤ a.length ∧ i ≤ b.length ∧ k = a.length - i ∧ a.take i = b.take i ∧ St w0 w F) (a.length) ?_ ?_
  ·
   exact ⟨0, rfl, by omega, by omega, by omega, rfl, hs⟩
  intro k vs μ w9 hI K8 gb
  obtain ⟨i, rfl, hia, hib, rfl, hpre, hs⟩ := hI
  refine zAf (fun gw gc => (zAa (w_p (zCb rfl rfl rfl rfl) rfl (zAe (zAb (gc _ _ (zAf (fun gx gd => (zAv rfl rfl (fun g4 => ?_) (fun g4 => ?_))))))))))
  ·
   try simp only [zS] at g4
   refine zAr (zAb (gd _ _ (zAf (fun gy ge => (zAw ?_)))))
   refine zAf (fun gz gf => ?_)
   have hia2 : i < a.length := by omega
   obtain ⟨ba, oa, rfl, hxa⟩ := zCy ha hia2
   refine zAa (zA2 rfl rfl (w_p (zA7 underlying30 sizeOf3 rfl rfl rfl rfl (i := _) rfl (by omega)) rfl (w_p (zAi isAgg3 hs rfl rfl hxa) rfl (zBg rfl rfl (zBg rfl rfl (zAe (zAb (gf _ _ (zAf (fun gA gg => (zAf (fun gB gh => (zAa (zA2 rfl rfl ?_))))))))))))))
   refine w_p (zAx rfl rfl) rfl (w_p (zBd underlying30 rfl rfl) rfl (w_p (zHv rfl rfl rfl rfl) rfl (zAe (zAb (gh _ _ (zAv rfl rfl (fun g5 => ?_) (fun g5 => ?_)))))))
   ·
    try simp only [zS] at g5
    refine zAf (fun gC gi => (zAa (zA9 rfl rfl (zAe (zAb (gi _ _ (zA0 (zAh (zAz (zAh (zAh (zAz (zAh (zA1 (l := [.tmp 4]) (vs := [_]) rfl ⟨⟨rfl, (rfl : _ = Value.int _ _)⟩, trivial⟩ ?_))))))))))))))
    first
      | exact ⟨⟨_, rfl, zEm hpre hia2 hib2 (by assumption)⟩, hs⟩
      | exact ⟨⟨_, rfl, by rw [zCn hpre.symm (by omega) (by omega)]; rfl⟩, hs⟩
      | exact ⟨⟨_, rfl, by rw [zC7 hpre.symm hib (by omega)]; rfl⟩, hs⟩
   try simp only [zS] at g5
   refine zAr (zAb (gg _ _ (zAf (fun gD gj => ?_))))
   have hib2 : i < b.length := by omega
   obtain ⟨bb, ob, rfl, hxb⟩ := zCy hb hib2
   refine zAa (w_p (zAx rfl rfl) rfl (zA2 rfl rfl (w_p (zA7 underlying30 sizeOf3 rfl rfl rfl rfl (i := _) rfl (by omega)) rfl (w_p (zAi isAgg3 hs rfl rfl hxb) rfl (zBg rfl rfl (zAe (zAb (gj _ _ (zAf (fun gE gk => (zAa (zA2 rfl rfl ?_))))))))))))
   refine zA2 rfl rfl (zCi zAc call99 rfl rfl rfl rfl (c99 _ _ hs) (fun gF g3 => ?_))
   refine zBg rfl rfl (zAe (zAb (gk _ _ (zAf (fun gG gm => (zAa (zA2 rfl rfl (w_p (zCj rfl rfl rfl rfl) rfl (zAe (zAb (gm _ _ (zAv rfl rfl (fun g6 => ?_) (fun g6 => ?_)))))))))))))
   ·
    try simp only [zS] at g6
    refine zAf (fun gH gn => (zAa (zA2 rfl rfl (zBg rfl rfl (zAe (zAb (gn _ _ (zA0 (zAz (zAh (zAh (zAz (zAh (zA1 (l := [.tmp 4]) (vs := [_]) rfl ⟨⟨rfl, (rfl : _ = Value.int _ _)⟩, trivial⟩ ?_))))))))))))))
    first
      | exact ⟨⟨_, rfl, zEm hpre hia2 hib2 (by assumption)⟩, g3⟩
      | exact ⟨⟨_, rfl, by rw [zCn hpre.symm (by omega) (by omega)]; rfl⟩, g3⟩
      | exact ⟨⟨_, rfl, by rw [zC7 hpre.symm hib (by omega)]; rfl⟩, g3⟩
   try simp only [zS] at g6
   refine zAr (zAk (zAb (ge _ _ (zAa (w_p (zBe rfl rfl rfl rfl (by omega) (by omega)) rfl (zA2 rfl rfl (zAe (zAb (gb _ _ (nxI (a.length - (i + 1)) (by omega) ?_))))))))))
   exact ⟨i + 1, rfl, by omega, by omega, rfl, zFh hpre (by omega) (by omega) (cmp_zero (by assumption)), g3⟩
  try simp only [zS] at g4
  refine zBr (zAj (zAj (zAy (zAb (g9 _ _ (zAf (fun gI gq => (zAf (fun gJ gr => (zAa (w_p (zAx rfl rfl) rfl ?_)))))))))))
  refine w_p (zBd underlying30 rfl rfl) rfl (w_p (zAx rfl rfl) rfl (w_p (zBd underlying30 rfl rfl) rfl (w_p (zCb rfl rfl rfl rfl) rfl (zAe (zAb (gr _ _ (zAv rfl rfl (fun g7 => ?_) (fun g7 => ?_))))))))
  ·
   try simp only [zS] at g7
   refine zAf (fun gK gt => (zAa (zA9 rfl rfl (zAe (zAb (gt _ _ (zA0 (zAh (zA1 (l := [.tmp 4]) (vs := [_]) rfl ⟨⟨rfl, (rfl : _ = Value.int _ _)⟩, trivial⟩ ?_)))))))))
   first
     | exact ⟨⟨_, rfl, zEm hpre hia2 hib2 (by assumption)⟩, hs⟩
     | exact ⟨⟨_, rfl, by rw [zCn hpre.symm (by omega) (by omega)]; rfl⟩, hs⟩
     | exact ⟨⟨_, rfl, by rw [zC7 hpre.symm hib (by omega)]; rfl⟩, hs⟩
  try simp only [zS] at g7
  refine zAr (zAb (gq _ _ (zAf (fun gL gu => (zAa (zA9 rfl rfl (zAe (zAb (gu _ _ (zA0 (zA1 (l := [.tmp 4]) (vs := [_]) rfl ⟨⟨rfl, (rfl : _ = Value.int _ _)⟩, trivial⟩ ?_)))))))))))
  first
    | exact ⟨⟨_, rfl, zEm hpre hia2 hib2 (by assumption)⟩, hs⟩
    | exact ⟨⟨_, rfl, by rw [zCn hpre.symm (by omega) (by omega)]; rfl⟩, hs⟩
    | exact ⟨⟨_, rfl, by rw [zC7 hpre.symm hib (by omega)]; rfl⟩, hs⟩

end Go.Proofs.Ro
set_option maxRecDepth 20000
namespace Go.Proofs.Ro
open Go.Proofs.Tryz
open Go.Rt Go.Rt.Ro
open Go.Rt.Ha (bit listL)
attribute [local irreducible] WL WC Con Yd At Ats Sl Agree DW

theorem c31 {w0 w : World} {F : List (Nat × Obj)} (r : Room) (p : AtR) (hm : RIn w0 F r p) (hr : r.Ok)  (hs : St w0 w F) :
  Con Tryz.prog 31 [.agg (r.cells p).toArray] w fun v w' => ∃ B a c, v = .tuple #[.slice a (wrong r).length c, .int .i64 0] ∧ Sl w0 B a 1 ((wrong r).map fun x => [Value.int .i64 x]) ∧ St w0 w' (B ++ F) := by
  refine zAo (n := 61) func31 rfl rfl (zNl rfl) ?_
  have hlp := hr.ll
  obtain ⟨K, hKn⟩ : ∃ K : Nat, 1 <<< r.looks.length = K := ⟨_, rfl⟩
  have hK : ((1 <<< r.looks.length : Nat) : Int) = (K : Int) := by rw [hKn]
  have hsh := (shl_16 hlp).2
  rw [hKn] at hsh
  refine zAf (fun K2 gD => (zAa (zCd (v := .agg #[.int _ _, .int _ _, .int _ _, .slice _ _ _, .int _ _, .slice _ _ _, .slice _ _ _]) (cs := [_,_,_,_,_,_,_]) zAc rfl rfl rfl hs (fun b3 w4 gu => ?_))))
  refine zA9 rfl rfl (zA9 rfl rfl (zAe (zAb (gD _ _ (zAf (fun K7 gE => (zAf (fun K9 gF => (zAa (w_p (zAs (vs := [_,_,_,_,_,_,_]) isAgg33 sizeOf33 gu rfl rfl (aow 0 [_,_,_,_,_,_,_])) rfl ?_))))))))))
  refine zCi zAc call62 rfl rfl rfl rfl (c62 r p hm.cons hr gu) (fun j0 gw => ?_)
  refine w_p (zA6 rfl rfl) rfl (w_p (zAq rfl rfl rfl) rfl (w_p (zAq rfl rfl rfl) rfl (w_p (zAq rfl rfl rfl) rfl (zBg rfl rfl (zAe (zAb (gF _ _ (zAf (fun j1 gG => (zAa (zA2 rfl rfl ?_)))))))))))
  refine w_p (zCj rfl rfl rfl rfl) rfl (zAe (zAb (gG _ _ (zBj rfl rfl ?_))))
  refine zAr (zAb (gE _ _ (zAf (fun j3 gH => (zAa (zA9 rfl rfl (zAe (zAb (gH _ _ (zAf (fun j4 gI => (zAf (fun j5 gJ => (zAa (w_p (zAd (o := 6) (i := 5) underlying33 rfl sizeOf31 rfl rfl rfl) rfl ?_)))))))))))))))
  refine w_p (zAi isAgg31 gw rfl rfl (aow 0 [_])) rfl (w_p (zBd underlying31 rfl rfl) rfl (w_p (zCt (z' := (K : Int)) hK (y_shl (x := 1) (y := r.looks.length) rfl rfl rfl rfl rfl (by first | rfl | omega) (by first | omega | exact zCs (by omega)) (by first | omega | exact zCs (by omega)))) rfl ?_))
  refine w_p (zBo (v := _) rfl rfl) rfl (zAe (zAb (gJ _ _ (zAw ?_))))
  refine zB2 [2,4,5,6,7,8,22,23,24,25,26,27,28,29,30,31,32,33,34,35,36,37,38,39,40,41,42,43,44,45,46,47,48,49,50,51,52,53,54,55,56,57,58,59] [2,4,22] (fun kk vs w => ∃ (s : Nat) (wl : List Int) (wb : Bool) (aW : Option Addr) (cW : Nat) (OB : List (Nat × Obj)), vs = [.slice aW wl.length cW, .bool wb, .int .i64 (s : Int)] ∧ wrongTo r s = (wl, wb) ∧ s ≤ K ∧ kk = K - s ∧ Sl w0 OB aW 1 (wl.map fun x => [Value.int .i64 x]) ∧ wl.length ≤ 4 ∧ St w0 w ((b3, blk 33 (r.cells p)) :: (OB ++ F))) (K) ?_ ?_
  ·
   exact ⟨0, [], false, none, 0, [], rfl, rfl, by omega, by omega, Sl.nil _ _, by simp, gw⟩
  intro k vs μ j6 hI j7 g3
  clear hs
  obtain ⟨s, wl, wb, aW, cW, OB, rfl, hw, hsa, rfl, hslO, hwl, hs⟩ := hI
  refine zAf (fun j9 gK => (zAa (w_p (zCb rfl rfl rfl rfl) rfl (zAe (zAb (gK _ _ (zAf (fun ja gL => (zAv rfl rfl (fun gb => ?_) (fun gb => ?_))))))))))
  ·
   try simp only [zS] at gb
   refine zAr (zAb (gL _ _ (zAf (fun jb g4 => (zAw ?_)))))
   refine zAf (fun jc gM => (zAa (zA2 rfl rfl (zBg rfl rfl (zAe (zAb (gM _ _ (zAf (fun jd gN => ?_)))))))))
   have hle := zDm s r.looks.length
   refine zAa (zA2 rfl rfl (w_p (zAd (o := 6) (i := 5) underlying33 rfl sizeOf31 rfl rfl rfl) rfl (w_p (zAi isAgg31 hs rfl rfl (aow 0 [_])) rfl (w_p (zBd underlying31 rfl rfl) rfl ?_))))
   refine zA4 zAc call64 rfl rfl rfl rfl ((c64 s r.looks.length (by omega) (by omega) hs).mono (fun v w' h => (show ∃ B a c, v = .slice a (listL s r.looks.length).length c ∧ Sl w0 B a 1 ((listL s r.looks.length).map fun x => [Value.int .i64 x]) ∧ St w0 w' (B ++ _) from by obtain ⟨B, ho, hs⟩ := h; obtain ⟨a, c, hva, hsl, hnil⟩ := zHx (w0 := w0) ho; exact ⟨B, a, c, hva, hsl, hs⟩))) ?_
   rintro _ je ⟨B, aB, cB, rfl, hslB, gc⟩
   replace gc := (show St _ _ (B ++ (_ :: OB ++ (F))) from gc)
   have g5 := (show St _ _ (_ :: (B ++ ((OB ++ (F))))) from St.pk [B, [_], OB] [1,0,2] gc)
   refine w_p (zBh rfl rfl) rfl (zAe (zAb (gN _ _ (zAf (fun jf gd => (zAf (fun jg g9 => (zAa (w_p (zAn rfl rfl) rfl (w_p (zAn rfl rfl) rfl ?_))))))))))
   refine zBk (fun ge => ?_) (fun ge => ?_)
   ·
    subst ge
    refine w_y rfl rfl rfl (zAx rfl rfl) rfl ?_
    refine w_y rfl rfl rfl (zBd underlying30 rfl rfl) rfl ?_
    refine w_y rfl rfl rfl (zAx rfl rfl) rfl ?_
    refine w_y rfl rfl rfl (zBd underlying30 rfl rfl) rfl ?_
    refine w_y rfl rfl rfl (zD5 rfl rfl rfl rfl) rfl ?_
    refine w_y rfl rfl rfl (zAn rfl rfl) rfl ?_
    refine zBk (fun gf => ?_) (fun gf => ?_)
    ·
     try simp only [zS] at gf
     refine zAg rfl rfl rfl ?_
     refine zAg rfl rfl rfl ?_
     refine zAg rfl rfl rfl ?_
     refine zAg rfl rfl rfl ?_
     refine zAg rfl rfl rfl ?_
     refine zAg rfl rfl rfl ?_
     refine zBa rfl rfl rfl ?_
     refine zBa rfl rfl rfl ?_
     refine zBa rfl rfl rfl ?_
     refine zBa rfl rfl rfl ?_
     refine zAg rfl rfl rfl ?_
     refine w_y rfl rfl rfl (zAt (v := _) rfl rfl rfl rfl) rfl ?_
     refine w_p (zAt (v := .bool _) rfl rfl rfl rfl) rfl (zAe (zAb (g9 _ _ (zBz rfl rfl ?_))))
     refine zBr (zAj (zAy (zAb (g4 _ _ (zAa (w_p (zBe rfl rfl rfl rfl (by omega) (by omega)) rfl (zA2 rfl rfl (zAe (zAb (g3 _ _ (nxI (K - (s + 1)) (by omega) ?_)))))))))))
     have gO := (show St _ _ (_ :: (B ++ (F))) from St.pk [[_], B, OB] [0,1] g5)
     have gg := (show St _ _ (_ :: (OB ++ (F))) from St.pk [[_], B, OB] [0,2] g5)
     first
       | exact ⟨s + 1, wl, true, aW, cW, OB, rfl, wr_1 hw (by omega), by omega, rfl, hslO, hwl, gg⟩
       | exact ⟨s + 1, wl, true, aW, cW, OB, rfl, wr_2 hw (by omega) (by rw [← hz]; exact decide_eq_true (by omega)), by omega, rfl, hslO, hwl, gg⟩
       | exact ⟨s + 1, _, true, aB, cB, B, rfl, wr_y hw (by first | rfl | (rw [decide_eq_false (show ¬ wl.length < (listL s r.looks.length).length by omega), decide_eq_false (show ¬ (listL s r.looks.length).length = wl.length by omega)]; rfl) | (rw [decide_eq_false (show ¬ wl.length < (listL s r.looks.length).length by omega), ← hz, decide_eq_false (show ¬ 0 < z by omega), Bool.and_false]; rfl)) hlk, by omega, rfl, hslB, by omega, gO⟩
       | exact ⟨s + 1, wl, _, aW, cW, OB, rfl, wr_n hw (by first | rfl | (rw [decide_eq_false (show ¬ wl.length < (listL s r.looks.length).length by omega), decide_eq_false (show ¬ (listL s r.looks.length).length = wl.length by omega)]; rfl) | (rw [decide_eq_false (show ¬ wl.length < (listL s r.looks.length).length by omega), ← hz, decide_eq_false (show ¬ 0 < z by omega), Bool.and_false]; rfl)) hlk, by omega, rfl, hslO, hwl, gg⟩
    try simp only [zS] at gf
    refine w_y rfl rfl rfl (zAx rfl rfl) rfl ?_
    refine w_y rfl rfl rfl (zBd underlying30 rfl rfl) rfl ?_
    refine w_y rfl rfl rfl (zAx rfl rfl) rfl ?_
    refine w_y rfl rfl rfl (zBd underlying30 rfl rfl) rfl ?_
    refine w_y rfl rfl rfl (zCk rfl rfl rfl rfl) rfl ?_
    refine w_y rfl rfl rfl (zAn rfl rfl) rfl ?_
    refine zBk (fun gh => ?_) (fun gh => ?_)
    ·
     try simp only [zS] at gh
     refine w_y rfl rfl rfl (zAx rfl rfl) rfl ?_
     refine w_y rfl rfl rfl (zAx rfl rfl) rfl ?_
     refine zA4 (zAm rfl rfl rfl) call65 rfl rfl rfl rfl (c65 aB aW (listL s r.looks.length) wl cB cW (by omega) (by omega) (sl_top hslB).cons (sl_top hslO).app.cons g5) ?_
     rintro _ jh ⟨⟨z, rfl, hz⟩, ga⟩
     refine w_y rfl rfl rfl (zD5 rfl rfl rfl rfl) rfl ?_
     refine w_y rfl rfl rfl (zAt (v := .bool _) rfl rfl rfl rfl) rfl ?_
     refine w_y rfl rfl rfl (zBb (v := .bool _) rfl rfl rfl rfl) rfl ?_
     refine w_p (zAt (v := .bool _) rfl rfl rfl rfl) rfl (zAe (zAb (g9 _ _ (zAv rfl rfl (fun gi => ?_) (fun gi => ?_)))))
     ·
      try simp only [zS] at gi
      refine zBr (zAj (zAy (zAb (g4 _ _ (zAa (w_p (zBe rfl rfl rfl rfl (by omega) (by omega)) rfl (zA2 rfl rfl (zAe (zAb (g3 _ _ (nxI (K - (s + 1)) (by omega) ?_)))))))))))
      have gP := (show St _ _ (_ :: (B ++ (F))) from St.pk [[_], B, OB] [0,1] ga)
      have gj := (show St _ _ (_ :: (OB ++ (F))) from St.pk [[_], B, OB] [0,2] ga)
      first
        | exact ⟨s + 1, wl, true, aW, cW, OB, rfl, wr_1 hw (by omega), by omega, rfl, hslO, hwl, gj⟩
        | exact ⟨s + 1, wl, true, aW, cW, OB, rfl, wr_2 hw (by omega) (by rw [← hz]; exact decide_eq_true (by omega)), by omega, rfl, hslO, hwl, gj⟩
        | exact ⟨s + 1, _, true, aB, cB, B, rfl, wr_y hw (by first | rfl | (rw [decide_eq_false (show ¬ wl.length < (listL s r.looks.length).length by omega), decide_eq_false (show ¬ (listL s r.looks.length).length = wl.length by omega)]; rfl) | (rw [decide_eq_false (show ¬ wl.length < (listL s r.looks.length).length by omega), ← hz, decide_eq_false (show ¬ 0 < z by omega), Bool.and_false]; rfl)) hlk, by omega, rfl, hslB, by omega, gP⟩
        | exact ⟨s + 1, wl, _, aW, cW, OB, rfl, wr_n hw (by first | rfl | (rw [decide_eq_false (show ¬ wl.length < (listL s r.looks.length).length by omega), decide_eq_false (show ¬ (listL s r.looks.length).length = wl.length by omega)]; rfl) | (rw [decide_eq_false (show ¬ wl.length < (listL s r.looks.length).length by omega), ← hz, decide_eq_false (show ¬ 0 < z by omega), Bool.and_false]; rfl)) hlk, by omega, rfl, hslO, hwl, gj⟩
     try simp only [zS] at gi
     refine zAr (zAb (gd _ _ (zAf (fun ji gx => (zAa (w_p (zAs (vs := [_,_,_,_,_,_,_]) isAgg33 sizeOf33 ga rfl rfl (aow 0 [_,_,_,_,_,_,_])) rfl (zA2 rfl rfl ?_)))))))
     refine zA4 zAc call63 rfl rfl rfl rfl (c63 r p hm.app.app.cons hr s (by omega) ga) ?_
     rintro _ jj (⟨hlk, ⟨x, rfl⟩, g6⟩ | ⟨hlk, rb, mm, rfl, g6⟩)
     ·
      refine w_p (zA6 rfl rfl) rfl (w_p (zBy rfl rfl rfl) rfl (w_p (zBf rfl rfl rfl) rfl (w_p (zBu rfl rfl) rfl (w_p (zAl rfl rfl) rfl (zAe (zAb (gx _ _ (zAf (fun jk gQ => (zAa (w_p (zAn rfl rfl) rfl ?_)))))))))))
      refine zAe (zAb (gQ _ _ (zBj rfl rfl ?_)))
      refine zAr (zAk (zAb (g4 _ _ (zAa (w_p (zBe rfl rfl rfl rfl (by omega) (by omega)) rfl (zA2 rfl rfl (zAe (zAb (g3 _ _ (nxI (K - (s + 1)) (by omega) ?_))))))))))
      have gR := (show St _ _ (_ :: (B ++ (F))) from St.pk [[_], B, OB] [0,1] g6)
      have gk := (show St _ _ (_ :: (OB ++ (F))) from St.pk [[_], B, OB] [0,2] g6)
      first
        | exact ⟨s + 1, wl, true, aW, cW, OB, rfl, wr_1 hw (by omega), by omega, rfl, hslO, hwl, gk⟩
        | exact ⟨s + 1, wl, true, aW, cW, OB, rfl, wr_2 hw (by omega) (by rw [← hz]; exact decide_eq_true (by omega)), by omega, rfl, hslO, hwl, gk⟩
        | exact ⟨s + 1, _, true, aB, cB, B, rfl, wr_y hw (by first | rfl | (rw [decide_eq_false (show ¬ wl.length < (listL s r.looks.length).length by omega), decide_eq_false (show ¬ (listL s r.looks.length).length = wl.length by omega)]; rfl) | (rw [decide_eq_false (show ¬ wl.length < (listL s r.looks.length).length by omega), ← hz, decide_eq_false (show ¬ 0 < z by omega), Bool.and_false]; rfl)) hlk, by omega, rfl, hslB, by omega, gR⟩
        | exact ⟨s + 1, wl, _, aW, cW, OB, rfl, wr_n hw (by first | rfl | (rw [decide_eq_false (show ¬ wl.length < (listL s r.looks.length).length by omega), decide_eq_false (show ¬ (listL s r.looks.length).length = wl.length by omega)]; rfl) | (rw [decide_eq_false (show ¬ wl.length < (listL s r.looks.length).length by omega), ← hz, decide_eq_false (show ¬ 0 < z by omega), Bool.and_false]; rfl)) hlk, by omega, rfl, hslO, hwl, gk⟩
     replace g6 := (show St _ _ (_ :: _ :: _ :: B ++ (OB ++ (F))) from g6)
     refine w_p (zA6 rfl rfl) rfl (w_p (zBy rfl rfl rfl) rfl (w_p (zBf rfl rfl rfl) rfl (w_p (zBu rfl rfl) rfl (w_p (zAl rfl rfl) rfl (zAe (zAb (gx _ _ (zAf (fun jl gS => (zAa (w_p (zAn rfl rfl) rfl ?_)))))))))))
     refine zAe (zAb (gS _ _ (zBz rfl rfl ?_)))
     refine zAa (w_p (zAx rfl rfl) rfl (w_p (zBh rfl rfl) rfl (zA9 rfl rfl (zAe (zAk (zAb (g4 _ _ (zAa (w_p (zBe rfl rfl rfl rfl (by omega) (by omega)) rfl ?_)))))))))
     refine zA2 rfl rfl (zAe (zAb (g3 _ _ (nxI (K - (s + 1)) (by omega) ?_))))
     have gy := (show St _ _ (_ :: (B ++ ((OB ++ (F))))) from g6.tail.tail)
     have gT := (show St _ _ (_ :: (B ++ (F))) from St.pk [[_], B, OB] [0,1] gy)
     have gm := (show St _ _ (_ :: (OB ++ (F))) from St.pk [[_], B, OB] [0,2] gy)
     first
       | exact ⟨s + 1, wl, true, aW, cW, OB, rfl, wr_1 hw (by omega), by omega, rfl, hslO, hwl, gm⟩
       | exact ⟨s + 1, wl, true, aW, cW, OB, rfl, wr_2 hw (by omega) (by rw [← hz]; exact decide_eq_true (by omega)), by omega, rfl, hslO, hwl, gm⟩
       | exact ⟨s + 1, _, true, aB, cB, B, rfl, wr_y hw (by first | rfl | (rw [decide_eq_false (show ¬ wl.length < (listL s r.looks.length).length by omega), decide_eq_false (show ¬ (listL s r.looks.length).length = wl.length by omega)]; rfl) | (rw [decide_eq_false (show ¬ wl.length < (listL s r.looks.length).length by omega), ← hz, decide_eq_false (show ¬ 0 < z by omega), Bool.and_false]; rfl)) hlk, by omega, rfl, hslB, by omega, gT⟩
       | exact ⟨s + 1, wl, _, aW, cW, OB, rfl, wr_n hw (by first | rfl | (rw [decide_eq_false (show ¬ wl.length < (listL s r.looks.length).length by omega), decide_eq_false (show ¬ (listL s r.looks.length).length = wl.length by omega)]; rfl) | (rw [decide_eq_false (show ¬ wl.length < (listL s r.looks.length).length by omega), ← hz, decide_eq_false (show ¬ 0 < z by omega), Bool.and_false]; rfl)) hlk, by omega, rfl, hslO, hwl, gm⟩
    try simp only [zS] at gh
    refine zAg rfl rfl rfl ?_
    refine zAg rfl rfl rfl ?_
    refine zAg rfl rfl rfl ?_
    refine zAg rfl rfl rfl ?_
    refine w_y rfl rfl rfl (zBb (v := _) rfl rfl rfl rfl) rfl ?_
    refine w_y rfl rfl rfl (zBb (v := .bool _) rfl rfl rfl rfl) rfl ?_
    refine w_p (zAt (v := .bool _) rfl rfl rfl rfl) rfl (zAe (zAb (g9 _ _ (zBj rfl rfl ?_))))
    refine zAr (zAb (gd _ _ (zAf (fun jm gz => (zAa (w_p (zAs (vs := [_,_,_,_,_,_,_]) isAgg33 sizeOf33 g5 rfl rfl (aow 0 [_,_,_,_,_,_,_])) rfl (zA2 rfl rfl ?_)))))))
    refine zA4 zAc call63 rfl rfl rfl rfl (c63 r p hm.app.app.cons hr s (by omega) g5) ?_
    rintro _ jo (⟨hlk, ⟨x, rfl⟩, g7⟩ | ⟨hlk, rb, mm, rfl, g7⟩)
    ·
     refine w_p (zA6 rfl rfl) rfl (w_p (zBy rfl rfl rfl) rfl (w_p (zBf rfl rfl rfl) rfl (w_p (zBu rfl rfl) rfl (w_p (zAl rfl rfl) rfl (zAe (zAb (gz _ _ (zAf (fun jp gU => (zAa (w_p (zAn rfl rfl) rfl ?_)))))))))))
     refine zAe (zAb (gU _ _ (zBj rfl rfl ?_)))
     refine zAr (zAk (zAb (g4 _ _ (zAa (w_p (zBe rfl rfl rfl rfl (by omega) (by omega)) rfl (zA2 rfl rfl (zAe (zAb (g3 _ _ (nxI (K - (s + 1)) (by omega) ?_))))))))))
     have gV := (show St _ _ (_ :: (B ++ (F))) from St.pk [[_], B, OB] [0,1] g7)
     have gn := (show St _ _ (_ :: (OB ++ (F))) from St.pk [[_], B, OB] [0,2] g7)
     first
       | exact ⟨s + 1, wl, true, aW, cW, OB, rfl, wr_1 hw (by omega), by omega, rfl, hslO, hwl, gn⟩
       | exact ⟨s + 1, wl, true, aW, cW, OB, rfl, wr_2 hw (by omega) (by rw [← hz]; exact decide_eq_true (by omega)), by omega, rfl, hslO, hwl, gn⟩
       | exact ⟨s + 1, _, true, aB, cB, B, rfl, wr_y hw (by first | rfl | (rw [decide_eq_false (show ¬ wl.length < (listL s r.looks.length).length by omega), decide_eq_false (show ¬ (listL s r.looks.length).length = wl.length by omega)]; rfl) | (rw [decide_eq_false (show ¬ wl.length < (listL s r.looks.length).length by omega), ← hz, decide_eq_false (show ¬ 0 < z by omega), Bool.and_false]; rfl)) hlk, by omega, rfl, hslB, by omega, gV⟩
       | exact ⟨s + 1, wl, _, aW, cW, OB, rfl, wr_n hw (by first | rfl | (rw [decide_eq_false (show ¬ wl.length < (listL s r.looks.length).length by omega), decide_eq_false (show ¬ (listL s r.looks.length).length = wl.length by omega)]; rfl) | (rw [decide_eq_false (show ¬ wl.length < (listL s r.looks.length).length by omega), ← hz, decide_eq_false (show ¬ 0 < z by omega), Bool.and_false]; rfl)) hlk, by omega, rfl, hslO, hwl, gn⟩
    replace g7 := (show St _ _ (_ :: _ :: _ :: B ++ (OB ++ (F))) from g7)
    refine w_p (zA6 rfl rfl) rfl (w_p (zBy rfl rfl rfl) rfl (w_p (zBf rfl rfl rfl) rfl (w_p (zBu rfl rfl) rfl (w_p (zAl rfl rfl) rfl (zAe (zAb (gz _ _ (zAf (fun jq gW => (zAa (w_p (zAn rfl rfl) rfl ?_)))))))))))
    refine zAe (zAb (gW _ _ (zBz rfl rfl ?_)))
    refine zAa (w_p (zAx rfl rfl) rfl (w_p (zBh rfl rfl) rfl (zA9 rfl rfl (zAe (zAk (zAb (g4 _ _ (zAa (w_p (zBe rfl rfl rfl rfl (by omega) (by omega)) rfl ?_)))))))))
    refine zA2 rfl rfl (zAe (zAb (g3 _ _ (nxI (K - (s + 1)) (by omega) ?_))))
    have gA := (show St _ _ (_ :: (B ++ ((OB ++ (F))))) from g7.tail.tail)
    have gX := (show St _ _ (_ :: (B ++ (F))) from St.pk [[_], B, OB] [0,1] gA)
    have gq := (show St _ _ (_ :: (OB ++ (F))) from St.pk [[_], B, OB] [0,2] gA)
    first
      | exact ⟨s + 1, wl, true, aW, cW, OB, rfl, wr_1 hw (by omega), by omega, rfl, hslO, hwl, gq⟩
      | exact ⟨s + 1, wl, true, aW, cW, OB, rfl, wr_2 hw (by omega) (by rw [← hz]; exact decide_eq_true (by omega)), by omega, rfl, hslO, hwl, gq⟩
      | exact ⟨s + 1, _, true, aB, cB, B, rfl, wr_y hw (by first | rfl | (rw [decide_eq_false (show ¬ wl.length < (listL s r.looks.length).length by omega), decide_eq_false (show ¬ (listL s r.looks.length).length = wl.length by omega)]; rfl) | (rw [decide_eq_false (show ¬ wl.length < (listL s r.looks.length).length by omega), ← hz, decide_eq_false (show ¬ 0 < z by omega), Bool.and_false]; rfl)) hlk, by omega, rfl, hslB, by omega, gX⟩
      | exact ⟨s + 1, wl, _, aW, cW, OB, rfl, wr_n hw (by first | rfl | (rw [decide_eq_false (show ¬ wl.length < (listL s r.looks.length).length by omega), decide_eq_false (show ¬ (listL s r.looks.length).length = wl.length by omega)]; rfl) | (rw [decide_eq_false (show ¬ wl.length < (listL s r.looks.length).length by omega), ← hz, decide_eq_false (show ¬ 0 < z by omega), Bool.and_false]; rfl)) hlk, by omega, rfl, hslO, hwl, gq⟩
   subst ge
   refine zAg rfl rfl rfl ?_
   refine zAg rfl rfl rfl ?_
   refine zAg rfl rfl rfl ?_
   refine zAg rfl rfl rfl ?_
   refine zAg rfl rfl rfl ?_
   refine zAg rfl rfl rfl ?_
   refine zBa rfl rfl rfl ?_
   refine zBa rfl rfl rfl ?_
   refine zBa rfl rfl rfl ?_
   refine zBa rfl rfl rfl ?_
   refine zBa rfl rfl rfl ?_
   refine zBa rfl rfl rfl ?_
   refine zBa rfl rfl rfl ?_
   refine zBa rfl rfl rfl ?_
   refine zBa rfl rfl rfl ?_
   refine zBa rfl rfl rfl ?_
   refine zBa rfl rfl rfl ?_
   refine zAg rfl rfl rfl ?_
   refine w_p (zBb (v := _) rfl rfl rfl rfl) rfl (zAe (zAb (g9 _ _ (zBj rfl rfl ?_))))
   refine zAr (zAb (gd _ _ (zAf (fun jr gB => (zAa (w_p (zAs (vs := [_,_,_,_,_,_,_]) isAgg33 sizeOf33 g5 rfl rfl (aow 0 [_,_,_,_,_,_,_])) rfl (zA2 rfl rfl ?_)))))))
   refine zA4 zAc call63 rfl rfl rfl rfl (c63 r p hm.app.app.cons hr s (by omega) g5) ?_
   rintro _ js (⟨hlk, ⟨x, rfl⟩, g8⟩ | ⟨hlk, rb, mm, rfl, g8⟩)
   ·
    refine w_p (zA6 rfl rfl) rfl (w_p (zBy rfl rfl rfl) rfl (w_p (zBf rfl rfl rfl) rfl (w_p (zBu rfl rfl) rfl (w_p (zAl rfl rfl) rfl (zAe (zAb (gB _ _ (zAf (fun jt gY => (zAa (w_p (zAn rfl rfl) rfl ?_)))))))))))
    refine zAe (zAb (gY _ _ (zBj rfl rfl ?_)))
    refine zAr (zAk (zAb (g4 _ _ (zAa (w_p (zBe rfl rfl rfl rfl (by omega) (by omega)) rfl (zA2 rfl rfl (zAe (zAb (g3 _ _ (nxI (K - (s + 1)) (by omega) ?_))))))))))
    have gZ := (show St _ _ (_ :: (B ++ (F))) from St.pk [[_], B, OB] [0,1] g8)
    have gr := (show St _ _ (_ :: (OB ++ (F))) from St.pk [[_], B, OB] [0,2] g8)
    first
      | exact ⟨s + 1, wl, true, aW, cW, OB, rfl, wr_1 hw (by omega), by omega, rfl, hslO, hwl, gr⟩
      | exact ⟨s + 1, wl, true, aW, cW, OB, rfl, wr_2 hw (by omega) (by rw [← hz]; exact decide_eq_true (by omega)), by omega, rfl, hslO, hwl, gr⟩
      | exact ⟨s + 1, _, true, aB, cB, B, rfl, wr_y hw (by first | rfl | (rw [decide_eq_false (show ¬ wl.length < (listL s r.looks.length).length by omega), decide_eq_false (show ¬ (listL s r.looks.length).length = wl.length by omega)]; rfl) | (rw [decide_eq_false (show ¬ wl.length < (listL s r.looks.length).length by omega), ← hz, decide_eq_false (show ¬ 0 < z by omega), Bool.and_false]; rfl)) hlk, by omega, rfl, hslB, by omega, gZ⟩
      | exact ⟨s + 1, wl, _, aW, cW, OB, rfl, wr_n hw (by first | rfl | (rw [decide_eq_false (show ¬ wl.length < (listL s r.looks.length).length by omega), decide_eq_false (show ¬ (listL s r.looks.length).length = wl.length by omega)]; rfl) | (rw [decide_eq_false (show ¬ wl.length < (listL s r.looks.length).length by omega), ← hz, decide_eq_false (show ¬ 0 < z by omega), Bool.and_false]; rfl)) hlk, by omega, rfl, hslO, hwl, gr⟩
   replace g8 := (show St _ _ (_ :: _ :: _ :: B ++ (OB ++ (F))) from g8)
   refine w_p (zA6 rfl rfl) rfl (w_p (zBy rfl rfl rfl) rfl (w_p (zBf rfl rfl rfl) rfl (w_p (zBu rfl rfl) rfl (w_p (zAl rfl rfl) rfl (zAe (zAb (gB _ _ (zAf (fun ju hG => (zAa (w_p (zAn rfl rfl) rfl ?_)))))))))))
   refine zAe (zAb (hG _ _ (zBz rfl rfl ?_)))
   refine zAa (w_p (zAx rfl rfl) rfl (w_p (zBh rfl rfl) rfl (zA9 rfl rfl (zAe (zAk (zAb (g4 _ _ (zAa (w_p (zBe rfl rfl rfl rfl (by omega) (by omega)) rfl ?_)))))))))
   refine zA2 rfl rfl (zAe (zAb (g3 _ _ (nxI (K - (s + 1)) (by omega) ?_))))
   have gC := (show St _ _ (_ :: (B ++ ((OB ++ (F))))) from g8.tail.tail)
   have hH := (show St _ _ (_ :: (B ++ (F))) from St.pk [[_], B, OB] [0,1] gC)
   have gt := (show St _ _ (_ :: (OB ++ (F))) from St.pk [[_], B, OB] [0,2] gC)
   first
     | exact ⟨s + 1, wl, true, aW, cW, OB, rfl, wr_1 hw (by omega), by omega, rfl, hslO, hwl, gt⟩
     | exact ⟨s + 1, wl, true, aW, cW, OB, rfl, wr_2 hw (by omega) (by rw [← hz]; exact decide_eq_true (by omega)), by omega, rfl, hslO, hwl, gt⟩
     | exact ⟨s + 1, _, true, aB, cB, B, rfl, wr_y hw (by first | rfl | (rw [decide_eq_false (show ¬ wl.length < (listL s r.looks.length).length by omega), decide_eq_false (show ¬ (listL s r.looks.length).length = wl.length by omega)]; rfl) | (rw [decide_eq_false (show ¬ wl.length < (listL s r.looks.length).length by omega), ← hz, decide_eq_false (show ¬ 0 < z by omega), Bool.and_false]; rfl)) hlk, by omega, rfl, hslB, by omega, hH⟩
     | exact ⟨s + 1, wl, _, aW, cW, OB, rfl, wr_n hw (by first | rfl | (rw [decide_eq_false (show ¬ wl.length < (listL s r.looks.length).length by omega), decide_eq_false (show ¬ (listL s r.looks.length).length = wl.length by omega)]; rfl) | (rw [decide_eq_false (show ¬ wl.length < (listL s r.looks.length).length by omega), ← hz, decide_eq_false (show ¬ 0 < z by omega), Bool.and_false]; rfl)) hlk, by omega, rfl, hslO, hwl, gt⟩
  try simp only [zS] at gb
  refine zBr (zAj (zAj (zAy (zAb (gI _ _ (zAf (fun jv hO => (zAa (w_p (zAx rfl rfl) rfl (w_p (zBh rfl rfl) rfl ?_))))))))))
  refine zA9 rfl rfl (zAe (zAb (hO _ _ (zA0 (zA1 (l := [.tmp 2, .tmp 3]) (vs := [_,_]) rfl ⟨⟨rfl, show _ = (.slice _ _ _ : Value) from rfl⟩, ⟨rfl, (rfl : _ = Value.int _ _)⟩, trivial⟩ ?_)))))
  have hY := (show St _ _ ((OB ++ (F))) from hs.tail)
  have hse : s = 1 <<< r.looks.length := by rw [hKn]; omega
  exact ⟨OB, aW, cW, by rw [wrong_at hse hw]; rfl, by rw [wrong_at hse hw]; exact hslO, hY⟩

end Go.Proofs.Ro
/- The examples of the statements about rooms. No conditions. -/
namespace Go.Rt.Ro
open Go.Rt.Ha (bit listL)
def nmS (l : List UInt8) : ByteArray := ⟨l.toArray⟩
def roomL (opens : Int) (l : List (Int × Int)) : Room := ⟨5,3,8, [⟨nmS [99,111,111,108], 1,2⟩, ⟨nmS [119,97,114,109], 5,7⟩, ⟨nmS [103,97,115], 9,10⟩], opens, [1,1], l⟩
def lookX : Nat → List (Int × Int)
  | 0 => []
  | 1 => [(1,1)]
  | _ => [(1,1),(2,3)]
def roomX (k : Nat) : Room := roomL 2 (lookX k)
def roomO : Room := roomL 1 (lookX 1)
theorem ex_nms : nmOk (nmS [99,111,111,108]) = true ∧ nmOk (nmS [119,97,114,109]) = true ∧ nmOk (nmS [103,97,115]) = true ∧ [nmS [99,111,111,108], nmS [119,97,114,109], nmS [103,97,115]].Nodup := by decide +kernel
theorem roomL_ok {o : Int} {l : List (Int × Int)} (ho : 0 ≤ o ∧ o ≤ 6) (hl : l.length ≤ 4) (hx : ∀ x ∈ l, 0 ≤ x.1 ∧ x.1 ≤ 2 ∧ 1 ≤ x.2 ∧ x.2 ≤ 7) : (roomL o l).Ok where
  days := by show (1 : Int) ≤ 5 ∧ (5 : Int) ≤ 6; decide
  start := by show (0 : Int) ≤ 3 ∧ (3 : Int) ≤ 8 ∧ (8 : Int) ≤ 69; decide
  opens := ho
  ls := by show 1 ≤ 3 ∧ 3 ≤ 4; decide
  sets := by
    intro s hs
    have h : s = ⟨nmS [99,111,111,108], 1,2⟩ ∨ s = ⟨nmS [119,97,114,109], 5,7⟩ ∨ s = ⟨nmS [103,97,115], 9,10⟩ := by simpa [roomL] using hs
    rcases h with rfl | rfl | rfl
    · exact ⟨ex_nms.1, by decide, by decide, by decide⟩
    · exact ⟨ex_nms.2.1, by decide, by decide, by decide⟩
    · exact ⟨ex_nms.2.2.1, by decide, by decide, by decide⟩
  nd := ex_nms.2.2.2
  lr := by show ((2 : Nat) : Int) ≤ 5; decide
  ran := by
    intro z hz
    have h : z = 1 := by simpa [roomL] using hz
    subst h
    show (0 : Int) ≤ 1 ∧ (1 : Int) < ((3 : Nat) : Int)
    decide
  ll := hl
  looks := hx
theorem zEh (k : Nat) : (roomX k).Ok := by
  refine roomL_ok (by decide) ?_ ?_
  · match k with
    | 0 => decide
    | 1 => decide
    | _ + 2 => show 2 ≤ 4; decide
  · match k with
    | 0 => decide
    | 1 => decide
    | _ + 2 => show ∀ x ∈ [((1 : Int),(1 : Int)),(2,3)], 0 ≤ x.1 ∧ x.1 ≤ 2 ∧ 1 ≤ x.2 ∧ x.2 ≤ 7; decide
theorem roomO_ok : roomO.Ok := roomL_ok (by decide) (by decide) (by decide)
theorem ex_lb0 : lookB (roomX 0) 0 = true := by decide +kernel
theorem ex_lb1 : lookB (roomX 1) 0 = true := by decide +kernel
theorem ex_lb2 : lookB (roomX 2) 0 = false := by decide +kernel
theorem ex_lbO : lookB roomO 0 = true := by decide +kernel
theorem ex_wide : at2 (pts (roomX 0) 0) 2 = (13,22) := by decide +kernel
theorem ex_known : at2 (pts (roomX 1) 0) 2 = (13,16) := by decide +kernel
theorem ex_two : (colour (at2 (pts (roomX 0) 0) 2).1, colour (at2 (pts (roomX 0) 0) 2).2) = (2,3) := by decide +kernel
theorem ex_began : at2 (pts (roomX 1) 0) 0 = (3,4) := by decide +kernel
theorem ex_gas : become (roomX 1) [2] = (3,3) := by decide +kernel
theorem ex_plan : (planO (roomX 1) 4 3).map (fun q => (q.l, q.ch)) = some ([0,2], 2) := by decide +kernel
theorem ex_down : (planO roomO 4 3).isNone = true := by decide +kernel
theorem ex_reach : reachTo (roomX 1) 3 7 = [2,3] := by decide +kernel
theorem ex_fill : fillB (roomX 0) 5 4 6 = [2] := by decide +kernel
theorem ex_wrong : wrong (roomX 2) = [0] := by decide +kernel
end Go.Rt.Ro
set_option maxRecDepth 20000
namespace Go.Proofs.Ro
open Go.Proofs.Tryz
open Go.Rt Go.Rt.Ro
open Go.Rt.Ha (bit listL)
attribute [local irreducible] WL WC Con Yd At Ats Sl Agree DW
theorem Try_QP_fb2 (x0 : Int) (x1 : Int) (w : World) : (Instr.build 28 [(0, .int .i64 x0),(1, .int .i64 x1)].toArray).run Tryz.prog w = .ok (.agg #[.int .i64 x0, .int .i64 x1]) w := by kernel_rfl
theorem Try_QP_fb3 (x0 : Int) (x1 : Int) (w : World) : (Instr.build 64 [(0, .int .i64 x0),(1, .int .i64 x1)].toArray).run Tryz.prog w = .ok (.agg #[.int .i64 x0, .int .i64 x1]) w := by kernel_rfl
theorem zHl (x0 : ByteArray) (x1 : Int) (x2 : Int) (w : World) : (Instr.build 61 [(0, .string x0),(1, .agg #[.int .i64 x1, .int .i64 x2])].toArray).run Tryz.prog w = .ok (.agg #[.string x0, .int .i64 x1, .int .i64 x2]) w := by kernel_rfl
theorem Try_QP_fb5 (x0 : ByteArray) (x1 : Int) (x2 : Int) (x3 : ByteArray) (x4 : Int) (x5 : Int) (x6 : ByteArray) (x7 : Int) (x8 : Int) (w : World) : (Instr.buildSlice 29 3 [(0, .agg #[.string x0, .int .i64 x1, .int .i64 x2]),(1, .agg #[.string x3, .int .i64 x4, .int .i64 x5]),(2, .agg #[.string x6, .int .i64 x7, .int .i64 x8])].toArray).run Tryz.prog w = .ok (.slice (some ⟨w.heap.size, 0, none⟩) 3 3) (w.alloc (Go.Rt.blk 61 [.string x0, .int .i64 x1, .int .i64 x2, .string x3, .int .i64 x4, .int .i64 x5, .string x6, .int .i64 x7, .int .i64 x8])) := by kernel_rfl
theorem Try_QP_fb6 (x0 : Int) (x1 : Int) (w : World) : (Instr.buildSlice 30 2 [(0, .int .i64 x0),(1, .int .i64 x1)].toArray).run Tryz.prog w = .ok (.slice (some ⟨w.heap.size, 0, none⟩) 2 2) (w.alloc (Go.Rt.blk 3 [.int .i64 x0, .int .i64 x1])) := by kernel_rfl
theorem Try_QP_fb7 (x0 : Int) (x1 : Int) (x2 : Int) (x3 : Option Addr) (l3 c3 : Nat) (x4 : Int) (x5 : Option Addr) (l5 c5 : Nat) (x6 : Option Addr) (l6 c6 : Nat) (w : World) : (Instr.build 33 [(0, .int .i64 x0),(1, .agg #[.int .i64 x1, .int .i64 x2]),(2, .slice x3 l3 c3),(3, .int .i64 x4),(4, .slice x5 l5 c5),(5, .slice x6 l6 c6)].toArray).run Tryz.prog w = .ok (.agg #[.int .i64 x0, .int .i64 x1, .int .i64 x2, .slice x3 l3 c3, .int .i64 x4, .slice x5 l5 c5, .slice x6 l6 c6]) w := by kernel_rfl
theorem c32 {w0 w : World} {F : List (Nat × Obj)} (a b : Int) (hs : St w0 w F) :
  Con Tryz.prog 32 [.int .i64 a, .int .i64 b] w fun v w' => v = .agg #[.int .i64 a, .int .i64 b] ∧ St w0 w' F := by
  refine zAo (n := 8) func32 rfl rfl (zNl rfl) ?_
  refine zAf (fun K2 g4 => (zAa (zA5 (cs := [_,_]) zAc zeroValue28 rfl hs (fun b3 w4 g5 => ?_))))
  refine zAe (zAb (g4 _ _ (zAf (fun K7 g6 => (zAa (zA2 rfl rfl (zA2 rfl rfl (w_p (zCh (ps := [(0, _),(1, _)]) (pv := [(0, .int _ _),(1, .int _ _)]) rfl rfl (fun w => Try_QP_fb2 _ _ w)) rfl ?_))))))))
  refine zBt 0 (.agg #[.int _ _, .int _ _]) [_,_] sizeOf28 g5 (fun w8 g3 => ?_)
  refine zAe (zAb (g6 _ _ (zA0 (zA1 (l := [.cell 4 28]) (vs := [_]) rfl ⟨⟨rfl, _, rfl, zBv (vs := [_,_]) isAgg28 sizeOf28 g3 (aow 0 [_,_])⟩, trivial⟩ ?_))))
  exact ⟨rfl, g3.tail⟩

theorem c25 {w0 w : World} {F : List (Nat × Obj)} (a b : Int) (hs : St w0 w F) :
  Con Tryz.prog 25 [.int .i64 a, .int .i64 b] w fun v w' => v = .agg #[.int .i64 a, .int .i64 b] ∧ St w0 w' F := by
  refine zAo (n := 8) func25 rfl rfl (zNl rfl) ?_
  refine zAf (fun K2 g4 => (zAa (zA5 (cs := [_,_]) zAc zeroValue64 rfl hs (fun b3 w4 g5 => ?_))))
  refine zAe (zAb (g4 _ _ (zAf (fun K7 g6 => (zAa (zA2 rfl rfl (zA2 rfl rfl (w_p (zCh (ps := [(0, _),(1, _)]) (pv := [(0, .int _ _),(1, .int _ _)]) rfl rfl (fun w => Try_QP_fb3 _ _ w)) rfl ?_))))))))
  refine zBt 0 (.agg #[.int _ _, .int _ _]) [_,_] sizeOf64 g5 (fun w8 g3 => ?_)
  refine zAe (zAb (g6 _ _ (zA0 (zA1 (l := [.cell 4 64]) (vs := [_]) rfl ⟨⟨rfl, _, rfl, zBv (vs := [_,_]) isAgg64 sizeOf64 g3 (aow 0 [_,_])⟩, trivial⟩ ?_))))
  exact ⟨rfl, g3.tail⟩

theorem c24 {w0 w : World} {F : List (Nat × Obj)} (l : List (Int × Int)) (a : Option Addr) (n : Nat) (hl : l.length ≤ 4) (hps : Sl w0 F a 2 (lrows l)) (hs : St w0 w F) :
  Con Tryz.prog 24 [.slice a l.length n] w fun v w' => ∃ (B : List (Nat × Obj)) (p : AtR), v = .agg ((roomL 2 l).cells p).toArray ∧ RIn w0 (B ++ F) (roomL 2 l) p ∧ St w0 w' (B ++ F) := by
  refine zAo (n := 14) func24 rfl rfl (zNl rfl) ?_
  refine zAf (fun K2 g4 => (zAa (zA5 (cs := [_,_,_,_,_,_,_]) zAc zeroValue33 rfl hs (fun b3 w4 g5 => ?_))))
  refine zAe (zAb (g4 _ _ (zAf (fun K7 g6 => (zAa (zCi zAc call32 rfl rfl rfl rfl (c32 _ _ g5) (fun w9 g7 => ?_)))))))
  refine zCi zAc call32 rfl rfl rfl rfl (c32 _ _ g7) (fun gg g8 => ?_)
  refine w_p (zCh (ps := [(0, _),(1, _)]) (pv := [(0, .string _),(1, .agg #[.int _ _, .int _ _])]) rfl rfl (fun w => zHl _ _ _ w)) rfl (zCi zAc call32 rfl rfl rfl rfl (c32 _ _ g8) (fun gh g9 => ?_))
  refine w_p (zCh (ps := [(0, _),(1, _)]) (pv := [(0, .string _),(1, .agg #[.int _ _, .int _ _])]) rfl rfl (fun w => zHl _ _ _ w)) rfl (zCi zAc call32 rfl rfl rfl rfl (c32 _ _ g9) (fun gi ga => ?_))
  refine w_p (zCh (ps := [(0, _),(1, _)]) (pv := [(0, .string _),(1, .agg #[.int _ _, .int _ _])]) rfl rfl (fun w => zHl _ _ _ w)) rfl (zBc (ps := [(0, _),(1, _),(2, _)]) (pv := [(0, .agg #[.string _, .int _ _, .int _ _]),(1, .agg #[.string _, .int _ _, .int _ _]),(2, .agg #[.string _, .int _ _, .int _ _])]) (cs := [_,_,_,_,_,_,_,_,_]) zAc rfl rfl (fun w => Try_QP_fb5 _ _ _ _ _ _ _ _ _ w) ga (fun gb gj gc => ?_))
  refine zBc (ps := [(0, _),(1, _)]) (pv := [(0, .int _ _),(1, .int _ _)]) (cs := [_,_]) zAc rfl rfl (fun w => Try_QP_fb6 _ _ w) gc (fun gd gk ge => ?_)
  refine w_p (zAx rfl rfl) rfl (w_p (zCh (ps := [(0, _),(1, _),(2, _),(3, _),(4, _),(5, _)]) (pv := [(0, .int _ _),(1, .agg #[.int _ _, .int _ _]),(2, .slice _ _ _),(3, .int _ _),(4, .slice _ _ _),(5, .slice _ _ _)]) rfl rfl (fun w => Try_QP_fb7 _ _ _ _ _ _ _ _ _ _ _ _ _ w)) rfl ?_)
  refine zBt 2 (.agg #[.int _ _, .int _ _, .int _ _, .slice _ _ _, .int _ _, .slice _ _ _, .slice _ _ _]) [_,_,_,_,_,_,_] sizeOf33 ge (fun gm g3 => ?_)
  refine zAe (zAb (g6 _ _ (zA0 (zA1 (l := [.cell 2 33]) (vs := [_]) rfl ⟨⟨rfl, _, rfl, zBv (vs := [_,_,_,_,_,_,_]) isAgg33 sizeOf33 g3 (aow 2 [_,_,_,_,_,_,_])⟩, trivial⟩ ?_))))
  have gf := (show St _ _ (_ :: _ :: F) from St.pk [[_], [_], [_]] [0,1] g3)
  refine ⟨[_,_], ⟨some ⟨gb,0, none⟩, 3, some ⟨gd,0, none⟩, 2, a, n⟩, rfl, ⟨?_, ?_, hps.cons.cons, ⟨by show 3 ≤ _; decide, by show 3 ≤ 3; decide⟩, by show 2 ≤ _; decide, by show l.length ≤ _; omega, ?_⟩, gf⟩
  · exact (zBx (i := 1) rfl (by intro row h; obtain ⟨q, _, rfl⟩ := List.mem_map.1 h; rfl) rfl)
  · exact (zBx (i := 0) rfl (by intro row h; obtain ⟨q, _, rfl⟩ := List.mem_map.1 h; rfl) rfl)
  · intro x hx
    have h : x = ⟨nmS [99,111,111,108], 1,2⟩ ∨ x = ⟨nmS [119,97,114,109], 5,7⟩ ∨ x = ⟨nmS [103,97,115], 9,10⟩ := by simpa [roomL] using hx
    rcases h with rfl | rfl | rfl <;> decide

end Go.Proofs.Ro
set_option maxRecDepth 20000
namespace Go.Proofs.Ro
open Go.Proofs.Tryz
open Go.Rt Go.Rt.Ro
open Go.Rt.Ha (bit listL)
attribute [local irreducible] WL WC Con Yd At Ats Sl Agree DW
theorem Try_QN_fb2 (x0 : Int) (x1 : Int) (x2 : Int) (x3 : Int) (x4 : Int) (x5 : Int) (w : World) : (Instr.buildSlice 30 6 [(0, .int .i64 x0),(1, .int .i64 x1),(2, .int .i64 x2),(3, .int .i64 x3),(4, .int .i64 x4),(5, .int .i64 x5)].toArray).run Tryz.prog w = .ok (.slice (some ⟨w.heap.size, 0, none⟩) 6 6) (w.alloc (Go.Rt.blk 3 [.int .i64 x0, .int .i64 x1, .int .i64 x2, .int .i64 x3, .int .i64 x4, .int .i64 x5])) := by kernel_rfl
theorem Try_QN_fb3 (x0 : Int) (w : World) : (Instr.buildSlice 30 1 [(0, .int .i64 x0)].toArray).run Tryz.prog w = .ok (.slice (some ⟨w.heap.size, 0, none⟩) 1 1) (w.alloc (Go.Rt.blk 3 [.int .i64 x0])) := by kernel_rfl
theorem bare_in {w0 : World} {F : List (Nat × Obj)} {r : Room} {p : AtR} (h : RIn w0 F r p) : RIn w0 F (bareR r) (bareP p) := ⟨h.s, Sl.nil _ _, Sl.nil _ _, h.ls, by simp [bareR], by simp [bareR], h.nm⟩
theorem c30 {w0 w : World} {F : List (Nat × Obj)} (r : Room) (p : AtR) (hm : RIn w0 F r p) (hr : r.Ok) (day : Nat) (hday : (day : Int) ≤ r.days) (want : Int) (hwant : 1 ≤ want ∧ want ≤ 7) (hs : St w0 w F) :
  Con Tryz.prog 30 [.agg (r.cells p).toArray, .int .i64 (day : Int), .int .i64 want] w fun v w' => ∃ a c LB, v = .tuple #[.slice a (fillB r day want (day + 1)).length c, .int .i64 0] ∧ Sl w0 LB a 1 ((fillB r day want (day + 1)).map fun x => [Value.int .i64 x]) ∧ St w0 w' (LB ++ F) := by
  refine zAo (n := 61) func30 rfl rfl (zNl rfl) ?_
  have hdy := hr.days
  have hlr := hr.lr
  have hll := hr.ll
  have hls := hr.ls
  have hst := hr.start
  have hbo := bare_ok hr
  have hbl := bare_look hr
  have hbls := hbo.ls
  refine zAf (fun K2 gh => (zAa (zCd (v := .agg #[.int _ _, .int _ _, .int _ _, .slice _ _ _, .int _ _, .slice _ _ _, .slice _ _ _]) (cs := [_,_,_,_,_,_,_]) zAc rfl rfl rfl hs (fun b3 w4 gb => ?_))))
  refine zA9 rfl rfl (zA9 rfl rfl (zAe (zAb (gh _ _ (zAf (fun K7 gi => (zAf (fun K9 gj => (zAa (w_p (zAs (vs := [_,_,_,_,_,_,_]) isAgg33 sizeOf33 gb rfl rfl (aow 0 [_,_,_,_,_,_,_])) rfl ?_))))))))))
  refine zCi zAc call62 rfl rfl rfl rfl (c62 r p hm.cons hr gb) (fun gT gc => ?_)
  refine w_p (zA6 rfl rfl) rfl (w_p (zAq rfl rfl rfl) rfl (w_p (zAq rfl rfl rfl) rfl (w_p (zAq rfl rfl rfl) rfl (zBg rfl rfl (zAe (zAb (gj _ _ (zAf (fun gU gk => (zAa (zA2 rfl rfl ?_)))))))))))
  refine w_p (zCk rfl rfl rfl rfl) rfl (zAe (zAb (gk _ _ (zBz rfl rfl ?_))))
  refine zAa (zA2 rfl rfl (w_p (zAd (o := 0) (i := 0) underlying33 rfl sizeOf3 rfl rfl rfl) rfl (w_p (zAi isAgg3 gc rfl rfl (aow 0 [_])) rfl (zA2 rfl rfl ?_))))
  refine zBc (ps := [(0, _),(1, _),(2, _),(3, _),(4, _),(5, _)]) (pv := [(0, .int _ _),(1, .int _ _),(2, .int _ _),(3, .int _ _),(4, .int _ _),(5, .int _ _)]) (cs := [_,_,_,_,_,_]) zAc rfl rfl (fun w => Try_QN_fb2 _ _ _ _ _ _ w) gc (fun gV gW gm => ?_)
  refine zA4 zAc call41 rfl rfl rfl rfl (c41 _ _ _ gm) ?_
  rintro _ gX ⟨bwi, rfl, g5⟩
  replace g5 := (show St _ _ (_ :: _ :: _ :: F) from g5)
  refine zCi zAc call73 rfl rfl rfl rfl (c73 bwi _ _ [_,_,_,_,_,_] (fun q hq => by have : q = 0 ∨ q = 1 := (by simp at hq; omega); rcases this with rfl | rfl; (show (0 : Int) ≤ day ∧ (day : Int) ≤ r.days; omega); (show (1 : Int) ≤ want ∧ want ≤ 7; omega)) (by simp) (aow 0 [_]) (zBx (i := 1) (rows := [[_], [_], [_], [_], [_], [_]]) rfl (by simp) rfl) g5) (fun gY gn => ?_)
  refine zBg rfl rfl (zAe (zAb (gi _ _ (zAf (fun gZ gq => (zAf (fun hG gr => (zAa (zA2 rfl rfl (w_p (zCj rfl rfl rfl rfl) rfl (zAe (zAb (gr _ _ (zBj rfl rfl ?_))))))))))))))
  refine zAr (zAb (gq _ _ (zAf (fun hH gt => (zAa (w_p (zAd (o := 5) (i := 4) underlying33 rfl sizeOf30 rfl rfl rfl) rfl (zBt 2 (.slice _ _ _) [_] sizeOf30 gn (fun hO gu => ?_))))))))
  refine w_p (zAd (o := 6) (i := 5) underlying33 rfl sizeOf31 rfl rfl rfl) rfl (zBt 2 (.slice _ _ _) [_] sizeOf31 gu (fun hY gw => ?_))
  refine zAe (zAb (gt _ _ (zAf (fun j0 gx => ?_))))
  have g4 := (show St _ _ (_ :: F) from gw.tail.tail)
  replace g4 := (show St _ _ ((b3, blk 33 ((bareR r).cells (bareP p))) :: F) from g4)
  refine zAa (w_p (zAs (vs := [_,_,_,_,_,_,_]) isAgg33 sizeOf33 g4 rfl rfl (aow 0 [_,_,_,_,_,_,_])) rfl ?_)
  refine zA4 zAc call63 rfl rfl rfl rfl ((c63 (bareR r) (bareP p) (RIn.cons (bare_in hm)) hbo 0 (by omega) g4).mono (fun v w' h => (h.resolve_left (fun x => by rw [hbl] at x; cases x.1)).2)) ?_
  rintro _ j1 ⟨rb, mm, rfl, g6⟩
  replace g6 := (show St _ _ (_ :: _ :: _ :: F) from g6)
  refine w_p (zA6 rfl rfl) rfl (w_p (zBy rfl rfl rfl) rfl (w_p (zBf rfl rfl rfl) rfl (w_p (zBu rfl rfl) rfl (w_p (zAl rfl rfl) rfl (zAe (zAb (gx _ _ (zAf (fun j3 gy => (zAf (fun j4 gz => (zAa (zA2 rfl rfl ?_)))))))))))))
  refine w_p (zBe rfl rfl rfl rfl (by omega) (by omega)) rfl (w_p (zBo (v := _) rfl rfl) rfl (zAe (zAb (gz _ _ (zAw ?_)))))
  have gA := (show St _ _ (_ :: _ :: _ :: F) from St.pk [[_], [_], [_]] [1,0,2] g6)
  refine zB2 [6,10,11,12,40,41,42,43,44,45,46,47,48,49,50,51,52,53,54,55,56,57,58,59] [6,40] (fun kk vs w => ∃ (i : Nat) (v : Value) (LB M : List (Nat × Obj)), vs = [v, .int .i64 (i : Int)] ∧ i ≤ day + 1 ∧ kk = day + 1 - i ∧ Rt.Own v 3 1 (fillB r day want i).length (iv (fillB r day want i)) LB ∧ Memo (bareR r) mm M ∧ St w0 w (M ++ ((rb, blk 103 (RC (bareR r) (bareP p) (pts (bareR r) 0) mm)) :: (LB ++ ((b3, blk 33 ((bareR r).cells (bareP p))) :: F))))) (day + 1) ?_ ?_
  ·
   exact ⟨0, _, [], [_], rfl, by omega, by omega, zEv 3 1, zEl (bareR r) mm, gA⟩
  intro k vs μ j5 hI j6 gd
  clear hs
  obtain ⟨i, v, LB, M, rfl, hia, rfl, hown, hM, hs⟩ := hI
  have hrl := fillB_le r day want i
  refine zAf (fun j7 gB => (zAa (w_p (zCb rfl rfl rfl rfl) rfl (zAe (zAb (gB _ _ (zAf (fun j9 gC => (zAv rfl rfl (fun g7 => ?_) (fun g7 => ?_))))))))))
  ·
   try simp only [zS] at g7
   refine zAr (zAb (gC _ _ (zAf (fun ja ge => (zAw ?_)))))
   refine zAf (fun jb gD => (zAa (zA2 rfl rfl (zBg rfl rfl (zAe (zAb (gD _ _ (zAf (fun jc gf => (zAa (w_p (zBi rfl rfl) rfl ?_)))))))))))
   refine w_p (zAd (o := 1) (i := 1) underlying33 rfl sizeOf28 rfl rfl rfl) rfl ?_
   have gg := (show St _ _ (_ :: (M ++ (_ :: (LB ++ (F))))) from St.pk [M, [_], LB, [_]] [3,0,1,2] hs)
   refine w_p (zAs (vs := [_,_]) isAgg28 sizeOf28 gg rfl rfl (aow 0 [_,_])) rfl (zA2 rfl rfl (zA2 rfl rfl (w_p (zCt (z' := ((day - i : Nat) : Int)) (by omega) (zDk rfl rfl rfl rfl (by omega) (by omega))) rfl ?_)))
   refine zA2 rfl rfl ?_
   have gE := (show St _ _ ((M ++ (_ :: (LB ++ (_ :: F))))) from St.pk [[_], M, [_], LB] [1,2,3,0] gg)
   refine zA4 zAc call42 rfl rfl rfl rfl (c42 (M := M) (bareR r) (bareP p) rb mm (rk_new (t := 103) (rb := rb) (mm := mm) (RIn.app (B := LB) (RIn.cons (bare_in hm))) hbo hbl) (r.lo, r.hi) (by dsimp only; omega) (-1) (by omega) (day - i) (by omega) want hM gE) ?_
   rintro _ jd (⟨hfn, rfl, M2, g8, g3⟩ | ⟨q, a, c, Y, M2, hfn, rfl, hslY, hnil, hcap, g8, g3⟩)
   ·
    replace g3 := (show St _ _ (M2 ++ (_ :: LB ++ (_ :: F))) from g3)
    refine w_p (zA6 rfl rfl) rfl (w_p (zBp (v := .agg _) rfl rfl rfl) rfl (w_p (zBf rfl rfl rfl) rfl (zA5 (cs := [_,_,_,_,_,_]) zAc zeroValue96 rfl g3 (fun je jf gF => ?_))))
    refine zBt 0 (.agg #[.slice _ _ _, .int _ _, .int _ _, .int _ _, .int _ _, .int _ _]) [_,_,_,_,_,_] sizeOf96 gF (fun jg gG => ?_)
    refine w_p (zAl rfl rfl) rfl (zAe (zAb (gf _ _ (zAf (fun jh gH => (zAa (w_p (zAn rfl rfl) rfl (zAe (zAb (gH _ _ (zBj rfl rfl ?_)))))))))))
    refine zAr (zAk (zAb (ge _ _ (zAa (w_p (zBe rfl rfl rfl rfl (by omega) (by omega)) rfl (zA2 rfl rfl (zAe (zAb (gd _ _ (nxI (day + 1 - (i + 1)) (by omega) ?_))))))))))
    have gI := (show St _ _ ((M2 ++ (_ :: (LB ++ (_ :: F))))) from gG.tail)
    exact ⟨i + 1, v, LB, M2, rfl, by omega, rfl, by rw [fill_n (by omega) hfn]; exact hown, g8, gI⟩
   replace g3 := (show St _ _ (Y ++ (M2 ++ (_ :: LB ++ (_ :: F)))) from g3)
   have hqp := first_pok (by omega) _ hfn
   obtain ⟨x1, x2, x3, x4, hw4⟩ := ways4 hqp.1.wl
   obtain ⟨ql, qw, qc⟩ := q
   have hw5 : qw = [x1, x2, x3, x4] := hw4
   subst hw5
   refine w_p (zA6 rfl rfl) rfl (w_p (zBp (v := .agg _) rfl rfl rfl) rfl (w_p (zBf rfl rfl rfl) rfl (zA5 (cs := [_,_,_,_,_,_]) zAc zeroValue96 rfl g3 (fun ji jj gJ => ?_))))
   refine zBt 0 (.agg #[.slice _ _ _, .int _ _, .int _ _, .int _ _, .int _ _, .int _ _]) [_,_,_,_,_,_] sizeOf96 gJ (fun jk gK => ?_)
   refine w_p (zAl rfl rfl) rfl (zAe (zAb (gf _ _ (zAf (fun jl gL => (zAa (w_p (zAn rfl rfl) rfl (zAe (zAb (gL _ _ (zBz rfl rfl ?_)))))))))))
   refine zAa (w_p (zBo (v := v) rfl rfl) rfl (zA2 rfl rfl (zBc (ps := [(0, _)]) (pv := [(0, .int _ _)]) (cs := [_]) zAc rfl rfl (fun w => Try_QN_fb3 _ w) gK (fun jm jo gM => ?_))))
   have gN := (show St _ _ (_ :: (LB ++ (_ :: (Y ++ ((M2 ++ (_ :: _ :: F))))))) from St.pk [[_], [_], Y, M2, [_], LB, [_]] [0,5,1,2,3,4,6] gM)
   refine zDd (X := (_ :: [])) (B := LB) (rows := [[_]]) (sz := 1) (bytes := 8) zAc underlying30 zDf rfl rfl rfl rfl rfl rfl rfl rfl rfl gN hown (zBx (i := 0) rfl (by simp) rfl) rfl (by simp) (by simp [Value.oneCell']) (by simp only [maxLen]; omega) (by omega) (fun gO jp g9 gP ga => ?_)
   replace ga := (show St _ _ (_ :: g9 ++ (_ :: Y ++ (M2 ++ (_ :: _ :: F)))) from ga)
   refine w_p (zB9 (v := gO) rfl rfl) rfl (zAe (zAk (zAb (ge _ _ (zAa (w_p (zBe rfl rfl rfl rfl (by omega) (by omega)) rfl (zA2 rfl rfl (zAe (zAb (gd _ _ (nxI (day + 1 - (i + 1)) (by omega) ?_)))))))))))
   have gQ := (show St _ _ ((M2 ++ (_ :: (g9 ++ (_ :: F))))) from St.pk [[_], g9, [_], Y, M2, [_], [_]] [4,5,1,6] ga)
   exact ⟨i + 1, _,_, M2, rfl, by omega, rfl, by rw [fill_y (by omega) hfn]; exact zEi gP, g8, gQ⟩
  try simp only [zS] at g7
  refine zBr (zAj (zAj (zAy (zAb (gy _ _ (zAf (fun jq gR => (zAa (w_p (zBo (v := v) rfl rfl) rfl (w_p (zB9 (v := v) rfl rfl) rfl ?_))))))))))
  refine zA9 rfl rfl (zAe (zAb (gR _ _ (zA0 (zA1 (l := [.tmp 6, .tmp 7]) (vs := [_,_]) rfl ⟨⟨rfl, show _ = (v : Value) from rfl⟩, ⟨rfl, (rfl : _ = Value.int _ _)⟩, trivial⟩ ?_)))))
  have gS := (show St _ _ ((LB ++ (F))) from St.pk [M, [_], LB, [_]] [2] hs)
  have hi7 : i = day + 1 := by omega
  subst hi7
  obtain ⟨a, c, hva, hsl, hnil⟩ := zHx (w0 := w0) hown
  exact ⟨a, c, LB, by rw [hva]; rfl, hsl, gS⟩

end Go.Proofs.Ro
