/- Own texts of this claim, joined. No conditions. -/
import Derived.Test.YtnjlejikgkelgaaGreatHTopLoadeda
import Derived.Test.YtnjlejikgkelgaaGreatHTopLoadedb
import Derived.Test.YtnjlejikgkelgaaGreatHTopLoadedc
import Derived.Test.YtnjlejikgkelgaaGreatHTopLoadedd
import Derived.Test.YtnjlejikgkelgaaGreatHTopLoadede
import Derived.Test.YtnjlejikgkelgaaGreatHTopLoadedf
import Derived.Test.YtnjlejikgkelgaaGreatHTopLoadedg
set_option linter.unusedVariables false
set_option linter.unusedSimpArgs false
set_option maxRecDepth 20000
namespace Go.Proofs.Kb
open Go.Proofs.Tryz
open Go.Rt Go.Rt.Ch
open Go.Rt.Ha (firstE zBv zBf zBo failE nameE felt spanL upto zCi listL fewest fewTo bit before fewStep zCo zDg zCb zCx zCj zC5 zCv zB2)
attribute [local irreducible] WL WC Con Yd At Ats Sl Agree DW
theorem Try_flat93 : flatInts Tryz.prog 93 4 = true := by kernel_rfl
theorem fares_in {w0 w : World} {P X B M F : List (Nat × Obj)} (b : Board) (p : AtB) (bb mm : Nat) (hk : BK w0 F b p bb mm) (c : Nat) (hc : c < b.ctrs.length) (l : List Int) (hl4 : l.length = 4) (hld : ∀ i (hi : i < b.hours.length), b.hours[i].lo ≤ ld l i ∧ ld l i ≤ b.hours[i].hi) (fk : FuncId) (f1 cp : Array Value) (q : Quest) (hq : QIs w0 F (.func (.func fk) f1 cp) q) (hM : Memo w0 b mm M) (hs : St w0 w (P ++ (X ++ (B ++ (M ++ F))))) :
    Con Tryz.prog 74 [.pointer (some ⟨bb, 0, none⟩), .int .i64 (c : Int), ia l, .agg #[.func (.func fk) f1 cp]] w fun v w' => ∃ M', v = .tuple #[.bool (notF (ctrOf b c) l q b.hours.length), .bool (metF (ctrOf b c) l q b.hours.length)] ∧ Memo w0 b mm M' ∧ St w0 w' (P ++ (X ++ (B ++ (M' ++ F)))) :=
  (c74 b p bb mm hk c hc l hl4 hld fk f1 cp q hq hM (st_in hs)).mono fun _ _ ⟨M', h1, h2, h3⟩ => ⟨M', h1, h2, st_out h3⟩
def NextC (b : Board) (mm bp bl bla bY bn : Nat) (Ls : List (List Int)) (J : Nat → List (Nat × Obj) → Prop) (Js : List (Nat × Obj) → Prop) (yv : Value) (w0 : World) (F : List (Nat × Obj)) (rem : Nat) : Prop :=
  ∀ (d : Nat) (pre cur last : List Int) (i : Nat) (R RF : List (List Int)) (B M X : List (Nat × Obj)) (w : World), d + rem = b.hours.length → pre.length = d → (∀ j (hj : j < b.hours.length), j < d → b.hours[j].lo ≤ ld pre j ∧ ld pre j ≤ b.hours[j].hi) → cur.length = 4 → cur.take d = pre → (∀ j, b.hours.length ≤ j → cur.getD j 0 = 0) → i ≤ Ls.length →
    Ls.drop i = segK b d pre ++ R → last.length = 4 → (segF b d pre ++ RF).Nodup → last ∉ segF b d pre ++ RF → J i B → Memo w0 b mm M → St w0 w ((bn, blk 126 [.func (.func 87) #[] #[.pointer (some ⟨bp, 0, none⟩), .pointer (some ⟨bl, 0, none⟩), .pointer (some ⟨bla, 0, none⟩), .pointer (some ⟨bY, 0, none⟩), .pointer (some ⟨bn, 0, none⟩)]]) :: (bla, blk 93 (iv last)) :: (bl, blk 93 (iv cur)) :: (bY, blk 151 [yv]) :: (X ++ (B ++ (M ++ F)))) →
    Con Tryz.prog 87 [.int .i64 (d : Int), .pointer (some ⟨bp, 0, none⟩), .pointer (some ⟨bl, 0, none⟩), .pointer (some ⟨bla, 0, none⟩), .pointer (some ⟨bY, 0, none⟩), .pointer (some ⟨bn, 0, none⟩)] w fun v w' => ∃ (cur' last' : List Int) (B' M' : List (Nat × Obj)), cur'.length = 4 ∧ last'.length = 4 ∧ cur'.take d = pre ∧ (∀ j, b.hours.length ≤ j → cur'.getD j 0 = 0) ∧ Memo w0 b mm M' ∧ St w0 w' ((bn, blk 126 [.func (.func 87) #[] #[.pointer (some ⟨bp, 0, none⟩), .pointer (some ⟨bl, 0, none⟩), .pointer (some ⟨bla, 0, none⟩), .pointer (some ⟨bY, 0, none⟩), .pointer (some ⟨bn, 0, none⟩)]]) :: (bla, blk 93 (iv last')) :: (bl, blk 93 (iv cur')) :: (bY, blk 151 [yv]) :: (X ++ (B' ++ (M' ++ F)))) ∧
      ((v = .bool true ∧ ∃ i', i' ≤ Ls.length ∧ Ls.drop i' = R ∧ last' ∉ RF ∧ J i' B') ∨ (v = .bool false ∧ Js B'))
theorem zGj {Ls R : List (List Int)} {cur : List Int} {i : Nat} {b : Bool} (hpos : Ls.drop i = (if b = true then [cur] else []) ++ R) (h : b = false) : Ls.drop i = R := by rw [hpos, h]; rfl
theorem leaf_some {Ls R : List (List Int)} {cur : List Int} {i : Nat} {b : Bool} (hpos : Ls.drop i = (if b = true then [cur] else []) ++ R) (h : b = true) : Ls.drop i = cur :: R := by rw [hpos, h]; rfl
theorem fr5 {w0 w : World} {R : List (Nat × Obj)} {a b c e f : Nat × Obj} (hs : St w0 w (a :: b :: c :: e :: f :: R)) : St w0 w (b :: c :: e :: f :: a :: R) := hs.perm (zAq [a] [b, c, e, f] R)
theorem bk5 {w0 w : World} {R : List (Nat × Obj)} {a b c e f : Nat × Obj} (hs : St w0 w (b :: c :: e :: f :: a :: R)) : St w0 w (a :: b :: c :: e :: f :: R) := hs.perm (zAq [b, c, e, f] [a] R)
theorem c87 {w0 : World} {F : List (Nat × Obj)} (b : Board) (p : AtB) (bb mm : Nat) (hk : BK w0 F b p bb mm)  (bp bl bla bY bn : Nat) (h1 : Ats w0 F bp 0 [.pointer (some ⟨bb, 0, none⟩)]) (Ls : List (List Int)) (J : Nat → List (Nat × Obj) → Prop) (Js : List (Nat × Obj) → Prop) (yv : Value) (hy : ∀ (i : Nat) (x : List Int) (R : List (List Int)) (B M X : List (Nat × Obj)) (w : World), Ls.drop i = x :: R → J i B → Memo w0 b mm M → St w0 w (X ++ (B ++ (M ++ F))) → FCon Tryz.prog yv [ia x] w fun v w' => ∃ B' M', Memo w0 b mm M' ∧ St w0 w' (X ++ (B' ++ (M' ++ F))) ∧ (v = .bool true ∧ J (i + 1) B' ∨ v = .bool false ∧ Js B')) (rem : Nat) (ih : ∀ r, rem = r + 1 → NextC b mm bp bl bla bY bn Ls J Js yv w0 F r) : NextC b mm bp bl bla bY bn Ls J Js yv w0 F rem := by
  intro d pre cur last i R RF B M X w hdr hpl hpr hcl hkt hz hi hpos hll hnd hlast hJ hM hs
  have hb := hk.l
  have hlh := hk.ok.lh
  have hlc := hk.ok.lc
  refine zAu (n := 77) func87 rfl rfl (zNl rfl) ?_
  refine zAf (fun K2 go => (zAa (zBg rfl rfl (zAe (zAc (go _ _ (zAf (fun K4 gp => (zAf (fun K6 gq => (zAa (zBa rfl rfl (w_p (zAj isAgg88 hs.tail.tail.tail.tail.drop.drop.drop rfl rfl h1) rfl ?_)))))))))))))
  refine w_p (zBi rfl rfl) rfl (w_p (zAd (o := 0) (i := 0) underlying131 rfl sizeOf41 rfl rfl rfl) rfl (w_p (zAd (o := 1) (i := 1) underlying41 rfl sizeOf38 rfl rfl rfl) rfl (w_p (zAj isAgg38 hs.tail.tail.tail.tail.drop.drop.drop rfl rfl (show Ats _ _ _ _ [_] from Ats.part hb 1 1)) rfl ?_)))
  refine w_p (zBm underlying38 rfl rfl) rfl (w_p (zBw rfl rfl rfl rfl) rfl (zAe (zAc (gq _ _ (zAy rfl rfl (fun h7 => ?_) (fun h7 => ?_))))))
  ·
   try simp only [zS] at h7
   refine zAf (fun K9 gr => (zAf (fun gO gt => ?_)))
   have hr0 : rem = 0 := by omega
   subst hr0
   have hcur := cur_pad4 hcl hpl (by omega) hkt (by have hdn : d = b.hours.length := (by omega); subst hdn; exact hz)
   have hld : ∀ i (hi : i < b.hours.length), b.hours[i].lo ≤ ld cur i ∧ ld cur i ≤ b.hours[i].hi := fun i hi => by rw [hcur, zI2]; exact hpr i hi (by omega)
   have hsp : canL b pre = canL b cur := by rw [hcur, can_pad]
   rw [segK_leaf (by omega), hsp, ← hcur] at hpos
   rw [segF_leaf (by omega), ← hcur] at hlast hnd
   have hne : ¬ cur = last := fun e => hlast (by rw [← e]; exact .head _)
   have hnc : cur ∉ RF := (List.nodup_cons.1 hnd).1
   refine zAa (w_p (zB5 (i := 2) isAgg93 sizeOf93 (by first | omega | rfl | (simp only [hcl, hll, zL] <;> omega)) hs rfl rfl rfl) rfl ?_)
   refine w_p (zB5 (i := 1) isAgg93 sizeOf93 (by first | omega | rfl | (simp only [hcl, hll, zL] <;> omega)) hs rfl rfl rfl) rfl ?_
   refine w_p (zHj (l := _) (m := _) eqGuardType93 Try_flat93 (by first | omega | rfl | (simp only [hcl, hll, zL] <;> omega)) (by first | omega | rfl | (simp only [hcl, hll, zL] <;> omega)) rfl rfl rfl rfl rfl rfl) rfl ?_
   refine zAe (zAc (gt _ _ (zAy rfl rfl (fun g9 => ?_) (fun g9 => ?_))))
   ·
    try simp only [zS] at g9
    exact absurd (by assumption) hne
   try simp only [zS] at g9
   refine zAv (zAc (gr _ _ (zAf (fun gP gu => (zAa (w_p (zB5 (i := 2) isAgg93 sizeOf93 (by first | omega | rfl | (simp only [hcl, hll, zL] <;> omega)) hs rfl rfl rfl) rfl ?_))))))
   refine zCm (i := 1) (l := _) zAb sizeOf93 (by first | omega | rfl | (simp only [hcl, hll, zL] <;> omega)) rfl rfl rfl rfl rfl hs rfl (by first | omega | rfl | (simp only [hcl, hll, zL] <;> omega)) (fun gQ ga => ?_)
   refine zAe (zAc (gu _ _ (zAf (fun gR gv => (zAf (fun gT gw => (zAa (w_p (zAj isAgg88 ga.tail.tail.tail.tail.drop.drop.drop rfl rfl h1) rfl (w_p (zBi rfl rfl) rfl (w_p (zAd (o := 0) (i := 0) underlying131 rfl sizeOf41 rfl rfl rfl) rfl ?_))))))))))
   refine w_p (zAd (o := 2) (i := 2) underlying41 rfl sizeOf39 rfl rfl rfl) rfl (w_p (zAj isAgg39 ga.tail.tail.tail.tail.drop.drop.drop rfl rfl (show Ats _ _ _ _ [_] from Ats.part hb 2 1)) rfl (w_p (zBm underlying39 rfl rfl) rfl (w_p (zAi (v := _) rfl rfl) rfl (zAe (zAc (gw _ _ (zAz ?_)))))))
   refine zB3 [7,8,9,10,31,32,33,34,35,36,37,38,39,40,41,42,43,44,45,46,47,48] [31] (fun k vs w => ∃ (ci : Nat) (M : List (Nat × Obj)), vs = [.int .i64 ci] ∧ ci ≤ b.ctrs.length ∧ k = b.ctrs.length - ci ∧ canTo b cur ci = true ∧ Memo w0 b mm M ∧ St w0 w ((bn, blk 126 [.func (.func 87) #[] #[.pointer (some ⟨bp, 0, none⟩), .pointer (some ⟨bl, 0, none⟩), .pointer (some ⟨bla, 0, none⟩), .pointer (some ⟨bY, 0, none⟩), .pointer (some ⟨bn, 0, none⟩)]]) :: (bla, blk 93 (iv cur)) :: (bl, blk 93 (iv cur)) :: (bY, blk 151 [yv]) :: (X ++ (B ++ (M ++ F))))) (b.ctrs.length) ?_ ?_
   ·
    exact ⟨0, M, rfl, by omega, by omega, rfl, hM, ga⟩
   intro k vs μ gU hI gV gg
   clear hs hM
   obtain ⟨ci, M, rfl, hcia, rfl, hct, hM, hs⟩ := hI
   refine zAf (fun gW gx => (zAa (w_p (zCl rfl rfl rfl rfl) rfl (zAe (zAc (gx _ _ (zAf (fun gX gy => (zAy rfl rfl (fun gb => ?_) (fun gb => ?_))))))))))
   ·
    try simp only [zS] at gb
    refine zAv (zAc (gy _ _ (zAf (fun gY gh => (zAz ?_)))))
    refine zAf (fun gZ gz => (zAa (zBa rfl rfl (zBl rfl rfl (zAe (zAc (gz _ _ (zAf (fun hD gA => ?_)))))))))
    have hci2 : ci < b.ctrs.length := by omega
    refine w_drawC (C := fun w => ∃ M, Memo w0 b mm M ∧ St w0 w ((bn, blk 126 [.func (.func 87) #[] #[.pointer (some ⟨bp, 0, none⟩), .pointer (some ⟨bl, 0, none⟩), .pointer (some ⟨bla, 0, none⟩), .pointer (some ⟨bY, 0, none⟩), .pointer (some ⟨bn, 0, none⟩)]]) :: (bla, blk 93 (iv cur)) :: (bl, blk 93 (iv cur)) :: (bY, blk 151 [yv]) :: (X ++ (B ++ (M ++ F))))) [] [(0,1),(1,0),(2,1),(3,2),(4,2),(5,0),(6,0),(7,0),(8,0),(9,0)] zCg (zC8 (by kernel_rfl)) ⟨_, hM, hs⟩ (fun _ ⟨M, h1, h2⟩ => ⟨M, h1, h2.drew⟩) (fun hO ⟨M, hM, gc⟩ => ?_)
    refine zE8 rfl zAb rfl ⟨_, hM, gc⟩ (fun _ ⟨M, hM, hq⟩ => (zAj isAgg88 hq.tail.tail.tail.tail.drop.drop.drop rfl rfl h1)) ?_
    refine d_w rfl (fun _ => zA1 rfl rfl) rfl ?_
    refine zE8 rfl zAb rfl ⟨_, hM, gc⟩ (fun _ ⟨M, hM, hq⟩ => (zB5 (i := 2) isAgg93 sizeOf93 (by first | omega | rfl | (simp only [hcl, hll, zL] <;> omega)) hq rfl rfl rfl)) ?_
    refine zC9 rfl ?_
    refine zAs zAb call44 rfl rfl rfl rfl (c44 gc) ?_
    rintro _ hP ⟨rfl, gi⟩
    refine zAe (qn ⟨⟨_, hM, gi⟩, ?_⟩)
    refine zC9 rfl ?_
    refine zAs zAb call74 rfl rfl rfl rfl (fares_in b p bb mm hk (P := [_,_,_,_]) (X := X) (B := B) (M := M) ci hci2 cur hcl hld 75 #[] #[] slips qis_slips hM gi) ?_
    rintro _ hX ⟨M2, rfl, g7, g4⟩
    replace g4 := (show St _ _ (_ :: _ :: _ :: _ :: X ++ (B ++ (M2 ++ (F)))) from g4)
    refine zAe (qn ⟨⟨_, g7, g4⟩, ?_⟩)
    refine d_w rfl (fun _ => zAi (v := .tuple _) rfl rfl) rfl ?_
    refine d_w rfl (fun _ => zAn (v := .bool _) rfl rfl rfl) rfl ?_
    refine d_w rfl (fun _ => zAn (v := .bool _) rfl rfl rfl) rfl ?_
    refine d_w rfl (fun _ => zAm (v := .bool _) rfl rfl) rfl ?_
    refine d_w rfl (fun _ => zAm (v := .bool _) rfl rfl) rfl ?_
    refine zB0 ?_
    refine zAc (gA _ _ (zAf (fun hY gj => (zAa (w_p (zAi (v := .bool _) rfl rfl) rfl (w_p (zDi rfl rfl) rfl (w_p (zAi (v := .bool _) rfl rfl) rfl ?_)))))))
    refine zBk (fun gd => ?_) (fun gd => ?_)
    ·
     try simp only [zS] at gd
     refine w_y rfl rfl rfl (zAi (v := .bool _) rfl rfl) rfl ?_
     refine w_y rfl rfl rfl (zDi rfl rfl) rfl ?_
     refine w_p (zAx (v := .bool _) rfl rfl rfl rfl) rfl (zAe (zAc (gj _ _ (zAy rfl rfl (fun ge => ?_) (fun ge => ?_)))))
     ·
      try simp only [zS] at ge
      refine zAf (fun j0 gB => (zAa (zBg rfl rfl (zAe (zAc (gB _ _ (zA2 (zAt (zAk (zAk (zAt (zAk (zAk (zA9 (l := [.tmp 7]) (vs := [_]) rfl ⟨⟨rfl, (rfl : _ = Value.bool _)⟩, trivial⟩ ?_))))))))))))))
      first
        | exact ⟨cur, cur, B, M2, hcl, hcl, hkt, hz, g7, g4, .inl ⟨rfl, i, hi, zGj hpos (can_n hci2 (by assumption) (by assumption)), hnc, hJ⟩⟩
        | exact ⟨cur, cur, B1, M1, hcl, hcl, hkt, hz, g5, g4, .inl ⟨rfl, i + 1, zCo hpos2, zCb hpos2, hnc, hJ1⟩⟩
        | exact ⟨cur, cur, B1, M1, hcl, hcl, hkt, hz, g5, g4, .inr ⟨rfl, hJ1⟩⟩
        | exact ⟨cur2, last2, B2, M3, hc2, hl2, zB2 hk2 hpl, hz2, g8, g4, .inr ⟨rfl, hJ2⟩⟩
        | (rw [zFd (by omega), List.nil_append] at hpos
           rw [zFe (by omega), List.nil_append] at hlast
           exact ⟨cur, last, B, M, hcl, hll, hkt, hz, hM, g4, .inl ⟨rfl, i, hi, hpos, hlast, hJ⟩⟩)
     try simp only [zS] at ge
     refine zAv (zAl (zAc (gh _ _ (zAa (w_p (zBj rfl rfl rfl rfl (by omega) (by omega)) rfl (zBa rfl rfl (zAe (zAc (gg _ _ (nxI (b.ctrs.length - (ci + 1)) (by omega) ?_))))))))))
     exact ⟨ci + 1, M2, rfl, by omega, rfl, canTo_y hci2 hct (by first | exact .inl (by assumption) | exact .inr (by assumption)), g7, g4⟩
    try simp only [zS] at gd
    refine zAg rfl rfl rfl ?_
    refine zAg rfl rfl rfl ?_
    refine w_p (zBd (v := _) rfl rfl rfl rfl) rfl (zAe (zAc (gj _ _ (zCc rfl rfl ?_))))
    refine zAv (zAl (zAc (gh _ _ (zAa (w_p (zBj rfl rfl rfl rfl (by omega) (by omega)) rfl (zBa rfl rfl (zAe (zAc (gg _ _ (nxI (b.ctrs.length - (ci + 1)) (by omega) ?_))))))))))
    exact ⟨ci + 1, M2, rfl, by omega, rfl, canTo_y hci2 hct (by first | exact .inl (by assumption) | exact .inr (by assumption)), g7, g4⟩
   try simp only [zS] at gb
   refine zBq (zAo (zAo (zA8 (zAc (gv _ _ (zAf (fun j1 gk => ?_)))))))
   have hpos2 := leaf_some hpos (canTo_all (by omega) hct)
   refine zAa (w_p (zAj isAgg151 hs rfl rfl (zAh (i := 3) (vs := [_]) rfl rfl)) rfl (w_p (zB5 (i := 2) isAgg93 sizeOf93 (by first | omega | rfl | (simp only [hcl, hll, zL] <;> omega)) hs rfl rfl rfl) rfl ?_))
   refine zEt zAb rfl rfl rfl rfl (hy i _ R B M (_ :: _ :: _ :: _ :: X) _ hpos2 hJ hM hs) ?_
   rintro _ j2 ⟨B1, M1, g5, g0, (⟨rfl, hJ1⟩ | ⟨rfl, hJ1⟩)⟩
   ·
    replace g0 := (show St _ _ (_ :: _ :: _ :: _ :: X ++ (B1 ++ (M1 ++ (F)))) from g0)
    refine w_p (zAm (v := .bool _) rfl rfl) rfl (zAe (zAc (gk _ _ (zA2 (zAk (zA9 (l := [.tmp 7]) (vs := [_]) rfl ⟨⟨rfl, (rfl : _ = Value.bool _)⟩, trivial⟩ ?_))))))
    first
      | exact ⟨cur, cur, B, M2, hcl, hcl, hkt, hz, g7, g0, .inl ⟨rfl, i, hi, zGj hpos (can_n hci2 (by assumption) (by assumption)), hnc, hJ⟩⟩
      | exact ⟨cur, cur, B1, M1, hcl, hcl, hkt, hz, g5, g0, .inl ⟨rfl, i + 1, zCo hpos2, zCb hpos2, hnc, hJ1⟩⟩
      | exact ⟨cur, cur, B1, M1, hcl, hcl, hkt, hz, g5, g0, .inr ⟨rfl, hJ1⟩⟩
      | exact ⟨cur2, last2, B2, M3, hc2, hl2, zB2 hk2 hpl, hz2, g8, g0, .inr ⟨rfl, hJ2⟩⟩
      | (rw [zFd (by omega), List.nil_append] at hpos
         rw [zFe (by omega), List.nil_append] at hlast
         exact ⟨cur, last, B, M, hcl, hll, hkt, hz, hM, g0, .inl ⟨rfl, i, hi, hpos, hlast, hJ⟩⟩)
   replace g0 := (show St _ _ (_ :: _ :: _ :: _ :: X ++ (B1 ++ (M1 ++ (F)))) from g0)
   refine w_p (zAm (v := .bool _) rfl rfl) rfl (zAe (zAc (gk _ _ (zA2 (zAk (zA9 (l := [.tmp 7]) (vs := [_]) rfl ⟨⟨rfl, (rfl : _ = Value.bool _)⟩, trivial⟩ ?_))))))
   first
     | exact ⟨cur, cur, B, M2, hcl, hcl, hkt, hz, g7, g0, .inl ⟨rfl, i, hi, zGj hpos (can_n hci2 (by assumption) (by assumption)), hnc, hJ⟩⟩
     | exact ⟨cur, cur, B1, M1, hcl, hcl, hkt, hz, g5, g0, .inl ⟨rfl, i + 1, zCo hpos2, zCb hpos2, hnc, hJ1⟩⟩
     | exact ⟨cur, cur, B1, M1, hcl, hcl, hkt, hz, g5, g0, .inr ⟨rfl, hJ1⟩⟩
     | exact ⟨cur2, last2, B2, M3, hc2, hl2, zB2 hk2 hpl, hz2, g8, g0, .inr ⟨rfl, hJ2⟩⟩
     | (rw [zFd (by omega), List.nil_append] at hpos
        rw [zFe (by omega), List.nil_append] at hlast
        exact ⟨cur, last, B, M, hcl, hll, hkt, hz, hM, g0, .inl ⟨rfl, i, hi, hpos, hlast, hJ⟩⟩)
  try simp only [zS] at h7
  refine zAv (zAc (gp _ _ (zAf (fun j3 gC => ?_))))
  obtain ⟨r, rfl⟩ : ∃ r, rem = r + 1 := ⟨rem - 1, by omega⟩
  have ih2 := ih r rfl
  have hd2 : d < b.hours.length := by omega
  rw [segK_node hd2] at hpos
  rw [segF_node hd2] at hlast hnd
  have hhok := hk.ok.hour _ (List.getElem_mem hd2)
  have hh1 := hhok.lo
  have hh2 := hhok.hi
  have hh3 := hhok.le
  obtain ⟨bx, ox, hbx, hx⟩ := zHl hk.i.h hd2
  refine zAa (w_p (zAj isAgg88 hs.tail.tail.tail.tail.drop.drop.drop rfl rfl h1) rfl (w_p (zBi rfl rfl) rfl (w_p (zAd (o := 0) (i := 0) underlying131 rfl sizeOf41 rfl rfl rfl) rfl (w_p (zAd (o := 1) (i := 1) underlying41 rfl sizeOf38 rfl rfl rfl) rfl ?_))))
  refine w_p (zC0 hbx (zAj isAgg38 hs.tail.tail.tail.tail.drop.drop.drop rfl rfl (show Ats _ _ _ _ [_] from Ats.part hb 1 1))) rfl (zBa rfl rfl (w_p (zBc underlying38 sizeOf48 rfl rfl rfl rfl (i := d) rfl hd2) rfl (w_p (zAd (o := 1) (i := 1) underlying48 rfl sizeOf23 rfl rfl rfl) rfl (w_p (zA7 (vs := [_,_]) isAgg23 sizeOf23 hs.tail.tail.tail.tail.drop.drop.drop rfl rfl (show Ats _ _ _ _ [_,_] from Ats.part hx 1 2)) rfl ?_))))
  refine zBb (cs := [_,_]) zAb zeroValue23 rfl hs (fun gD j4 gE => ?_)
  refine zA4 (i := 0) (v := .agg #[.int _ _, .int _ _]) (vs := [_,_]) zAb sizeOf23 rfl rfl rfl rfl rfl (by simp [Value.oneCell']) gE rfl (zNl rfl) (fun j5 gl => ?_)
  refine zAe (zAc (gC _ _ (zAf (fun j6 gF => (zAf (fun j7 gG => (zAa (w_p (zAd (o := 0) (i := 0) underlying23 rfl sizeOf3 rfl rfl rfl) rfl (w_p (zAj isAgg3 gl rfl rfl (zAh (i := 0) (vs := [_]) rfl rfl)) rfl ?_)))))))))
  refine zBl rfl rfl (zAe (zAc (gG _ _ (zAz ?_))))
  refine zB3 [7,12,63,64,65,66,67,68,69,70,71,72,73,74,75,76] [12] (fun k vs w => ∃ (q : Nat) (cur last : List Int) (i : Nat) (B M : List (Nat × Obj)), vs = [.int .i64 ((b.hours[d]'hd2).lo + q)] ∧ (q : Int) ≤ (b.hours[d]'hd2).hi + 1 - (b.hours[d]'hd2).lo ∧ k = ((b.hours[d]'hd2).hi + 1 - (b.hours[d]'hd2).lo).toNat - q ∧ cur.length = 4 ∧ last.length = 4 ∧ cur.take d = pre ∧ (∀ j, b.hours.length ≤ j → cur.getD j 0 = 0) ∧ i ≤ Ls.length ∧ Ls.drop i = restK b d pre (upto ((b.hours[d]'hd2).lo + q) (((b.hours[d]'hd2).hi + 1 - (b.hours[d]'hd2).lo).toNat - q)) ++ R ∧ (restF b d pre (upto ((b.hours[d]'hd2).lo + q) (((b.hours[d]'hd2).hi + 1 - (b.hours[d]'hd2).lo).toNat - q)) ++ RF).Nodup ∧ last ∉ restF b d pre (upto ((b.hours[d]'hd2).lo + q) (((b.hours[d]'hd2).hi + 1 - (b.hours[d]'hd2).lo).toNat - q)) ++ RF ∧ J i B ∧ Memo w0 b mm M ∧ St w0 w ((gD, blk 23 [.int .i64 (b.hours[d]'hd2).lo, .int .i64 (b.hours[d]'hd2).hi]) :: (bn, blk 126 [.func (.func 87) #[] #[.pointer (some ⟨bp, 0, none⟩), .pointer (some ⟨bl, 0, none⟩), .pointer (some ⟨bla, 0, none⟩), .pointer (some ⟨bY, 0, none⟩), .pointer (some ⟨bn, 0, none⟩)]]) :: (bla, blk 93 (iv last)) :: (bl, blk 93 (iv cur)) :: (bY, blk 151 [yv]) :: (X ++ (B ++ (M ++ F))))) (((b.hours[d]'hd2).hi + 1 - (b.hours[d]'hd2).lo).toNat) ?_ ?_
  ·
   exact ⟨0, cur, last, i, B, M, iv1 (by omega), by omega, by omega, hcl, hll, hkt, hz, hi, by rw [show (b.hours[d]'hd2).lo + ((0 : Nat) : Int) = (b.hours[d]'hd2).lo by omega, Nat.sub_zero]; exact hpos, by rw [show (b.hours[d]'hd2).lo + ((0 : Nat) : Int) = (b.hours[d]'hd2).lo by omega, Nat.sub_zero]; exact hnd, by rw [show (b.hours[d]'hd2).lo + ((0 : Nat) : Int) = (b.hours[d]'hd2).lo by omega, Nat.sub_zero]; exact hlast, hJ, hM, gl⟩
  intro k vs μ j8 hI j9 gH
  clear hkt hz hi hpos hll hlast hnd hJ hs hcl hM
  obtain ⟨q, cur, last, i, B, M, rfl, hq, rfl, hcl, hll, hkt, hz, hi, hpos, hnd, hlast, hJ, hM, hs⟩ := hI
  refine zAf (fun ja gI => (zAf (fun jb gJ => (zAa (zBa rfl rfl (w_p (zAd (o := 1) (i := 1) underlying23 rfl sizeOf3 rfl rfl rfl) rfl (w_p (zAj isAgg3 hs rfl rfl (zAh (i := 0) (vs := [_]) rfl rfl)) rfl ?_)))))))
  refine w_p (y_leq rfl rfl rfl rfl) rfl (zAe (zAc (gJ _ _ (zAy rfl rfl (fun gf => ?_) (fun gf => ?_)))))
  ·
   try simp only [zS] at gf
   refine zAv (zAc (gI _ _ (zAf (fun jc gK => (zAz ?_)))))
   refine zAf (fun jd gL => (zAa (zBa rfl rfl (zBa rfl rfl (w_p (zC3 underlying93 sizeOf3 rfl rfl rfl rfl (i := d) (by first | rfl | omega) (by omega)) rfl ?_)))))
   refine zDz (i := 3) (j := d) zAb sizeOf3 rfl rfl rfl rfl hs rfl (by first | omega | rfl | (simp only [hcl, hll, zL] <;> omega)) (fun je gm => ?_)
   refine zAe (zAc (gL _ _ (zAf (fun jf gn => (zAa (w_p (zAj isAgg126 gm rfl rfl (zAh (i := 1) (vs := [_]) rfl rfl)) rfl (zBa rfl rfl (w_p (zBj rfl rfl rfl rfl (by omega) (by omega)) rfl ?_))))))))
   refine zAs zAb call87 rfl rfl rfl rfl (ih2 (d + 1) (pre ++ [(b.hours[d]'hd2).lo + (q : Int)]) _ last i _ _ B M (_ :: X) _ (by omega) (by simp; omega) (pre_next hd2 hpl hpr (by omega)) (by rw [List.length_set]; exact hcl) (zC5 hkt (by omega)) (zCv (by omega) hz) hi (by rw [restK_next (by omega), List.append_assoc] at hpos; exact hpos) hll (by rw [zIj (by omega), List.append_assoc] at hnd; exact hnd) (by rw [zIj (by omega), List.append_assoc] at hlast; exact hlast) hJ hM (fr5 gm)) ?_
   rintro _ jg ⟨cur2, last2, B2, M3, hc2, hl2, hk2, hz2, g8, g6, (⟨rfl, i2, hi2, hp2, hn2, hJ2⟩ | ⟨rfl, hJ2⟩)⟩
   ·
    replace g6 := bk5 (show St _ _ (_ :: _ :: _ :: _ :: _ :: (X ++ (B2 ++ (M3 ++ F)))) from g6)
    refine w_p (zDi rfl rfl) rfl (zAe (zAc (gn _ _ (zCc rfl rfl ?_))))
    refine zAv (zAl (zAc (gK _ _ (zAa (zBa rfl rfl (w_p (zBj rfl rfl rfl rfl (by omega) (by omega)) rfl (zBl rfl rfl (zAe (zAc (gH _ _ (nxI (((b.hours[d]'hd2).hi + 1 - (b.hours[d]'hd2).lo).toNat - (q + 1)) (by omega) ?_)))))))))))
    exact ⟨q + 1, cur2, last2, i2, B2, M3, iv1 (by omega), by omega, rfl, hc2, hl2, zB2 hk2 hpl, hz2, hi2, hp2, (by rw [zIj (by omega), List.append_assoc] at hnd; exact (List.nodup_append.1 hnd).2.1), hn2, hJ2, g8, g6⟩
   replace g6 := bk5 (show St _ _ (_ :: _ :: _ :: _ :: _ :: (X ++ (B2 ++ (M3 ++ F)))) from g6)
   refine w_p (zDi rfl rfl) rfl (zAe (zAc (gn _ _ (zCh rfl rfl ?_))))
   refine zAf (fun jh gM => (zAa (zBg rfl rfl (zAe (zAc (gM _ _ (zA2 (zAt (zAk (zAk (zAt (zAk (zA9 (l := [.tmp 7]) (vs := [_]) rfl ⟨⟨rfl, (rfl : _ = Value.bool _)⟩, trivial⟩ ?_)))))))))))))
   first
     | exact ⟨cur, cur, B, M2, hcl, hcl, hkt, hz, g7, g6.tail, .inl ⟨rfl, i, hi, zGj hpos (can_n hci2 (by assumption) (by assumption)), hnc, hJ⟩⟩
     | exact ⟨cur, cur, B1, M1, hcl, hcl, hkt, hz, g5, g6.tail, .inl ⟨rfl, i + 1, zCo hpos2, zCb hpos2, hnc, hJ1⟩⟩
     | exact ⟨cur, cur, B1, M1, hcl, hcl, hkt, hz, g5, g6.tail, .inr ⟨rfl, hJ1⟩⟩
     | exact ⟨cur2, last2, B2, M3, hc2, hl2, zB2 hk2 hpl, hz2, g8, g6.tail, .inr ⟨rfl, hJ2⟩⟩
     | (rw [zFd (by omega), List.nil_append] at hpos
        rw [zFe (by omega), List.nil_append] at hlast
        exact ⟨cur, last, B, M, hcl, hll, hkt, hz, hM, g6.tail, .inl ⟨rfl, i, hi, hpos, hlast, hJ⟩⟩)
  try simp only [zS] at gf
  refine zBq (zAo (zAo (zA8 (zAc (gF _ _ (zAf (fun ji gN => (zAa (zBg rfl rfl (zAe (zAc (gN _ _ (zA2 (zA9 (l := [.tmp 7]) (vs := [_]) rfl ⟨⟨rfl, (rfl : _ = Value.bool _)⟩, trivial⟩ ?_))))))))))))))
  first
    | exact ⟨cur, cur, B, M2, hcl, hcl, hkt, hz, g7, hs.tail, .inl ⟨rfl, i, hi, zGj hpos (can_n hci2 (by assumption) (by assumption)), hnc, hJ⟩⟩
    | exact ⟨cur, cur, B1, M1, hcl, hcl, hkt, hz, g5, hs.tail, .inl ⟨rfl, i + 1, zCo hpos2, zCb hpos2, hnc, hJ1⟩⟩
    | exact ⟨cur, cur, B1, M1, hcl, hcl, hkt, hz, g5, hs.tail, .inr ⟨rfl, hJ1⟩⟩
    | exact ⟨cur2, last2, B2, M3, hc2, hl2, zB2 hk2 hpl, hz2, g8, hs.tail, .inr ⟨rfl, hJ2⟩⟩
    | (rw [zFd (by omega), List.nil_append] at hpos
       rw [zFe (by omega), List.nil_append] at hlast
       exact ⟨cur, last, B, M, hcl, hll, hkt, hz, hM, hs.tail, .inl ⟨rfl, i, hi, hpos, hlast, hJ⟩⟩)

end Go.Proofs.Kb
set_option maxRecDepth 20000
namespace Go.Proofs.Kb
open Go.Proofs.Tryz
open Go.Rt Go.Rt.Ch
open Go.Rt.Ha (firstE zBv zBf zBo failE nameE felt spanL upto zCi listL fewest fewTo bit before fewStep zCo zDg zCb zCx zCj zC5 zCv zB2)
attribute [local irreducible] WL WC Con Yd At Ats Sl Agree DW

theorem next_all {w0 : World} {F : List (Nat × Obj)} (b : Board) (p : AtB) (bb mm : Nat) (hk : BK w0 F b p bb mm)  (bp bl bla bY bn : Nat) (h1 : Ats w0 F bp 0 [.pointer (some ⟨bb, 0, none⟩)]) (Ls : List (List Int)) (J : Nat → List (Nat × Obj) → Prop) (Js : List (Nat × Obj) → Prop) (yv : Value) (hy : ∀ (i : Nat) (x : List Int) (R : List (List Int)) (B M X : List (Nat × Obj)) (w : World), Ls.drop i = x :: R → J i B → Memo w0 b mm M → St w0 w (X ++ (B ++ (M ++ F))) → FCon Tryz.prog yv [ia x] w fun v w' => ∃ B' M', Memo w0 b mm M' ∧ St w0 w' (X ++ (B' ++ (M' ++ F))) ∧ (v = .bool true ∧ J (i + 1) B' ∨ v = .bool false ∧ Js B')) (rem : Nat) : NextC b mm bp bl bla bY bn Ls J Js yv w0 F rem := by
  induction rem with
  | zero => exact c87 b p bb mm hk bp bl bla bY bn h1 Ls J Js yv hy 0 (fun r h => by omega)
  | succ r ih => exact c87 b p bb mm hk bp bl bla bY bn h1 Ls J Js yv hy (r + 1) (fun q h => by have : q = r := (by omega); subst this; exact ih)
theorem iter_memo {w0 : World} {F : List (Nat × Obj)} {b : Board} {mm : Nat} {Ls : List (List Int)} {J : Nat → List (Nat × Obj) → Prop} {Js : List (Nat × Obj) → Prop} {J0 : Nat → List (Nat × Obj) → Prop} {Js0 : List (Nat × Obj) → Prop} (hJi : ∀ i Bx, J i Bx ↔ ∃ B M, Bx = B ++ M ∧ Memo w0 b mm M ∧ J0 i B) (hJs : ∀ Bx, Js Bx ↔ ∃ B M, Bx = B ++ M ∧ Memo w0 b mm M ∧ Js0 B) {yv : Value}
    (hy : ∀ i (hi : i < (Ls.map ia).length) B X w, J i B → St w0 w (X ++ (B ++ F)) → FCon Tryz.prog yv [(Ls.map ia)[i]] w fun v w' => ∃ B', St w0 w' (X ++ (B' ++ F)) ∧ (v = .bool true ∧ J (i + 1) B' ∨ v = .bool false ∧ Js B')) :
    ∀ (i : Nat) (x : List Int) (R : List (List Int)) (B M X : List (Nat × Obj)) (w : World), Ls.drop i = x :: R → J0 i B → Memo w0 b mm M → St w0 w (X ++ (B ++ (M ++ F))) → FCon Tryz.prog yv [ia x] w fun v w' => ∃ B' M', Memo w0 b mm M' ∧ St w0 w' (X ++ (B' ++ (M' ++ F))) ∧ (v = .bool true ∧ J0 (i + 1) B' ∨ v = .bool false ∧ Js0 B') := by
  intro i x R B M X w hd hJ hM hs
  have h := hy i (by simpa using zCo hd) (B ++ M) X w ((hJi _ _).2 ⟨B, M, rfl, hM, hJ⟩) (by rw [List.append_assoc]; exact hs)
  rw [List.getElem_map, zDg hd] at h
  refine h.mono ?_
  rintro v w' ⟨Bx, hs', (⟨rfl, hj⟩ | ⟨rfl, hj⟩)⟩
  · obtain ⟨B', M', rfl, hM', hJ'⟩ := (hJi _ _).1 hj
    exact ⟨B', M', hM', by rw [List.append_assoc] at hs'; exact hs', .inl ⟨rfl, hJ'⟩⟩
  · obtain ⟨B', M', rfl, hM', hJ'⟩ := (hJs _).1 hj
    exact ⟨B', M', hM', by rw [List.append_assoc] at hs'; exact hs', .inr ⟨rfl, hJ'⟩⟩
theorem some_perm (p c : Nat × Obj) (X M F : List (Nat × Obj)) : (p :: c :: (X ++ (M ++ F))).Perm (([c] ++ M) ++ (p :: (X ++ F))) :=
  (zAq [p] [c] (X ++ (M ++ F))).trans (List.Perm.append_left [c] (zAq (p :: X) M F))
theorem zJe {w0 w : World} {a : Nat × Obj} {X M F : List (Nat × Obj)} (h : St w0 w (M ++ (a :: (X ++ F)))) : St w0 w (X ++ (M ++ F)) := by
  have h1 := (h.perm (zAq M [a] (X ++ F))).tail
  exact St.perm (L := M ++ (X ++ F)) h1 (zAq M X F)
theorem zFn {w0 : World} {F : List (Nat × Obj)} (b : Board) (p : AtB) (bb mm : Nat) (hk : BK w0 F b p bb mm)  (bp : Nat) (h1 : Ats w0 F bp 0 [.pointer (some ⟨bb, 0, none⟩)]) : IterC Tryz.prog 86 [] [.pointer (some ⟨bp, 0, none⟩)] (((truths b).map pad4).map ia) w0 F (ClsM (Memo w0 b mm)) := by
  intro J Js hcl yv B X w hyv hy hJ hs
  obtain ⟨J0, Js0, hJi, hJs⟩ := hcl
  obtain ⟨yf, ya, yb, rfl⟩ := hyv
  obtain ⟨B0, M, rfl, hM, hJ0⟩ := (hJi 0 B).1 hJ
  replace hs : St w0 w (X ++ (B0 ++ (M ++ F))) := by rw [List.append_assoc] at hs; exact hs
  have hlh := hk.ok.lh
  show Con Tryz.prog 86 [.func yf ya yb, .pointer (some ⟨bp, 0, none⟩)] w _
  refine zAu (n := 10) func86 rfl rfl (zNl rfl) ?_
  refine zAf (fun K2 g5 => (zAa (zCa (v := .func _ _ _) (cs := [_]) zAb rfl rfl rfl hs (fun b3 w4 g6 => ?_))))
  refine zAe (zAc (g5 _ _ (zAf (fun K7 g7 => (zAa (zBb (cs := iv [0,0,0,0]) zAb zeroValue93 rfl g6 (fun b8 w9 g8 => ?_)))))))
  refine zBb (cs := iv [0,0,0,0]) zAb zeroValue93 rfl g8 (fun g9 gi ga => ?_)
  refine zAe (zAc (g7 _ _ (zAf (fun gj gb => (zAa (w_p (zC3 underlying93 sizeOf3 rfl rfl rfl rfl (i := 0) rfl (by omega)) rfl (zDz (i := 0) (j := 0) zAb sizeOf3 rfl rfl rfl rfl ga rfl (by first | omega | rfl | (simp only [zL] <;> omega)) (fun gk gc => ?_))))))))
  refine zAe (zAc (gb _ _ (zAf (fun gl gd => (zAa (zBb (cs := [_]) zAb zeroValue126 rfl gc (fun ge gm gf => ?_)))))))
  refine zAe (zAc (gd _ _ (zAf (fun gn gg => (zAa (w_p (zCd (fv := []) (cv := [_,_,_,_,_]) rfl rfl rfl rfl) rfl (zA4 (i := 0) (v := .func _ _ _) (vs := [_]) zAb sizeOf126 rfl rfl rfl rfl rfl (by simp [Value.oneCell']) gf rfl (zNl rfl) (fun go g0 => ?_))))))))
  refine zAe (zAc (gg _ _ (zAa (w_p (zAj isAgg126 g0 rfl rfl (zAh (i := 0) (vs := [_]) rfl rfl)) rfl (zAs zAb call87 rfl rfl rfl rfl (next_all b p bb mm hk bp b8 g9 b3 ge h1 ((truths b).map pad4) J0 Js0 (.func yf ya yb) (iter_memo hJi hJs hy) b.hours.length 0 [] (List.replicate 4 0) [-1,0,0,0] 0 [] [] B0 M X _ (by omega) rfl (fun j _ h => by omega) rfl rfl (fun j _ => by match j with | 0 => rfl | 1 => rfl | 2 => rfl | 3 => rfl | _ + 4 => rfl) (by omega) (by rw [List.append_nil, segK_all]; rfl) rfl (by rw [List.append_nil, segF_all]; exact pads_nodup b) (by rw [List.append_nil, segF_all]; exact start_last4 hk.ok) hJ0 hM g0) ?_)))))
  rintro _ gp ⟨cur2, last2, B2, M2, _,_,_,_, g4, gh, hB2⟩
  refine zAe (q_end (l := []) (vs := []) rfl trivial ?_)
  refine ⟨B2 ++ M2, by rw [List.append_assoc]; exact gh.tail.tail.tail.tail, ?_⟩
  rcases hB2 with ⟨_, i', hi', hd', _, hJ'⟩ | ⟨_, hJ'⟩
  · left; rw [List.length_map, ← zCx hi' hd']; exact (hJi _ _).2 ⟨B2, M2, rfl, g4, hJ'⟩
  · exact .inr ((hJs _).2 ⟨B2, M2, rfl, g4, hJ'⟩)

theorem c65 {w0 w : World} {F : List (Nat × Obj)} (bb : Nat) (hs : St w0 w F) :
  Con Tryz.prog 65 [.pointer (some ⟨bb, 0, none⟩)] w fun v w' => ∃ bp, v = .func (.func 86) #[] #[.pointer (some ⟨bp, 0, none⟩)] ∧ St w0 w' ((bp, blk 88 [.pointer (some ⟨bb, 0, none⟩)]) :: F) := by
  refine zAu (n := 4) func65 rfl rfl (zNl rfl) ?_
  refine zAf (fun K2 g0 => (zAa (zCa (v := .pointer _) (cs := [_]) zAb rfl rfl rfl hs (fun b3 w4 g4 => ?_))))
  refine zBg rfl rfl (zAe (zAc (g0 _ _ (zAf (fun K7 g5 => (zAa (w_p (zCd (fv := []) (cv := [_]) rfl rfl rfl rfl) rfl (w_p (zAm (v := .func _ _ _) rfl rfl) rfl ?_))))))))
  refine zAe (zAc (g5 _ _ (zA2 (zA9 (l := [.tmp 2]) (vs := [_]) rfl ⟨⟨rfl, show _ = (.func _ _ _ : Value) from rfl⟩, trivial⟩ ?_))))
  exact ⟨_, rfl, g4⟩

theorem c71 {w0 w : World} {X M F : List (Nat × Obj)} (b : Board) (p : AtB) (bb mm : Nat) (hk : BK w0 F b p bb mm)  (hM : Memo w0 b mm M) (hs : St w0 w (X ++ (M ++ F))) :
  Con Tryz.prog 71 [.pointer (some ⟨bb, 0, none⟩)] w fun v w' => v = .bool (!(truths b).isEmpty) ∧ ∃ M', Memo w0 b mm M' ∧ St w0 w' (X ++ (M' ++ F)) := by
  refine zDr (n := 6) func71 rfl rfl (zNl rfl) ?_
  refine zAf (fun K2 g7 => (zAa (zBb (cs := [_]) zAb zeroValue4 rfl hs (fun b3 w4 g8 => ?_))))
  refine zAe (zAc (g7 _ _ (zAf (fun K7 g9 => (zAf (fun K9 ga => (zAa (w_p (zAi (v := .pointer _) rfl rfl) rfl (zAs zAb call65 rfl rfl rfl rfl (c65 _ g8) ?_)))))))))
  rintro _ gh ⟨bp, rfl, gb⟩
  refine zAe (zAc (ga _ _ (zAz ?_)))
  refine zJa ([_] ++ M) (fun i Bx => ∃ B M, Bx = B ++ M ∧ Memo w0 b mm M ∧ i = 0 ∧ B = [(b3, blk 4 [.bool false])]) (fun c Bx => ∃ B M, Bx = B ++ M ∧ Memo w0 b mm M ∧ (c = .ret ∧ 0 < (truths b).length) ∧ B = [(b3, blk 4 [.bool true])]) rfl rfl rfl call86 (zFn b p bb mm hk.app.cons bp (zAh (i := 0) (vs := [_]) rfl rfl)) (zG0 (fun i B => i = 0 ∧ B = [(b3, blk 4 [.bool false])]) (fun c B => (c = .ret ∧ 0 < (truths b).length) ∧ B = [(b3, blk 4 [.bool true])]) (fun i Bx => Iff.rfl) (fun c Bx => Iff.rfl)) gb (some_perm _ _ _ _ _) ⟨_, M, rfl, hM, rfl, rfl⟩ ?_ ?_ ?_
  ·
   intro lp i hi Bx Xr Xr2 gi hJ hs K gc
   obtain ⟨BB, M3, rfl, g0, rfl, rfl⟩ := hJ
   have hi0 : 0 < (truths b).length := by simpa using hi
   replace hs := (show St _ _ (_ :: (M3 ++ (Xr ++ (_ :: (X ++ F))))) from hs)
   refine zAv (zAc (gc _ _ (_ :: M3) hs (fun gj g4 => ?_)))
   replace g4 := (show St _ _ (_ :: M3 ++ (Xr2 ++ (_ :: X ++ (F)))) from g4)
   refine zAz ?_
   refine zAf (fun gk gd => (zAa (zA4 (i := 0) (v := .bool _) (vs := [_]) zAb sizeOf4 rfl rfl rfl rfl rfl (by simp [Value.oneCell']) g4 rfl (zNl rfl) (fun gl ge => ?_))))
   refine zAe (zAc (gd _ _ (zA2 (zAt (rd_ret (_ :: M3) ge ?_)))))
   exact ⟨[_], M3, rfl, g0, ⟨rfl, hi0⟩, rfl⟩
  ·
   intro bd Bx gm hJ hs
   obtain ⟨BB, M3, rfl, g0, h0, rfl⟩ := hJ
   rw [List.length_map, List.length_map] at h0
   replace hs := (show St _ _ (_ :: _ :: (M3 ++ (_ :: (X ++ F)))) from hs)
   refine zAl (zAc (g9 _ _ (zAf (fun gn gf => (zAa (zA4 (i := 1) (v := .bool _) (vs := [_]) zAb sizeOf4 rfl rfl rfl rfl rfl (by simp [Value.oneCell']) hs rfl (zNl rfl) (fun go gg => ?_)))))))
   refine zAe (zAc (gf _ _ (zA2 (zEw (i := 0) (l := [.cell 2 4]) (vs := [_]) gg rfl rfl (fun gp g5 => ⟨⟨⟨rfl, _, rfl, zB1 isAgg4 g5 (zAh (i := 1) (vs := [_]) rfl rfl)⟩, trivial⟩, ?_⟩)))))
   first
     | exact ⟨congrArg Value.bool (by rw [List.length_eq_zero_iff.1 h0]; rfl), M3, g0, zJe g5.tail.tail⟩
     | exact ⟨congrArg Value.bool (by cases hd : truths b with | nil => rw [hd] at h0; simp at h0 | cons _ _ => rfl), M3, g0, zJe g5.tail.tail⟩
  intro bd c Bx gq hJ hs
  obtain ⟨BB, M3, rfl, g0, ⟨rfl, h0⟩, rfl⟩ := hJ
  replace hs := (show St _ _ (_ :: _ :: (M3 ++ (_ :: (X ++ F)))) from hs)
  refine zA2 (zAt (zAk (zEw (i := 0) (l := [.cell 2 4]) (vs := [_]) hs rfl rfl (fun gr g6 => ⟨⟨⟨rfl, _, rfl, zB1 isAgg4 g6 (zAh (i := 1) (vs := [_]) rfl rfl)⟩, trivial⟩, ?_⟩))))
  first
    | exact ⟨congrArg Value.bool (by rw [List.length_eq_zero_iff.1 h0]; rfl), M3, g0, zJe g6.tail.tail⟩
    | exact ⟨congrArg Value.bool (by cases hd : truths b with | nil => rw [hd] at h0; simp at h0 | cons _ _ => rfl), M3, g0, zJe g6.tail.tail⟩

end Go.Proofs.Kb
/- Plain words of the chain layer: errors by numbers, spans of truths, one truth more. No conditions. -/
namespace Go.Rt.Ch
open Go.Rt.Ha
def pairsE : List Int → Int
  | n :: m :: r => if out 0 (m - 1) n then 4 else pairsE r
  | _ => 0
def orE (a e : Int) : Int := if a ≠ 0 then a else e
theorem pairs_end {ns : List Int} {j : Nat} (h : ns.length ≤ 2 * j + 1) : pairsE (ns.drop (2 * j)) = 0 := by
  match hd : ns.drop (2 * j) with
  | [] => rfl
  | [x] => rfl
  | x :: y :: r => have := congrArg List.length hd; simp at this; omega
theorem pairs_cons {ns : List Int} {j : Nat} (h : 2 * j + 1 < ns.length) : ns.drop (2 * j) = ns[2 * j] :: ns[2 * j + 1] :: ns.drop (2 * (j + 1)) := by
  rw [List.drop_eq_getElem_cons (by omega), List.drop_eq_getElem_cons (by omega)]; rfl
theorem pairs_next {ns : List Int} {j : Nat} (h : 2 * j + 1 < ns.length) (ho : [ns[2 * j]].any (out 0 (ns[2 * j + 1] - 1)) = false) : pairsE (ns.drop (2 * j)) = pairsE (ns.drop (2 * (j + 1))) := by
  rw [pairs_cons h]
  simp only [List.any_cons, List.any_nil, Bool.or_false] at ho
  simp only [pairsE, ho]; rfl
theorem zFf {ns : List Int} {j : Nat} (h : 2 * j + 1 < ns.length) (ho : [ns[2 * j]].any (out 0 (ns[2 * j + 1] - 1)) = true) : pairsE (ns.drop (2 * j)) = 4 := by
  rw [pairs_cons h]
  simp only [List.any_cons, List.any_nil, Bool.or_false] at ho
  simp only [pairsE, ho]; rfl
theorem zD6 {b : Board} {e : Int} (h : ¬ (check b).2.2 = 0) : enterE b e = (check b).2.2 := by unfold enterE; rw [if_pos h]
theorem zCw {b : Board} {e : Int} (h : (check b).2.2 = 0) (he : ¬ e = 0) : enterE b e = e := by unfold enterE; rw [if_neg (by simp [h]), if_pos he]
theorem zDx {b : Board} {e : Int} (h : (check b).2.2 = 0) (he : e = 0) (hw : truths b = []) : enterE b e = 8 := by unfold enterE; rw [if_neg (by simp [h]), if_neg (by simp [he]), if_pos hw]
theorem zE3 {b : Board} {e : Int} (h : (check b).2.2 = 0) (he : e = 0) (hw : truths b ≠ []) : enterE b e = 0 := by unfold enterE; rw [if_neg (by simp [h]), if_neg (by simp [he]), if_neg hw]
theorem zGq {b : Board} {e : Int} (h : enterE b e = 0) : (check b).2.2 = 0 ∧ e = 0 ∧ truths b ≠ [] := by
  by_cases h1 : (check b).2.2 = 0
  · by_cases h2 : e = 0
    · by_cases h3 : truths b = []
      · rw [zDx h1 h2 h3] at h; cases h
      · exact ⟨h1, h2, h3⟩
    · rw [zCw h1 h2] at h; exact absurd h h2
  · rw [zD6 h1] at h; exact absurd h h1
theorem orE_4 {a e : Int} (h : a = 4) : orE a e = 4 := by unfold orE; rw [h]; rfl
theorem zG8 {a e : Int} (h : a = 0) : orE a e = e := by unfold orE; rw [if_neg (by simp [h])]
theorem pairs_two (a m : Int) : orE (pairsE [a, m]) 0 = idxE a m := by
  unfold orE idxE pairsE
  cases out 0 (m - 1) a <;> rfl
theorem pairs_four (c n a m : Int) : orE (pairsE [c, n, a, m]) 0 = idx2 c n a m := by
  unfold orE idx2 idxE
  simp only [pairsE]
  by_cases h1 : out 0 (n - 1) c = true <;> by_cases h2 : out 0 (m - 1) a = true <;> simp [h1, h2]
theorem pairs_looks (b : Board) (hold within : Int) : orE (pairsE [hold, b.holds]) (if within < 0 then 7 else 0) = looksE b hold within := by
  unfold orE looksE idxE
  simp only [pairsE]
  by_cases h1 : out 0 (b.holds - 1) hold = true <;> simp [h1]
theorem hull_snoc (f : List Int → Int) : ∀ (l : List (List Int)) (x : List Int), l ≠ [] → hullL f (l ++ [x]) = (min (hullL f l).1 (f x), max (hullL f l).2 (f x))
  | [], _, h => absurd rfl h
  | a :: l, x, _ => by simp only [hullL, List.cons_append, List.foldl_append, List.foldl_cons, List.foldl_nil]
theorem zGv {f : List Int → Int} {ws : List (List Int)} {i : Nat} (hi : i < ws.length) (h0 : i = 0) : hullL f (ws.take (i + 1)) = (min (f ws[i]) (f ws[i]), max (f ws[i]) (f ws[i])) := by
  subst h0
  match ws, hi with
  | a :: ws, _ =>
    simp [hullL]
theorem zHu {f : List Int → Int} {ws : List (List Int)} {i : Nat} (hi : i < ws.length) (h0 : ¬ i = 0) : hullL f (ws.take (i + 1)) = (min (hullL f (ws.take i)).1 (f ws[i]), max (hullL f (ws.take i)).2 (f ws[i])) := by
  rw [List.take_succ_eq_append_getElem hi, hull_snoc f _ _ (by intro e; have := congrArg List.length e; simp at this; rcases this with h | h; exact h0 h; subst h; simp at hi)]
theorem in_yes {b : Board} {l : List Int} {h : Int} {k : Nat} (hk : k < b.hours.length) (e : b.hours[k].hold = h) : inTo b l h (k + 1) = inTo b l h k + ld l k := by
  simp only [inTo]; rw [if_pos (by rw [← e]; simp [List.getD, hk])]
theorem in_no {b : Board} {l : List Int} {h : Int} {k : Nat} (hk : k < b.hours.length) (e : ¬ b.hours[k].hold = h) : inTo b l h (k + 1) = inTo b l h k := by
  simp only [inTo]; rw [if_neg (by rw [show b.hours.getD k ⟨0,0,0⟩ = b.hours[k] by simp [List.getD, hk]]; exact e)]; omega
theorem in_bound {b : Board} {l : List Int} {h : Int} (hl : ∀ k, 0 ≤ ld l k ∧ ld l k ≤ 40) : ∀ k, 0 ≤ inTo b l h k ∧ inTo b l h k ≤ 40 * (k : Int)
  | 0 => by simp [inTo]
  | k + 1 => by
    have ih := in_bound (h := h) (b := b) hl k
    have := hl k
    simp only [inTo]
    split <;> constructor <;> omega
theorem in_pad (b : Board) (l : List Int) (h : Int) : ∀ k, inTo b (pad4 l) h k = inTo b l h k
  | 0 => rfl
  | k + 1 => by simp only [inTo, in_pad b l h k, zI2]
theorem zFy (b : Board) (h : Int) (l : List Int) : inH b h (pad4 l) = inH b h l := in_pad b l h _
theorem ld_40 {b : Board} (hok : b.Ok) {l : List Int} (h : l ∈ truths b) (k : Nat) : 0 ≤ ld l k ∧ ld l k ≤ 40 := by
  obtain ⟨h1, h2⟩ := zFo h
  by_cases hk : k < b.hours.length
  · have := h2 k hk
    have ho := hok.hour _ (List.getElem_mem hk)
    have h3 := ho.lo
    have h4 := ho.hi
    omega
  · have : ld l k = 0 := by simp [ld, List.getD, List.getElem?_eq_none (by omega : l.length ≤ k)]
    omega
theorem zB6 {b : Board} (hok : b.Ok) {l : List Int} (h : l ∈ truths b) : (pad4 l).length = 4 := pad4_len (by rw [(zFo h).1]; exact hok.lh)
end Go.Rt.Ch
set_option maxRecDepth 20000
namespace Go.Proofs.Kb
open Go.Proofs.Tryz
open Go.Rt Go.Rt.Ch
open Go.Rt.Ha (firstE zBv zBf zBo failE nameE felt spanL upto zCi listL fewest fewTo bit before fewStep zCo zDg zCb zCx zCj zC5 zCv zB2)
attribute [local irreducible] WL WC Con Yd At Ats Sl Agree DW
theorem Try_KJ_fb3 (x0 : Int) (x1 : Option Addr) (l1 c1 : Nat) (x2 : Option Addr) (l2 c2 : Nat) (x3 : Option Nat) (w : World) : (Instr.build 131 [(0, .agg #[.int .i64 x0, .slice x1 l1 c1, .slice x2 l2 c2]),(1, .map x3)].toArray).run Tryz.prog w = .ok (.agg #[.int .i64 x0, .slice x1 l1 c1, .slice x2 l2 c2, .map x3]) w := by kernel_rfl
theorem Try_KJ_fb4 (x0 : Int) (w : World) : (Instr.buildSlice 34 1 [(0, .int .i64 x0)].toArray).run Tryz.prog w = .ok (.slice (some ⟨w.heap.size, 0, none⟩) 1 1) (w.alloc (Go.Rt.blk 3 [.int .i64 x0])) := by kernel_rfl
theorem zHz {w0 w : World} {x y : Nat × Obj} {M F : List (Nat × Obj)} (h : St w0 w (M ++ (x :: y :: F))) : St w0 w (x :: (M ++ F)) := by
  have h1 := h.perm (zAq M [x, y] F)
  exact ((show St w0 w (x :: y :: (M ++ F)) from h1).perm (zAq [x] [y] (M ++ F))).tail
theorem bk_own {w0 : World} {F : List (Nat × Obj)} {b : Board} {p : AtB} {bb mm : Nat} (hm : BIn w0 F b p) (hok : b.Ok) : BK w0 ((bb, blk 131 [.int .i64 b.holds, .slice p.ah b.hours.length p.ch, .slice p.ac b.ctrs.length p.cc, .map (some mm)]) :: F) b p bb mm := ⟨hm.cons, zAh (i := 0) rfl rfl, hok⟩
theorem isE {l : List (List Int)} (h : l.isEmpty = true) : l = [] := by cases l with | nil => rfl | cons _ _ => cases h
theorem isN {l : List (List Int)} (h : l.isEmpty = false) : l ≠ [] := by cases l with | nil => cases h | cons _ _ => exact fun h => by cases h
theorem c68 {w0 w : World} {F : List (Nat × Obj)} (b : Board) (p : AtB) (hs : St w0 w F) :
  Con Tryz.prog 68 [.agg (b.cells p).toArray] w fun v w' => ∃ bb mm, v = .pointer (some ⟨bb, 0, none⟩) ∧ St w0 w' ((bb, blk 131 [.int .i64 b.holds, .slice p.ah b.hours.length p.ch, .slice p.ac b.ctrs.length p.cc, .map (some mm)]) :: (mm, .map #[] 0) :: F) := by
  refine zAu (n := 7) func68 rfl rfl (zNl rfl) ?_
  refine zAf (fun K2 g4 => (zAa (zCa (v := .agg #[.int _ _, .slice _ _ _, .slice _ _ _]) (cs := [_,_,_]) zAb rfl rfl rfl hs (fun b3 w4 g0 => ?_))))
  refine zBg rfl rfl (zAe (zAc (g4 _ _ (zAf (fun K7 g5 => (zAa (w_p (zA7 (vs := [_,_,_]) isAgg41 sizeOf41 g0 rfl rfl (zAh (i := 0) (vs := [_,_,_]) rfl rfl)) rfl ?_)))))))
  refine zF6 zAb g0 (fun b8 w9 g6 => ?_)
  refine w_p (zBy (ps := [(0, _),(1, _)]) (pv := [(0, .agg #[.int _ _, .slice _ _ _, .slice _ _ _]),(1, .map _)]) rfl rfl (fun w => Try_KJ_fb3 _ _ _ _ _ _ _ _ w)) rfl (zCa (v := .agg #[.int _ _, .slice _ _ _, .slice _ _ _, .map _]) (cs := [_,_,_,_]) zAb rfl rfl rfl g6 (fun g8 g9 g7 => ?_))
  refine w_p (zAm (v := .pointer _) rfl rfl) rfl (zAe (zAc (g5 _ _ (zA2 (zA9 (l := [.tmp 2]) (vs := [_]) rfl ⟨⟨rfl, show _ = (.pointer _ : Value) from rfl⟩, trivial⟩ ?_)))))
  exact ⟨_, _, rfl, (St.perm (L := [_,_,_] ++ F) g7 (zAq [_,_] [_] F)).tail⟩

theorem c39 {w0 w : World} {F : List (Nat × Obj)} (b : Board) (p : AtB) (hm : BIn w0 F b p) (other : Int) (an : Option Addr) (cn : Nat) (ns : List Int) (hnl : ns.length ≤ 4) (hev : ns.length % 2 = 0) (hns : (check b).2.2 = 0 → ∀ j (hj : 2 * j + 1 < ns.length), 0 ≤ ns[2 * j + 1] ∧ ns[2 * j + 1] ≤ 100) (hn : Sl w0 F an 1 (ns.map fun x => [Value.int .i64 x])) (hs : St w0 w F) :
  Con Tryz.prog 39 [.agg (b.cells p).toArray, .int .i64 other, .slice an ns.length cn] w fun v w' => (¬ enterE b (orE (pairsE ns) other) = 0 ∧ v = .tuple #[.pointer none, .int .i64 (enterE b (orE (pairsE ns) other))] ∧ St w0 w' F) ∨ (enterE b (orE (pairsE ns) other) = 0 ∧ ∃ bb mm M, v = .tuple #[.pointer (some ⟨bb, 0, none⟩), .int .i64 0] ∧ Memo w0 b mm M ∧ St w0 w' ((bb, blk 131 [.int .i64 b.holds, .slice p.ah b.hours.length p.ch, .slice p.ac b.ctrs.length p.cc, .map (some mm)]) :: (M ++ F))) := by
  refine zAu (n := 50) func39 rfl rfl (zNl rfl) ?_
  refine zAf (fun K2 gg => (zAa (zCa (v := .agg #[.int _ _, .slice _ _ _, .slice _ _ _]) (cs := [_,_,_]) zAb rfl rfl rfl hs (fun b3 w4 ge => ?_))))
  refine zBg rfl rfl (zBg rfl rfl (zAe (zAc (gg _ _ (zAf (fun K7 gh => (zAf (fun K9 gi => (zAa (w_p (zA7 (vs := [_,_,_]) isAgg41 sizeOf41 ge rfl rfl (zAh (i := 0) (vs := [_,_,_]) rfl rfl)) rfl ?_))))))))))
  refine zAs zAb call66 rfl rfl rfl rfl (c66 b _ hm.cons ge) ?_
  rintro _ gD ⟨rfl, g5⟩
  refine w_p (zAi (v := .tuple _) rfl rfl) rfl (w_p (zAn (v := .int _ _) rfl rfl rfl) rfl (w_p (zAn (v := .int _ _) rfl rfl rfl) rfl (w_p (zAn (v := .int _ _) rfl rfl rfl) rfl (zBl rfl rfl (zBl rfl rfl (zBl rfl rfl ?_))))))
  refine zAe (zAc (gi _ _ (zAf (fun gE gj => (zAa (zBa rfl rfl (w_p (zCt rfl rfl rfl rfl) rfl (zAe (zAc (gj _ _ (zAy rfl rfl (fun g7 => ?_) (fun g7 => ?_))))))))))))
  ·
   try simp only [zS] at g7
   refine zAf (fun gF gk => (zAa (zBa rfl rfl (zBg rfl rfl (zBl rfl rfl (zAe (zAc (gk _ _ (zA2 (zAk (zA9 (l := [.tmp 6, .tmp 7]) (vs := [_,_]) rfl ⟨⟨rfl, show _ = (.pointer _ : Value) from rfl⟩, ⟨rfl, (rfl : _ = Value.int _ _)⟩, trivial⟩ ?_)))))))))))
   first
     | exact .inl ⟨by rw [zD6 (by assumption)]; assumption, by rw [zD6 (by assumption)]; rfl, g5.tail⟩
     | (have h4 : orE (pairsE ns) other = 4 := orE_4 (hinv.trans (zFf hj1 (by assumption)))
        exact .inl ⟨by rw [h4, zCw hck (by decide)]; decide, by rw [h4, zCw hck (by decide)]; rfl, g5.tail⟩)
     | (have h4 : orE (pairsE ns) other = other := zG8 hp0
        exact .inl ⟨by rw [h4, zCw hck (by assumption)]; assumption, by rw [h4, zCw hck (by assumption)]; rfl, g5.tail⟩)
     | (have h4 : orE (pairsE ns) other = 0 := (zG8 hp0).trans (by assumption)
        have h5 := isE (by assumption)
        exact .inl ⟨by rw [h4, zDx hck rfl h5]; decide, by rw [h4, zDx hck rfl h5]; rfl, g5.tail⟩)
     | (have h4 : orE (pairsE ns) other = 0 := (zG8 hp0).trans (by assumption)
        have h5 := isN (by assumption)
        exact .inr ⟨by rw [h4, zE3 hck rfl h5], _,_, M2, rfl, g6, zHz g5⟩)
  try simp only [zS] at g7
  refine zAv (zAc (gh _ _ (zAf (fun gG gl => (zAf (fun gH gm => ?_))))))
  have hck : (check b).2.2 = 0 := by assumption
  have hok := check_ok hck
  refine zAa (zBg rfl rfl (zAe (zAc (gm _ _ (zAz ?_)))))
  refine zB3 [6,7,11,22,23,24,25,26,27,28,29,30,31,32,33,34,35,36,37,38,39,40] [11] (fun k vs w => ∃ j : Nat, vs = [.int .i64 (2 * (j : Int))] ∧ 2 * j ≤ ns.length ∧ k = ns.length - 2 * j ∧ pairsE ns = pairsE (ns.drop (2 * j)) ∧ St w0 w ((b3, blk 41 (b.cells p)) :: F)) (ns.length) ?_ ?_
  ·
   exact ⟨0, rfl, by omega, by omega, rfl, g5⟩
  intro k vs μ gI hI gJ gn
  obtain ⟨j, rfl, hja, rfl, hinv, hs⟩ := hI
  refine zAf (fun gK go => (zAf (fun gL gp => (zAa (zBa rfl rfl (w_p (zBj rfl rfl rfl rfl (by omega) (by omega)) rfl (w_p (zAi (v := .slice _ _ _) rfl rfl) rfl ?_)))))))
  refine w_p (zBm underlying34 rfl rfl) rfl (w_p (zCl rfl rfl rfl rfl) rfl (zAe (zAc (gp _ _ (zAy rfl rfl (fun g8 => ?_) (fun g8 => ?_))))))
  ·
   try simp only [zS] at g8
   refine zAv (zAc (go _ _ (zAf (fun gM gq => (zAz ?_)))))
   refine zAf (fun gN gr => ?_)
   have hj1 : 2 * j + 1 < ns.length := by omega
   have hnb := hns hck j hj1
   obtain ⟨ba, oa, rfl, hx1⟩ := zDk hn hj1
   obtain ⟨ba2, oa2, hba2, hx0⟩ := zDk hn (show 2 * j < ns.length by omega)
   cases hba2
   refine zCs [] [(0,0),(1,0),(2,0),(3,0),(4,1),(5,0),(6,0),(7,0),(8,0),(9,1),(10,2),(11,2)] zCg (zC8 (by kernel_rfl)) hs (fun gO g9 => ?_)
   refine d_w rfl (fun _ => zAi (v := .slice _ _ _) rfl rfl) rfl ?_
   refine d_w rfl (fun _ => zA1 rfl rfl) rfl ?_
   refine d_w rfl (fun _ => zBj rfl rfl rfl rfl (by omega) (by omega)) rfl ?_
   refine d_w rfl (fun _ => zBc underlying34 sizeOf3 rfl rfl rfl rfl (i := 2 * j + 1) (by omega) hj1) rfl ?_
   refine zBh rfl zAb rfl g9 (fun _ hq => (zAj isAgg3 hq.tail rfl rfl hx1)) ?_
   refine d_w rfl (fun _ => zEi rfl rfl rfl rfl (by omega) (by omega)) rfl ?_
   refine d_w rfl (fun _ => zAi (v := .slice _ _ _) rfl rfl) rfl ?_
   refine d_w rfl (fun _ => zA1 rfl rfl) rfl ?_
   refine d_w rfl (fun _ => zBc underlying34 sizeOf3 rfl rfl rfl rfl (i := 2 * j) (by omega) (by omega)) rfl ?_
   refine zBh rfl zAb rfl g9 (fun _ hq => (zAj isAgg3 hq.tail rfl rfl hx0)) ?_
   refine zC9 rfl ?_
   refine zA0 (ps := [(0, _)]) (pv := [(0, .int _ _)]) (cs := [_]) zAb rfl rfl (fun w => Try_KJ_fb4 _ w) g9 (fun gP gQ gf => ?_)
   refine zAe (qn ⟨gf.tail, ?_⟩)
   refine zC9 rfl ?_
   refine zAs zAb call73 rfl rfl rfl rfl (c73 _ _ _ [_] _ (by simp) (zBp (i := 0) (rows := [[_]]) rfl (by simp) rfl) gf) ?_
   rintro _ gR ⟨rfl, g4⟩
   refine zAe (qn ⟨g4.tail, ?_⟩)
   refine zB0 ?_
   refine zAc (gr _ _ (zAy rfl rfl (fun ga => ?_) (fun ga => ?_)))
   ·
    try simp only [zS] at ga
    refine zAf (fun gT gt => (zAa (zBg rfl rfl (zBg rfl rfl (zAe (zAc (gt _ _ (zA2 (zAt (zAk (zAk (zAt (zAk (zA9 (l := [.tmp 6, .tmp 7]) (vs := [_,_]) rfl ⟨⟨rfl, show _ = (.pointer _ : Value) from rfl⟩, ⟨rfl, (rfl : _ = Value.int _ _)⟩, trivial⟩ ?_))))))))))))))
    first
      | exact .inl ⟨by rw [zD6 (by assumption)]; assumption, by rw [zD6 (by assumption)]; rfl, g4.tail.tail⟩
      | (have h4 : orE (pairsE ns) other = 4 := orE_4 (hinv.trans (zFf hj1 (by assumption)))
         exact .inl ⟨by rw [h4, zCw hck (by decide)]; decide, by rw [h4, zCw hck (by decide)]; rfl, g4.tail.tail⟩)
      | (have h4 : orE (pairsE ns) other = other := zG8 hp0
         exact .inl ⟨by rw [h4, zCw hck (by assumption)]; assumption, by rw [h4, zCw hck (by assumption)]; rfl, g4.tail.tail⟩)
      | (have h4 : orE (pairsE ns) other = 0 := (zG8 hp0).trans (by assumption)
         have h5 := isE (by assumption)
         exact .inl ⟨by rw [h4, zDx hck rfl h5]; decide, by rw [h4, zDx hck rfl h5]; rfl, g4.tail.tail⟩)
      | (have h4 : orE (pairsE ns) other = 0 := (zG8 hp0).trans (by assumption)
         have h5 := isN (by assumption)
         exact .inr ⟨by rw [h4, zE3 hck rfl h5], _,_, M2, rfl, g6, zHz g4⟩)
   try simp only [zS] at ga
   refine zAv (zAl (zAc (gq _ _ (zAa (zBa rfl rfl (w_p (zBj rfl rfl rfl rfl (by omega) (by omega)) rfl (zBl rfl rfl (zAe (zAc (gn _ _ (nxI (ns.length - 2 * (j + 1)) (by omega) ?_)))))))))))
   exact ⟨j + 1, iv1 (by omega), by omega, rfl, hinv.trans (pairs_next hj1 (by assumption)), g4.tail⟩
  try simp only [zS] at g8
  refine zBq (zAo (zAo (zA8 (zAc (gl _ _ (zAf (fun gU gu => (zAf (fun gV gv => ?_)))))))))
  have hp0 : pairsE ns = 0 := hinv.trans (pairs_end (by omega))
  refine zAa (zBa rfl rfl (w_p (zCt rfl rfl rfl rfl) rfl (zAe (zAc (gv _ _ (zAy rfl rfl (fun gb => ?_) (fun gb => ?_)))))))
  ·
   try simp only [zS] at gb
   refine zAf (fun gW gw => (zAa (zBa rfl rfl (zBg rfl rfl (zBl rfl rfl (zAe (zAc (gw _ _ (zA2 (zAk (zA9 (l := [.tmp 6, .tmp 7]) (vs := [_,_]) rfl ⟨⟨rfl, show _ = (.pointer _ : Value) from rfl⟩, ⟨rfl, (rfl : _ = Value.int _ _)⟩, trivial⟩ ?_)))))))))))
   first
     | exact .inl ⟨by rw [zD6 (by assumption)]; assumption, by rw [zD6 (by assumption)]; rfl, hs.tail⟩
     | (have h4 : orE (pairsE ns) other = 4 := orE_4 (hinv.trans (zFf hj1 (by assumption)))
        exact .inl ⟨by rw [h4, zCw hck (by decide)]; decide, by rw [h4, zCw hck (by decide)]; rfl, hs.tail⟩)
     | (have h4 : orE (pairsE ns) other = other := zG8 hp0
        exact .inl ⟨by rw [h4, zCw hck (by assumption)]; assumption, by rw [h4, zCw hck (by assumption)]; rfl, hs.tail⟩)
     | (have h4 : orE (pairsE ns) other = 0 := (zG8 hp0).trans (by assumption)
        have h5 := isE (by assumption)
        exact .inl ⟨by rw [h4, zDx hck rfl h5]; decide, by rw [h4, zDx hck rfl h5]; rfl, hs.tail⟩)
     | (have h4 : orE (pairsE ns) other = 0 := (zG8 hp0).trans (by assumption)
        have h5 := isN (by assumption)
        exact .inr ⟨by rw [h4, zE3 hck rfl h5], _,_, M2, rfl, g6, zHz hs⟩)
  try simp only [zS] at gb
  refine zAv (zAc (gu _ _ (zAf (fun gX gx => (zAa (w_p (zA7 (vs := [_,_,_]) isAgg41 sizeOf41 hs rfl rfl (zAh (i := 0) (vs := [_,_,_]) rfl rfl)) rfl (zAs zAb call68 rfl rfl rfl rfl (c68 b p hs) ?_)))))))
  rintro _ gY ⟨bb, mm, rfl, gc⟩
  replace gc := (show St _ _ (_ :: _ :: _ :: F) from gc)
  have gy := swp2 gc
  have hkb : BK w0 ((bb, blk 131 [.int .i64 b.holds, .slice p.ah b.hours.length p.ch, .slice p.ac b.ctrs.length p.cc, .map (some mm)]) :: (b3, blk 41 (b.cells p)) :: F) b p bb mm := bk_own (hm.cons) hok
  refine w_p (zAm (v := .pointer _) rfl rfl) rfl (zAe (zAc (gx _ _ (zAf (fun gZ gz => (zAf (fun hD gA => (zAa (w_p (zAi (v := .pointer _) rfl rfl) rfl ?_)))))))))
  refine zAs zAb call71 rfl rfl rfl rfl (c71 (X := []) (M := [(mm, .map #[] 0)]) b p bb mm hkb (zEz w0 b mm) gy) ?_
  rintro _ hO ⟨rfl, M2, g6, g0⟩
  replace g0 := (show St _ _ (M2 ++ (_ :: _ :: F)) from g0)
  refine w_p (zDi rfl rfl) rfl (zAe (zAc (gA _ _ (zAy rfl rfl (fun gd => ?_) (fun gd => ?_)))))
  ·
   try simp only [zS] at gd
   refine zAf (fun hP gB => (zAa (zBg rfl rfl (zBg rfl rfl (zAe (zAc (gB _ _ (zA2 (zAk (zA9 (l := [.tmp 6, .tmp 7]) (vs := [_,_]) rfl ⟨⟨rfl, show _ = (.pointer _ : Value) from rfl⟩, ⟨rfl, (rfl : _ = Value.int _ _)⟩, trivial⟩ ?_))))))))))
   first
     | exact .inl ⟨by rw [zD6 (by assumption)]; assumption, by rw [zD6 (by assumption)]; rfl, g0.drop.tail.tail⟩
     | (have h4 : orE (pairsE ns) other = 4 := orE_4 (hinv.trans (zFf hj1 (by assumption)))
        exact .inl ⟨by rw [h4, zCw hck (by decide)]; decide, by rw [h4, zCw hck (by decide)]; rfl, g0.drop.tail.tail⟩)
     | (have h4 : orE (pairsE ns) other = other := zG8 hp0
        exact .inl ⟨by rw [h4, zCw hck (by assumption)]; assumption, by rw [h4, zCw hck (by assumption)]; rfl, g0.drop.tail.tail⟩)
     | (have h4 : orE (pairsE ns) other = 0 := (zG8 hp0).trans (by assumption)
        have h5 := isE (by assumption)
        exact .inl ⟨by rw [h4, zDx hck rfl h5]; decide, by rw [h4, zDx hck rfl h5]; rfl, g0.drop.tail.tail⟩)
     | (have h4 : orE (pairsE ns) other = 0 := (zG8 hp0).trans (by assumption)
        have h5 := isN (by assumption)
        exact .inr ⟨by rw [h4, zE3 hck rfl h5], _,_, M2, rfl, g6, zHz g0⟩)
  try simp only [zS] at gd
  refine zAv (zAc (gz _ _ (zAf (fun hX gC => (zAa (w_p (zAi (v := .pointer _) rfl rfl) rfl (w_p (zAm (v := .pointer _) rfl rfl) rfl (zBg rfl rfl (zAe (zAc (gC _ _ (zA2 (zA9 (l := [.tmp 6, .tmp 7]) (vs := [_,_]) rfl ⟨⟨rfl, show _ = (.pointer _ : Value) from rfl⟩, ⟨rfl, (rfl : _ = Value.int _ _)⟩, trivial⟩ ?_)))))))))))))
  first
    | exact .inl ⟨by rw [zD6 (by assumption)]; assumption, by rw [zD6 (by assumption)]; rfl, g0.drop.tail.tail⟩
    | (have h4 : orE (pairsE ns) other = 4 := orE_4 (hinv.trans (zFf hj1 (by assumption)))
       exact .inl ⟨by rw [h4, zCw hck (by decide)]; decide, by rw [h4, zCw hck (by decide)]; rfl, g0.drop.tail.tail⟩)
    | (have h4 : orE (pairsE ns) other = other := zG8 hp0
       exact .inl ⟨by rw [h4, zCw hck (by assumption)]; assumption, by rw [h4, zCw hck (by assumption)]; rfl, g0.drop.tail.tail⟩)
    | (have h4 : orE (pairsE ns) other = 0 := (zG8 hp0).trans (by assumption)
       have h5 := isE (by assumption)
       exact .inl ⟨by rw [h4, zDx hck rfl h5]; decide, by rw [h4, zDx hck rfl h5]; rfl, g0.drop.tail.tail⟩)
    | (have h4 : orE (pairsE ns) other = 0 := (zG8 hp0).trans (by assumption)
       have h5 := isN (by assumption)
       exact .inr ⟨by rw [h4, zE3 hck rfl h5], _,_, M2, rfl, g6, zHz g0⟩)

end Go.Proofs.Kb
set_option maxRecDepth 20000
namespace Go.Proofs.Kb
open Go.Proofs.Tryz
open Go.Rt Go.Rt.Ch
open Go.Rt.Ha (firstE zBv zBf zBo failE nameE felt spanL upto zCi listL fewest fewTo bit before fewStep zCo zDg zCb zCx zCj zC5 zCv zB2)
attribute [local irreducible] WL WC Con Yd At Ats Sl Agree DW
theorem zIx (x0 : Int) (x1 : Int) (w : World) : (Instr.build 23 [(0, .int .i64 x0),(1, .int .i64 x1)].toArray).run Tryz.prog w = .ok (.agg #[.int .i64 x0, .int .i64 x1]) w := by kernel_rfl
theorem hull_perm (p a c g : Nat × Obj) (X M F : List (Nat × Obj)) : (p :: a :: c :: g :: (X ++ (M ++ F))).Perm (([a, c] ++ M) ++ (p :: g :: (X ++ F))) :=
  (zAq [p] [a, c] (g :: (X ++ (M ++ F)))).trans (List.Perm.append_left [a, c] (zAq (p :: g :: X) M F))
theorem zGh {w0 w : World} {a c : Nat × Obj} {X M F : List (Nat × Obj)} (h : St w0 w (M ++ (a :: c :: (X ++ F)))) : St w0 w (X ++ (M ++ F)) := by
  have h1 := (h.perm (zAq M [a, c] (X ++ F))).tail.tail
  exact St.perm (L := M ++ (X ++ F)) h1 (zAq M X F)
theorem zGw {b5 b4 : Nat} {t t' : Bool} {x x' y y' : Int} (h0 : t = t') (h1 : x = x') (h2 : y = y') : ([(b5, blk 4 [.bool t]), (b4, blk 23 [.int .i64 x, .int .i64 y])] : List (Nat × Obj)) = [(b5, blk 4 [.bool t']), (b4, blk 23 [.int .i64 x', .int .i64 y'])] := by subst h0 h1 h2; rfl
def FIs (w0 : World) (F : List (Nat × Obj)) (b : Board) (fv : Value) (f : List Int → Int) : Prop := ∀ l ∈ truths b, ∀ (X : List (Nat × Obj)) (w : World), St w0 w (X ++ F) → FCon Tryz.prog fv [ia (pad4 l)] w fun v w' => v = .int .i64 (f l) ∧ St w0 w' (X ++ F)
theorem FIs.at {w0 w : World} {P M Y Q X F : List (Nat × Obj)} {b : Board} {fv : Value} {f : List Int → Int} (h : FIs w0 F b fv f) {l : List Int} (hl : l ∈ truths b) (hs : St w0 w (P ++ (M ++ (Y ++ (Q ++ (X ++ F)))))) : FCon Tryz.prog fv [ia (pad4 l)] w fun v w' => v = .int .i64 (f l) ∧ St w0 w' (P ++ (M ++ (Y ++ (Q ++ (X ++ F))))) := by
  have e : P ++ (M ++ (Y ++ (Q ++ (X ++ F)))) = (P ++ (M ++ (Y ++ (Q ++ X)))) ++ F := by simp only [List.append_assoc]
  rw [e] at hs ⊢
  exact h l hl _ w hs
theorem c42 {w0 w : World} {F : List (Nat × Obj)} (b : Board) (p : AtB) (bb mm : Nat) (hk : BK w0 F b p bb mm) (l : List Int) (hl4 : l.length = 4) (h40 : ∀ k, 0 ≤ ld l k ∧ ld l k ≤ 40) (hold : Int) (hs : St w0 w F) :
  Con Tryz.prog 42 [.pointer (some ⟨bb, 0, none⟩), ia l, .int .i64 hold] w fun v w' => v = .int .i64 (inH b hold l) ∧ St w0 w' F := by
  refine zAu (n := 31) func42 rfl rfl (zNl rfl) ?_
  obtain ⟨ah, ch, ac, cc, pc⟩ := p
  have hb := hk.l
  have hlh := hk.ok.lh
  refine zAf (fun K2 g9 => (zAa (zF7 (l := _) zAb rfl rfl rfl hs (fun b3 w4 g6 => ?_))))
  refine zBg rfl rfl (zAe (zAc (g9 _ _ (w_scope ?_))))
  refine zAf (fun K7 ga => (w_label ?_))
  refine zAc (ga _ _ (zAf (fun K9 gb => (zAf (fun gk gc => (zAa (w_p (zAi (v := .pointer _) rfl rfl) rfl (w_p (zBi rfl rfl) rfl (w_p (zAd (o := 0) (i := 0) underlying131 rfl sizeOf41 rfl rfl rfl) rfl ?_)))))))))
  refine w_p (zAd (o := 1) (i := 1) underlying41 rfl sizeOf38 rfl rfl rfl) rfl (w_p (zAj isAgg38 g6.tail rfl rfl (show Ats _ _ _ _ [_] from Ats.part hb 1 1)) rfl (w_p (zBm underlying38 rfl rfl) rfl (w_p (zAi (v := _) rfl rfl) rfl (zAe (zAc (gc _ _ (zAz ?_)))))))
  refine zB3 [6,7,8,15,16,17,18,19,20,21,22,23,24,25,26,27,28,29] [6,15] (fun kk vs w => ∃ k : Nat, vs = [.int .i64 (inTo b l hold k), .int .i64 k] ∧ k ≤ b.hours.length ∧ kk = b.hours.length - k ∧ St w0 w ((b3, blk 93 (iv l)) :: F)) (b.hours.length) ?_ ?_
  ·
   exact ⟨0, rfl, by omega, by omega, g6⟩
  intro k vs μ gl hI gm g7
  obtain ⟨k, rfl, hka, rfl, hs⟩ := hI
  refine zAf (fun gn gd => (zAa (w_p (zCl rfl rfl rfl rfl) rfl (zAe (zAc (gd _ _ (zAf (fun go ge => (zAy rfl rfl (fun g4 => ?_) (fun g4 => ?_))))))))))
  ·
   try simp only [zS] at g4
   refine zAv (zAc (ge _ _ (zAf (fun gp g8 => (zAz ?_)))))
   refine zAf (fun gq gf => ?_)
   have hk2 : k < b.hours.length := by omega
   obtain ⟨bx, ox, hbx, hx⟩ := zHl hk.i.h hk2
   subst hbx
   have hib := in_bound (h := hold) (b := b) h40 k
   have hlk := h40 k
   have hldv : ld l k = l.getD k 0 := rfl
   refine zAa (zBa rfl rfl (w_p (zBc underlying38 sizeOf48 rfl rfl rfl rfl (i := k) rfl hk2) rfl (w_p (zA7 (vs := [_,_,_]) isAgg48 sizeOf48 hs.tail rfl rfl hx) rfl (zBb (cs := [_,_,_]) zAb zeroValue48 rfl hs (fun gr gt gg => ?_)))))
   refine zBl rfl rfl (zA4 (i := 0) (v := .agg #[.int _ _, .int _ _, .int _ _]) (vs := [_,_,_]) zAb sizeOf48 rfl rfl rfl rfl rfl (by simp [Value.oneCell']) gg rfl (zNl rfl) (fun gu g0 => ?_))
   refine zAe (zAc (gf _ _ (zAf (fun gv gh => (zAf (fun gw gi => (zAa (w_p (zAd (o := 0) (i := 0) underlying48 rfl sizeOf3 rfl rfl rfl) rfl (w_p (zAj isAgg3 g0 rfl rfl (zAh (i := 0) (vs := [_]) rfl rfl)) rfl ?_)))))))))
   refine zBa rfl rfl (w_p (zCt rfl rfl rfl rfl) rfl (zAe (zAc (gi _ _ (zAy rfl rfl (fun g5 => ?_) (fun g5 => ?_))))))
   ·
    try simp only [zS] at g5
    refine zBq (zAo (zA8 (zAc (g8 _ _ (zAa (w_p (zBj rfl rfl rfl rfl (by omega) (by omega)) rfl (zBa rfl rfl (zAe (zAc (g7 _ _ (nxI (b.hours.length - (k + 1)) (by omega) ?_)))))))))))
    first
      | exact ⟨k + 1, iv2 (in_no hk2 (by assumption)).symm rfl, by omega, rfl, g0.tail⟩
      | exact ⟨k + 1, iv2 (in_yes hk2 (by assumption)).symm rfl, by omega, rfl, g0.tail⟩
   try simp only [zS] at g5
   refine zAv (zAc (gh _ _ (zAa (zBa rfl rfl (zBa rfl rfl (w_p (zC3 underlying93 sizeOf3 rfl rfl rfl rfl (i := k) (by first | rfl | omega) (by omega)) rfl ?_))))))
   refine w_p (zAj isAgg3 g0 rfl rfl (zD8 (i := 1) (j := k) rfl (by first | omega | rfl | (simp only [hl4, zL] <;> omega)))) rfl ?_
   refine w_p (zBj rfl rfl rfl rfl (by omega) (by omega)) rfl (zBl rfl rfl (zAe (zAl (zAc (g8 _ _ (zAa (w_p (zBj rfl rfl rfl rfl (by omega) (by omega)) rfl ?_)))))))
   refine zBa rfl rfl (zAe (zAc (g7 _ _ (nxI (b.hours.length - (k + 1)) (by omega) ?_))))
   first
     | exact ⟨k + 1, iv2 (in_no hk2 (by assumption)).symm rfl, by omega, rfl, g0.tail⟩
     | exact ⟨k + 1, iv2 (in_yes hk2 (by assumption)).symm rfl, by omega, rfl, g0.tail⟩
  try simp only [zS] at g4
  refine zBq (zAo (zAo (zA8 (zAc (gb _ _ (zAf (fun gx gj => (zAa (zBa rfl rfl (zBl rfl rfl (zAe (zAc (gj _ _ (zA2 (q_ng_ret ?_)))))))))))))))
  refine zA9 (l := [.tmp 6]) (vs := [_]) rfl ⟨⟨rfl, (rfl : _ = Value.int _ _)⟩, trivial⟩ ?_
  have hkn : k = b.hours.length := by omega
  subst hkn
  exact ⟨rfl, hs.tail⟩

theorem c40 {w0 w : World} {X M F : List (Nat × Obj)} (b : Board) (p : AtB) (bb mm : Nat) (hk : BK w0 F b p bb mm) (fk : FuncId) (f1 cp : Array Value) (f : List Int → Int) (hf : FIs w0 F b (.func (.func fk) f1 cp) f) (hM : Memo w0 b mm M) (hs : St w0 w (X ++ (M ++ F))) :
  Con Tryz.prog 40 [.pointer (some ⟨bb, 0, none⟩), .func (.func fk) f1 cp] w fun v w' => v = .agg #[.int .i64 (hullL f (truths b)).1, .int .i64 (hullL f (truths b)).2] ∧ ∃ M', Memo w0 b mm M' ∧ St w0 w' (X ++ (M' ++ F)) := by
  refine zDr (n := 28) func40 rfl rfl (zNl rfl) ?_
  refine zAf (fun K2 gb => (zAa (zCa (v := .func _ _ _) (cs := [_]) zAb rfl rfl rfl hs (fun b3 w4 gc => ?_))))
  refine zBb (cs := [_,_]) zAb zeroValue23 rfl gc (fun b6 w7 gd => ?_)
  refine zAe (zAc (gb _ _ (zAf (fun gv ge => (zAa (zBb (cs := [_]) zAb zeroValue4 rfl gd (fun g8 gw gf => ?_)))))))
  refine zA4 (i := 0) (v := .bool _) (vs := [_]) zAb sizeOf4 rfl rfl rfl rfl rfl (by simp [Value.oneCell']) gf rfl (zNl rfl) (fun gx gg => ?_)
  refine zAe (zAc (ge _ _ (zAf (fun gy gh => (zAf (fun gz gi => (zAa (w_p (zAi (v := .pointer _) rfl rfl) rfl (zAs zAb call65 rfl rfl rfl rfl (c65 _ gg) ?_)))))))))
  rintro _ gA ⟨bp, rfl, gj⟩
  refine zAe (zAc (gi _ _ (zAz ?_)))
  refine zJa ([_,_] ++ M) (fun i Bx => ∃ B M, Bx = B ++ M ∧ Memo w0 b mm M ∧ B = [(g8, blk 4 [.bool (decide (i = 0))]), (b6, blk 23 [.int .i64 (hullL f ((truths b).take (i))).1, .int .i64 (hullL f ((truths b).take (i))).2])]) (fun c Bx => ∃ B M, Bx = B ++ M ∧ Memo w0 b mm M ∧ False) rfl rfl rfl call86 (zFn b p bb mm hk.app.cons.cons bp (zAh (i := 0) (vs := [_]) rfl rfl)) (zG0 (fun i B => B = [(g8, blk 4 [.bool (decide (i = 0))]), (b6, blk 23 [.int .i64 (hullL f ((truths b).take (i))).1, .int .i64 (hullL f ((truths b).take (i))).2])]) (fun c B => False) (fun i Bx => Iff.rfl) (fun c Bx => Iff.rfl)) gj (hull_perm _ _ _ _ _ _ _) ⟨_, M, rfl, hM, rfl⟩ ?_ ?_ ?_
  ·
   intro lp i hi Bx Xr Xr2 gB hJ hs K gk
   obtain ⟨BB, M3, rfl, g4, rfl⟩ := hJ
   have hi2 : i < (truths b).length := by simpa using hi
   rw [List.getElem_map, List.getElem_map]
   have htm := List.getElem_mem hi2
   have hpl := zB6 hk.ok htm
   have hfa := hf _ htm
   obtain ⟨h, hh⟩ : ∃ h, h = pad4 (truths b)[i] := ⟨_, rfl⟩
   rw [← hh] at hpl hfa ⊢
   have hx3 : Ats w0 ((bp, blk 88 [.pointer (some ⟨bb, 0, none⟩)]) :: (b3, blk 95 [.func (.func fk) f1 cp]) :: (X ++ F)) b3 0 [.func (.func fk) f1 cp] := zAh (i := 1) rfl rfl
   replace hs := (show St _ _ (_ :: _ :: (M3 ++ (Xr ++ (_ :: _ :: (X ++ F))))) from hs)
   refine zAa (zBb (cs := iv [0,0,0,0]) zAb zeroValue93 rfl hs (fun gC gD gl => ?_))
   refine zCm (i := 0) (l := _) zAb sizeOf93 (by first | omega | rfl | (simp only [hpl, zL] <;> omega)) rfl rfl rfl rfl rfl gl rfl (by first | omega | rfl | (simp only [hpl, zL] <;> omega)) (fun gE gm => ?_)
   refine zAe (zAc (gk _ _ (_ :: _ :: _ :: M3) gm (fun gF g5 => ?_)))
   replace g5 := (show St _ _ (_ :: _ :: _ :: M3 ++ (Xr2 ++ (_ :: _ :: X ++ (F)))) from g5)
   refine zAz ?_
   refine zAf (fun gG gn => (zAa (w_p (zAj isAgg95 g5.tail.tail.tail.drop.drop rfl rfl hx3) rfl (w_p (zB5 (i := 0) isAgg93 sizeOf93 (by first | omega | rfl | (simp only [hpl, zL] <;> omega)) g5 rfl rfl rfl) rfl ?_))))
   refine zEt zAb rfl rfl rfl rfl ((show FCon _ _ _ _ _ from by rw [hh]; exact hf.at (P := [_,_,_]) (M := M3) (Y := Xr2) (Q := [_,_]) (X := X) htm g5)) ?_
   rintro _ gH ⟨rfl, g0⟩
   replace g0 := (show St _ _ (_ :: _ :: _ :: M3 ++ (Xr2 ++ (_ :: _ :: X ++ (F)))) from g0)
   refine zBl rfl rfl (zAe (zAc (gn _ _ (zAf (fun gI g9 => (zAf (fun gJ go => (zAa (w_p (zAj isAgg4 g0 rfl rfl (zAh (i := 1) (vs := [_]) rfl rfl)) rfl ?_)))))))))
   refine zAe (zAc (go _ _ (zAy rfl rfl (fun g6 => ?_) (fun g6 => ?_))))
   ·
    try simp only [zS] at g6
    refine zAa (zBa rfl rfl (zBa rfl rfl (w_p (zBy (ps := [(0, _),(1, _)]) (pv := [(0, .int _ _),(1, .int _ _)]) rfl rfl (fun w => zIx _ _ w)) rfl (zA4 (i := 2) (v := .agg #[.int _ _, .int _ _]) (vs := [_,_]) zAb sizeOf23 rfl rfl rfl rfl rfl (by simp [Value.oneCell']) g0 rfl (zNl rfl) (fun gK gp => ?_)))))
    refine zA4 (i := 1) (v := .bool _) (vs := [_]) zAb sizeOf4 rfl rfl rfl rfl rfl (by simp [Value.oneCell']) gp rfl (zNl rfl) (fun gL g7 => ?_)
    refine zAe (zAc (g9 _ _ (zAa (w_p (zAd (o := 0) (i := 0) underlying23 rfl sizeOf3 rfl rfl rfl) rfl (w_p (zAj isAgg3 g7 rfl rfl (zAh (i := 2) (vs := [_]) rfl rfl)) rfl ?_)))))
    refine zBa rfl rfl (w_p (y_min2 rfl rfl rfl rfl) rfl (w_p (zAd (o := 1) (i := 1) underlying23 rfl sizeOf3 rfl rfl rfl) rfl (w_p (zAj isAgg3 g7 rfl rfl (zAh (i := 2) (vs := [_]) rfl rfl)) rfl (zBa rfl rfl (w_p (zF4 rfl rfl rfl rfl) rfl ?_)))))
    refine w_p (zBy (ps := [(0, _),(1, _)]) (pv := [(0, .int _ _),(1, .int _ _)]) rfl rfl (fun w => zIx _ _ w)) rfl (zA4 (i := 2) (v := .agg #[.int _ _, .int _ _]) (vs := [_,_]) zAb sizeOf23 rfl rfl rfl rfl rfl (by simp [Value.oneCell']) g7 rfl (zNl rfl) (fun gM gq => ?_))
    refine zAe (zAl (zCu (_ :: _ :: M3) gq.tail ?_))
    first
      | exact ⟨_, M3, rfl, g4, zGw (decide_eq_false (by omega)).symm (by rw [zGv hi2 (by omega)]) (by rw [zGv hi2 (by omega)])⟩
      | exact ⟨_, M3, rfl, g4, zGw (by rw [decide_eq_false (by omega), decide_eq_false (by omega)]) (by rw [zHu hi2 (by omega)]) (by rw [zHu hi2 (by omega)])⟩
   try simp only [zS] at g6
   refine zAv (zAc (g9 _ _ (zAa (w_p (zAd (o := 0) (i := 0) underlying23 rfl sizeOf3 rfl rfl rfl) rfl (w_p (zAj isAgg3 g0 rfl rfl (zAh (i := 2) (vs := [_]) rfl rfl)) rfl ?_)))))
   refine zBa rfl rfl (w_p (y_min2 rfl rfl rfl rfl) rfl (w_p (zAd (o := 1) (i := 1) underlying23 rfl sizeOf3 rfl rfl rfl) rfl (w_p (zAj isAgg3 g0 rfl rfl (zAh (i := 2) (vs := [_]) rfl rfl)) rfl (zBa rfl rfl (w_p (zF4 rfl rfl rfl rfl) rfl ?_)))))
   refine w_p (zBy (ps := [(0, _),(1, _)]) (pv := [(0, .int _ _),(1, .int _ _)]) rfl rfl (fun w => zIx _ _ w)) rfl (zA4 (i := 2) (v := .agg #[.int _ _, .int _ _]) (vs := [_,_]) zAb sizeOf23 rfl rfl rfl rfl rfl (by simp [Value.oneCell']) g0 rfl (zNl rfl) (fun gN gr => ?_))
   refine zAe (zAl (zCu (_ :: _ :: M3) gr.tail ?_))
   first
     | exact ⟨_, M3, rfl, g4, zGw (decide_eq_false (by omega)).symm (by rw [zGv hi2 (by omega)]) (by rw [zGv hi2 (by omega)])⟩
     | exact ⟨_, M3, rfl, g4, zGw (by rw [decide_eq_false (by omega), decide_eq_false (by omega)]) (by rw [zHu hi2 (by omega)]) (by rw [zHu hi2 (by omega)])⟩
  ·
   intro bd Bx gO hJ hs
   obtain ⟨BB, M3, rfl, g4, rfl⟩ := hJ
   rw [List.length_map, List.length_map, List.take_length] at hs
   replace hs := (show St _ _ (_ :: _ :: _ :: (M3 ++ (_ :: _ :: (X ++ F)))) from hs)
   refine zAl (zAc (gh _ _ (zAf (fun gP gt => (zAa (w_p (zA7 (vs := [_,_]) isAgg23 sizeOf23 hs rfl rfl (zAh (i := 2) (vs := [_,_]) rfl rfl)) rfl (zA4 (i := 2) (v := .agg #[.int _ _, .int _ _]) (vs := [_,_]) zAb sizeOf23 rfl rfl rfl rfl rfl (by simp [Value.oneCell']) hs rfl (zNl rfl) (fun gQ gu => ?_))))))))
   refine zAe (zAc (gt _ _ (zA2 (zEw (i := 0) (l := [.cell 4 23]) (vs := [_]) gu rfl rfl (fun gR ga => ⟨⟨⟨rfl, _, rfl, zCe (vs := [_,_]) isAgg23 sizeOf23 ga (zAh (i := 2) (vs := [_,_]) rfl rfl)⟩, trivial⟩, ?_⟩)))))
   exact ⟨rfl, M3, g4, zGh ga.tail.tail.tail⟩
  intro _ _ _ _ hJ
  obtain ⟨_, _,_,_, h⟩ := hJ
  exact h.elim

end Go.Proofs.Kb
set_option maxRecDepth 20000
namespace Go.Proofs.Kb
open Go.Proofs.Tryz
open Go.Rt Go.Rt.Ch
open Go.Rt.Ha (firstE zBv zBf zBo failE nameE felt spanL upto zCi listL fewest fewTo bit before fewStep zCo zDg zCb zCx zCj zC5 zCv zB2)
attribute [local irreducible] WL WC Con Yd At Ats Sl Agree DW
theorem Try_KL_fb3 (x0 : Int) (x1 : Int) (w : World) : (Instr.buildSlice 34 2 [(0, .int .i64 x0),(1, .int .i64 x1)].toArray).run Tryz.prog w = .ok (.slice (some ⟨w.heap.size, 0, none⟩) 2 2) (w.alloc (Go.Rt.blk 3 [.int .i64 x0, .int .i64 x1])) := by kernel_rfl
theorem hns_h {b : Board} (a : Int) : (check b).2.2 = 0 → ∀ j (hj : 2 * j + 1 < [a, (b.hours.length : Int)].length), 0 ≤ [a, (b.hours.length : Int)][2 * j + 1] ∧ [a, (b.hours.length : Int)][2 * j + 1] ≤ 100 := by
  intro hc j hj
  have := (check_ok hc).lh
  have hj0 : j = 0 := by simp at hj; omega
  subst hj0
  show 0 ≤ (b.hours.length : Int) ∧ (b.hours.length : Int) ≤ 100
  omega
theorem hns_c {b : Board} (a : Int) : (check b).2.2 = 0 → ∀ j (hj : 2 * j + 1 < [a, (b.ctrs.length : Int)].length), 0 ≤ [a, (b.ctrs.length : Int)][2 * j + 1] ∧ [a, (b.ctrs.length : Int)][2 * j + 1] ≤ 100 := by
  intro hc j hj
  have := (check_ok hc).lc
  have hj0 : j = 0 := by simp at hj; omega
  subst hj0
  show 0 ≤ (b.ctrs.length : Int) ∧ (b.ctrs.length : Int) ≤ 100
  omega
theorem hns_b {b : Board} (a : Int) : (check b).2.2 = 0 → ∀ j (hj : 2 * j + 1 < [a, b.holds].length), 0 ≤ [a, b.holds][2 * j + 1] ∧ [a, b.holds][2 * j + 1] ≤ 100 := by
  intro hc j hj
  have := (check_ok hc).holds
  have hj0 : j = 0 := by simp at hj; omega
  subst hj0
  show 0 ≤ b.holds ∧ b.holds ≤ 100
  omega
theorem hns_4 {b : Board} (c a : Int) : (check b).2.2 = 0 → ∀ j (hj : 2 * j + 1 < [c, (b.ctrs.length : Int), a, (b.hours.length : Int)].length), 0 ≤ [c, (b.ctrs.length : Int), a, (b.hours.length : Int)][2 * j + 1] ∧ [c, (b.ctrs.length : Int), a, (b.hours.length : Int)][2 * j + 1] ≤ 100 := by
  intro hc j hj
  have h1 := (check_ok hc).lc
  have h2 := (check_ok hc).lh
  have hj0 : j = 0 ∨ j = 1 := by simp at hj; omega
  rcases hj0 with rfl | rfl
  · show 0 ≤ (b.ctrs.length : Int) ∧ (b.ctrs.length : Int) ≤ 100
    omega
  · show 0 ≤ (b.hours.length : Int) ∧ (b.hours.length : Int) ≤ 100
    omega
theorem idxE_ok {n below : Int} (h : idxE n below = 0) : 0 ≤ n ∧ n < below := by
  unfold idxE at h
  cases ho : out 0 (below - 1) n with
  | true => rw [ho] at h; cases h
  | false => have := zD9.1 ho; omega
theorem wentP_e {b : Board} {a : Int} (h : ¬ enterE b (idxE a b.hours.length) = 0) : wentP b a = ((0,0), enterE b (idxE a b.hours.length)) := by unfold wentP; rw [if_pos h]
theorem wentP_y {b : Board} {a : Int} (h : enterE b (idxE a b.hours.length) = 0) : wentP b a = (hullL (fun l => ld l a.toNat) (truths b), 0) := by unfold wentP; rw [if_neg (by simp [h])]
theorem holdP_e {b : Board} {a : Int} (h : ¬ enterE b (idxE a b.holds) = 0) : holdP b a = ((0,0), enterE b (idxE a b.holds)) := by unfold holdP; rw [if_pos h]
theorem holdP_y {b : Board} {a : Int} (h : enterE b (idxE a b.holds) = 0) : holdP b a = (hullL (inH b a) (truths b), 0) := by unfold holdP; rw [if_neg (by simp [h])]
theorem c61 {w0 w : World} {F : List (Nat × Obj)} (l : List Int) (hl4 : l.length = 4) (a : Int) (ha : 0 ≤ a ∧ a < 4) (ba : Nat) (hb : Ats w0 F ba 0 [.int .i64 a]) (hs : St w0 w F) :
  Con Tryz.prog 61 [ia l, .pointer (some ⟨ba, 0, none⟩)] w fun v w' => v = .int .i64 (ld l a.toNat) ∧ St w0 w' F := by
  refine zAu (n := 7) func61 rfl rfl (zNl rfl) ?_
  refine zAf (fun K2 g4 => (zAa (zF7 (l := _) zAb rfl rfl rfl hs (fun b3 w4 g0 => ?_))))
  refine zBg rfl rfl (zAe (zAc (g4 _ _ (zAf (fun K7 g5 => (zAa (w_p (zAj isAgg3 g0.tail rfl rfl hb) rfl (w_p (zC3 underlying93 sizeOf3 rfl rfl rfl rfl (i := a.toNat) (by first | rfl | omega) (by omega)) rfl ?_))))))))
  refine w_p (zAj isAgg3 g0 rfl rfl (zD8 (i := 0) (j := a.toNat) rfl (by first | omega | rfl | (simp only [hl4, zL] <;> omega)))) rfl ?_
  refine zBl rfl rfl (zAe (zAc (g5 _ _ (zA2 (zA9 (l := [.tmp 3]) (vs := [_]) rfl ⟨⟨rfl, (rfl : _ = Value.int _ _)⟩, trivial⟩ ?_)))))
  exact ⟨rfl, g0.tail⟩

theorem c41 {w0 w : World} {F : List (Nat × Obj)} (b : Board) (p : AtB) (bb mm : Nat) (hk : BK w0 F b p bb mm) (l : List Int) (hl4 : l.length = 4) (h40 : ∀ k, 0 ≤ ld l k ∧ ld l k ≤ 40) (hold : Int) (bp bh : Nat) (h1 : Ats w0 F bp 0 [.pointer (some ⟨bb, 0, none⟩)]) (h2 : Ats w0 F bh 0 [.int .i64 hold]) (hs : St w0 w F) :
  Con Tryz.prog 41 [ia l, .pointer (some ⟨bp, 0, none⟩), .pointer (some ⟨bh, 0, none⟩)] w fun v w' => v = .int .i64 (inH b hold l) ∧ St w0 w' F := by
  refine zAu (n := 9) func41 rfl rfl (zNl rfl) ?_
  refine zAf (fun K2 g4 => (zAa (zF7 (l := _) zAb rfl rfl rfl hs (fun b3 w4 g0 => ?_))))
  refine zBg rfl rfl (zAe (zAc (g4 _ _ (zAf (fun K7 g5 => (zAa (w_p (zAj isAgg88 g0.tail rfl rfl h1) rfl (w_p (zB5 (i := 0) isAgg93 sizeOf93 (by first | omega | rfl | (simp only [hl4, zL] <;> omega)) g0 rfl rfl rfl) rfl ?_))))))))
  refine w_p (zAj isAgg3 g0.tail rfl rfl h2) rfl (zAs zAb call42 rfl rfl rfl rfl (c42 b p bb mm hk.cons l hl4 h40 hold g0) ?_)
  rintro _ w9 ⟨rfl, g6⟩
  refine zBl rfl rfl (zAe (zAc (g5 _ _ (zA2 (zA9 (l := [.tmp 4]) (vs := [_]) rfl ⟨⟨rfl, (rfl : _ = Value.int _ _)⟩, trivial⟩ ?_)))))
  exact ⟨rfl, g6.tail⟩

theorem c29 {w0 w : World} {F : List (Nat × Obj)} (b : Board) (p : AtB) (hm : BIn w0 F b p) (a : Int) (hs : St w0 w F) :
  Con Tryz.prog 29 [.agg (b.cells p).toArray, .int .i64 a] w fun v w' => v = .tuple #[.agg #[.int .i64 (wentP b a).1.1, .int .i64 (wentP b a).1.2], .int .i64 (wentP b a).2] ∧ St w0 w' F := by
  refine zAu (n := 24) func29 rfl rfl (zNl rfl) ?_
  have hlh0 := hm.lh
  have hlc0 := hm.lc
  refine zAf (fun K2 gb => (zAa (zCa (v := .agg #[.int _ _, .slice _ _ _, .slice _ _ _]) (cs := [_,_,_]) zAb rfl rfl rfl hs (fun b3 w4 gc => ?_))))
  refine zCa (v := .int _ _) (cs := [_]) zAb rfl rfl rfl gc (fun b6 w7 gd => ?_)
  refine zBb (cs := [_,_]) zAb zeroValue23 rfl gd (fun b9 gm g5 => ?_)
  refine zBg rfl rfl (zAe (zAc (gb _ _ (zAf (fun gn g8 => (zAa (w_p (zA7 (vs := [_,_,_]) isAgg41 sizeOf41 g5 rfl rfl (zAh (i := 2) (vs := [_,_,_]) rfl rfl)) rfl ?_)))))))
  refine w_p (zAj isAgg3 g5 rfl rfl (zAh (i := 1) (vs := [_]) rfl rfl)) rfl (w_p (zAd (o := 1) (i := 1) underlying41 rfl sizeOf38 rfl rfl rfl) rfl (w_p (zAj isAgg38 g5 rfl rfl (zAh (i := 2) (vs := [_]) rfl rfl)) rfl ?_))
  refine w_p (zBm underlying38 rfl rfl) rfl (zA0 (ps := [(0, _),(1, _)]) (pv := [(0, .int _ _),(1, .int _ _)]) (cs := [_,_]) zAb rfl rfl (fun w => Try_KL_fb3 _ _ w) g5 (fun ge go gf => ?_))
  refine zAs zAb call39 rfl rfl rfl rfl ((by have h := c39 b _ hm.cons.cons.cons.cons 0 (some ⟨ge,0, none⟩) 2 [a, (b.hours.length : Int)] (by simp) (by simp) (hns_h a) (zBp (i := 0) (rows := [[_], [_]]) rfl (by simp) rfl) gf; rw [pairs_two] at h; exact h)) ?_
  rintro _ gp (⟨hee, rfl, g0⟩ | ⟨hee, bb, mm, M, rfl, hM, g0⟩)
  ·
   refine w_p (zAi (v := .tuple _) rfl rfl) rfl (w_p (zAn (v := .pointer _) rfl rfl rfl) rfl (w_p (zAn (v := .int _ _) rfl rfl rfl) rfl (w_p (zAm (v := .pointer _) rfl rfl) rfl (zBl rfl rfl (zAe (zAc (g8 _ _ (zAf (fun gq gr => (zAf (fun gt gg => (zAa (zBa rfl rfl ?_)))))))))))))
   refine w_p (zCt rfl rfl rfl rfl) rfl (zAe (zAc (gg _ _ (zAy rfl rfl (fun g4 => ?_) (fun g4 => ?_)))))
   ·
    try simp only [zS] at g4
    refine zAf (fun gu gh => (zAa (w_p (zA7 (vs := [_,_]) isAgg23 sizeOf23 g0 rfl rfl (zAh (i := 1) (vs := [_,_]) rfl rfl)) rfl (zBa rfl rfl (zA4 (i := 1) (v := .agg #[.int _ _, .int _ _]) (vs := [_,_]) zAb sizeOf23 rfl rfl rfl rfl rfl (by simp [Value.oneCell']) g0 rfl (zNl rfl) (fun gv g9 => ?_))))))
    refine zBl rfl rfl (zAe (zAc (gh _ _ (zA2 (zAk (zA9 (l := [.cell 4 23, .tmp 5]) (vs := [_,_]) rfl ⟨⟨rfl, _, rfl, zCe (vs := [_,_]) isAgg23 sizeOf23 g9 (zAh (i := 1) (vs := [_,_]) rfl rfl)⟩, ⟨rfl, (rfl : _ = Value.int _ _)⟩, trivial⟩ ?_))))))
    exact ⟨by rw [wentP_e hee]; rfl, g9.tail.tail.tail.tail⟩
   exfalso
   try simp only [zS] at g4
   first | exact hee g4 | exact g4 hee
  replace g0 := (show St _ _ (_ :: M ++ (_ :: _ :: _ :: _ :: F)) from g0)
  have g6 := (show St _ _ ([_] ++ (M ++ _)) from g0).perm (zAq [_] M _)
  replace g6 := (show St _ _ (M ++ (_ :: _ :: _ :: _ :: _ :: F)) from g6)
  have hew := zGq hee
  have hok := check_ok hew.1
  refine w_p (zAi (v := .tuple _) rfl rfl) rfl (w_p (zAn (v := .pointer _) rfl rfl rfl) rfl (w_p (zAn (v := .int _ _) rfl rfl rfl) rfl (w_p (zAm (v := .pointer _) rfl rfl) rfl (zBl rfl rfl (zAe (zAc (g8 _ _ (zAf (fun gw gi => (zAf (fun gx gj => (zAa (zBa rfl rfl ?_)))))))))))))
  refine w_p (zCt rfl rfl rfl rfl) rfl (zAe (zAc (gj _ _ (zCc rfl rfl ?_))))
  refine zAv (zAc (gi _ _ (zAf (fun gy gk => ?_))))
  have hia := idxE_ok hew.2.1
  have hlh := hok.lh
  refine zAa (w_p (zAi (v := .pointer _) rfl rfl) rfl (w_p (zCd (fv := []) (cv := [_]) rfl rfl rfl rfl) rfl (zAs zAb call40 rfl rfl rfl rfl (c40 (X := []) (M := M) (F := (bb, blk 131 [.int .i64 b.holds, .slice p.ah b.hours.length p.ch, .slice p.ac b.ctrs.length p.cc, .map (some mm)]) :: _ :: _ :: _ :: _ :: F) b p bb mm ⟨hm.cons.cons.cons.cons.cons, zAh (i := 0) rfl rfl, hok⟩ 61 #[] #[.pointer (some ⟨b6,0, none⟩)] (fun l => ld l a.toNat) (fun l hl X w hs => zEl call61 ((c61 (pad4 l) (zB6 hok hl) a (by omega) _ (Ats.app (zAh (i := 3) (vs := [_]) rfl rfl)) hs).mono fun v w h => ⟨by rw [h.1, zI2], h.2⟩)) hM g6) ?_)))
  rintro _ gz ⟨rfl, M2, gA, g7⟩
  replace g7 := (show St _ _ (M2 ++ (_ :: _ :: _ :: _ :: _ :: F)) from g7)
  have gl := g7.drop
  refine zA4 (i := 2) (v := .agg #[.int _ _, .int _ _]) (vs := [_,_]) zAb sizeOf23 rfl rfl rfl rfl rfl (by simp [Value.oneCell']) gl rfl (zNl rfl) (fun gB ga => ?_)
  refine zBg rfl rfl (zAe (zAc (gk _ _ (zA2 (zA9 (l := [.cell 4 23, .tmp 5]) (vs := [_,_]) rfl ⟨⟨rfl, _, rfl, zCe (vs := [_,_]) isAgg23 sizeOf23 ga (zAh (i := 2) (vs := [_,_]) rfl rfl)⟩, ⟨rfl, (rfl : _ = Value.int _ _)⟩, trivial⟩ ?_)))))
  exact ⟨by rw [wentP_y hee]; rfl, ga.tail.tail.tail.tail.tail⟩

theorem c12 {w0 w : World} {F : List (Nat × Obj)} (b : Board) (p : AtB) (hm : BIn w0 F b p) (a : Int) (hs : St w0 w F) :
  Con Tryz.prog 12 [.agg (b.cells p).toArray, .int .i64 a] w fun v w' => v = .tuple #[.agg #[.int .i64 (holdP b a).1.1, .int .i64 (holdP b a).1.2], .int .i64 (holdP b a).2] ∧ St w0 w' F := by
  refine zAu (n := 23) func12 rfl rfl (zNl rfl) ?_
  have hlh0 := hm.lh
  have hlc0 := hm.lc
  refine zAf (fun K2 ge => (zAa (zCa (v := .agg #[.int _ _, .slice _ _ _, .slice _ _ _]) (cs := [_,_,_]) zAb rfl rfl rfl hs (fun b3 w4 gf => ?_))))
  refine zCa (v := .int _ _) (cs := [_]) zAb rfl rfl rfl gf (fun b6 w7 gg => ?_)
  refine zBb (cs := [_,_]) zAb zeroValue23 rfl gg (fun b9 gt g5 => ?_)
  refine zBg rfl rfl (zAe (zAc (ge _ _ (zAf (fun gu g9 => (zAa (w_p (zA7 (vs := [_,_,_]) isAgg41 sizeOf41 g5 rfl rfl (zAh (i := 2) (vs := [_,_,_]) rfl rfl)) rfl ?_)))))))
  refine w_p (zAj isAgg3 g5 rfl rfl (zAh (i := 1) (vs := [_]) rfl rfl)) rfl (w_p (zAd (o := 0) (i := 0) underlying41 rfl sizeOf3 rfl rfl rfl) rfl (w_p (zAj isAgg3 g5 rfl rfl (zAh (i := 2) (vs := [_]) rfl rfl)) rfl ?_))
  refine zA0 (ps := [(0, _),(1, _)]) (pv := [(0, .int _ _),(1, .int _ _)]) (cs := [_,_]) zAb rfl rfl (fun w => Try_KL_fb3 _ _ w) g5 (fun gh gv gi => ?_)
  refine zAs zAb call39 rfl rfl rfl rfl ((by have h := c39 b _ hm.cons.cons.cons.cons 0 (some ⟨gh,0, none⟩) 2 [a, b.holds] (by simp) (by simp) (hns_b a) (zBp (i := 0) (rows := [[_], [_]]) rfl (by simp) rfl) gi; rw [pairs_two] at h; exact h)) ?_
  rintro _ gw (⟨hee, rfl, g0⟩ | ⟨hee, bb, mm, M, rfl, hM, g0⟩)
  ·
   refine w_p (zAi (v := .tuple _) rfl rfl) rfl (w_p (zAn (v := .pointer _) rfl rfl rfl) rfl (w_p (zAn (v := .int _ _) rfl rfl rfl) rfl (zBb (cs := [_]) zAb zeroValue88 rfl g0 (fun gx gy gj => ?_))))
   refine zA4 (i := 0) (v := .pointer _) (vs := [_]) zAb sizeOf88 rfl rfl rfl rfl rfl (by simp [Value.oneCell']) gj rfl (zNl rfl) (fun gz ga => ?_)
   refine zBl rfl rfl (zAe (zAc (g9 _ _ (zAf (fun gA gB => (zAf (fun gC gk => (zAa (zBa rfl rfl (w_p (zCt rfl rfl rfl rfl) rfl (zAe (zAc (gk _ _ (zAy rfl rfl (fun g4 => ?_) (fun g4 => ?_)))))))))))))))
   ·
    try simp only [zS] at g4
    refine zAf (fun gD gl => (zAa (w_p (zA7 (vs := [_,_]) isAgg23 sizeOf23 ga rfl rfl (zAh (i := 2) (vs := [_,_]) rfl rfl)) rfl (zBa rfl rfl (zA4 (i := 2) (v := .agg #[.int _ _, .int _ _]) (vs := [_,_]) zAb sizeOf23 rfl rfl rfl rfl rfl (by simp [Value.oneCell']) ga rfl (zNl rfl) (fun gE gb => ?_))))))
    refine zBl rfl rfl (zAe (zAc (gl _ _ (zA2 (zAk (zA9 (l := [.cell 4 23, .tmp 5]) (vs := [_,_]) rfl ⟨⟨rfl, _, rfl, zCe (vs := [_,_]) isAgg23 sizeOf23 gb (zAh (i := 2) (vs := [_,_]) rfl rfl)⟩, ⟨rfl, (rfl : _ = Value.int _ _)⟩, trivial⟩ ?_))))))
    exact ⟨by rw [holdP_e hee]; rfl, gb.tail.tail.tail.tail.tail⟩
   exfalso
   try simp only [zS] at g4
   first | exact hee g4 | exact g4 hee
  replace g0 := (show St _ _ (_ :: M ++ (_ :: _ :: _ :: _ :: F)) from g0)
  have g6 := (show St _ _ ([_] ++ (M ++ _)) from g0).perm (zAq [_] M _)
  replace g6 := (show St _ _ (M ++ (_ :: _ :: _ :: _ :: _ :: F)) from g6)
  have hew := zGq hee
  have hok := check_ok hew.1
  refine w_p (zAi (v := .tuple _) rfl rfl) rfl (w_p (zAn (v := .pointer _) rfl rfl rfl) rfl (w_p (zAn (v := .int _ _) rfl rfl rfl) rfl (zBb (cs := [_]) zAb zeroValue88 rfl g6 (fun gm gF gn => ?_))))
  refine zA4 (i := 0) (v := .pointer _) (vs := [_]) zAb sizeOf88 rfl rfl rfl rfl rfl (by simp [Value.oneCell']) gn rfl (zNl rfl) (fun gG gc => ?_)
  refine zBl rfl rfl (zAe (zAc (g9 _ _ (zAf (fun gH go => (zAf (fun gI gp => (zAa (zBa rfl rfl (w_p (zCt rfl rfl rfl rfl) rfl (zAe (zAc (gp _ _ (zCc rfl rfl ?_))))))))))))))
  refine zAv (zAc (go _ _ (zAf (fun gJ gq => ?_))))
  have hia := idxE_ok hew.2.1
  have hlh := hok.lh
  refine zAa (w_p (zAj isAgg88 gc rfl rfl (zAh (i := 0) (vs := [_]) rfl rfl)) rfl (w_p (zCd (fv := []) (cv := [_,_]) rfl rfl rfl rfl) rfl ?_))
  have g7 := (show St _ _ ([_] ++ (M ++ _)) from gc).perm (zAq [_] M _)
  replace g7 := (show St _ _ (M ++ (_ :: _ :: _ :: _ :: _ :: _ :: F)) from g7)
  refine zAs zAb call40 rfl rfl rfl rfl (c40 (X := []) (M := M) (F := _ :: (bb, blk 131 [.int .i64 b.holds, .slice p.ah b.hours.length p.ch, .slice p.ac b.ctrs.length p.cc, .map (some mm)]) :: _ :: _ :: _ :: _ :: F) b p bb mm ⟨hm.cons.cons.cons.cons.cons.cons, zAh (i := 1) rfl rfl, hok⟩ 41 #[] #[.pointer (some ⟨gm,0, none⟩), .pointer (some ⟨b6,0, none⟩)] (inH b a) (fun l hl X w hs => zEl call41 ((c41 b p bb mm (BK.app ⟨hm.cons.cons.cons.cons.cons.cons, zAh (i := 1) rfl rfl, hok⟩) (pad4 l) (zB6 hok hl) (fun k => by rw [zI2]; exact ld_40 hok hl k) a _ _ (Ats.app (zAh (i := 0) (vs := [_]) rfl rfl)) (Ats.app (zAh (i := 4) (vs := [_]) rfl rfl)) hs).mono fun v w h => ⟨by rw [h.1, zFy], h.2⟩)) hM g7) ?_
  rintro _ gK ⟨rfl, M2, gL, g8⟩
  replace g8 := (show St _ _ (M2 ++ (_ :: _ :: _ :: _ :: _ :: _ :: F)) from g8)
  have gr := g8.drop
  refine zA4 (i := 3) (v := .agg #[.int _ _, .int _ _]) (vs := [_,_]) zAb sizeOf23 rfl rfl rfl rfl rfl (by simp [Value.oneCell']) gr rfl (zNl rfl) (fun gM gd => ?_)
  refine zBg rfl rfl (zAe (zAc (gq _ _ (zA2 (zA9 (l := [.cell 4 23, .tmp 5]) (vs := [_,_]) rfl ⟨⟨rfl, _, rfl, zCe (vs := [_,_]) isAgg23 sizeOf23 gd (zAh (i := 3) (vs := [_,_]) rfl rfl)⟩, ⟨rfl, (rfl : _ = Value.int _ _)⟩, trivial⟩ ?_)))))
  exact ⟨by rw [holdP_y hee]; rfl, gd.tail.tail.tail.tail.tail.tail⟩

end Go.Proofs.Kb
set_option maxRecDepth 20000
namespace Go.Proofs.Kb
open Go.Proofs.Tryz
open Go.Rt Go.Rt.Ch
open Go.Rt.Ha (firstE zBv zBf zBo failE nameE felt spanL upto zCi listL fewest fewTo bit before fewStep zCo zDg zCb zCx zCj zC5 zCv zB2)
attribute [local irreducible] WL WC Con Yd At Ats Sl Agree DW
theorem Try_KM_fb3 (x0 : Int) (x1 : Int) (w : World) : (Instr.buildSlice 34 2 [(0, .int .i64 x0),(1, .int .i64 x1)].toArray).run Tryz.prog w = .ok (.slice (some ⟨w.heap.size, 0, none⟩) 2 2) (w.alloc (Go.Rt.blk 3 [.int .i64 x0, .int .i64 x1])) := by kernel_rfl
theorem Try_KM_fb4 (x0 : Int) (x1 : Int) (x2 : Int) (x3 : Int) (w : World) : (Instr.buildSlice 34 4 [(0, .int .i64 x0),(1, .int .i64 x1),(2, .int .i64 x2),(3, .int .i64 x3)].toArray).run Tryz.prog w = .ok (.slice (some ⟨w.heap.size, 0, none⟩) 4 4) (w.alloc (Go.Rt.blk 3 [.int .i64 x0, .int .i64 x1, .int .i64 x2, .int .i64 x3])) := by kernel_rfl
theorem ask_perm (p a c e f g : Nat × Obj) (X M F : List (Nat × Obj)) : (p :: a :: c :: e :: f :: g :: (X ++ (M ++ F))).Perm (([a, c] ++ M) ++ (p :: e :: f :: g :: (X ++ F))) :=
  (zAq [p] [a, c] (e :: f :: g :: (X ++ (M ++ F)))).trans (List.Perm.append_left [a, c] (zAq (p :: e :: f :: g :: X) M F))
theorem mid_back4 {w0 w : World} {a c e f : Nat × Obj} {X M F : List (Nat × Obj)} (h : St w0 w (M ++ (a :: c :: e :: f :: (X ++ F)))) : St w0 w (X ++ (M ++ F)) := by
  have h1 := (h.perm (zAq M [a, c, e, f] (X ++ F))).tail.tail.tail.tail
  exact St.perm (L := M ++ (X ++ F)) h1 (zAq M X F)
theorem zH8 {b7 b6 : Nat} {x x' y y' : Bool} (h1 : x = x') (h2 : y = y') : ([(b7, blk 4 [.bool x]), (b6, blk 4 [.bool y])] : List (Nat × Obj)) = [(b7, blk 4 [.bool x']), (b6, blk 4 [.bool y'])] := by subst h1 h2; rfl
theorem zE5 {α : Type} {p : α → Bool} {l : List α} {i : Nat} (hi : i < l.length) : (l.take (i + 1)).any p = ((l.take i).any p || p l[i]) := by rw [List.take_succ_eq_append_getElem hi, List.any_append]; simp
theorem toldN_eq (n m : Bool) : toldN n m = if n = false then 1 else if m = false then 2 else 0 := by cases n <;> cases m <;> rfl
theorem rightP_e {b : Board} {a : Int} (h : ¬ enterE b (idxE a b.ctrs.length) = 0) : rightP b a = (0, enterE b (idxE a b.ctrs.length)) := by unfold rightP; rw [if_pos h]
theorem rightP_y {b : Board} {a : Int} (h : enterE b (idxE a b.ctrs.length) = 0) : rightP b a = (toldN (askM b a.toNat slips) (askN b a.toNat slips), 0) := by unfold rightP; rw [if_neg (by simp [h])]
theorem zeroP_e {b : Board} {a e : Int} (h : ¬ enterE b (idx2 a b.ctrs.length e b.hours.length) = 0) : zeroP b a e = (0, enterE b (idx2 a b.ctrs.length e b.hours.length)) := by unfold zeroP; rw [if_pos h]
theorem zeroP_y {b : Board} {a e : Int} (h : enterE b (idx2 a b.ctrs.length e b.hours.length) = 0) : zeroP b a e = (toldN (askN b a.toNat (zeroed e.toNat)) (askM b a.toNat (zeroed e.toNat)), 0) := by unfold zeroP; rw [if_neg (by simp [h])]
theorem idx2_ok {c n a m : Int} (h : idx2 c n a m = 0) : (0 ≤ c ∧ c < n) ∧ (0 ≤ a ∧ a < m) := by
  unfold idx2 at h
  by_cases h1 : idxE c n = 0
  · rw [if_neg (by simp [h1])] at h; exact ⟨idxE_ok h1, idxE_ok h⟩
  · rw [if_pos h1] at h; exact absurd h h1
theorem QIs.mid {w0 w : World} {P M Y Q X F : List (Nat × Obj)} {b : Board} {p : AtB} {bb mm : Nat} (hk : BK w0 F b p bb mm) {c : Nat} (hc : c < b.ctrs.length) {l : List Int} (hl : l ∈ truths b) {fk : FuncId} {f1 cp : Array Value} {q : Quest} (h : QIs w0 F (.func (.func fk) f1 cp) q) (hM : Memo w0 b mm M) (hs : St w0 w (P ++ (M ++ (Y ++ (Q ++ (X ++ F)))))) :
    Con Tryz.prog 74 [.pointer (some ⟨bb, 0, none⟩), .int .i64 (c : Int), ia (pad4 l), .agg #[.func (.func fk) f1 cp]] w fun v w' => ∃ M', v = .tuple #[.bool (notF (ctrOf b c) l q b.hours.length), .bool (metF (ctrOf b c) l q b.hours.length)] ∧ Memo w0 b mm M' ∧ St w0 w' (P ++ (M' ++ (Y ++ (Q ++ (X ++ F))))) := by
  have e : ∀ M : List (Nat × Obj), P ++ (M ++ (Y ++ (Q ++ (X ++ F)))) = P ++ (M ++ ((Y ++ (Q ++ X)) ++ F)) := fun M => by simp only [List.append_assoc]
  rw [e] at hs
  have h1 := c74 b p bb mm (hk.app (B := Y ++ (Q ++ X))) c hc (pad4 l) (zB6 hk.ok hl) (fun i hi => by rw [zI2]; exact (zFo hl).2 i hi) fk f1 cp q h.app hM hs
  rw [not_pad, met_pad] at h1
  exact h1.mono fun _ _ ⟨M', h2, h3, h4⟩ => ⟨M', h2, h3, by rw [e]; exact h4⟩
theorem c43 {w0 w : World} {X M F : List (Nat × Obj)} (b : Board) (p : AtB) (bb mm : Nat) (hk : BK w0 F b p bb mm) (c : Nat) (hc : c < b.ctrs.length) (fk : FuncId) (f1 cp : Array Value) (q : Quest) (hq : QIs w0 F (.func (.func fk) f1 cp) q) (hM : Memo w0 b mm M) (hs : St w0 w (X ++ (M ++ F))) :
  Con Tryz.prog 43 [.pointer (some ⟨bb, 0, none⟩), .int .i64 (c : Int), .agg #[.func (.func fk) f1 cp]] w fun v w' => v = .tuple #[.bool (askN b c q), .bool (askM b c q)] ∧ ∃ M', Memo w0 b mm M' ∧ St w0 w' (X ++ (M' ++ F)) := by
  refine zDr (n := 32) func43 rfl rfl (zNl rfl) ?_
  refine zAf (fun K2 gj => (zAa (zCa (v := .pointer _) (cs := [_]) zAb rfl rfl rfl hs (fun b3 w4 gk => ?_))))
  refine zCa (v := .int _ _) (cs := [_]) zAb rfl rfl rfl gk (fun b6 w7 gl => ?_)
  refine zCa (v := .agg #[.func _ _ _]) (cs := [_]) zAb rfl rfl rfl gl (fun b9 gC gm => ?_)
  refine zBb (cs := [_]) zAb zeroValue4 rfl gm (fun ge gD gn => ?_)
  refine zBb (cs := [_]) zAb zeroValue4 rfl gn (fun gf gE gg => ?_)
  refine zAe (zAc (gj _ _ (zAf (fun gF go => (zAf (fun gG gp => (zAa (w_p (zAj isAgg88 gg rfl rfl (zAh (i := 4) (vs := [_]) rfl rfl)) rfl ?_))))))))
  refine zAs zAb call65 rfl rfl rfl rfl (c65 _ gg) ?_
  rintro _ gH ⟨bp, rfl, gq⟩
  refine zAe (zAc (gp _ _ (zAz ?_)))
  refine zJa ([_,_] ++ M) (fun i Bx => ∃ B M, Bx = B ++ M ∧ Memo w0 b mm M ∧ B = [(gf, blk 4 [.bool (((truths b).take (i)).any fun l => metF (ctrOf b c) l q b.hours.length)]), (ge, blk 4 [.bool (((truths b).take (i)).any fun l => notF (ctrOf b c) l q b.hours.length)])]) (fun c Bx => ∃ B M, Bx = B ++ M ∧ Memo w0 b mm M ∧ False) rfl rfl rfl call86 (zFn b p bb mm hk.app.cons.cons.cons.cons bp (zAh (i := 0) (vs := [_]) rfl rfl)) (zG0 (fun i B => B = [(gf, blk 4 [.bool (((truths b).take (i)).any fun l => metF (ctrOf b c) l q b.hours.length)]), (ge, blk 4 [.bool (((truths b).take (i)).any fun l => notF (ctrOf b c) l q b.hours.length)])]) (fun c B => False) (fun i Bx => Iff.rfl) (fun c Bx => Iff.rfl)) gq (ask_perm _ _ _ _ _ _ _ _ _) ⟨_, M, rfl, hM, rfl⟩ ?_ ?_ ?_
  ·
   intro lp i hi Bx Xr Xr2 gI hJ hs K gr
   obtain ⟨BB, M3, rfl, g6, rfl⟩ := hJ
   have hi2 : i < (truths b).length := by simpa using hi
   rw [List.getElem_map, List.getElem_map]
   have htm := List.getElem_mem hi2
   have hpl := zB6 hk.ok htm
   obtain ⟨h, hh⟩ : ∃ h, h = pad4 (truths b)[i] := ⟨_, rfl⟩
   rw [← hh] at hpl ⊢
   have hx3 : Ats w0 ((bp, blk 88 [.pointer (some ⟨bb, 0, none⟩)]) :: (b9, blk 100 [.func (.func fk) f1 cp]) :: (b6, blk 3 [.int .i64 (c : Int)]) :: (b3, blk 88 [.pointer (some ⟨bb, 0, none⟩)]) :: (X ++ F)) b3 0 [.pointer (some ⟨bb, 0, none⟩)] := zAh (i := 3) rfl rfl
   have hx4 : Ats w0 ((bp, blk 88 [.pointer (some ⟨bb, 0, none⟩)]) :: (b9, blk 100 [.func (.func fk) f1 cp]) :: (b6, blk 3 [.int .i64 (c : Int)]) :: (b3, blk 88 [.pointer (some ⟨bb, 0, none⟩)]) :: (X ++ F)) b6 0 [.int .i64 (c : Int)] := zAh (i := 2) rfl rfl
   have hx5 : Ats w0 ((bp, blk 88 [.pointer (some ⟨bb, 0, none⟩)]) :: (b9, blk 100 [.func (.func fk) f1 cp]) :: (b6, blk 3 [.int .i64 (c : Int)]) :: (b3, blk 88 [.pointer (some ⟨bb, 0, none⟩)]) :: (X ++ F)) b9 0 [.func (.func fk) f1 cp] := zAh (i := 1) rfl rfl
   replace hs := (show St _ _ (_ :: _ :: (M3 ++ (Xr ++ ((bp, blk 88 [.pointer (some ⟨bb, 0, none⟩)]) :: (b9, blk 100 [.func (.func fk) f1 cp]) :: (b6, blk 3 [.int .i64 (c : Int)]) :: (b3, blk 88 [.pointer (some ⟨bb, 0, none⟩)]) :: (X ++ F))))) from hs)
   refine zAa (zBb (cs := iv [0,0,0,0]) zAb zeroValue93 rfl hs (fun gJ gK gt => ?_))
   refine zCm (i := 0) (l := _) zAb sizeOf93 (by first | omega | rfl | (simp only [hpl, zL] <;> omega)) rfl rfl rfl rfl rfl gt rfl (by first | omega | rfl | (simp only [hpl, zL] <;> omega)) (fun gL gu => ?_)
   refine zAe (zAc (gr _ _ (_ :: _ :: _ :: M3) gu (fun gM g0 => ?_)))
   replace g0 := (show St _ _ (_ :: _ :: _ :: M3 ++ (Xr2 ++ (_ :: _ :: _ :: _ :: X ++ (F)))) from g0)
   refine zAz ?_
   refine zAf (fun gN gv => (zAa (w_p (zAj isAgg88 g0.tail.tail.tail.drop.drop rfl rfl hx3) rfl (w_p (zAj isAgg3 g0.tail.tail.tail.drop.drop rfl rfl hx4) rfl (w_p (zB5 (i := 0) isAgg93 sizeOf93 (by first | omega | rfl | (simp only [hpl, zL] <;> omega)) g0 rfl rfl rfl) rfl ?_)))))
   refine w_p (zA7 (vs := [_]) isAgg100 sizeOf100 g0.tail.tail.tail.drop.drop rfl rfl hx5) rfl (zAs zAb call74 rfl rfl rfl rfl ((show Con _ _ _ _ _ from by rw [hh]; exact QIs.mid (P := [_,_,_]) (M := M3) (Y := Xr2) (Q := [_,_,_,_]) (X := X) hk hc htm hq g6 g0)) ?_)
   rintro _ gO ⟨M4, rfl, g5, g4⟩
   replace g4 := (show St _ _ (_ :: _ :: _ :: M4 ++ (Xr2 ++ (_ :: _ :: _ :: _ :: X ++ (F)))) from g4)
   refine w_p (zAi (v := .tuple _) rfl rfl) rfl (w_p (zAn (v := .bool _) rfl rfl rfl) rfl (w_p (zAn (v := .bool _) rfl rfl rfl) rfl (w_p (zAm (v := .bool _) rfl rfl) rfl (w_p (zAm (v := .bool _) rfl rfl) rfl ?_))))
   refine zAe (zAc (gv _ _ (zAf (fun gP gh => (zAa (w_p (zAj isAgg4 g4 rfl rfl (zAh (i := 2) (vs := [_]) rfl rfl)) rfl (w_p (zAi (v := .bool _) rfl rfl) rfl ?_)))))))
   refine zBk (fun g7 => ?_) (fun g7 => ?_)
   ·
    try simp only [zS] at g7
    refine zAg rfl rfl rfl ?_
    refine w_p (zAx (v := _) rfl rfl rfl rfl) rfl (zA4 (i := 2) (v := .bool _) (vs := [_]) zAb sizeOf4 rfl rfl rfl rfl rfl (by simp [Value.oneCell']) g4 rfl (zNl rfl) (fun gQ g8 => ?_))
    refine zAe (zAc (gh _ _ (zAa (w_p (zAj isAgg4 g8 rfl rfl (zAh (i := 1) (vs := [_]) rfl rfl)) rfl (w_p (zAi (v := .bool _) rfl rfl) rfl (zBk (fun g9 => ?_) (fun g9 => ?_)))))))
    ·
     try simp only [zS] at g9
     refine zAg rfl rfl rfl ?_
     refine w_p (zAx (v := _) rfl rfl rfl rfl) rfl (zA4 (i := 1) (v := .bool _) (vs := [_]) zAb sizeOf4 rfl rfl rfl rfl rfl (by simp [Value.oneCell']) g8 rfl (zNl rfl) (fun gR gw => ?_))
     refine zAe (zAl (zCu (_ :: _ :: M4) gw.tail ?_))
     exact ⟨_, M4, rfl, g5, zH8 (by rw [zE5 hi2]; simp [*]) (by rw [zE5 hi2]; simp [*])⟩
    try simp only [zS] at g9
    refine w_y rfl rfl rfl (zAi (v := .bool _) rfl rfl) rfl ?_
    refine w_p (zBd (v := .bool _) rfl rfl rfl rfl) rfl (zA4 (i := 1) (v := .bool _) (vs := [_]) zAb sizeOf4 rfl rfl rfl rfl rfl (by simp [Value.oneCell']) g8 rfl (zNl rfl) (fun gT gx => ?_))
    refine zAe (zAl (zCu (_ :: _ :: M4) gx.tail ?_))
    exact ⟨_, M4, rfl, g5, zH8 (by rw [zE5 hi2]; simp [*]) (by rw [zE5 hi2]; simp [*])⟩
   try simp only [zS] at g7
   refine w_y rfl rfl rfl (zAi (v := .bool _) rfl rfl) rfl ?_
   refine w_p (zBd (v := .bool _) rfl rfl rfl rfl) rfl (zA4 (i := 2) (v := .bool _) (vs := [_]) zAb sizeOf4 rfl rfl rfl rfl rfl (by simp [Value.oneCell']) g4 rfl (zNl rfl) (fun gU ga => ?_))
   refine zAe (zAc (gh _ _ (zAa (w_p (zAj isAgg4 ga rfl rfl (zAh (i := 1) (vs := [_]) rfl rfl)) rfl (w_p (zAi (v := .bool _) rfl rfl) rfl (zBk (fun gb => ?_) (fun gb => ?_)))))))
   ·
    try simp only [zS] at gb
    refine zAg rfl rfl rfl ?_
    refine w_p (zAx (v := _) rfl rfl rfl rfl) rfl (zA4 (i := 1) (v := .bool _) (vs := [_]) zAb sizeOf4 rfl rfl rfl rfl rfl (by simp [Value.oneCell']) ga rfl (zNl rfl) (fun gV gy => ?_))
    refine zAe (zAl (zCu (_ :: _ :: M4) gy.tail ?_))
    exact ⟨_, M4, rfl, g5, zH8 (by rw [zE5 hi2]; simp [*]) (by rw [zE5 hi2]; simp [*])⟩
   try simp only [zS] at gb
   refine w_y rfl rfl rfl (zAi (v := .bool _) rfl rfl) rfl ?_
   refine w_p (zBd (v := .bool _) rfl rfl rfl rfl) rfl (zA4 (i := 1) (v := .bool _) (vs := [_]) zAb sizeOf4 rfl rfl rfl rfl rfl (by simp [Value.oneCell']) ga rfl (zNl rfl) (fun gW gz => ?_))
   refine zAe (zAl (zCu (_ :: _ :: M4) gz.tail ?_))
   exact ⟨_, M4, rfl, g5, zH8 (by rw [zE5 hi2]; simp [*]) (by rw [zE5 hi2]; simp [*])⟩
  ·
   intro bd Bx gX hJ hs
   obtain ⟨BB, M3, rfl, g6, rfl⟩ := hJ
   rw [List.length_map, List.length_map, List.take_length] at hs
   replace hs := (show St _ _ (_ :: _ :: _ :: (M3 ++ ((bp, blk 88 [.pointer (some ⟨bb, 0, none⟩)]) :: (b9, blk 100 [.func (.func fk) f1 cp]) :: (b6, blk 3 [.int .i64 (c : Int)]) :: (b3, blk 88 [.pointer (some ⟨bb, 0, none⟩)]) :: (X ++ F)))) from hs)
   refine zAl (zAc (go _ _ (zAf (fun gY gA => (zCs [3] [(0,1),(1,1),(2,2),(3,3)] zCg (zC8 (by kernel_rfl)) hs (fun gZ gc => ?_))))))
   refine zBh rfl zAb rfl gc (fun _ hq => (zAj isAgg4 hq rfl rfl (zAh (i := 2) (vs := [_]) rfl rfl))) ?_
   refine zBh rfl zAb rfl gc (fun _ hq => (zAj isAgg4 hq rfl rfl (zAh (i := 1) (vs := [_]) rfl rfl))) ?_
   refine zC9 rfl ?_
   refine zA4 (i := 2) (v := .bool _) (vs := [_]) zAb sizeOf4 rfl rfl rfl rfl rfl (by simp [Value.oneCell']) gc rfl (zNl rfl) (fun hD gi => ?_)
   refine zAe (qn ⟨gi, ?_⟩)
   refine zDt rfl ?_
   refine zA4 (i := 1) (v := .bool _) (vs := [_]) zAb sizeOf4 rfl rfl rfl rfl rfl (by simp [Value.oneCell']) gi rfl (zNl rfl) (fun hO gB => ?_)
   refine zAe (qn ?_)
   refine zB0 ?_
   refine zAc (gA _ _ (zA2 (zEw (i := 0) (l := [.cell 6 4, .cell 7 4]) (vs := [_,_]) gB rfl rfl (fun hP gd => ⟨⟨⟨rfl, _, rfl, zB1 isAgg4 gd (zAh (i := 2) (vs := [_]) rfl rfl)⟩, ⟨rfl, _, rfl, zB1 isAgg4 gd (zAh (i := 1) (vs := [_]) rfl rfl)⟩, trivial⟩, ?_⟩))))
   exact ⟨rfl, M3, g6, mid_back4 gd.tail.tail.tail⟩
  intro _ _ _ _ hJ
  obtain ⟨_, _,_,_, h⟩ := hJ
  exact h.elim

theorem c45 {w0 w : World} {F : List (Nat × Obj)} (n m : Bool) (hs : St w0 w F) :
  Con Tryz.prog 45 [.bool n, .bool m] w fun v w' => v = .int .i64 (toldN n m) ∧ St w0 w' F := by
  refine zAu (n := 11) func45 rfl rfl (zNl rfl) ?_
  refine zAf (fun K2 g4 => (zAa (zBg rfl rfl (zAe (zAc (g4 _ _ (zAf (fun K4 g5 => (zAz ?_)))))))))
  refine zAf (fun K6 g6 => (zAa (w_p (zAi (v := .bool _) rfl rfl) rfl (w_p (zDi rfl rfl) rfl (w_p (zAm (v := .bool _) rfl rfl) rfl (zAe (zAc (g6 _ _ (zAy rfl rfl (fun h7 => ?_) (fun h7 => ?_))))))))))
  ·
   try simp only [zS] at h7
   refine zAf (fun K9 g7 => (zAa (zBg rfl rfl (zAe (zAc (g7 _ _ (zA2 (zAt (zAk (zA9 (l := [.tmp 4]) (vs := [_]) rfl ⟨⟨rfl, (rfl : _ = Value.int _ _)⟩, trivial⟩ ?_))))))))))
   exact ⟨congrArg (Value.int .i64) (by rw [toldN_eq]; simp [*]), hs⟩
  try simp only [zS] at h7
  refine zAf (fun gb g8 => (zAa (w_p (zAi (v := .bool _) rfl rfl) rfl (w_p (zDi rfl rfl) rfl (w_p (zAm (v := .bool _) rfl rfl) rfl (zAe (zAc (g8 _ _ (zAy rfl rfl (fun g0 => ?_) (fun g0 => ?_))))))))))
  ·
   try simp only [zS] at g0
   refine zAf (fun gc g9 => (zAa (zBg rfl rfl (zAe (zAc (g9 _ _ (zA2 (zAt (zAk (zA9 (l := [.tmp 4]) (vs := [_]) rfl ⟨⟨rfl, (rfl : _ = Value.int _ _)⟩, trivial⟩ ?_))))))))))
   exact ⟨congrArg (Value.int .i64) (by rw [toldN_eq]; simp [*]), hs⟩
  try simp only [zS] at g0
  refine zAv (zAl (zAc (g5 _ _ (zAf (fun gd ga => (zAa (zBg rfl rfl (zAe (zAc (ga _ _ (zA2 (zA9 (l := [.tmp 4]) (vs := [_]) rfl ⟨⟨rfl, (rfl : _ = Value.int _ _)⟩, trivial⟩ ?_))))))))))))
  exact ⟨congrArg (Value.int .i64) (by rw [toldN_eq]; simp [*]), hs⟩

theorem c13 {w0 w : World} {F : List (Nat × Obj)} (b : Board) (p : AtB) (hm : BIn w0 F b p) (a : Int) (hs : St w0 w F) :
  Con Tryz.prog 13 [.agg (b.cells p).toArray, .int .i64 a] w fun v w' => v = .tuple #[.int .i64 (rightP b a).1, .int .i64 (rightP b a).2] ∧ St w0 w' F := by
  refine zAu (n := 33) func13 rfl rfl (zNl rfl) ?_
  have hlh0 := hm.lh
  have hlc0 := hm.lc
  refine zAf (fun K2 g9 => (zAa (zCa (v := .agg #[.int _ _, .slice _ _ _, .slice _ _ _]) (cs := [_,_,_]) zAb rfl rfl rfl hs (fun b3 w4 g5 => ?_))))
  refine zBg rfl rfl (zBg rfl rfl (zAe (zAc (g9 _ _ (zAf (fun K7 g8 => (zAa (w_p (zA7 (vs := [_,_,_]) isAgg41 sizeOf41 g5 rfl rfl (zAh (i := 0) (vs := [_,_,_]) rfl rfl)) rfl ?_))))))))
  refine zBa rfl rfl (w_p (zAd (o := 2) (i := 2) underlying41 rfl sizeOf39 rfl rfl rfl) rfl (w_p (zAj isAgg39 g5 rfl rfl (zAh (i := 0) (vs := [_]) rfl rfl)) rfl (w_p (zBm underlying39 rfl rfl) rfl (zA0 (ps := [(0, _),(1, _)]) (pv := [(0, .int _ _),(1, .int _ _)]) (cs := [_,_]) zAb rfl rfl (fun w => Try_KM_fb3 _ _ w) g5 (fun b8 w9 ga => ?_)))))
  refine zAs zAb call39 rfl rfl rfl rfl ((by have h := c39 b _ hm.cons.cons 0 (some ⟨b8,0, none⟩) 2 [a, (b.ctrs.length : Int)] (by simp) (by simp) (hns_c a) (zBp (i := 0) (rows := [[_], [_]]) rfl (by simp) rfl) ga; rw [pairs_two] at h; exact h)) ?_
  rintro _ gk (⟨hee, rfl, g0⟩ | ⟨hee, bb, mm, M, rfl, hM, g0⟩)
  ·
   refine w_p (zAi (v := .tuple _) rfl rfl) rfl (w_p (zAn (v := .pointer _) rfl rfl rfl) rfl (w_p (zAn (v := .int _ _) rfl rfl rfl) rfl (w_p (zAm (v := .pointer _) rfl rfl) rfl (zBl rfl rfl (zAe (zAc (g8 _ _ (zAf (fun gl gm => (zAf (fun gn gb => (zAa (zBa rfl rfl ?_)))))))))))))
   refine w_p (zCt rfl rfl rfl rfl) rfl (zAe (zAc (gb _ _ (zAy rfl rfl (fun g4 => ?_) (fun g4 => ?_)))))
   ·
    try simp only [zS] at g4
    refine zAf (fun go gc => (zAa (zBa rfl rfl (zBg rfl rfl (zBl rfl rfl (zAe (zAc (gc _ _ (zA2 (zAk (zA9 (l := [.tmp 4, .tmp 5]) (vs := [_,_]) rfl ⟨⟨rfl, (rfl : _ = Value.int _ _)⟩, ⟨rfl, (rfl : _ = Value.int _ _)⟩, trivial⟩ ?_)))))))))))
    exact ⟨by rw [rightP_e hee]; rfl, g0.tail.tail⟩
   exfalso
   try simp only [zS] at g4
   first | exact hee g4 | exact g4 hee
  replace g0 := (show St _ _ (_ :: M ++ (_ :: _ :: F)) from g0)
  have g6 := (show St _ _ ([_] ++ (M ++ _)) from g0).perm (zAq [_] M _)
  replace g6 := (show St _ _ (M ++ (_ :: _ :: _ :: F)) from g6)
  have hew := zGq hee
  have hok := check_ok hew.1
  refine w_p (zAi (v := .tuple _) rfl rfl) rfl (w_p (zAn (v := .pointer _) rfl rfl rfl) rfl (w_p (zAn (v := .int _ _) rfl rfl rfl) rfl (w_p (zAm (v := .pointer _) rfl rfl) rfl (zBl rfl rfl (zAe (zAc (g8 _ _ (zAf (fun gp gd => (zAf (fun gq ge => (zAa (zBa rfl rfl ?_)))))))))))))
  refine w_p (zCt rfl rfl rfl rfl) rfl (zAe (zAc (ge _ _ (zCc rfl rfl ?_))))
  refine zAv (zAc (gd _ _ (zAf (fun gr gf => ?_))))
  have hia := idxE_ok hew.2.1
  have hlc := hok.lc
  refine zAa (w_p (zAi (v := .pointer _) rfl rfl) rfl (zBa rfl rfl (zAs zAb call44 rfl rfl rfl rfl (c44 g6) ?_)))
  rintro _ gt ⟨rfl, gg⟩
  refine zAs zAb call43 rfl rfl rfl rfl ((by have h := c43 (X := []) (M := M) (F := (bb, blk 131 [.int .i64 b.holds, .slice p.ah b.hours.length p.ch, .slice p.ac b.ctrs.length p.cc, .map (some mm)]) :: _ :: _ :: F) b p bb mm ⟨hm.cons.cons.cons, zAh (i := 0) rfl rfl, hok⟩ a.toNat (by omega) 75 #[] #[] slips qis_slips hM gg; rw [Int.toNat_of_nonneg (by omega)] at h; exact h)) ?_
  rintro _ gu ⟨rfl, M2, gv, g7⟩
  replace g7 := (show St _ _ (M2 ++ (_ :: _ :: _ :: F)) from g7)
  have gh := g7.drop
  refine w_p (zAi (v := .tuple _) rfl rfl) rfl (w_p (zAn (v := .bool _) rfl rfl rfl) rfl (w_p (zAn (v := .bool _) rfl rfl rfl) rfl (w_p (zAm (v := .bool _) rfl rfl) rfl (w_p (zAm (v := .bool _) rfl rfl) rfl ?_))))
  refine zAe (zAc (gf _ _ (zAf (fun gw gi => (zAa (w_p (zAi (v := .bool _) rfl rfl) rfl (w_p (zAi (v := .bool _) rfl rfl) rfl (zAs zAb call45 rfl rfl rfl rfl (c45 _ _ gh) ?_))))))))
  rintro _ gx ⟨rfl, gj⟩
  refine zBl rfl rfl (zBg rfl rfl (zAe (zAc (gi _ _ (zA2 (zA9 (l := [.tmp 4, .tmp 5]) (vs := [_,_]) rfl ⟨⟨rfl, (rfl : _ = Value.int _ _)⟩, ⟨rfl, (rfl : _ = Value.int _ _)⟩, trivial⟩ ?_))))))
  exact ⟨by rw [rightP_y hee]; rfl, gj.tail.tail.tail⟩

theorem c30 {w0 w : World} {F : List (Nat × Obj)} (b : Board) (p : AtB) (hm : BIn w0 F b p) (a e : Int) (hs : St w0 w F) :
  Con Tryz.prog 30 [.agg (b.cells p).toArray, .int .i64 a, .int .i64 e] w fun v w' => v = .tuple #[.int .i64 (zeroP b a e).1, .int .i64 (zeroP b a e).2] ∧ St w0 w' F := by
  refine zAu (n := 35) func30 rfl rfl (zNl rfl) ?_
  have hlh0 := hm.lh
  have hlc0 := hm.lc
  refine zAf (fun K2 ga => (zAa (zCa (v := .agg #[.int _ _, .slice _ _ _, .slice _ _ _]) (cs := [_,_,_]) zAb rfl rfl rfl hs (fun b3 w4 g5 => ?_))))
  refine zBg rfl rfl (zBg rfl rfl (zAe (zAc (ga _ _ (zAf (fun K7 g9 => (zAa (w_p (zA7 (vs := [_,_,_]) isAgg41 sizeOf41 g5 rfl rfl (zAh (i := 0) (vs := [_,_,_]) rfl rfl)) rfl ?_))))))))
  refine zBa rfl rfl (w_p (zAd (o := 2) (i := 2) underlying41 rfl sizeOf39 rfl rfl rfl) rfl (w_p (zAj isAgg39 g5 rfl rfl (zAh (i := 0) (vs := [_]) rfl rfl)) rfl (w_p (zBm underlying39 rfl rfl) rfl (zBa rfl rfl (w_p (zAd (o := 1) (i := 1) underlying41 rfl sizeOf38 rfl rfl rfl) rfl ?_)))))
  refine w_p (zAj isAgg38 g5 rfl rfl (zAh (i := 0) (vs := [_]) rfl rfl)) rfl (w_p (zBm underlying38 rfl rfl) rfl (zA0 (ps := [(0, _),(1, _),(2, _),(3, _)]) (pv := [(0, .int _ _),(1, .int _ _),(2, .int _ _),(3, .int _ _)]) (cs := [_,_,_,_]) zAb rfl rfl (fun w => Try_KM_fb4 _ _ _ _ w) g5 (fun b8 w9 gb => ?_)))
  refine zAs zAb call39 rfl rfl rfl rfl ((by have h := c39 b _ hm.cons.cons 0 (some ⟨b8,0, none⟩) 4 [a, (b.ctrs.length : Int), e, (b.hours.length : Int)] (by simp) (by simp) (hns_4 a e) (zBp (i := 0) (rows := [[_], [_], [_], [_]]) rfl (by simp) rfl) gb; rw [pairs_four] at h; exact h)) ?_
  rintro _ gk (⟨hee, rfl, g0⟩ | ⟨hee, bb, mm, M, rfl, hM, g0⟩)
  ·
   refine w_p (zAi (v := .tuple _) rfl rfl) rfl (w_p (zAn (v := .pointer _) rfl rfl rfl) rfl (w_p (zAn (v := .int _ _) rfl rfl rfl) rfl (w_p (zAm (v := .pointer _) rfl rfl) rfl (zBl rfl rfl (zAe (zAc (g9 _ _ (zAf (fun gl gm => (zAf (fun gn gc => (zAa (zBa rfl rfl ?_)))))))))))))
   refine w_p (zCt rfl rfl rfl rfl) rfl (zAe (zAc (gc _ _ (zAy rfl rfl (fun g4 => ?_) (fun g4 => ?_)))))
   ·
    try simp only [zS] at g4
    refine zAf (fun go gd => (zAa (zBa rfl rfl (zBg rfl rfl (zBl rfl rfl (zAe (zAc (gd _ _ (zA2 (zAk (zA9 (l := [.tmp 6, .tmp 7]) (vs := [_,_]) rfl ⟨⟨rfl, (rfl : _ = Value.int _ _)⟩, ⟨rfl, (rfl : _ = Value.int _ _)⟩, trivial⟩ ?_)))))))))))
    exact ⟨by rw [zeroP_e hee]; rfl, g0.tail.tail⟩
   exfalso
   try simp only [zS] at g4
   first | exact hee g4 | exact g4 hee
  replace g0 := (show St _ _ (_ :: M ++ (_ :: _ :: F)) from g0)
  have g6 := (show St _ _ ([_] ++ (M ++ _)) from g0).perm (zAq [_] M _)
  replace g6 := (show St _ _ (M ++ (_ :: _ :: _ :: F)) from g6)
  have hew := zGq hee
  have hok := check_ok hew.1
  refine w_p (zAi (v := .tuple _) rfl rfl) rfl (w_p (zAn (v := .pointer _) rfl rfl rfl) rfl (w_p (zAn (v := .int _ _) rfl rfl rfl) rfl (w_p (zAm (v := .pointer _) rfl rfl) rfl (zBl rfl rfl (zAe (zAc (g9 _ _ (zAf (fun gp ge => (zAf (fun gq gf => (zAa (zBa rfl rfl ?_)))))))))))))
  refine w_p (zCt rfl rfl rfl rfl) rfl (zAe (zAc (gf _ _ (zCc rfl rfl ?_))))
  refine zAv (zAc (ge _ _ (zAf (fun gr gg => ?_))))
  have hia := idx2_ok hew.2.1
  have hlc := hok.lc
  refine zAa (w_p (zAi (v := .pointer _) rfl rfl) rfl (zBa rfl rfl (zBa rfl rfl (zAs zAb call62 rfl rfl rfl rfl ((by have h := c62 e.toNat g6; rw [Int.toNat_of_nonneg (by omega)] at h; exact h)) ?_))))
  rintro _ gt ⟨bz, rfl, gh⟩
  have g7 := (show St _ _ ([_] ++ (M ++ _)) from gh).perm (zAq [_] M _)
  replace g7 := (show St _ _ (M ++ (_ :: _ :: _ :: _ :: F)) from g7)
  refine zAs zAb call43 rfl rfl rfl rfl ((by have h := c43 (X := []) (M := M) (F := _ :: (bb, blk 131 [.int .i64 b.holds, .slice p.ah b.hours.length p.ch, .slice p.ac b.ctrs.length p.cc, .map (some mm)]) :: _ :: _ :: F) b p bb mm ⟨hm.cons.cons.cons.cons, zAh (i := 1) rfl rfl, hok⟩ a.toNat (by omega) 84 #[] #[.pointer (some ⟨bz, 0, none⟩)] (zeroed e.toNat) (qis_zeroed (zAh (i := 0) (vs := [_]) rfl (by rw [Int.toNat_of_nonneg (by omega)]; rfl))) hM g7; rw [Int.toNat_of_nonneg (by omega)] at h; exact h)) ?_
  rintro _ gu ⟨rfl, M2, gv, g8⟩
  replace g8 := (show St _ _ (M2 ++ (_ :: _ :: _ :: _ :: F)) from g8)
  have gi := g8.drop
  refine w_p (zAn (v := .bool _) rfl rfl rfl) rfl (w_p (zAn (v := .bool _) rfl rfl rfl) rfl (zAs zAb call45 rfl rfl rfl rfl (c45 _ _ gi) ?_))
  rintro _ gw ⟨rfl, gj⟩
  refine zBl rfl rfl (zBg rfl rfl (zAe (zAc (gg _ _ (zA2 (zA9 (l := [.tmp 6, .tmp 7]) (vs := [_,_]) rfl ⟨⟨rfl, (rfl : _ = Value.int _ _)⟩, ⟨rfl, (rfl : _ = Value.int _ _)⟩, trivial⟩ ?_))))))
  exact ⟨by rw [zeroP_y hee]; rfl, gj.tail.tail.tail.tail⟩

end Go.Proofs.Kb
/- Plain words of the chain layer: sets as lists, loads at the hours of a set, what lies in a hold by them. No conditions. -/
namespace Go.Rt.Ch
open Go.Rt.Ha
theorem zFv (b : Nat) : ∀ n, (listL b n).length ≤ n
  | 0 => by simp [listL]
  | n + 1 => by have := zFv b n; simp only [listL, List.length_append]; split <;> simp <;> omega
def listTo (b n k : Nat) : List Int := listL b k ++ List.replicate (n - (listL b k).length) 0
theorem zIo (b n k : Nat) (h : k ≤ n) : (listTo b n k).length = n := by have := zFv b k; simp [listTo]; omega
theorem listTo_zero (b n : Nat) : listTo b n 0 = List.replicate n 0 := by simp [listTo, listL]
theorem listL_yes {b k : Nat} (h : bit b k = 1) : listL b (k + 1) = listL b k ++ [(k : Int)] := by simp [listL, h]
theorem listL_no {b k : Nat} (h : ¬ bit b k = 1) : listL b (k + 1) = listL b k := by simp [listL, h]
theorem listTo_yes {b n k : Nat} (hk : k < n) (h : bit b k = 1) : (listTo b n k).set (listL b k).length k = listTo b n (k + 1) := by
  have := zFv b k
  unfold listTo
  rw [listL_yes h, List.set_append_right _ _ (Nat.le_refl _), Nat.sub_self, List.length_append, List.length_singleton]
  obtain ⟨q, hq⟩ : ∃ q, n - (listL b k).length = q + 1 := ⟨n - (listL b k).length - 1, by omega⟩
  rw [hq, List.replicate_succ, List.set_cons_zero, show n - ((listL b k).length + 1) = q by omega]
  simp
theorem listTo_no {b n k : Nat} (h : ¬ bit b k = 1) : listTo b n k = listTo b n (k + 1) := by unfold listTo; rw [listL_no h]
theorem listTo_take (b n : Nat) : (listTo b n n).take (listL b n).length = listL b n := by simp [listTo]
theorem bit_lt2 (b j : Nat) : bit b j = 0 ∨ bit b j = 1 := by unfold bit; have := Nat.and_lt_two_pow (x := b >>> j) (y := 1) (n := 1) (by omega); omega
theorem zDe {d : Nat → Bool} {n s : Nat} (h1 : (fewTo d n s).2 = true) (h2 : before (fewTo d n s).1 (listL s n) = true) : fewTo d n (s + 1) = fewTo d n s := by simp only [fewTo, fewStep]; rw [h1, h2]; rfl
theorem zGo {d : Nat → Bool} {n s : Nat} (h1 : (fewTo d n s).2 = false ∨ before (fewTo d n s).1 (listL s n) = false) (h2 : d s = true) : fewTo d n (s + 1) = (listL s n, true) := by
  simp only [fewTo, fewStep]; rw [if_neg (by rcases h1 with h | h <;> simp [h]), if_pos h2]
theorem zI3 {d : Nat → Bool} {n s : Nat} (h1 : (fewTo d n s).2 = false ∨ before (fewTo d n s).1 (listL s n) = false) (h2 : d s = false) : fewTo d n (s + 1) = fewTo d n s := by
  simp only [fewTo, fewStep]; rw [if_neg (by rcases h1 with h | h <;> simp [h]), if_neg (by simp [h2])]
theorem few_len (d : Nat → Bool) (n : Nat) : ∀ s, (fewTo d n s).1.length ≤ n
  | 0 => by simp [fewTo]
  | s + 1 => by have := few_len d n s; have := zFv s n; simp only [fewTo, fewStep]; split <;> (try split) <;> assumption
theorem zB4 {v1 v2 : Value} {b1 b2 : Bool} {z1 z2 : Int} (h1 : v1 = v2) (h2 : b1 = b2) (h3 : z1 = z2) : [v1, Value.bool b1, Value.int .i64 z1] = [v2, Value.bool b2, Value.int .i64 z2] := by rw [h1, h2, h3]
theorem zBs {a b : List Int} (h1 : a.length ≤ b.length → ¬ (b.length : Int) > a.length) (h2 : a.length = b.length → less a b = false) : before a b = false := by
  unfold before
  rw [Bool.or_eq_false_iff, Bool.and_eq_false_iff]
  refine ⟨by simp; omega, ?_⟩
  by_cases e : a.length = b.length
  · exact .inr (h2 e)
  · left; simpa using e
theorem shl_256 {n : Nat} (h : n ≤ 8) : 1 ≤ 1 <<< n ∧ 1 <<< n ≤ 256 := by
  rw [Nat.shiftLeft_eq, Nat.one_mul]
  have h2 : 2 ^ n ≤ 2 ^ 8 := Nat.pow_le_pow_right (by omega) h
  have := Nat.one_le_two_pow (n := n)
  omega
def cmpI (a b : Int) : Int := if a < b then -1 else if b < a then 1 else 0
theorem cmp_zero {a b : Int} (h : cmpI a b = 0) : a = b := by
  unfold cmpI at h
  split at h
  · omega
  · split at h <;> omega
def maskTo (s : Nat) (l : List Int) (k : Nat) : List Int := (List.range 4).map fun j => if j < k then l.getD j 0 * ((bit s j : Nat) : Int) else l.getD j 0
def mask (s : Nat) (l : List Int) : List Int := maskTo s l 4
theorem zCp (s : Nat) (l : List Int) (k : Nat) : (maskTo s l k).length = 4 := by simp [maskTo]
theorem maskTo_zero {s : Nat} {l : List Int} (h : l.length = 4) : maskTo s l 0 = l := by
  apply List.ext_getElem
  · rw [zCp, h]
  · intro i h1 h2
    simp [maskTo, List.getD, h2]
theorem maskTo_get {s : Nat} {l : List Int} {k : Nat} (hk : k < 4) : (maskTo s l k).getD k 0 = l.getD k 0 := by
  simp [maskTo, List.getD, hk]
theorem maskTo_set {s : Nat} {l : List Int} {k : Nat} (hk : k < 4) : (maskTo s l k).set k ((maskTo s l k).getD k 0 * ((bit s k : Nat) : Int)) = maskTo s l (k + 1) := by
  rw [maskTo_get hk]
  apply List.ext_getElem
  · simp [maskTo]
  · intro i h1 h2
    have hi : i < 4 := by rwa [zCp] at h2
    rw [List.getElem_set]
    by_cases e : k = i
    · subst e; simp [maskTo]
    · rw [if_neg e]
      by_cases h3 : i < k
      · simp [maskTo, h3, show i < k + 1 by omega]
      · simp [maskTo, h3, show ¬ i < k + 1 by omega]
theorem mask_get (s : Nat) (l : List Int) {k : Nat} (hk : k < 4) : (mask s l).getD k 0 = l.getD k 0 * ((bit s k : Nat) : Int) := by simp [mask, maskTo, List.getD, hk]
theorem list_mem {s n k : Nat} : (k : Int) ∈ listL s n ↔ k < n ∧ bit s k = 1 := by
  induction n with
  | zero => simp [listL]
  | succ n ih =>
    simp only [listL, List.mem_append, ih]
    constructor
    · rintro (h | h)
      · exact ⟨by omega, h.2⟩
      · split at h
        · rename_i hb
          have h2 : (k : Int) = (n : Int) := by simpa using h
          have : k = n := by omega
          subst this; exact ⟨by omega, hb⟩
        · cases h
    · rintro ⟨h1, h2⟩
      by_cases e : k = n
      · subst e; right; rw [if_pos h2]; simp
      · exact .inl ⟨by omega, h2⟩
theorem list_nat {s n : Nat} {z : Int} (h : z ∈ listL s n) : ∃ k : Nat, z = k ∧ k < n ∧ bit s k = 1 := by
  induction n with
  | zero => simp [listL] at h
  | succ n ih =>
    simp only [listL, List.mem_append] at h
    rcases h with h | h
    · obtain ⟨k, h1, h2, h3⟩ := ih h; exact ⟨k, h1, by omega, h3⟩
    · split at h
      · rename_i hb; simp at h; exact ⟨n, h, by omega, hb⟩
      · cases h
theorem mask_same {s n : Nat} (hn : n ≤ 4) {l m : List Int} (hl : l.length = n) (hm : m.length = n) : mask s (pad4 l) = mask s (pad4 m) ↔ sameAt s n l m = true := by
  unfold sameAt
  rw [List.all_eq_true]
  constructor
  · intro h z hz
    obtain ⟨k, rfl, hk, hb⟩ := list_nat hz
    have := congrArg (fun x : List Int => x.getD k 0) h
    try simp only at this
    rw [mask_get _ _ (by omega), mask_get _ _ (by omega), zIk, zIk, hb] at this
    simp only [decide_eq_true_eq, Int.toNat_natCast]
    have e1 : ld l k = l.getD k 0 := rfl
    have e2 : ld m k = m.getD k 0 := rfl
    omega
  · intro h
    apply List.ext_getElem
    · rw [mask, mask, zCp, zCp]
    · intro k h1 h2
      have hk : k < 4 := by rw [mask, zCp] at h1; exact h1
      have e : ∀ x : List Int, ∀ hx : k < (mask s x).length, (mask s x)[k] = x.getD k 0 * ((bit s k : Nat) : Int) := by
        intro x hx
        rw [← mask_get s x hk]; simp [List.getD, hx]
      rw [e, e, zIk, zIk]
      by_cases hkn : k < n
      · rcases bit_lt2 s k with hb | hb
        · rw [hb]; simp
        · have := h _ (list_mem.2 ⟨hkn, hb⟩)
          simp only [decide_eq_true_eq, Int.toNat_natCast] at this
          have e1 : ld l k = l.getD k 0 := rfl
          have e2 : ld m k = m.getD k 0 := rfl
          rw [← e1, ← e2, this]
      · have e1 : l.getD k 0 = 0 := by simp [List.getD, List.getElem?_eq_none (by omega : l.length ≤ k)]
        have e2 : m.getD k 0 = 0 := by simp [List.getD, List.getElem?_eq_none (by omega : m.length ≤ k)]
        rw [e1, e2]
def sv (p : Int × Int) : Value := .agg #[.int .i64 p.1, .int .i64 p.2]
def gS (s : Nat) (f : List Int → Int) (ws : List (List Int)) (key : List Int) : Int × Int := hullL f (ws.filter fun l => decide (mask s (pad4 l) = key))
structure SpM (s : Nat) (f : List Int → Int) (ws : List (List Int)) (es : List (List Int × Value × Nat)) : Prop where
  v : ∀ q ∈ es, q.2.1 = sv (gS s f ws q.1)
  k : ∀ key, key ∈ es.map (·.1) ↔ ∃ l ∈ ws, mask s (pad4 l) = key
theorem spm_nil (s : Nat) (f : List Int → Int) : SpM s f [] [] := ⟨by simp, by simp⟩
theorem SpM.len {s : Nat} {f : List Int → Int} {ws : List (List Int)} {es : List (List Int × Value × Nat)} (h : SpM s f ws es) : ∀ q ∈ es, q.1.length = 4 := by
  intro q hq
  obtain ⟨l, _, e⟩ := (h.k q.1).1 (List.mem_map_of_mem (f := fun x : List Int × Value × Nat => x.1) hq)
  rw [← e, mask, zCp]
theorem SpM.zero {s : Nat} {f : List Int → Int} {ws : List (List Int)} {es : List (List Int × Value × Nat)} (h : SpM s f ws es) {key : List Int} (hk : key ∉ es.map (·.1)) : gS s f ws key = (0,0) := by
  unfold gS
  rw [List.filter_eq_nil_iff.2]
  · rfl
  · intro l hl; simp only [decide_eq_true_eq]; intro e; exact hk ((h.k key).2 ⟨l, hl, e⟩)
theorem putA_strong {α : Type} [DecidableEq α] {a : α} {v : Value} {ck : Nat} {q : α × Value × Nat} : ∀ {l : List (α × Value × Nat)}, (l.map (·.1)).Nodup → q ∈ putA a v ck l → (q.1 = a ∧ q.2.1 = v) ∨ (q ∈ l ∧ q.1 ≠ a)
  | [], _, h => by simp [putA] at h; subst h; exact .inl ⟨rfl, rfl⟩
  | x :: l, hn, h => by
    rw [List.map_cons, List.nodup_cons] at hn
    by_cases e : x.1 = a
    · simp only [putA, if_pos e] at h
      cases h with
      | head => exact .inl ⟨rfl, rfl⟩
      | tail _ h =>
        right
        refine ⟨.tail _ h, fun e2 => hn.1 ?_⟩
        rw [e, ← e2]; exact List.mem_map_of_mem (f := fun x : α × Value × Nat => x.1) h
    · simp only [putA, if_neg e] at h
      cases h with
      | head => exact .inr ⟨.head _, e⟩
      | tail _ h =>
        rcases putA_strong hn.2 h with h | h
        · exact .inl h
        · exact .inr ⟨.tail _ h.1, h.2⟩
theorem gS_other {s : Nat} {f : List Int → Int} {ws : List (List Int)} {l key : List Int} (h : mask s (pad4 l) ≠ key) : gS s f (ws ++ [l]) key = gS s f ws key := by
  unfold gS; rw [List.filter_append]; simp [h]
theorem gS_own {s : Nat} {f : List Int → Int} {ws : List (List Int)} {l : List Int} : gS s f (ws ++ [l]) (mask s (pad4 l)) = hullL f ((ws.filter fun x => decide (mask s (pad4 x) = mask s (pad4 l))) ++ [l]) := by
  unfold gS; rw [List.filter_append]; simp
theorem gS_new {s : Nat} {f : List Int → Int} {ws : List (List Int)} {es : List (List Int × Value × Nat)} (h : SpM s f ws es) {l : List Int} (hk : mask s (pad4 l) ∉ es.map (·.1)) : gS s f (ws ++ [l]) (mask s (pad4 l)) = (min (f l) (f l), max (f l) (f l)) := by
  rw [gS_own, List.filter_eq_nil_iff.2]
  · simp [hullL]
  · intro x hx; simp only [decide_eq_true_eq]; intro e; exact hk ((h.k _).2 ⟨x, hx, e⟩)
theorem gS_more {s : Nat} {f : List Int → Int} {ws : List (List Int)} {es : List (List Int × Value × Nat)} (h : SpM s f ws es) {l : List Int} (hk : mask s (pad4 l) ∈ es.map (·.1)) : gS s f (ws ++ [l]) (mask s (pad4 l)) = (min (gS s f ws (mask s (pad4 l))).1 (f l), max (gS s f ws (mask s (pad4 l))).2 (f l)) := by
  rw [gS_own, hull_snoc]
  · rfl
  · obtain ⟨x, hx, e⟩ := (h.k _).1 hk
    exact List.ne_nil_of_mem (List.mem_filter.2 ⟨hx, by simpa using e⟩)
theorem SpM.put {s : Nat} {f : List Int → Int} {ws : List (List Int)} {es : List (List Int × Value × Nat)} (h : SpM s f ws es) (hn : (es.map (·.1)).Nodup) {l : List Int} {p : Int × Int} (hp : p = gS s f (ws ++ [l]) (mask s (pad4 l))) (ck : Nat) : SpM s f (ws ++ [l]) (putA (mask s (pad4 l)) (sv p) ck es) := by
  refine ⟨fun q hq => ?_, fun key => ?_⟩
  · rcases putA_strong hn hq with ⟨h1, h2⟩ | ⟨h1, h2⟩
    · rw [h1, h2, hp]
    · rw [h.v q h1, gS_other (fun e => h2 e.symm)]
  · rw [zFi, h.k]
    constructor
    · rintro (rfl | ⟨x, hx, e⟩)
      · exact ⟨l, by simp, rfl⟩
      · exact ⟨x, List.mem_append_left _ hx, e⟩
    · rintro ⟨x, hx, e⟩
      rcases List.mem_append.1 hx with hx | hx
      · exact .inr ⟨x, hx, e⟩
      · rw [List.mem_singleton] at hx; subst hx; exact .inl e.symm
theorem hull_in {f : List Int → Int} {lo hi : Int} (h0 : lo ≤ 0 ∧ 0 ≤ hi) : ∀ (ws : List (List Int)), (∀ l ∈ ws, lo ≤ f l ∧ f l ≤ hi) → lo ≤ (hullL f ws).1 ∧ (hullL f ws).1 ≤ hi ∧ lo ≤ (hullL f ws).2 ∧ (hullL f ws).2 ≤ hi
  | [], _ => by simp [hullL]; omega
  | a :: ws, h => by
    simp only [hullL]
    have key : ∀ (r : List (List Int)) (p : Int × Int), (lo ≤ p.1 ∧ p.1 ≤ hi) ∧ (lo ≤ p.2 ∧ p.2 ≤ hi) → (∀ l ∈ r, lo ≤ f l ∧ f l ≤ hi) → lo ≤ (r.foldl (fun s x => (min s.1 (f x), max s.2 (f x))) p).1 ∧ (r.foldl (fun s x => (min s.1 (f x), max s.2 (f x))) p).1 ≤ hi ∧ lo ≤ (r.foldl (fun s x => (min s.1 (f x), max s.2 (f x))) p).2 ∧ (r.foldl (fun s x => (min s.1 (f x), max s.2 (f x))) p).2 ≤ hi := by
      intro r
      induction r with
      | nil => intro p hp _; exact ⟨hp.1.1, hp.1.2, hp.2.1, hp.2.2⟩
      | cons x r ih =>
        intro p hp hr
        simp only [List.foldl_cons]
        have := hr x (.head _)
        exact ih _ ⟨by constructor <;> simp only <;> omega, by constructor <;> simp only <;> omega⟩ fun l hl => hr l (.tail _ hl)
    have ha := h a (.head _)
    exact key ws _ ⟨ha, ha⟩ fun l hl => h l (.tail _ hl)
theorem gS_in {b : Board} (hok : b.Ok) {hold : Int} (s : Nat) {ws : List (List Int)} (hw : ∀ l ∈ ws, l ∈ truths b) (key : List Int) : 0 ≤ (gS s (inH b hold) ws key).1 ∧ (gS s (inH b hold) ws key).1 ≤ 160 ∧ 0 ≤ (gS s (inH b hold) ws key).2 ∧ (gS s (inH b hold) ws key).2 ≤ 160 := by
  refine hull_in (by omega) _ fun l hl => ?_
  have h1 := in_bound (h := hold) (b := b) (fun k => ld_40 hok (hw l (List.mem_filter.1 hl).1) k) b.hours.length
  have := hok.lh
  unfold inH; omega
theorem tells_map {b : Board} (hok : b.Ok) {hold within : Int} {s : Nat} {es : List (List Int × Value × Nat)} (h : SpM s (inH b hold) (truths b) es) : tellsS b hold within s = true ↔ ∀ q ∈ es, (gS s (inH b hold) (truths b) q.1).2 - (gS s (inH b hold) (truths b) q.1).1 ≤ within := by
  have e : ∀ l ∈ truths b, gS s (inH b hold) (truths b) (mask s (pad4 l)) = hullL (inH b hold) ((truths b).filter (sameAt s b.hours.length l)) := by
    intro l hl
    unfold gS
    congr 1
    refine List.filter_congr fun x hx => ?_
    rw [Bool.eq_iff_iff, decide_eq_true_eq, ← mask_same hok.lh (zFo hl).1 (zFo hx).1]
    exact eq_comm
  unfold tellsS
  rw [List.all_eq_true]
  constructor
  · intro ht q hq
    obtain ⟨l, hl, e2⟩ := (h.k q.1).1 (List.mem_map_of_mem (f := fun x : List Int × Value × Nat => x.1) hq)
    rw [← e2, e l hl]
    simpa using ht l hl
  · intro ha l hl
    obtain ⟨q, hq, e2⟩ := List.mem_map.1 ((h.k _).2 ⟨l, hl, rfl⟩)
    have := ha q hq
    rw [show q.1 = mask s (pad4 l) from e2, e l hl] at this
    simpa using this
end Go.Rt.Ch
/- The walking engine, part 20: lookups in maps whose values are told by their keys. No conditions. -/
set_option linter.unusedSectionVars false
namespace Go.Rt
open Go.RowKit
variable {P : Program} {n : Nat} {ρ : Nat → Value} {ds : List Deferred} {w w0 : World} {L : List (Nat × Obj)} {d : Option Tmp} {ty : TypeId} {p : String} {e : Array Edge} {g : Option (Nat × Bool)} {α : Type} [DecidableEq α] {kv : α → Value} {ok : α → Prop}
theorem getA_key {a : α} {l : List (α × Value × Nat)} : getA a l = none ↔ a ∉ l.map (·.1) := by
  rw [getA_none]
  constructor
  · intro h hm
    obtain ⟨q, hq, e⟩ := List.mem_map.1 hm
    exact h q hq e
  · intro h q hq e
    exact h (e ▸ List.mem_map_of_mem (f := fun x : α × Value × Nat => x.1) hq)
theorem G_look2V {mt kt el : TypeId} {x y : Operand} {a : α} {l : List (α × Value × Nat)} {m i ck : Nat} (V : α → Value) (hU : P.underlying mt = some (.map kt el)) (hK : KeyG P kt kv ok) (hok : ok a) (hall : ∀ q ∈ l, ok q.1) (hV : ∀ q ∈ l, q.2.1 = V q.1)
    (hz : a ∉ l.map (·.1) → ∀ w, (zeroValue el).run P w = .ok (V a) w) (hst : St w0 w L) (ho : okO n x = true) (ho1 : okO n y = true) (hx : ev ρ x = .map (some m)) (hy : ev ρ y = kv a) (hi : L[i]? = some (m, .map (ents kv l).toArray ck)) :
    Yd P (A n ρ ds) ⟨d, .lookup mt x y true, ty, p, e, g⟩ w (.tuple #[V a, .bool (decide (a ∈ l.map (·.1)))]) := by
  cases hg : getA a l with
  | none =>
    have hn := getA_key.1 hg
    have := G_look2N (d := d) (ty := ty) (p := p) (e := e) (g := g) (ds := ds) hU hK hok hall (hz hn) hst ho ho1 hx hy hi hg
    rw [decide_eq_false hn]; exact this
  | some u =>
    have := G_look2S (d := d) (ty := ty) (p := p) (e := e) (g := g) (ds := ds) hU hK hok hall hst ho ho1 hx hy hi hg
    obtain ⟨q, hq, h1, h2⟩ := getA_in hg
    have hm : a ∈ l.map (·.1) := h1 ▸ List.mem_map_of_mem (f := fun x : α × Value × Nat => x.1) hq
    rw [decide_eq_true hm]
    have h3 := hV q hq
    rw [h1] at h3
    rw [← h3, h2]; exact this
theorem keyTy_array {t el : TypeId} {k : Nat} (hu : P.underlying t = some (.array k el)) (hel : P.underlying el = some (.int .i64)) (hs : ∀ w, (sizeOf el).run P w = .ok 1 w) (hf : flatInts P t k = true) : KeyTy P t k where
  chk := fun em l w hl => by
    unfold ia
    exact zEe (dd := 9998) hu (by first | simpa using hl | omega) hel hs
  eq := fun l m w hl hm => by
    show (Op.equalIn (9998 + 2) t (ia l) (ia m)).run P w = _
    exact zDw 9998 (by rw [hl]; exact hf) (by rw [hl, hm])
  desc := by
    refine ⟨_, hu, fun l e es => ?_, fun l w => ?_⟩
    · simp [Instr.findNow, Instr.sameNow]
    · simp [Instr.findKey, Sem.run_bind, run_underlying hu, Result.andThen, Instr.findNow]
theorem flat_set {sz k : Nat} {v : Value} (hk : k < sz) : ∀ {rows : List (List Value)} {i : Nat}, (∀ row ∈ rows, row.length = sz) → (hi : i < rows.length) → rows.flatten.set (i * sz + k) v = (rows.set i (rows[i].set k v)).flatten
  | r :: rows, 0, hr, _ => by
    have h1 := hr r (.head _)
    simp only [List.flatten_cons, List.set_cons_zero, List.getElem_cons_zero, Nat.zero_mul, Nat.zero_add]
    rw [List.set_append_left _ _ (by omega)]
  | r :: rows, i + 1, hr, hi => by
    have h1 := hr r (.head _)
    simp only [List.flatten_cons, List.set_cons_succ, List.getElem_cons_succ]
    rw [List.set_append_right _ _ (by rw [h1, Nat.succ_mul]; omega), h1, show (i + 1) * sz + k - sz = i * sz + k by rw [Nat.succ_mul]; omega]
    rw [flat_set hk (fun x hx => hr x (.tail _ hx)) (by simpa using hi)]
theorem take_cell {cs : List Value} {rows : List (List Value)} {n sz i k : Nat} {v : Value} (hk : k < sz) (hr : ∀ row ∈ rows, row.length = sz) (hi : i < rows.length) (h : cs.take (n * sz) = rows.flatten) : (cs.set (i * sz + k) v).take (n * sz) = (rows.set i (rows[i].set k v)).flatten := by
  rw [List.take_set, h, flat_set hk hr hi]
theorem own_some2 {t : TypeId} {sz n c : Nat} {a : Option Addr} {xs : List Value} {B : List (Nat × Obj)} (h : Own (.slice a n c) t sz n xs B) (hn : 0 < n) : ∃ b cs, a = some ⟨b, 0, none⟩ ∧ B = [(b, blk t cs)] ∧ n ≤ c ∧ c ≤ maxLen ∧ cs.length = c * sz ∧ cs.take (n * sz) = xs := by
  rcases h.2 with ⟨_, h0, _⟩ | ⟨b, cap, cs, h1, h2, h3, h4, h5, h6⟩
  · omega
  · injection h1 with e1 _ e3
    subst e3
    exact ⟨b, cs, e1, h2, h3, h4, h5, h6⟩
theorem own_mk {t : TypeId} {sz n c b : Nat} {xs cs : List Value} (hl : xs.length = n * sz) (h3 : n ≤ c) (h4 : c ≤ maxLen) (h5 : cs.length = c * sz) (h6 : cs.take (n * sz) = xs) : Own (.slice (some ⟨b, 0, none⟩) n c) t sz n xs [(b, blk t cs)] := ⟨hl, .inr ⟨b, c, cs, rfl, rfl, h3, h4, h5, h6⟩⟩
end Go.Rt
