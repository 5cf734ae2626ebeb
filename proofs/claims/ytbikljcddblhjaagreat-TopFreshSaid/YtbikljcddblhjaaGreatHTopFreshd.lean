/- Own texts of this claim, joined. No conditions. -/
import Derived.Test.YtbikljcddblhjaaGreatHTopFresha
import Derived.Test.YtbikljcddblhjaaGreatHTopFreshb
import Derived.Test.YtbikljcddblhjaaGreatHTopFreshc
set_option linter.unusedVariables false
set_option linter.unusedSimpArgs false
set_option maxRecDepth 20000
namespace Go.Proofs.Ut
open Go.Proofs.Tryz
open Go.Rt Go.Rt.Tu
open Go.Rt.Ha (firstE zCf zBu zB1 failE felt spanL upto zC1 listL fewest fewTo bit Bunch before fewStep zCm zDd zCc zCx zC6 zCw zB8)
attribute [local irreducible] WL WC Con Yd At Ats Sl Agree DW

structure CK (w0 : World) (F : List (Nat × Obj)) (c : Cargo) (p : AtT) (but cb mm : Nat) : Prop where
  i : TIn w0 F c p
  l : Ats w0 F cb 0 [.slice p.ae c.heat.length p.ce, .int .i64 c.gas, .slice p.ah c.holds.length p.ch, .slice p.al c.lots.length p.cl, .slice p.an c.seen.length p.cn, .int .i64 (but : Int), .map (some mm)]
  ok : c.TOk
  bt : but < 1000
theorem CK.mono {w0 : World} {F F' : List (Nat × Obj)} {c : Cargo} {p : AtT} {but cb mm : Nat} (h : CK w0 F c p but cb mm) (hs : ∀ w, St w0 w F' → St w0 w F) : CK w0 F' c p but cb mm := ⟨h.i.mono hs, h.l.mono hs, h.ok, h.bt⟩
theorem CK.cons {w0 : World} {F : List (Nat × Obj)} {x : Nat × Obj} {c : Cargo} {p : AtT} {but cb mm : Nat} (h : CK w0 F c p but cb mm) : CK w0 (x :: F) c p but cb mm := h.mono fun _ h => h.tail
theorem CK.app {w0 : World} {F B : List (Nat × Obj)} {c : Cargo} {p : AtT} {but cb mm : Nat} (h : CK w0 F c p but cb mm) : CK w0 (B ++ F) c p but cb mm := h.mono fun _ h => h.drop
theorem key_zip {P : Program} {t k : Nat} {fs : Array Field} (ks : List Nat) (hu : P.underlying t = some (.struct fs)) (hp : P.stoodInHeld t = false) (h1 : fs.toList = (fs.toList.zip ks).map Prod.fst) (h2 : ∀ q ∈ fs.toList.zip ks, FF P q.1 q.2 ∧ q.1.offset + q.2 ≤ k)
    (h3 : ∀ q ∈ fs.toList.zip ks, P.underlying q.1.type = some (.int .i64) ∨ ∃ el, P.underlying q.1.type = some (.array q.2 el) ∧ P.underlying el = some (.int .i64) ∧ ∀ w, (sizeOf el).run P w = .ok 1 w)
    (h4 : ∀ l m : List Int, l.length = k → m.length = k → ((fs.toList.zip ks).all fun q => decide ((l.drop q.1.offset).take q.2 = (m.drop q.1.offset).take q.2)) = decide (l = m)) : KeyTy P t k := keyTy_struct _ hu hp h1 h2 h3 h4
theorem key79 : KeyTy Tryz.prog 79 8 := by
  refine key_zip [1,1,5,1] underlying79 (by kernel_rfl) rfl ?_ ?_ ?_
  · intro q hq
    simp only [List.zip_cons_cons, List.zip_nil_right, List.mem_cons, List.not_mem_nil, or_false] at hq
    rcases hq with rfl | rfl | rfl | rfl
    · exact ⟨⟨by decide, .inl ⟨underlying3, rfl⟩⟩, by decide⟩
    · exact ⟨⟨by decide, .inl ⟨underlying3, rfl⟩⟩, by decide⟩
    · exact ⟨⟨by decide, .inr ⟨by kernel_rfl, isAgg77, sizeOf77⟩⟩, by decide⟩
    · exact ⟨⟨by decide, .inl ⟨underlying3, rfl⟩⟩, by decide⟩
  · intro q hq
    simp only [List.zip_cons_cons, List.zip_nil_right, List.mem_cons, List.not_mem_nil, or_false] at hq
    rcases hq with rfl | rfl | rfl | rfl
    · exact .inl underlying3
    · exact .inl underlying3
    · exact .inr ⟨3, underlying77, underlying3, sizeOf3⟩
    · exact .inl underlying3
  · exact key_cov
def Memo (c : Cargo) (mm : Nat) (M : List (Nat × Obj)) : Prop :=
  ∃ (es : List (List Int × Value × Nat)) (ck : Nat), M = [(mm, .map (ents (fun l : List Int => ia l) es).toArray ck)] ∧ MOk es ck ∧ (∀ q ∈ es, q.1.length = 8) ∧ ∀ q ∈ es, q.2.1 = ia (times c q.1)
theorem zEg (c : Cargo) (mm : Nat) : Memo c mm [(mm, .map #[] 0)] := ⟨[], 0, rfl, mok_nil, by simp, by simp⟩
theorem bit0 {b j : Nat} (h : ((bit b j : Nat) : Int) = 0) : bit b j = 0 := by omega
theorem bit0n {b j : Nat} (h : ¬ ((bit b j : Nat) : Int) = 0) : ¬ bit b j = 0 := by omega
theorem c63 {w0 w : World} {F : List (Nat × Obj)} (c : Cargo) (p : AtT) (but cb mm : Nat) (hk : CK w0 F c p but cb mm) (hold : Int) (hs : St w0 w F) :
  Con Tryz.prog 63 [.pointer (some ⟨cb, 0, none⟩), .int .i64 hold] w fun v w' => v = .int .i64 (ofH c hold : Nat) ∧ St w0 w' F := by
  refine zAu (n := 28) func63 rfl rfl (zNl rfl) ?_
  obtain ⟨ae, ce, ah, ch, al, cl, an, cn⟩ := p
  have hb := hk.l
  have hle := hk.ok.le
  have hll := hk.ok.ll
  refine zAg (fun K2 g7 => (zAc (zBj rfl rfl (zAe (zAd (g7 _ _ (zAg (fun K4 g8 => (zAg (fun K6 g9 => (zAc (w_p (zAi (v := .pointer _) rfl rfl) rfl ?_))))))))))))
  refine w_p (zBn rfl rfl) rfl (w_p (zAf (o := 0) (i := 0) underlying132 rfl sizeOf42 rfl rfl rfl) rfl (w_p (zAf (o := 3) (i := 3) underlying42 rfl sizeOf39 rfl rfl rfl) rfl (w_p (zAk isAgg39 hs rfl rfl (show Ats _ _ _ _ [_] from Ats.part hb 3 1)) rfl ?_)))
  refine w_p (zBo underlying39 rfl rfl) rfl (w_p (zAi (v := _) rfl rfl) rfl (zAe (zAd (g9 _ _ (zA8 ?_)))))
  refine zCd [4,5,6,13,14,15,16,17,18,19,20,21,22,23,24,25,26] [4,13] (fun kk vs w => ∃ i : Nat, vs = [.int .i64 (ofTo c hold i : Nat), .int .i64 i] ∧ i ≤ c.lots.length ∧ kk = c.lots.length - i ∧ St w0 w F) (c.lots.length) ?_ ?_
  ·
   exact ⟨0, rfl, by omega, by omega, hs⟩
  intro k vs μ w9 hI K8 g5
  obtain ⟨i, rfl, hia, rfl, hs⟩ := hI
  refine zAg (fun gg ga => (zAc (w_p (zCl rfl rfl rfl rfl) rfl (zAe (zAd (ga _ _ (zAg (fun gh gb => (zA1 rfl rfl (fun g3 => ?_) (fun g3 => ?_))))))))))
  ·
   try simp only [zS] at g3
   refine zAx (zAd (gb _ _ (zAg (fun gi g6 => (zA8 ?_)))))
   refine zAg (fun gj gc => ?_)
   have hi2 : i < c.lots.length := by omega
   obtain ⟨bx, ox, hbx, hx⟩ := zDy hk.i.l hi2
   subst hbx
   have hof := zId c hold (i := i) (by omega)
   have hsh := shl5 (i := i) (by omega)
   refine zAc (zBe rfl rfl (w_p (zBk underlying39 sizeOf38 rfl rfl rfl rfl (i := _) rfl (by omega)) rfl (w_p (zA9 (vs := [_,_,_,_]) isAgg38 sizeOf38 hs rfl rfl hx) rfl (zA0 (cs := [_,_,_,_]) zAb zeroValue38 rfl hs (fun gk gl gd => ?_)))))
   refine zBs rfl rfl (zAs (i := 0) (v := .agg #[.int _ _, .int _ _, .int _ _, .int _ _]) (vs := [_,_,_,_]) zAb sizeOf38 rfl rfl rfl rfl rfl (by simp [Value.oneCell']) gd rfl (zNl rfl) (fun gm g0 => ?_))
   refine zAe (zAd (gc _ _ (zAg (fun gn ge => (zAc (w_p (zAf (o := 0) (i := 0) underlying38 rfl sizeOf3 rfl rfl rfl) rfl (w_p (zAk isAgg3 g0 rfl rfl (zAl (i := 0) (vs := [_]) rfl rfl)) rfl ?_)))))))
   refine zBe rfl rfl (w_p (zB3 rfl rfl rfl rfl) rfl (zAe (zAd (ge _ _ (zA1 rfl rfl (fun g4 => ?_) (fun g4 => ?_))))))
   ·
    try simp only [zS] at g4
    refine zAc (zBe rfl rfl (zBe rfl rfl (w_p (y_shl (x := 1) (y := i) rfl rfl rfl rfl rfl (by first | rfl | omega) (by first | omega | exact zDe (by omega)) (by first | omega | exact zDe (by omega))) rfl ?_)))
    refine w_p (y_or (x := ofTo c hold i) (y := 1 <<< i) rfl rfl rfl rfl (by first | rfl | omega) (by first | rfl | omega) (by first | omega | exact zDe (by omega)) (by first | omega | exact zDe (by omega))) rfl ?_
    refine zBs rfl rfl (zAe (zAn (zAd (g6 _ _ (zAc (w_p (zBq rfl rfl rfl rfl (by omega) (by omega)) rfl (zBe rfl rfl (zAe (zAd (g5 _ _ (nxI (c.lots.length - (i + 1)) (by omega) ?_)))))))))))
    first
      | exact ⟨i + 1, iv2 (by rw [of_yes hi2 (by assumption)]) rfl, by omega, rfl, g0.tail⟩
      | exact ⟨i + 1, iv2 (by rw [of_no hi2 (by assumption)]) rfl, by omega, rfl, g0.tail⟩
   try simp only [zS] at g4
   refine zAx (zAn (zAd (g6 _ _ (zAc (w_p (zBq rfl rfl rfl rfl (by omega) (by omega)) rfl (zBe rfl rfl (zAe (zAd (g5 _ _ (nxI (c.lots.length - (i + 1)) (by omega) ?_))))))))))
   first
     | exact ⟨i + 1, iv2 (by rw [of_yes hi2 (by assumption)]) rfl, by omega, rfl, g0.tail⟩
     | exact ⟨i + 1, iv2 (by rw [of_no hi2 (by assumption)]) rfl, by omega, rfl, g0.tail⟩
  try simp only [zS] at g3
  refine zBy (zAq (zAq (zBc (zAd (g8 _ _ (zAg (fun go gf => (zAc (zBe rfl rfl (zBs rfl rfl (zAe (zAd (gf _ _ (zA7 (zBa (l := [.tmp 4]) (vs := [_]) rfl ⟨⟨rfl, (rfl : _ = Value.int _ _)⟩, trivial⟩ ?_)))))))))))))))
  have hin : i = c.lots.length := by omega
  subst hin
  exact ⟨rfl, hs⟩

theorem c41 {w0 w : World} {F : List (Nat × Obj)} (c : Cargo) (p : AtT) (but cb mm : Nat) (hk : CK w0 F c p but cb mm)  (hs : St w0 w F) :
  Con Tryz.prog 41 [.pointer (some ⟨cb, 0, none⟩)] w fun v w' => v = .int .i64 (never c) ∧ St w0 w' F := by
  refine zAu (n := 10) func41 rfl rfl (zNl rfl) ?_
  have hb := hk.l
  have hle := hk.ok.le
  have hll := hk.ok.ll
  refine zAg (fun K2 g0 => (zAc (zBj rfl rfl (zAe (zAd (g0 _ _ (zAg (fun K4 g3 => (zAc (w_p (zAi (v := .pointer _) rfl rfl) rfl ?_))))))))))
  refine w_p (zBn rfl rfl) rfl (w_p (zAf (o := 0) (i := 0) underlying132 rfl sizeOf42 rfl rfl rfl) rfl (w_p (zAf (o := 0) (i := 0) underlying42 rfl sizeOf35 rfl rfl rfl) rfl (w_p (zAk isAgg35 hs rfl rfl (show Ats _ _ _ _ [_] from Ats.part hb 0 1)) rfl ?_)))
  refine w_p (zBo underlying35 rfl rfl) rfl (w_p (zBq rfl rfl rfl rfl (by omega) (by omega)) rfl (zBs rfl rfl (zAe (zAd (g3 _ _ (zA7 (zBa (l := [.tmp 2]) (vs := [_]) rfl ⟨⟨rfl, (rfl : _ = Value.int _ _)⟩, trivial⟩ ?_)))))))
  exact ⟨rfl, hs⟩

theorem c59f {w0 w : World} {F : List (Nat × Obj)} (c : Cargo) (p : AtT) (but cb mm : Nat) (hk : CK w0 F c p but cb mm) (s : List Int) (hso : SOk s) (es : List (List Int × Value × Nat)) (ck : Nat) (hes : ∀ q ∈ es, q.1.length = 8) (y : List Int) (hy : y.length = 5) (hf : getA s es = some (ia y)) (hs : St w0 w ((mm, .map (ents (fun l : List Int => ia l) es).toArray ck) :: F)) :
  Con Tryz.prog 59 [.pointer (some ⟨cb, 0, none⟩), ia s] w fun v w' => v = ia y ∧ St w0 w' ((mm, .map (ents (fun l : List Int => ia l) es).toArray ck) :: F) := by
  refine zAu (n := 145) func59 rfl rfl (zNl rfl) ?_
  obtain ⟨ae, ce, ah, ch, al, cl, an, cn⟩ := p
  have hb := hk.l
  have hle := hk.ok.le
  have hll := hk.ok.ll
  refine zAg (fun K2 g6 => (zAc (zDu (l := _) zAb rfl rfl rfl hs (fun b3 w4 g7 => ?_))))
  refine zA0 (cs := iv [0,0,0,0,0]) zAb zeroValue77 rfl g7 (fun b6 w7 g8 => ?_)
  refine zAe (zAd (g6 _ _ (zAg (fun gc gd => (zAg (fun ge g9 => (zCe [10] [(0,0),(1,0),(2,0),(3,1),(4,1),(5,1),(6,0),(7,0),(8,0),(9,2),(10,3),(11,0)] zB0 (zB5 (by kernel_rfl)) g8 (fun gf g0 => ?_))))))))
  refine d_w rfl (fun _ => zAi (v := .pointer _) rfl rfl) rfl ?_
  refine d_w rfl (fun _ => zBn rfl rfl) rfl ?_
  refine d_w rfl (fun _ => zAf (o := 6) (i := 2) underlying132 rfl sizeOf130 rfl rfl rfl) rfl ?_
  refine zBb rfl zAb rfl g0 (fun _ hq => (zAk isAgg130 hq.tail.tail.tail rfl rfl (show Ats _ _ _ _ [_] from Ats.part hb 6 1))) ?_
  refine zBb rfl zAb rfl g0 (fun _ hq => (zBz (i := 1) isAgg79 sizeOf79 (by first | omega | rfl | (simp only [hy, hso.len, zL] <;> omega)) hq rfl rfl rfl)) ?_
  refine zBb rfl zAb rfl g0 (fun _ hq => (G_look2S (i := 2) (a := s) underlying130 (keyG_ia key79) hso.len hes hq rfl rfl rfl rfl rfl hf)) ?_
  refine d_w rfl (fun _ => zAi (v := .tuple _) rfl rfl) rfl ?_
  refine d_w rfl (fun _ => zAh (v := (ia _)) rfl rfl rfl) rfl ?_
  refine d_w rfl (fun _ => zAh (v := .bool _) rfl rfl rfl) rfl ?_
  refine zBl rfl ?_
  refine zA0 (cs := iv [0,0,0,0,0]) zAb zeroValue77 rfl g0 (fun gg gh g3 => ?_)
  refine zAe (qn ⟨g3.tail, ?_⟩)
  refine zBm rfl ?_
  refine zB6 (i := 0) (l := _) zAb sizeOf77 (by first | omega | rfl | (simp only [hy, hso.len, zL] <;> omega)) rfl rfl rfl rfl rfl g3 rfl (by first | omega | rfl | (simp only [hy, hso.len, zL] <;> omega)) (fun gi g4 => ?_)
  refine zAe (qn ?_)
  refine d_w rfl (fun _ => zAo (v := .bool _) rfl rfl) rfl ?_
  refine zBh ?_
  refine zAd (g9 _ _ (zAg (fun gj ga => (zAc (w_p (zAi (v := .bool _) rfl rfl) rfl (zAe (zAd (ga _ _ (zC0 rfl rfl ?_)))))))))
  refine zAg (fun gk gb => (zAc (w_p (zBz (i := 0) isAgg77 sizeOf77 (by first | omega | rfl | (simp only [hy, hso.len, zL] <;> omega)) g4 rfl rfl rfl) rfl ?_)))
  refine zB6 (i := 1) (l := _) zAb sizeOf77 (by first | omega | rfl | (simp only [hy, hso.len, zL] <;> omega)) rfl rfl rfl rfl rfl g4 rfl (by first | omega | rfl | (simp only [hy, hso.len, zL] <;> omega)) (fun gl g5 => ?_)
  refine zAe (zAd (gb _ _ (zA7 (zAm (zBa (l := [.cell 4 77]) (vs := [_]) rfl ⟨⟨rfl, _, rfl, zEr (i := 1) isAgg77 sizeOf77 (by first | omega | rfl | (simp only [hy, hso.len, zL] <;> omega)) g5 rfl⟩, trivial⟩ ?_)))))
  exact ⟨rfl, g5.tail.tail.tail⟩

theorem c59n {w0 w : World} {F : List (Nat × Obj)} (c : Cargo) (p : AtT) (but cb mm : Nat) (hk : CK w0 F c p but cb mm) (s : List Int) (hso : SOk s) (es : List (List Int × Value × Nat)) (ck : Nat) (hes : ∀ q ∈ es, q.1.length = 8) (hf : getA s es = none) (hs : St w0 w ((mm, .map (ents (fun l : List Int => ia l) es).toArray ck) :: F)) :
  Con Tryz.prog 59 [.pointer (some ⟨cb, 0, none⟩), ia s] w fun v w' => v = ia (times c s) ∧ St w0 w' ((mm, .map (ents (fun l : List Int => ia l) (putA s v ck es)).toArray (if idxA s es 0 = none then ck + 1 else ck)) :: F) := by
  refine zAu (n := 145) func59 rfl rfl (zNl rfl) ?_
  obtain ⟨ae, ce, ah, ch, al, cl, an, cn⟩ := p
  have hb := hk.l
  have hle := hk.ok.le
  have hll := hk.ok.ll
  have htt := hso.tt
  have hnr := take5 hso
  have hlnr := take5 hso
  refine zAg (fun K2 gx => (zAc (zDu (l := _) zAb rfl rfl rfl hs (fun b3 w4 gy => ?_))))
  refine zA0 (cs := iv [0,0,0,0,0]) zAb zeroValue77 rfl gy (fun b6 w7 gz => ?_)
  refine zAe (zAd (gx _ _ (zAg (fun j9 gA => (zAg (fun ja gB => (zCe [10] [(0,0),(1,0),(2,0),(3,1),(4,1),(5,1),(6,0),(7,0),(8,0),(9,2),(10,3),(11,0)] zB0 (zB5 (by kernel_rfl)) gz (fun jb g5 => ?_))))))))
  refine d_w rfl (fun _ => zAi (v := .pointer _) rfl rfl) rfl ?_
  refine d_w rfl (fun _ => zBn rfl rfl) rfl ?_
  refine d_w rfl (fun _ => zAf (o := 6) (i := 2) underlying132 rfl sizeOf130 rfl rfl rfl) rfl ?_
  refine zBb rfl zAb rfl g5 (fun _ hq => (zAk isAgg130 hq.tail.tail.tail rfl rfl (show Ats _ _ _ _ [_] from Ats.part hb 6 1))) ?_
  refine zBb rfl zAb rfl g5 (fun _ hq => (zBz (i := 1) isAgg79 sizeOf79 (by first | omega | rfl | (simp only [hso.len, zCu, zCr, zCs, zBf, hnr.1, hlnr.1, zL] <;> omega)) hq rfl rfl rfl)) ?_
  refine zBb rfl zAb rfl g5 (fun _ hq => (G_look2N (i := 2) (a := s) underlying130 (keyG_ia key79) hso.len hes (show ∀ w, (zeroValue 77).run Tryz.prog w = .ok (ia (List.replicate 5 0)) w from zeroValue77) hq rfl rfl rfl rfl rfl hf)) ?_
  refine d_w rfl (fun _ => zAi (v := .tuple _) rfl rfl) rfl ?_
  refine d_w rfl (fun _ => zAh (v := (ia _)) rfl rfl rfl) rfl ?_
  refine d_w rfl (fun _ => zAh (v := .bool _) rfl rfl rfl) rfl ?_
  refine zBl rfl ?_
  refine zA0 (cs := iv [0,0,0,0,0]) zAb zeroValue77 rfl g5 (fun g6 jc gq => ?_)
  refine zAe (qn ⟨gq.tail, ?_⟩)
  refine zBm rfl ?_
  refine zB6 (i := 0) (l := _) zAb sizeOf77 (by first | omega | rfl | (simp only [hso.len, zCu, zCr, zCs, zBf, hnr.1, hlnr.1, zL] <;> omega)) rfl rfl rfl rfl rfl gq rfl (by first | omega | rfl | (simp only [hso.len, zCu, zCr, zCs, zBf, hnr.1, hlnr.1, zL] <;> omega)) (fun jd gC => ?_)
  refine zAe (qn ?_)
  refine d_w rfl (fun _ => zAo (v := .bool _) rfl rfl) rfl ?_
  refine zBh ?_
  refine zAd (gB _ _ (zAg (fun je gD => (zAc (w_p (zAi (v := .bool _) rfl rfl) rfl (zAe (zAd (gD _ _ (zB7 rfl rfl ?_)))))))))
  refine zAx (zAd (gA _ _ (zAg (fun jf gE => (zAc (zA0 (cs := iv [0,0,0,0,0]) zAb zeroValue77 rfl gC (fun g7 jg gF => ?_)))))))
  refine zAe (zAd (gE _ _ (zAg (fun jh gG => (zAg (fun ji gH => (zAc (w_p (zAi (v := _) rfl rfl) rfl (zAe (zAd (gH _ _ (zA8 ?_))))))))))))
  refine zCd [8,27,28,29,30,31,32,33,34] [27] (fun kk vs w => ∃ i : Nat, vs = [.int .i64 i] ∧ i ≤ 5 ∧ kk = 5 - i ∧ St w0 w ((g7, blk 77 (iv (fillTo (never c) i))) :: (g6, blk 77 (iv (List.replicate 5 0))) :: (b6, blk 77 (iv (List.replicate 5 0))) :: (b3, blk 79 (iv s)) :: (mm, .map (ents (fun l : List Int => ia l) es).toArray ck) :: F)) (5) ?_ ?_
  ·
   exact ⟨0, rfl, by omega, by omega, gF⟩
  intro k vs μ jj hI jk gI
  obtain ⟨i, rfl, hia, rfl, hs⟩ := hI
  refine zAg (fun jl gJ => (zAc (w_p (zCl rfl rfl rfl rfl) rfl (zAe (zAd (gJ _ _ (zAg (fun jm gK => (zA1 rfl rfl (fun gb => ?_) (fun gb => ?_))))))))))
  ·
   try simp only [zS] at gb
   refine zAx (zAd (gK _ _ (zAg (fun jn gL => (zA8 ?_)))))
   refine zAg (fun jo gM => (zAc (zBe rfl rfl (zBs rfl rfl (zAe (zAd (gM _ _ ?_)))))))
   have hi5 : i < 5 := by omega
   refine zAc (zBe rfl rfl (w_p (zAi (v := .pointer _) rfl rfl) rfl (zAr zAb call41 rfl rfl rfl rfl (c41 c _ but cb mm hk.cons.cons.cons.cons.cons hs) ?_)))
   rintro _ jp ⟨rfl, gN⟩
   refine w_p (zCb underlying77 sizeOf3 rfl rfl rfl rfl (i := i) (by first | rfl | omega) (by omega)) rfl ?_
   refine zDr (i := 0) (j := i) zAb sizeOf3 rfl rfl rfl rfl gN rfl (by first | omega | rfl | (simp only [hso.len, zCu, zCr, zCs, zBf, hnr.1, hlnr.1, zL] <;> omega)) (fun jq gO => ?_)
   refine zAe (zAn (zAd (gL _ _ (zAc (w_p (zBq rfl rfl rfl rfl (by omega) (by omega)) rfl (zBe rfl rfl (zAe (zAd (gI _ _ (nxI (5 - (i + 1)) (by omega) ?_))))))))))
   exact ⟨i + 1, rfl, by omega, rfl, gO⟩
  try simp only [zS] at gb
  refine zBy (zAq (zAq (zBc (zAd (gG _ _ (zAg (fun jr gP => (zAc (w_p (zAf (o := 2) (i := 2) underlying79 rfl sizeOf77 rfl rfl rfl) rfl ?_)))))))))
  refine w_p (y_loadIP (o := 2) (i := 3) isAgg77 sizeOf77 (by first | omega | rfl | (simp only [hso.len, zCu, zCr, zCs, zBf, hnr.1, hlnr.1, zL] <;> omega)) hs rfl rfl rfl) rfl ?_
  refine zA0 (cs := iv [0,0,0,0,0]) zAb zeroValue77 rfl hs (fun gc js gQ => ?_)
  refine zB6 (i := 0) (l := _) zAb sizeOf77 (by first | omega | rfl | (simp only [hso.len, zCu, zCr, zCs, zBf, hnr.1, hlnr.1, zL] <;> omega)) rfl rfl rfl rfl rfl gQ rfl (by first | omega | rfl | (simp only [hso.len, zCu, zCr, zCs, zBf, hnr.1, hlnr.1, zL] <;> omega)) (fun jt gr => ?_)
  refine zAe (zAd (gP _ _ (zAg (fun ju gR => (zAg (fun jv gS => (zAc (w_p (zAi (v := .pointer _) rfl rfl) rfl (w_p (zBn rfl rfl) rfl ?_)))))))))
  refine w_p (zAf (o := 0) (i := 0) underlying132 rfl sizeOf42 rfl rfl rfl) rfl (w_p (zAf (o := 0) (i := 0) underlying42 rfl sizeOf35 rfl rfl rfl) rfl (w_p (zAk isAgg35 gr.tail.tail.tail.tail.tail.tail rfl rfl (show Ats _ _ _ _ [_] from Ats.part hb 0 1)) rfl (w_p (zBo underlying35 rfl rfl) rfl ?_)))
  refine w_p (zBq rfl rfl rfl rfl (by omega) (by omega)) rfl (w_p (zAi (v := _) rfl rfl) rfl (zAe (zAd (gS _ _ (zA8 ?_)))))
  refine zCd [10,11,12,13,14,15,44,45,46,47,48,49,50,51,52,53,54,55,56,57,58,59,60,61,62,63,64,65,66,67,68,69,70,71,72,73,74,75,76,77,78,79,80,81,82,83,84,85,86,87,88,89,90,91,92,93,94,95,96,97,98,99,100,101,102,103,104,105,106,107,108,109,110,111,112,113,114,115,116,117,118,119,120,121,122,123,124,125,126,127,128,129,130,131,132,133,134,135,136,137] [44] (fun kk vs w => ∃ h : Nat, vs = [.int .i64 h] ∧ h ≤ c.heat.length ∧ kk = c.heat.length + 1 - h ∧ St w0 w ((gc, blk 77 (iv (hourTo c s h).2)) :: (g7, blk 77 (iv (hourTo c s h).1)) :: (g6, blk 77 (iv (List.replicate 5 0))) :: (b6, blk 77 (iv (List.replicate 5 0))) :: (b3, blk 79 (iv s)) :: (mm, .map (ents (fun l : List Int => ia l) es).toArray ck) :: F)) (c.heat.length + 1) ?_ ?_
  ·
   have hi5 : i = 5 := by omega
   subst hi5
   exact ⟨0, rfl, by omega, by omega, gr⟩
  intro k vs μ jw hI jx gT
  clear hs
  obtain ⟨h, rfl, hha, rfl, hs⟩ := hI
  have hnr := hour_near hk.ok hso h
  refine zAg (fun jy gU => (zAc (w_p (zCl rfl rfl rfl rfl) rfl (zAe (zAd (gU _ _ (zAg (fun jz gV => (zA1 rfl rfl (fun gd => ?_) (fun gd => ?_))))))))))
  ·
   try simp only [zS] at gd
   refine zAx (zAd (gV _ _ (zAg (fun jA gW => (zA8 ?_)))))
   refine zAg (fun jB gX => (zAc (zBe rfl rfl (zBs rfl rfl (zAe (zAd (gX _ _ (w_scope ?_))))))))
   refine zAg (fun jC gY => (zAc (zBj rfl rfl (zAe (zAd (gY _ _ (zAg (fun jD gZ => (w_label ?_)))))))))
   refine zAd (gZ _ _ (zAg (fun jE hD => (zAg (fun jF hG => (zAc (w_p (zAi (v := .pointer _) rfl rfl) rfl (w_p (zBn rfl rfl) rfl (w_p (zAf (o := 0) (i := 0) underlying132 rfl sizeOf42 rfl rfl rfl) rfl ?_)))))))))
   refine w_p (zAf (o := 3) (i := 3) underlying42 rfl sizeOf39 rfl rfl rfl) rfl (w_p (zAk isAgg39 hs.tail.tail.tail.tail.tail.tail rfl rfl (show Ats _ _ _ _ [_] from Ats.part hb 3 1)) rfl (w_p (zBo underlying39 rfl rfl) rfl (w_p (zAi (v := _) rfl rfl) rfl (zAe (zAd (hG _ _ (zA8 ?_)))))))
   refine zCd [11,12,13,53,54,55,56,57,58,59,60,61,62,63,64,65,66,67,68,69,70,71,72,73,74,75,76,77,78,79,80,81,82,83,84,85,86,87,88] [11,53] (fun kk vs w => ∃ i : Nat, vs = [.int .i64 (turnTo c s h (hourTo c s h).2 (hourTo c s h).1 i).2, .int .i64 i] ∧ i ≤ c.lots.length ∧ kk = c.lots.length - i ∧ St w0 w ((gc, blk 77 (iv (hourTo c s h).2)) :: (g7, blk 77 (iv (turnTo c s h (hourTo c s h).2 (hourTo c s h).1 i).1)) :: (g6, blk 77 (iv (List.replicate 5 0))) :: (b6, blk 77 (iv (List.replicate 5 0))) :: (b3, blk 79 (iv s)) :: (mm, .map (ents (fun l : List Int => ia l) es).toArray ck) :: F)) (c.lots.length) ?_ ?_
   ·
    exact ⟨0, rfl, by omega, by omega, hs⟩
   intro k vs μ jG hI jH g8
   clear hs
   obtain ⟨i, rfl, hia, rfl, hs⟩ := hI
   refine zAg (fun jI hH => (zAc (w_p (zCl rfl rfl rfl rfl) rfl (zAe (zAd (hH _ _ (zAg (fun jJ hN => (zA1 rfl rfl (fun ge => ?_) (fun ge => ?_))))))))))
   ·
    try simp only [zS] at ge
    refine zAx (zAd (hN _ _ (zAg (fun jK g9 => (zA8 ?_)))))
    refine zAg (fun jL hO => ?_)
    have hi2 : i < c.lots.length := by omega
    obtain ⟨bx, ox, hbx, hx⟩ := zDy hk.i.l hi2
    subst hbx
    refine zAc (zBe rfl rfl (w_p (zBk underlying39 sizeOf38 rfl rfl rfl rfl (i := _) rfl (by omega)) rfl (w_p (zA9 (vs := [_,_,_,_]) isAgg38 sizeOf38 hs.tail.tail.tail.tail.tail.tail rfl rfl hx) rfl (zA0 (cs := [_,_,_,_]) zAb zeroValue38 rfl hs (fun jM jN hP => ?_)))))
    refine zBs rfl rfl (zAs (i := 0) (v := .agg #[.int _ _, .int _ _, .int _ _, .int _ _]) (vs := [_,_,_,_]) zAb sizeOf38 rfl rfl rfl rfl rfl (by simp [Value.oneCell']) hP rfl (zNl rfl) (fun jO g0 => ?_))
    refine zAe (zAd (hO _ _ (zAg (fun jP hX => (zAg (fun jQ gf => (zAc (w_p (zAf (o := 7) (i := 3) underlying79 rfl sizeOf3 rfl rfl rfl) rfl (w_p (zAk isAgg3 g0 rfl rfl (zD5 (i := 5) (o := 7) rfl (by first | omega | rfl | (simp only [hso.len, zCu, zCr, zCs, zBf, hnr.1, hlnr.1, zL] <;> omega)))) rfl ?_)))))))))
    refine zBe rfl rfl (w_p (y_shr (x := tt s) (y := i) rfl rfl rfl rfl (by first | rfl | omega) (by first | rfl | omega) (by first | omega | exact zDe (by omega))) rfl ?_)
    refine w_p (show Yd _ _ _ _ (.int .i64 ((bit (tt s) i : Nat) : Int)) from (y_and (x := _) (y := 1) rfl rfl rfl rfl rfl rfl (by first | omega | exact zDe (by omega)) (by first | omega | exact zDe (by omega)))) rfl ?_
    refine w_p (zB3 rfl rfl rfl rfl) rfl (w_p (zAi (v := .bool _) rfl rfl) rfl (zBp (fun gg => ?_) (fun gg => ?_)))
    ·
     try simp only [zS] at gg
     refine zAj rfl rfl rfl ?_
     refine zAj rfl rfl rfl ?_
     refine zAj rfl rfl rfl ?_
     refine zAj rfl rfl rfl ?_
     refine w_p (zAv (v := _) rfl rfl rfl rfl) rfl (w_p (zAi (v := .bool _) rfl rfl) rfl (zAj rfl rfl rfl ?_))
     refine zAj rfl rfl rfl ?_
     refine zAj rfl rfl rfl ?_
     refine zAj rfl rfl rfl ?_
     refine w_p (zAv (v := _) rfl rfl rfl rfl) rfl (zAe (zAd (gf _ _ (zC0 rfl rfl ?_))))
     refine zBy (zAq (zBc (zAd (g9 _ _ (zAc (w_p (zBq rfl rfl rfl rfl (by omega) (by omega)) rfl (zBe rfl rfl (zAe (zAd (g8 _ _ (nxI (c.lots.length - (i + 1)) (by omega) ?_)))))))))))
     first
       | (have ho := on_no (c := c) (s := s) (h := h) (left := (hourTo c s h).2) hi2 (by first | exact .inl (bit0 (by assumption)) | exact .inr (.inl (by omega)) | exact .inr (.inr (by omega)))
          exact ⟨i + 1, iv2 (by rw [zFq ho]) rfl, by omega, rfl, by rw [zFq ho]; exact g0.tail⟩)
       | (have ho := on_yes (c := c) (s := s) (h := h) (left := (hourTo c s h).2) hi2 (bit0n (by assumption)) (by omega) (by omega)
          exact ⟨i + 1, iv2 (by rw [zEu ho]) rfl, by omega, rfl, by rw [zEu ho]; exact g0.tail⟩)
    try simp only [zS] at gg
    refine w_y rfl rfl rfl (zAf (o := 1) (i := 1) underlying38 rfl sizeOf3 rfl rfl rfl) rfl ?_
    refine w_y rfl rfl rfl (zAk isAgg3 g0 rfl rfl (zAl (i := 0) (vs := [_]) rfl rfl)) rfl ?_
    refine w_y rfl rfl rfl (zA6 rfl rfl) rfl ?_
    refine w_y rfl rfl rfl (zEt rfl rfl rfl rfl) rfl ?_
    refine w_p (zBg (v := .bool _) rfl rfl rfl rfl) rfl (w_p (zAi (v := .bool _) rfl rfl) rfl (zBp (fun gh => ?_) (fun gh => ?_)))
    ·
     try simp only [zS] at gh
     refine zAj rfl rfl rfl ?_
     refine zAj rfl rfl rfl ?_
     refine zAj rfl rfl rfl ?_
     refine zAj rfl rfl rfl ?_
     refine w_p (zAv (v := _) rfl rfl rfl rfl) rfl (zAe (zAd (gf _ _ (zC0 rfl rfl ?_))))
     refine zBy (zAq (zBc (zAd (g9 _ _ (zAc (w_p (zBq rfl rfl rfl rfl (by omega) (by omega)) rfl (zBe rfl rfl (zAe (zAd (g8 _ _ (nxI (c.lots.length - (i + 1)) (by omega) ?_)))))))))))
     first
       | (have ho := on_no (c := c) (s := s) (h := h) (left := (hourTo c s h).2) hi2 (by first | exact .inl (bit0 (by assumption)) | exact .inr (.inl (by omega)) | exact .inr (.inr (by omega)))
          exact ⟨i + 1, iv2 (by rw [zFq ho]) rfl, by omega, rfl, by rw [zFq ho]; exact g0.tail⟩)
       | (have ho := on_yes (c := c) (s := s) (h := h) (left := (hourTo c s h).2) hi2 (bit0n (by assumption)) (by omega) (by omega)
          exact ⟨i + 1, iv2 (by rw [zEu ho]) rfl, by omega, rfl, by rw [zEu ho]; exact g0.tail⟩)
    try simp only [zS] at gh
    refine w_y rfl rfl rfl (zA6 rfl rfl) rfl ?_
    refine w_y rfl rfl rfl (zCb underlying77 sizeOf3 rfl rfl rfl rfl (i := i) (by first | rfl | omega) (by omega)) rfl ?_
    refine w_y rfl rfl rfl (zAk isAgg3 g0 rfl rfl (zCy (i := 1) (j := i) rfl (by first | omega | rfl | (simp only [hso.len, zCu, zCr, zCs, zBf, hnr.1, hlnr.1, zL] <;> omega)))) rfl ?_
    refine w_y rfl rfl rfl (zEt rfl rfl rfl rfl) rfl ?_
    refine w_p (zBg (v := .bool _) rfl rfl rfl rfl) rfl (zAe (zAd (gf _ _ (zA1 rfl rfl (fun gi => ?_) (fun gi => ?_)))))
    ·
     try simp only [zS] at gi
     refine zBy (zAq (zBc (zAd (g9 _ _ (zAc (w_p (zBq rfl rfl rfl rfl (by omega) (by omega)) rfl (zBe rfl rfl (zAe (zAd (g8 _ _ (nxI (c.lots.length - (i + 1)) (by omega) ?_)))))))))))
     first
       | (have ho := on_no (c := c) (s := s) (h := h) (left := (hourTo c s h).2) hi2 (by first | exact .inl (bit0 (by assumption)) | exact .inr (.inl (by omega)) | exact .inr (.inr (by omega)))
          exact ⟨i + 1, iv2 (by rw [zFq ho]) rfl, by omega, rfl, by rw [zFq ho]; exact g0.tail⟩)
       | (have ho := on_yes (c := c) (s := s) (h := h) (left := (hourTo c s h).2) hi2 (bit0n (by assumption)) (by omega) (by omega)
          exact ⟨i + 1, iv2 (by rw [zEu ho]) rfl, by omega, rfl, by rw [zEu ho]; exact g0.tail⟩)
    try simp only [zS] at gi
    refine zAx (zAd (hX _ _ (zAg (fun jR hY => (zAc (zBe rfl rfl (zBe rfl rfl (w_p (zCb underlying77 sizeOf3 rfl rfl rfl rfl (i := i) (by first | rfl | omega) (by omega)) rfl ?_))))))))
    refine w_p (zAk isAgg3 g0 rfl rfl (zCy (i := 2) (j := i) rfl (by first | omega | rfl | (simp only [hso.len, zCu, zCr, zCs, zBf, hnr.1, hlnr.1, zL] <;> omega)))) rfl ?_
    refine zBe rfl rfl (w_p (y_min2 rfl rfl rfl rfl) rfl (w_p (zCb underlying77 sizeOf3 rfl rfl rfl rfl (i := i) (by first | rfl | omega) (by omega)) rfl ?_))
    refine zDr (i := 2) (j := i) zAb sizeOf3 rfl rfl rfl rfl g0 rfl (by first | omega | rfl | (simp only [hso.len, zCu, zCr, zCs, zBf, hnr.1, hlnr.1, zL] <;> omega)) (fun jS gj => ?_)
    refine zAe (zAd (hY _ _ (zAc (w_p (zAi (v := .pointer _) rfl rfl) rfl (w_p (zBn rfl rfl) rfl (w_p (zAf (o := 0) (i := 0) underlying132 rfl sizeOf42 rfl rfl rfl) rfl ?_))))))
    refine w_p (zAf (o := 1) (i := 1) underlying42 rfl sizeOf3 rfl rfl rfl) rfl (w_p (zAk isAgg3 gj.tail.tail.tail.tail.tail.tail.tail rfl rfl (show Ats _ _ _ _ [_] from Ats.part hb 1 1)) rfl (zBs rfl rfl (zAe (zAn (zAd (g9 _ _ (zAc (w_p (zBq rfl rfl rfl rfl (by omega) (by omega)) rfl ?_))))))))
    refine zBe rfl rfl (zAe (zAd (g8 _ _ (nxI (c.lots.length - (i + 1)) (by omega) ?_))))
    first
      | (have ho := on_no (c := c) (s := s) (h := h) (left := (hourTo c s h).2) hi2 (by first | exact .inl (bit0 (by assumption)) | exact .inr (.inl (by omega)) | exact .inr (.inr (by omega)))
         exact ⟨i + 1, iv2 (by rw [zFq ho]) rfl, by omega, rfl, by rw [zFq ho]; exact gj.tail⟩)
      | (have ho := on_yes (c := c) (s := s) (h := h) (left := (hourTo c s h).2) hi2 (bit0n (by assumption)) (by omega) (by omega)
         exact ⟨i + 1, iv2 (by rw [zEu ho]) rfl, by omega, rfl, by rw [zEu ho]; exact gj.tail⟩)
   try simp only [zS] at ge
   refine zBy (zAq (zAq (zBc (zAd (hD _ _ (zAg (fun jT j0 => (zAg (fun jU j1 => ?_)))))))))
   have hil : i = c.lots.length := by omega
   subst hil
   have hgas := turn_gas hk.ok.gas s h (hourTo c s h).2 (hourTo c s h).1 c.lots.length
   refine zAc (zBe rfl rfl (w_p (zAi (v := .pointer _) rfl rfl) rfl (w_p (zBn rfl rfl) rfl (w_p (zAf (o := 0) (i := 0) underlying132 rfl sizeOf42 rfl rfl rfl) rfl (w_p (zAf (o := 0) (i := 0) underlying42 rfl sizeOf35 rfl rfl rfl) rfl ?_)))))
   refine w_p (zAk isAgg35 hs.tail.tail.tail.tail.tail.tail rfl rfl (show Ats _ _ _ _ [_] from Ats.part hb 0 1)) rfl (w_p (zBo underlying35 rfl rfl) rfl (w_p (zB3 rfl rfl rfl rfl) rfl (zAe (zAd (j1 _ _ (zA1 rfl rfl (fun gk => ?_) (fun gk => ?_)))))))
   ·
    try simp only [zS] at gk
    refine zBy (zAq (q_ng_exit ?_))
    refine zFh rfl ?_
    refine zAq (zAq (zBc (zAd (gR _ _ (zAg (fun jV j2 => ?_))))))
    have hhn : h = c.heat.length := by omega
    subst hhn
    replace hs := (show St _ _ (_ :: (_, blk 77 (iv (times c s))) :: _ :: _ :: _ :: _ :: F) from hs)
    refine zCe [6] [(0,0),(1,0),(2,0),(3,1),(4,1),(5,1),(6,3)] zB0 (zB5 (by kernel_rfl)) hs (fun jW ga => ?_)
    refine d_w rfl (fun _ => zAi (v := .pointer _) rfl rfl) rfl ?_
    refine d_w rfl (fun _ => zBn rfl rfl) rfl ?_
    refine d_w rfl (fun _ => zAf (o := 6) (i := 2) underlying132 rfl sizeOf130 rfl rfl rfl) rfl ?_
    refine zBb rfl zAb rfl ga (fun _ hq => (zAk isAgg130 hq.tail.tail.tail.tail.tail.tail rfl rfl (show Ats _ _ _ _ [_] from Ats.part hb 6 1))) ?_
    refine zBb rfl zAb rfl ga (fun _ hq => (zBz (i := 4) isAgg79 sizeOf79 (by first | omega | rfl | (simp only [hso.len, zCu, zCr, zCs, zBf, hnr.1, hlnr.1, zL] <;> omega)) hq rfl rfl rfl)) ?_
    refine zBb rfl zAb rfl ga (fun _ hq => (zBz (i := 1) isAgg77 sizeOf77 (by first | omega | rfl | (simp only [hso.len, zCu, zCr, zCs, zBf, hnr.1, hlnr.1, zL] <;> omega)) hq rfl rfl rfl)) ?_
    refine zBm rfl ?_
    refine G_put (i := 5) (a := s) zAb underlying130 (keyG_ia key79) hso.len hes rfl rfl rfl rfl rfl rfl ga rfl (fun jX gt => ?_)
    refine zAe (qn ?_)
    refine zBh ?_
    refine zAd (j2 _ _ (zAg (fun jY j3 => (zAc (w_p (zBz (i := 1) isAgg77 sizeOf77 (by first | omega | rfl | (simp only [hso.len, zCu, zCr, zCs, zBf, hnr.1, hlnr.1, zL] <;> omega)) gt rfl rfl rfl) rfl ?_)))))
    refine zB6 (i := 3) (l := _) zAb sizeOf77 (by first | omega | rfl | (simp only [hso.len, zCu, zCr, zCs, zBf, hnr.1, hlnr.1, zL] <;> omega)) rfl rfl rfl rfl rfl gt rfl (by first | omega | rfl | (simp only [hso.len, zCu, zCr, zCs, zBf, hnr.1, hlnr.1, zL] <;> omega)) (fun jZ gu => ?_)
    refine zAe (zAd (j3 _ _ (zA7 (zBa (l := [.cell 4 77]) (vs := [_]) rfl ⟨⟨rfl, _, rfl, zEr (i := 3) isAgg77 sizeOf77 (by first | omega | rfl | (simp only [hso.len, zCu, zCr, zCs, zBf, hnr.1, hlnr.1, zL] <;> omega)) gu rfl⟩, trivial⟩ ?_))))
    exact ⟨rfl, gu.tail.tail.tail.tail.tail⟩
   try simp only [zS] at gk
   refine zAx (zAd (j0 _ _ (zAg (fun k4 j4 => ?_))))
   have hh2 : h < c.heat.length := by omega
   refine zAc (w_p (zAi (v := .pointer _) rfl rfl) rfl (w_p (zBn rfl rfl) rfl (w_p (zAf (o := 0) (i := 0) underlying132 rfl sizeOf42 rfl rfl rfl) rfl (w_p (zAf (o := 3) (i := 3) underlying42 rfl sizeOf39 rfl rfl rfl) rfl ?_))))
   refine w_p (zAk isAgg39 hs.tail.tail.tail.tail.tail.tail rfl rfl (show Ats _ _ _ _ [_] from Ats.part hb 3 1)) rfl (w_p (zBo underlying39 rfl rfl) rfl (w_p (zAi (v := _) rfl rfl) rfl (zAe (zAd (j4 _ _ (zA8 ?_))))))
   refine zCd [14,15,103,104,105,106,107,108,109,110,111,112,113,114,115,116,117,118,119,120,121,122,123,124,125,126,127,128,129,130,131,132,133,134,135,136] [103] (fun kk vs w => ∃ k : Nat, vs = [.int .i64 k] ∧ k ≤ c.lots.length ∧ kk = c.lots.length - k ∧ St w0 w ((gc, blk 77 (iv (leftTo c s h (turnTo c s h (hourTo c s h).2 (hourTo c s h).1 c.lots.length).2 (hourTo c s h).2 k))) :: (g7, blk 77 (iv (turnTo c s h (hourTo c s h).2 (hourTo c s h).1 c.lots.length).1)) :: (g6, blk 77 (iv (List.replicate 5 0))) :: (b6, blk 77 (iv (List.replicate 5 0))) :: (b3, blk 79 (iv s)) :: (mm, .map (ents (fun l : List Int => ia l) es).toArray ck) :: F)) (c.lots.length) ?_ ?_
   ·
    exact ⟨0, rfl, by omega, by omega, hs⟩
   intro k vs μ k5 hI k6 gl
   clear hs
   obtain ⟨k, rfl, hka, rfl, hs⟩ := hI
   have hlnr := left_near hk.ok hso (h := h) hgas hnr k
   refine zAg (fun k7 j5 => (zAc (w_p (zCl rfl rfl rfl rfl) rfl (zAe (zAd (j5 _ _ (zAg (fun k8 j6 => (zA1 rfl rfl (fun gm => ?_) (fun gm => ?_))))))))))
   ·
    try simp only [zS] at gm
    refine zAx (zAd (j6 _ _ (zAg (fun k9 gn => (zA8 ?_)))))
    refine zAg (fun ka j7 => ?_)
    have hk2 : k < c.lots.length := by omega
    obtain ⟨bx, ox, hbx, hx⟩ := zDy hk.i.l hk2
    subst hbx
    refine zAc (zBe rfl rfl (w_p (zBk underlying39 sizeOf38 rfl rfl rfl rfl (i := _) rfl (by omega)) rfl (w_p (zA9 (vs := [_,_,_,_]) isAgg38 sizeOf38 hs.tail.tail.tail.tail.tail.tail rfl rfl hx) rfl (zA0 (cs := [_,_,_,_]) zAb zeroValue38 rfl hs (fun kb kc j8 => ?_)))))
    refine zBs rfl rfl (zAs (i := 0) (v := .agg #[.int _ _, .int _ _, .int _ _, .int _ _]) (vs := [_,_,_,_]) zAb sizeOf38 rfl rfl rfl rfl rfl (by simp [Value.oneCell']) j8 rfl (zNl rfl) (fun kd g3 => ?_))
    refine zAe (zAd (j7 _ _ (zAg (fun ke gv => (zAc (w_p (zAf (o := 1) (i := 1) underlying38 rfl sizeOf3 rfl rfl rfl) rfl (w_p (zAk isAgg3 g3 rfl rfl (zAl (i := 0) (vs := [_]) rfl rfl)) rfl ?_)))))))
    refine zBe rfl rfl (w_p (zGf rfl rfl rfl rfl) rfl (w_p (zAi (v := .bool _) rfl rfl) rfl (zBp (fun go => ?_) (fun go => ?_))))
    ·
     try simp only [zS] at go
     refine w_y rfl rfl rfl (zA6 rfl rfl) rfl ?_
     refine w_y rfl rfl rfl (zCb underlying77 sizeOf3 rfl rfl rfl rfl (i := k) (by first | rfl | omega) (by omega)) rfl ?_
     refine w_y rfl rfl rfl (zAk isAgg3 g3 rfl rfl (zCy (i := 1) (j := k) rfl (by first | omega | rfl | (simp only [hso.len, zCu, zCr, zCs, zBf, hnr.1, hlnr.1, zL] <;> omega)))) rfl ?_
     refine w_y rfl rfl rfl (zEt rfl rfl rfl rfl) rfl ?_
     refine w_p (zAv (v := .bool _) rfl rfl rfl rfl) rfl (zAe (zAd (gv _ _ (zA1 rfl rfl (fun gp => ?_) (fun gp => ?_)))))
     ·
      try simp only [zS] at gp
      obtain ⟨b2, o2, hb2, hx2⟩ := zDv hk.i.e hh2
      subst hb2
      have hnk := hlnr.2 k
      have htk := takes_in hk.ok hso (h := h) hgas
      have hw1 := hso.w
      have hhe := hk.ok.heat _ (List.getElem_mem hh2)
      have hta : takes c s h (turnTo c s h (hourTo c s h).2 (hourTo c s h).1 c.lots.length).2 = c.heat[h] + s.getD 1 0 + (turnTo c s h (hourTo c s h).2 (hourTo c s h).1 c.lots.length).2 := by unfold takes; rw [heat_at hh2]
      refine zCe [18] [(0,0),(1,0),(2,1),(3,0),(4,0),(5,0),(6,0),(7,1),(8,0),(9,0),(10,1),(11,0),(12,1),(13,0),(14,0),(15,0),(16,0),(17,0),(18,3)] zB0 (zB5 (by kernel_rfl)) g3 (fun kf g4 => ?_)
      refine d_w rfl (fun _ => zA6 rfl rfl) rfl ?_
      refine d_w rfl (fun _ => zCb underlying77 sizeOf3 rfl rfl rfl rfl (i := k) (by first | rfl | omega) (by omega)) rfl ?_
      refine zBb rfl zAb rfl g4 (fun _ hq => (zAk isAgg3 hq rfl rfl (zCy (i := 1) (j := k) rfl (by first | omega | rfl | (simp only [hso.len, zCu, zCr, zCs, zBf, hnr.1, hlnr.1, zL] <;> omega))))) ?_
      refine d_w rfl (fun _ => zAi (v := .pointer _) rfl rfl) rfl ?_
      refine d_w rfl (fun _ => zBn rfl rfl) rfl ?_
      refine d_w rfl (fun _ => zAf (o := 0) (i := 0) underlying132 rfl sizeOf42 rfl rfl rfl) rfl ?_
      refine d_w rfl (fun _ => zAf (o := 0) (i := 0) underlying42 rfl sizeOf35 rfl rfl rfl) rfl ?_
      refine zBb rfl zAb rfl g4 (fun _ hq => (zAk isAgg35 hq.tail.tail.tail.tail.tail.tail.tail rfl rfl (show Ats _ _ _ _ [_] from Ats.part hb 0 1))) ?_
      refine d_w rfl (fun _ => zA6 rfl rfl) rfl ?_
      refine d_w rfl (fun _ => zBk underlying35 sizeOf3 rfl rfl rfl rfl (i := h) rfl hh2) rfl ?_
      refine zBb rfl zAb rfl g4 (fun _ hq => (zAk isAgg3 hq.tail.tail.tail.tail.tail.tail.tail rfl rfl hx2)) ?_
      refine d_w rfl (fun _ => zAf (o := 1) (i := 1) underlying79 rfl sizeOf3 rfl rfl rfl) rfl ?_
      refine zBb rfl zAb rfl g4 (fun _ hq => (zAk isAgg3 hq rfl rfl (zD5 (i := 5) (o := 1) rfl (by first | omega | rfl | (simp only [hso.len, zCu, zCr, zCs, zBf, hnr.1, hlnr.1, zL] <;> omega))))) ?_
      refine d_w rfl (fun _ => zBq rfl rfl rfl rfl (by omega) (by omega)) rfl ?_
      refine d_w rfl (fun _ => zA6 rfl rfl) rfl ?_
      refine d_w rfl (fun _ => zBq rfl rfl rfl rfl (by omega) (by omega)) rfl ?_
      refine d_w rfl (fun _ => zHg rfl rfl rfl rfl (by omega) (by omega)) rfl ?_
      refine d_w rfl (fun _ => zCb underlying77 sizeOf3 rfl rfl rfl rfl (i := k) (by first | rfl | omega) (by omega)) rfl ?_
      refine zBm rfl ?_
      refine zDr (i := 1) (j := k) zAb sizeOf3 rfl rfl rfl rfl g4 rfl (by first | omega | rfl | (simp only [hso.len, zCu, zCr, zCs, zBf, hnr.1, hlnr.1, zL] <;> omega)) (fun kg gw => ?_)
      refine zAe (qn ?_)
      refine zBh ?_
      refine zAn (zAd (gn _ _ (zAc (w_p (zBq rfl rfl rfl rfl (by omega) (by omega)) rfl (zBe rfl rfl (zAe (zAd (gl _ _ (nxI (c.lots.length - (k + 1)) (by omega) ?_)))))))))
      first
        | (have ho := left_no (c := c) (s := s) (h := h) (g := (turnTo c s h (hourTo c s h).2 (hourTo c s h).1 c.lots.length).2) (l0 := (hourTo c s h).2) hk2 (by first | exact .inl (by omega) | exact .inr (by omega))
           exact ⟨k + 1, rfl, by omega, rfl, by rw [ho]; exact gw.tail⟩)
        | exact ⟨k + 1, rfl, by omega, rfl, by rw [left_yes hk2 (by omega) (by omega) (by rw [hta])]; exact gw.tail⟩
     try simp only [zS] at gp
     refine zAx (zAn (zAd (gn _ _ (zAc (w_p (zBq rfl rfl rfl rfl (by omega) (by omega)) rfl (zBe rfl rfl (zAe (zAd (gl _ _ (nxI (c.lots.length - (k + 1)) (by omega) ?_))))))))))
     first
       | (have ho := left_no (c := c) (s := s) (h := h) (g := (turnTo c s h (hourTo c s h).2 (hourTo c s h).1 c.lots.length).2) (l0 := (hourTo c s h).2) hk2 (by first | exact .inl (by omega) | exact .inr (by omega))
          exact ⟨k + 1, rfl, by omega, rfl, by rw [ho]; exact g3.tail⟩)
       | exact ⟨k + 1, rfl, by omega, rfl, by rw [left_yes hk2 (by omega) (by omega) (by rw [hta])]; exact g3.tail⟩
    try simp only [zS] at go
    refine zAj rfl rfl rfl ?_
    refine zAj rfl rfl rfl ?_
    refine zAj rfl rfl rfl ?_
    refine zAj rfl rfl rfl ?_
    refine w_p (zBg (v := _) rfl rfl rfl rfl) rfl (zAe (zAd (gv _ _ (zB7 rfl rfl ?_))))
    refine zAx (zAn (zAd (gn _ _ (zAc (w_p (zBq rfl rfl rfl rfl (by omega) (by omega)) rfl (zBe rfl rfl (zAe (zAd (gl _ _ (nxI (c.lots.length - (k + 1)) (by omega) ?_))))))))))
    first
      | (have ho := left_no (c := c) (s := s) (h := h) (g := (turnTo c s h (hourTo c s h).2 (hourTo c s h).1 c.lots.length).2) (l0 := (hourTo c s h).2) hk2 (by first | exact .inl (by omega) | exact .inr (by omega))
         exact ⟨k + 1, rfl, by omega, rfl, by rw [ho]; exact g3.tail⟩)
      | exact ⟨k + 1, rfl, by omega, rfl, by rw [left_yes hk2 (by omega) (by omega) (by rw [hta])]; exact g3.tail⟩
   try simp only [zS] at gm
   refine zBy (zAq (zAq (zBc (q_ng_normal ?_))))
   refine zAn (zAd (gW _ _ (zAc (w_p (zBq rfl rfl rfl rfl (by omega) (by omega)) rfl (zBe rfl rfl (zAe (zAd (gT _ _ (nxI (c.heat.length + 1 - (h + 1)) (by omega) ?_)))))))))
   have hkl : k = c.lots.length := by omega
   subst hkl
   exact ⟨h + 1, rfl, by omega, rfl, hs⟩
  exfalso
  try simp only [zS] at gd
  omega

theorem getA_mem {α : Type} [DecidableEq α] {a : α} {u : Value} : ∀ {l : List (α × Value × Nat)}, getA a l = some u → ∃ q ∈ l, q.1 = a ∧ q.2.1 = u
  | [], h => by simp [getA] at h
  | q :: l, h => by
    by_cases e : q.1 = a
    · simp only [getA, if_pos e] at h
      exact ⟨q, .head _, e, by simpa using h⟩
    · simp only [getA, if_neg e] at h
      obtain ⟨x, hx, h1, h2⟩ := getA_mem h
      exact ⟨x, .tail _ hx, h1, h2⟩
theorem zFr {w0 w : World} {X M F : List (Nat × Obj)} (c : Cargo) (p : AtT) (but cb mm : Nat) (hk : CK w0 F c p but cb mm) (s : List Int) (hso : SOk s) (hM : Memo c mm M) (hs : St w0 w (X ++ (M ++ F))) :
    Con Tryz.prog 59 [.pointer (some ⟨cb, 0, none⟩), ia s] w fun v w' => ∃ M', v = ia (times c s) ∧ Memo c mm M' ∧ St w0 w' (X ++ (M' ++ F)) := by
  obtain ⟨es, ck, rfl, hok, hlen, hes⟩ := hM
  have g3 : St w0 w ((mm, .map (ents (fun l : List Int => ia l) es).toArray ck) :: (X ++ F)) := hs.perm (zAa X [_] F)
  cases hf : getA s es with
  | none =>
    refine (c59n c p but cb mm hk.app s hso es ck hlen hf g3).mono ?_
    rintro v w' ⟨rfl, g0⟩
    refine ⟨[_], rfl, ⟨_, _, rfl, hok.put _ _, fun q hq => ?_, fun q hq => ?_⟩, g0.perm (zAa [_] X F)⟩
    · rcases zIf hq with ⟨h1, _⟩ | h
      · rw [h1]; exact hso.len
      · exact hlen q h
    · rcases zIf hq with ⟨h1, h2⟩ | h
      · rw [h1, h2]
      · exact hes q h
  | some u =>
    obtain ⟨q, hq, h1, h2⟩ := getA_mem hf
    have h3 := hes q hq
    rw [h1, h2] at h3
    subst h3
    refine (c59f c p but cb mm hk.app s hso es ck hlen _ (zBf c s) hf g3).mono ?_
    rintro v w' ⟨rfl, g0⟩
    exact ⟨[_], rfl, ⟨es, ck, rfl, hok, hlen, hes⟩, g0.perm (zAa [_] X F)⟩
end Go.Proofs.Ut
/- Plain facts of the turn layer: what was seen, truths one after the other, as lists of eight numbers. No conditions. -/
namespace Go.Rt.Tu
open Go.Rt.Ha (firstE failE felt spanL upto bit listL fewest Bunch zDf felt_in zF7 at_ zC1 zGz upto_nodup zE4)
theorem zIc {c : Cargo} {but i n : Nat} {hold : Int} {t : List Int} (hi : i < c.seen.length) (hn : c.seen[i].lot = (n : Int)) {l : Lot} (hl : lotAt c n = l) : okAt c but hold t i = !((decide (bit but i = 0) && decide (l.hold = hold)) && (decide (t.getD n 0 ≤ c.seen[i].hour) != c.seen[i].turned)) := by
  subst hl
  have e : c.seen[i].lot.toNat = n := by omega
  unfold okAt; rw [seen_at hi, e]
theorem okAt_1 {c : Cargo} {but i n : Nat} {hold : Int} {t : List Int} (hi : i < c.seen.length) (hn : c.seen[i].lot = (n : Int)) (h : ¬ bit but i = 0) : okAt c but hold t i = true := by
  rw [zIc hi hn rfl, decide_eq_false h]; rfl
theorem okAt_2 {c : Cargo} {but i n : Nat} {hold : Int} {t : List Int} (hi : i < c.seen.length) (hn : c.seen[i].lot = (n : Int)) {l : Lot} (hl : lotAt c n = l) (h : ¬ l.hold = hold) : okAt c but hold t i = true := by
  rw [zIc hi hn hl, decide_eq_false h]; simp
theorem okAt_3 {c : Cargo} {but i n : Nat} {hold : Int} {t : List Int} (hi : i < c.seen.length) (hn : c.seen[i].lot = (n : Int)) (h : decide (t.getD n 0 ≤ c.seen[i].hour) = c.seen[i].turned) : okAt c but hold t i = true := by
  rw [zIc hi hn rfl, h]; simp
theorem okAt_no {c : Cargo} {but i n : Nat} {hold : Int} {t : List Int} (hi : i < c.seen.length) (hn : c.seen[i].lot = (n : Int)) {l : Lot} (hl : lotAt c n = l) (h1 : bit but i = 0) (h2 : l.hold = hold) (h3 : ¬ decide (t.getD n 0 ≤ c.seen[i].hour) = c.seen[i].turned) : okAt c but hold t i = false := by
  have h4 : (decide (t.getD n 0 ≤ c.seen[i].hour) != c.seen[i].turned) = true := by rw [bne_iff_ne]; exact h3
  rw [zIc hi hn hl, decide_eq_true h1, decide_eq_true h2, h4]; rfl
theorem zD3 {c : Cargo} {but i : Nat} {hold : Int} {t : List Int} (h : seenTo c but hold t i = true) (h2 : okAt c but hold t i = true) : seenTo c but hold t (i + 1) = true := by rw [seenTo, h, h2]; rfl
theorem zHl {c : Cargo} {but i : Nat} {hold : Int} {t : List Int} (h : okAt c but hold t i = false) : ∀ n, i < n → seenTo c but hold t n = false
  | 0, hn => by omega
  | n + 1, hn => by
    rw [seenTo]
    by_cases e : i = n
    · subst e; rw [h, Bool.and_false]
    · rw [zHl h n (by omega)]; rfl
def mkG (hold w : Int) (g : List Int) (m : Nat) : List Int := hold :: w :: (g ++ [(m : Int)])
theorem zHn {hold w : Int} {g : List Int} {m : Nat} (h : g.length = 5) : (mkG hold w g m).length = 8 := by simp [mkG, h]
theorem mkG_set {hold w x : Int} {g : List Int} {m d : Nat} (hd : d < g.length) : (mkG hold w g m).set (2 + d) x = mkG hold w (g.set d x) m := by
  unfold mkG
  rw [show 2 + d = d + 1 + 1 by omega, List.set_cons_succ, List.set_cons_succ, List.set_append_left _ _ hd]
theorem mkG_t {hold w : Int} {g : List Int} {m : Nat} (h : g.length = 5) : (mkG hold w g m).getD 7 0 = (m : Int) := by
  match g, h with
  | [a, b, c, d, e], _ => rfl
theorem mkG_g {hold w : Int} {g : List Int} {m i : Nat} (h : g.length = 5) (hi : i < 5) : (mkG hold w g m).getD (2 + i) 0 = g.getD i 0 := by
  unfold mkG
  rw [show 2 + i = i + 1 + 1 by omega]
  simp [List.getD, List.getElem?_append_left (show i < g.length by omega)]
theorem mkG_inj {hold hold' w w' : Int} {g g' : List Int} {m m' : Nat} (h : g.length = 5) (h' : g'.length = 5) (e : mkG hold w g m = mkG hold' w' g' m') : w = w' ∧ g = g' := by
  unfold mkG at e
  injection e with _ e
  injection e with e1 e
  exact ⟨e1, (List.append_inj e (by omega)).1⟩
theorem zG4 {h : List Int} (hl : h.length ≤ 5) : (pad5 h).length = 5 := by simp [pad5]; omega
theorem pad5_at (h : List Int) (b : Nat) : (pad5 h).getD b 0 = h.getD b 0 := by
  unfold pad5
  by_cases hb : b < h.length
  · simp [List.getD, List.getElem?_append_left hb]
  · rw [List.getD, List.getD, List.getElem?_append_right (by omega), List.getElem?_eq_none (by omega : h.length ≤ b)]
    by_cases h2 : b - h.length < 5 - h.length
    · simp [List.getElem?_replicate, h2]
    · simp [List.getElem?_replicate, h2]
theorem pad5_inj {a b : List Int} (h : a.length = b.length) (e : pad5 a = pad5 b) : a = b := by
  unfold pad5 at e
  exact (List.append_inj e h).1
theorem cur_pad5 {cur pre : List Int} {d : Nat} (hl : cur.length = 5) (hp : pre.length = d) (hd : d ≤ 5) (hk : cur.take d = pre) (hz : ∀ j, d ≤ j → cur.getD j 0 = 0) : cur = pad5 pre := by
  apply List.ext_getElem?
  intro i
  by_cases hi : i < 5
  · have e1 : cur[i]? = some (cur.getD i 0) := by rw [List.getD, List.getElem?_eq_getElem (by omega)]; rfl
    have e2 : (pad5 pre)[i]? = some ((pad5 pre).getD i 0) := by rw [List.getD, List.getElem?_eq_getElem (by rw [zG4 (by omega)]; exact hi)]; rfl
    rw [e1, e2, pad5_at]
    by_cases h : i < d
    · subst hk
      rw [List.getD, List.getD, List.getElem?_take, if_pos h]
    · rw [hz i (by omega), List.getD, List.getElem?_eq_none (by omega)]; rfl
  · rw [List.getElem?_eq_none (by omega), List.getElem?_eq_none (by rw [zG4 (by omega)]; omega)]
theorem zHv (c : Cargo) (m : Nat) : (bun c m).length = c.lots.length := by simp [bun]
theorem bun_get {c : Cargo} {m d : Nat} (hd : d < c.lots.length) (h2 : d < (bun c m).length) : (bun c m)[d] = bunAt c m d := by simp [bun]
def segF (c : Cargo) (hold : Nat) (w : Int) (d : Nat) (pre : List Int) : List (List Int) := ((felt ((bun c (ofH c hold)).drop d)).map (pre ++ ·)).map (mkS hold w (ofH c hold))
def segK (c : Cargo) (but hold : Nat) (w : Int) (d : Nat) (pre : List Int) : List (List Int) := (segF c hold w d pre).filter (okS c but hold)
theorem segF_leaf {c : Cargo} {hold d : Nat} {w : Int} {pre : List Int} (hd : c.lots.length ≤ d) : segF c hold w d pre = [mkS hold w (ofH c hold) pre] := by
  unfold segF; rw [List.drop_of_length_le (by rw [zHv]; exact hd)]; simp [felt]
theorem segK_leaf {c : Cargo} {but hold d : Nat} {w : Int} {pre : List Int} (hd : c.lots.length ≤ d) : segK c but hold w d pre = if okS c but hold (mkS hold w (ofH c hold) pre) = true then [mkS hold w (ofH c hold) pre] else [] := by
  unfold segK; rw [segF_leaf hd, List.filter_cons, List.filter_nil]
def restF (c : Cargo) (hold : Nat) (w : Int) (d : Nat) (pre xs : List Int) : List (List Int) := xs.flatMap fun x => segF c hold w (d + 1) (pre ++ [x])
def restK (c : Cargo) (but hold : Nat) (w : Int) (d : Nat) (pre xs : List Int) : List (List Int) := xs.flatMap fun x => segK c but hold w (d + 1) (pre ++ [x])
theorem segF_node {c : Cargo} {hold d : Nat} {w : Int} {pre : List Int} (hd : d < c.lots.length) : segF c hold w d pre = restF c hold w d pre (spanL (bunAt c (ofH c hold) d).lo (bunAt c (ofH c hold) d).hi) := by
  have hl : d < (bun c (ofH c hold)).length := by rw [zHv]; exact hd
  unfold segF restF
  rw [List.drop_eq_getElem_cons hl, bun_get hd]
  simp only [felt, List.map_flatMap, List.map_map]
  refine congrArg (List.flatMap · _) ?_
  funext x
  unfold segF
  simp only [List.map_map]
  refine List.map_congr_left fun y _ => ?_
  simp
theorem filter_flat {α β : Type} (p : β → Bool) (f : α → List β) : ∀ l : List α, (l.flatMap f).filter p = l.flatMap fun x => (f x).filter p
  | [] => rfl
  | a :: l => by simp only [List.flatMap_cons, List.filter_append, filter_flat p f l]
theorem segK_node {c : Cargo} {but hold d : Nat} {w : Int} {pre : List Int} (hd : d < c.lots.length) : segK c but hold w d pre = restK c but hold w d pre (spanL (bunAt c (ofH c hold) d).lo (bunAt c (ofH c hold) d).hi) := by
  unfold segK restK; rw [segF_node hd]; unfold restF; rw [filter_flat]; rfl
theorem zHm {c : Cargo} {hold d : Nat} {w : Int} {pre : List Int} {lo : Int} {q n : Nat} (h : q < n) : restF c hold w d pre (upto (lo + q) (n - q)) = segF c hold w (d + 1) (pre ++ [lo + q]) ++ restF c hold w d pre (upto (lo + (q + 1 : Nat)) (n - (q + 1))) := by rw [zE4 h]; rfl
theorem zE6 {c : Cargo} {hold d : Nat} {w : Int} {pre : List Int} {lo : Int} {q n : Nat} (h : n ≤ q) : restF c hold w d pre (upto (lo + q) (n - q)) = [] := by rw [show n - q = 0 by omega]; rfl
theorem restK_next {c : Cargo} {but hold d : Nat} {w : Int} {pre : List Int} {lo : Int} {q n : Nat} (h : q < n) : restK c but hold w d pre (upto (lo + q) (n - q)) = segK c but hold w (d + 1) (pre ++ [lo + q]) ++ restK c but hold w d pre (upto (lo + (q + 1 : Nat)) (n - (q + 1))) := by rw [zE4 h]; rfl
theorem zE5 {c : Cargo} {but hold d : Nat} {w : Int} {pre : List Int} {lo : Int} {q n : Nat} (h : n ≤ q) : restK c but hold w d pre (upto (lo + q) (n - q)) = [] := by rw [show n - q = 0 by omega]; rfl
def warmF (c : Cargo) (hold : Nat) (ws : List Int) : List (List Int) := ws.flatMap fun w => segF c hold w 0 []
def warmK (c : Cargo) (but hold : Nat) (ws : List Int) : List (List Int) := ws.flatMap fun w => segK c but hold w 0 []
theorem warmK_all (c : Cargo) (but hold : Nat) : warmK c but hold (spanL (holdAt c hold).1 (holdAt c hold).2) = truths c but hold := by
  unfold warmK truths
  refine congrArg (List.flatMap · _) ?_
  funext w
  unfold segK segF allW
  simp
theorem zHi {c : Cargo} {hold : Nat} {lo : Int} {q n : Nat} (h : q < n) : warmF c hold (upto (lo + q) (n - q)) = segF c hold (lo + q) 0 [] ++ warmF c hold (upto (lo + (q + 1 : Nat)) (n - (q + 1))) := by rw [zE4 h]; rfl
theorem warmK_next {c : Cargo} {but hold : Nat} {lo : Int} {q n : Nat} (h : q < n) : warmK c but hold (upto (lo + q) (n - q)) = segK c but hold (lo + q) 0 [] ++ warmK c but hold (upto (lo + (q + 1 : Nat)) (n - (q + 1))) := by rw [zE4 h]; rfl
theorem warmK_done {c : Cargo} {but hold : Nat} {lo : Int} {q n : Nat} (h : n ≤ q) : warmK c but hold (upto (lo + q) (n - q)) = [] := by rw [show n - q = 0 by omega]; rfl
theorem bun_in {c : Cargo} (hc : c.Ok) {m d : Nat} (hd : d < c.lots.length) : 0 ≤ (bunAt c m d).lo ∧ (bunAt c m d).lo ≤ (bunAt c m d).hi ∧ (bunAt c m d).hi ≤ 40 ∧ (bunAt c m d).lo = c.lots[d].lo := by
  have h := hc.lot _ (List.getElem_mem hd)
  have h1 := h.lo
  have h2 := h.le
  have h3 := h.hi
  unfold bunAt
  rw [zD1 hd]
  dsimp only
  split <;> omega
theorem felt_five {c : Cargo} (hc : c.Ok) {m : Nat} {h : List Int} (hh : h ∈ felt (bun c m)) : h.length = c.lots.length ∧ ∀ i, 0 ≤ h.getD i 0 ∧ h.getD i 0 ≤ 40 := by
  obtain ⟨h1, h2⟩ := (felt_in _ _).1 hh
  rw [zHv] at h1
  refine ⟨h1, fun i => ?_⟩
  by_cases hi : i < c.lots.length
  · have := h2 i (by rw [zHv]; exact hi)
    rw [bun_get hi] at this
    have hb := bun_in hc (m := m) hi
    have e : at_ h i = h.getD i 0 := rfl
    rw [e] at this
    omega
  · have : h.getD i 0 = 0 := by rw [List.getD, List.getElem?_eq_none (by omega)]; rfl
    omega
theorem all_nodup {c : Cargo} (hc : c.Ok) (hold : Nat) (w : Int) : (segF c hold w 0 []).Nodup := by
  have h1 := zF7 (bun c (ofH c hold))
  have h2 : ∀ h ∈ felt (bun c (ofH c hold)), h.length = c.lots.length := fun h hh => (felt_five hc hh).1
  unfold segF
  rw [List.drop_zero]
  revert h1 h2
  generalize felt (bun c (ofH c hold)) = L
  have hl4 := hc.ll
  induction L with
  | nil => intro _ _; simp
  | cons x L ih =>
    intro hn hl
    rw [List.nodup_cons] at hn
    rw [List.map_cons, List.map_cons, List.nodup_cons]
    refine ⟨fun hm => ?_, ih hn.2 fun h hh => hl h (.tail _ hh)⟩
    obtain ⟨y, hy, e⟩ := List.mem_map.1 hm
    obtain ⟨z, hz, rfl⟩ := List.mem_map.1 hy
    rw [List.nil_append, List.nil_append] at e
    have l1 := hl x (.head _)
    have l2 := hl z (.tail _ hz)
    have := pad5_inj (by omega) (mkG_inj (zG4 (by omega)) (zG4 (by omega)) e).2
    subst this; exact hn.1 hz
theorem zG1 {c : Cargo} (hc : c.Ok) {hold : Nat} {w : Int} {s : List Int} (h : s ∈ segF c hold w 0 []) : ∃ g, g.length = 5 ∧ (∀ i, 0 ≤ g.getD i 0 ∧ g.getD i 0 ≤ 40) ∧ s = mkG hold w g (ofH c hold) := by
  unfold segF at h
  rw [List.drop_zero] at h
  obtain ⟨y, hy, rfl⟩ := List.mem_map.1 h
  obtain ⟨z, hz, rfl⟩ := List.mem_map.1 hy
  have := felt_five hc hz
  have hl4 := hc.ll
  exact ⟨pad5 ([] ++ z), zG4 (by simp; omega), fun i => by rw [pad5_at]; exact this.2 i, rfl⟩
theorem warm_nodup {c : Cargo} (hc : c.Ok) (hold : Nat) : ∀ ws : List Int, ws.Nodup → (warmF c hold ws).Nodup
  | [], _ => by simp [warmF]
  | w :: ws, hn => by
    rw [List.nodup_cons] at hn
    unfold warmF
    rw [List.flatMap_cons, List.nodup_append]
    refine ⟨all_nodup hc hold w, warm_nodup hc hold ws hn.2, fun a ha b hb e => ?_⟩
    subst e
    obtain ⟨w', hw', hb⟩ := List.mem_flatMap.1 hb
    obtain ⟨g, h1, _, rfl⟩ := zG1 hc ha
    obtain ⟨g', h1', _, e⟩ := zG1 hc hb
    have := (mkG_inj h1 h1' e).1
    subst this
    exact hn.1 hw'
theorem start_last {c : Cargo} (hc : c.Ok) (hold : Nat) (ws : List Int) : [-1,0,0,0,0,0,0,0] ∉ warmF c hold ws := by
  intro h
  obtain ⟨w, _, h⟩ := List.mem_flatMap.1 h
  obtain ⟨g, _,_, e⟩ := zG1 hc h
  unfold mkG at e
  injection e with e _
  omega
theorem sok_mk {c : Cargo} (hc : c.Ok) {hold : Nat} {w : Int} (hw : 0 ≤ w ∧ w ≤ 6) {g : List Int} (hg : g.length = 5) (h : ∀ i, 0 ≤ g.getD i 0 ∧ g.getD i 0 ≤ 40) : SOk (mkG hold w g (ofH c hold)) := by
  have hl4 := hc.ll
  refine ⟨zHn hg, hw, fun i hi => ?_, ?_⟩
  · rw [mkG_g hg hi]; have := h i; omega
  · rw [mkG_t hg]; have := zId c hold (i := c.lots.length) (by omega); unfold ofH; omega
theorem zDz {c : Cargo} (hc : c.Ok) {but hold : Nat} (hh : hold < c.holds.length) {s : List Int} (h : s ∈ truths c but hold) : SOk s ∧ ∃ w g, g.length = 5 ∧ (∀ i, 0 ≤ g.getD i 0 ∧ g.getD i 0 ≤ 40) ∧ s = mkG hold w g (ofH c hold) := by
  rw [← warmK_all] at h
  obtain ⟨w, hw, h⟩ := List.mem_flatMap.1 h
  unfold segK at h
  obtain ⟨g, h1, h2, rfl⟩ := zG1 hc (List.mem_filter.1 h).1
  have hw2 := zC1.1 hw
  rw [hold_at hh] at hw2
  have h3 := hc.hold _ (List.getElem_mem hh)
  exact ⟨sok_mk hc (by omega) h1 h2, w, g, h1, h2, rfl⟩
theorem pre_next5 {d : Nat} {pre : List Int} {x : Int} (hp : pre.length = d) (h : ∀ j, 0 ≤ pre.getD j 0 ∧ pre.getD j 0 ≤ 40) (hx : 0 ≤ x ∧ x ≤ 40) : ∀ j, 0 ≤ (pre ++ [x]).getD j 0 ∧ (pre ++ [x]).getD j 0 ≤ 40 := by
  intro j
  by_cases e : j < d
  · have e2 : (pre ++ [x]).getD j 0 = pre.getD j 0 := by simp [List.getD, List.getElem?_append_left (by omega : j < pre.length)]
    rw [e2]; exact h j
  · by_cases e3 : j = d
    · subst e3
      have e2 : (pre ++ [x]).getD j 0 = x := by simp [List.getD, ← hp]
      rw [e2]; exact hx
    · have e2 : (pre ++ [x]).getD j 0 = 0 := by rw [List.getD, List.getElem?_eq_none (by simp; omega)]; rfl
      rw [e2]; omega
end Go.Rt.Tu
set_option maxRecDepth 20000
namespace Go.Proofs.Ut
open Go.Proofs.Tryz
open Go.Rt Go.Rt.Tu
open Go.Rt.Ha (firstE zCf zBu zB1 failE felt spanL upto zC1 listL fewest fewTo bit Bunch before fewStep zCm zDd zCc zCx zC6 zCw zB8)
attribute [local irreducible] WL WC Con Yd At Ats Sl Agree DW

theorem c92 {w0 w : World} {F : List (Nat × Obj)} (c : Cargo) (p : AtT) (but cb mm : Nat) (hk : CK w0 F c p but cb mm) (hco : c.Ok) (hold : Int) (t : List Int) (ht5 : t.length = 5) (hs : St w0 w F) :
  Con Tryz.prog 92 [.pointer (some ⟨cb, 0, none⟩), .int .i64 hold, ia t] w fun v w' => v = .bool (seenOk c but hold t) ∧ St w0 w' F := by
  refine zAu (n := 55) func92 rfl rfl (zNl rfl) ?_
  obtain ⟨ae, ce, ah, ch, al, cl, an, cn⟩ := p
  have hb := hk.l
  have hbt := hk.bt
  have hln := hco.ln
  have hll := hco.ll
  refine zAg (fun K2 gb => (zAc (zDu (l := _) zAb rfl rfl rfl hs (fun b3 w4 ga => ?_))))
  refine zBj rfl rfl (zAe (zAd (gb _ _ (zAg (fun K7 gc => (zAg (fun K9 gd => (zAc (w_p (zAi (v := .pointer _) rfl rfl) rfl (w_p (zBn rfl rfl) rfl ?_))))))))))
  refine w_p (zAf (o := 0) (i := 0) underlying132 rfl sizeOf42 rfl rfl rfl) rfl (w_p (zAf (o := 4) (i := 4) underlying42 rfl sizeOf40 rfl rfl rfl) rfl (w_p (zAk isAgg40 ga.tail rfl rfl (show Ats _ _ _ _ [_] from Ats.part hb 4 1)) rfl (w_p (zBo underlying40 rfl rfl) rfl ?_)))
  refine w_p (zAi (v := _) rfl rfl) rfl (zAe (zAd (gd _ _ (zA8 ?_))))
  refine zCd [6,7,8,15,16,17,18,19,20,21,22,23,24,25,26,27,28,29,30,31,32,33,34,35,36,37,38,39,40,41,42,43,44,45,46,47,48,49,50,51,52,53,54] [15] (fun kk vs w => ∃ i : Nat, vs = [.int .i64 i] ∧ i ≤ c.seen.length ∧ kk = c.seen.length - i ∧ seenTo c but hold t i = true ∧ St w0 w ((b3, blk 77 (iv t)) :: F)) (c.seen.length) ?_ ?_
  ·
   exact ⟨0, rfl, by omega, by omega, rfl, ga⟩
  intro k vs μ gl hI gm g3
  obtain ⟨i, rfl, hia, rfl, hsk, hs⟩ := hI
  refine zAg (fun gn ge => (zAc (w_p (zCl rfl rfl rfl rfl) rfl (zAe (zAd (ge _ _ (zAg (fun go gf => (zA1 rfl rfl (fun g4 => ?_) (fun g4 => ?_))))))))))
  ·
   try simp only [zS] at g4
   refine zAx (zAd (gf _ _ (zAg (fun gp g5 => (zA8 ?_)))))
   refine zAg (fun gq gg => ?_)
   have hi2 : i < c.seen.length := by omega
   obtain ⟨bn, on, hbn, hxn⟩ := sl_nrows hk.i.n hi2
   subst hbn
   have hsn := hco.seen _ (List.getElem_mem hi2)
   obtain ⟨no, hno⟩ : ∃ no : Nat, c.seen[i].lot = (no : Int) := ⟨c.seen[i].lot.toNat, by omega⟩
   have hl2 : no < c.lots.length := by omega
   obtain ⟨bx, ox, hbx, hx⟩ := zDy hk.i.l hl2
   subst hbx
   have hla := zD1 hl2
   refine zAc (zBe rfl rfl (w_p (zBk underlying40 sizeOf111 rfl rfl rfl rfl (i := _) rfl (by omega)) rfl (w_p (zA9 (vs := [_,_,_]) isAgg111 sizeOf111 hs.tail rfl rfl hxn) rfl (zA0 (cs := [_,_,_]) zAb zeroValue111 rfl hs (fun gr gt gh => ?_)))))
   refine zBs rfl rfl (zAs (i := 0) (v := .agg #[.int _ _, .int _ _, .bool _]) (vs := [_,_,_]) zAb sizeOf111 rfl rfl rfl rfl rfl (by simp [Value.oneCell']) gh rfl (zNl rfl) (fun gu gi => ?_))
   refine zAe (zAd (gg _ _ (zAg (fun gv g6 => (zCe [] [(0,0),(1,0),(2,0),(3,1),(4,0),(5,0),(6,0),(7,0),(8,0),(9,0),(10,0),(11,0),(12,0),(13,1),(14,0),(15,1),(16,0),(17,0),(18,1),(19,0),(20,0),(21,0),(22,0),(23,0),(24,1),(25,0),(26,1),(27,0),(28,1),(29,0),(30,0),(31,1),(32,0),(33,0)] zB0 (zB5 (by kernel_rfl)) gi (fun gw g0 => ?_))))))
   refine d_w rfl (fun _ => zAi (v := .pointer _) rfl rfl) rfl ?_
   refine d_w rfl (fun _ => zBn rfl rfl) rfl ?_
   refine d_w rfl (fun _ => zAf (o := 5) (i := 1) underlying132 rfl sizeOf3 rfl rfl rfl) rfl ?_
   refine zBb rfl zAb rfl g0 (fun _ hq => (zAk isAgg3 hq.tail.tail rfl rfl (show Ats _ _ _ _ [_] from Ats.part hb 5 1))) ?_
   refine d_w rfl (fun _ => zA6 rfl rfl) rfl ?_
   refine d_w rfl (fun _ => y_shr (x := but) (y := i) rfl rfl rfl rfl (by first | rfl | omega) (by first | rfl | omega) (by first | omega | exact zDe (by omega))) rfl ?_
   refine d_w rfl (fun _ => show Yd _ _ _ _ (.int .i64 ((bit but i : Nat) : Int)) from (y_and (x := _) (y := 1) rfl rfl rfl rfl rfl rfl (by first | omega | exact zDe (by omega)) (by first | omega | exact zDe (by omega)))) rfl ?_
   refine d_w rfl (fun _ => zB3 rfl rfl rfl rfl) rfl ?_
   refine d_w rfl (fun _ => zAi (v := .bool _) rfl rfl) rfl ?_
   refine zDx (fun g7 => ?_) (fun g7 => ?_)
   ·
    try simp only [zS] at g7
    refine zBv rfl (zAp rfl rfl rfl) rfl (fun _ => (zAi (v := .pointer _) rfl rfl)) ?_
    refine zBv rfl (zAp rfl rfl rfl) rfl (fun _ => (zBn rfl rfl)) ?_
    refine zBv rfl (zAp rfl rfl rfl) rfl (fun _ => (zAf (o := 0) (i := 0) underlying132 rfl sizeOf42 rfl rfl rfl)) ?_
    refine zBv rfl (zAp rfl rfl rfl) rfl (fun _ => (zAf (o := 3) (i := 3) underlying42 rfl sizeOf39 rfl rfl rfl)) ?_
    refine zBb rfl (zAp rfl rfl rfl) rfl g0 (fun _ hq => (zAk isAgg39 hq.tail.tail rfl rfl (show Ats _ _ _ _ [_] from Ats.part hb 3 1))) ?_
    refine zBv rfl (zAp rfl rfl rfl) rfl (fun _ => (zAf (o := 0) (i := 0) underlying111 rfl sizeOf3 rfl rfl rfl)) ?_
    refine zBb rfl (zAp rfl rfl rfl) rfl g0 (fun _ hq => (zAk isAgg3 hq rfl rfl (zAl (i := 0) (vs := [_]) rfl rfl))) ?_
    refine zBv rfl (zAp rfl rfl rfl) rfl (fun _ => (zBk underlying39 sizeOf38 rfl rfl rfl rfl (i := no) hno hl2)) ?_
    refine zBv rfl (zAp rfl rfl rfl) rfl (fun _ => (zAf (o := 0) (i := 0) underlying38 rfl sizeOf3 rfl rfl rfl)) ?_
    refine zBb rfl (zAp rfl rfl rfl) rfl g0 (fun _ hq => (zAk isAgg3 hq.tail.tail rfl rfl (show Ats _ _ _ _ [_] from Ats.part hx 0 1))) ?_
    refine zBv rfl (zAp rfl rfl rfl) rfl (fun _ => (zA6 rfl rfl)) ?_
    refine zBv rfl (zAp rfl rfl rfl) rfl (fun _ => (zB3 rfl rfl rfl rfl)) ?_
    refine d_w rfl (fun _ => zAv (v := .bool _) rfl rfl rfl rfl) rfl ?_
    refine d_w rfl (fun _ => zAi (v := .bool _) rfl rfl) rfl ?_
    refine zDx (fun g8 => ?_) (fun g8 => ?_)
    ·
     try simp only [zS] at g8
     refine zBv rfl (zAp rfl rfl rfl) rfl (fun _ => (zAf (o := 0) (i := 0) underlying111 rfl sizeOf3 rfl rfl rfl)) ?_
     refine zBb rfl (zAp rfl rfl rfl) rfl g0 (fun _ hq => (zAk isAgg3 hq rfl rfl (zAl (i := 0) (vs := [_]) rfl rfl))) ?_
     refine zBv rfl (zAp rfl rfl rfl) rfl (fun _ => (zCb underlying77 sizeOf3 rfl rfl rfl rfl (i := no) hno (by omega))) ?_
     refine zBb rfl (zAp rfl rfl rfl) rfl g0 (fun _ hq => (zAk isAgg3 hq rfl rfl (zCy (i := 1) (j := no) rfl (by first | omega | rfl | (simp only [ht5, zL] <;> omega))))) ?_
     refine zBv rfl (zAp rfl rfl rfl) rfl (fun _ => (zAf (o := 1) (i := 1) underlying111 rfl sizeOf3 rfl rfl rfl)) ?_
     refine zBb rfl (zAp rfl rfl rfl) rfl g0 (fun _ hq => (zAk isAgg3 hq rfl rfl (zAl (i := 0) (vs := [_]) rfl rfl))) ?_
     refine zBv rfl (zAp rfl rfl rfl) rfl (fun _ => (zGf rfl rfl rfl rfl)) ?_
     refine zBv rfl (zAp rfl rfl rfl) rfl (fun _ => (zAf (o := 2) (i := 2) underlying111 rfl sizeOf4 rfl rfl rfl)) ?_
     refine zBb rfl (zAp rfl rfl rfl) rfl g0 (fun _ hq => (zAk isAgg4 hq rfl rfl (zAl (i := 0) (vs := [_]) rfl rfl))) ?_
     refine zBv rfl (zAp rfl rfl rfl) rfl (fun _ => (y_neB underlying4 rfl rfl rfl rfl)) ?_
     refine d_w rfl (fun _ => zAv (v := .bool _) rfl rfl rfl rfl) rfl ?_
     refine zBh ?_
     refine zAd (g6 _ _ (zA1 rfl rfl (fun g9 => ?_) (fun g9 => ?_)))
     ·
      try simp only [zS] at g9
      refine zAg (fun gx gj => (zAc (zBj rfl rfl (zAe (zAd (gj _ _ (zA7 (zAy (zAm (zAm (zAy (zAm (zBa (l := [.tmp 6]) (vs := [_]) rfl ⟨⟨rfl, (rfl : _ = Value.bool _)⟩, trivial⟩ ?_)))))))))))))
      first
        | exact ⟨congrArg Value.bool (zHl (okAt_no hi2 hno hla (bit0 (by assumption)) (by assumption) (by assumption)) _ hi2).symm, g0.tail.tail⟩
        | (have hil : i = c.seen.length := by omega
           subst hil
           exact ⟨congrArg Value.bool hsk.symm, g0.tail.tail⟩)
     try simp only [zS] at g9
     refine zAx (zAn (zAd (g5 _ _ (zAc (w_p (zBq rfl rfl rfl rfl (by omega) (by omega)) rfl (zBe rfl rfl (zAe (zAd (g3 _ _ (nxI (c.seen.length - (i + 1)) (by omega) ?_))))))))))
     first
       | exact ⟨i + 1, rfl, by omega, rfl, zD3 hsk (okAt_1 hi2 hno (bit0n (by assumption))), g0.tail⟩
       | exact ⟨i + 1, rfl, by omega, rfl, zD3 hsk (okAt_2 hi2 hno hla (by assumption)), g0.tail⟩
       | exact ⟨i + 1, rfl, by omega, rfl, zD3 hsk (okAt_3 hi2 hno (by assumption)), g0.tail⟩
    try simp only [zS] at g8
    refine zBr rfl rfl rfl rfl ?_
    refine zCt rfl rfl rfl rfl g0 ?_
    refine zBr rfl rfl rfl rfl ?_
    refine zCt rfl rfl rfl rfl g0 ?_
    refine zBr rfl rfl rfl rfl ?_
    refine zCt rfl rfl rfl rfl g0 ?_
    refine zBr rfl rfl rfl rfl ?_
    refine zBr rfl rfl rfl rfl ?_
    refine zCt rfl rfl rfl rfl g0 ?_
    refine zBr rfl rfl rfl rfl ?_
    refine d_w rfl (fun _ => zBg (v := _) rfl rfl rfl rfl) rfl ?_
    refine zBh ?_
    refine zAd (g6 _ _ (zB7 rfl rfl ?_))
    refine zAx (zAn (zAd (g5 _ _ (zAc (w_p (zBq rfl rfl rfl rfl (by omega) (by omega)) rfl (zBe rfl rfl (zAe (zAd (g3 _ _ (nxI (c.seen.length - (i + 1)) (by omega) ?_))))))))))
    first
      | exact ⟨i + 1, rfl, by omega, rfl, zD3 hsk (okAt_1 hi2 hno (bit0n (by assumption))), g0.tail⟩
      | exact ⟨i + 1, rfl, by omega, rfl, zD3 hsk (okAt_2 hi2 hno hla (by assumption)), g0.tail⟩
      | exact ⟨i + 1, rfl, by omega, rfl, zD3 hsk (okAt_3 hi2 hno (by assumption)), g0.tail⟩
   try simp only [zS] at g7
   refine zBr rfl rfl rfl rfl ?_
   refine zBr rfl rfl rfl rfl ?_
   refine zBr rfl rfl rfl rfl ?_
   refine zBr rfl rfl rfl rfl ?_
   refine zCt rfl rfl rfl rfl g0 ?_
   refine zBr rfl rfl rfl rfl ?_
   refine zCt rfl rfl rfl rfl g0 ?_
   refine zBr rfl rfl rfl rfl ?_
   refine zBr rfl rfl rfl rfl ?_
   refine zCt rfl rfl rfl rfl g0 ?_
   refine zBr rfl rfl rfl rfl ?_
   refine zBr rfl rfl rfl rfl ?_
   refine d_w rfl (fun _ => zBg (v := _) rfl rfl rfl rfl) rfl ?_
   refine d_w rfl (fun _ => zAi (v := .bool _) rfl rfl) rfl ?_
   refine zBr rfl rfl rfl rfl ?_
   refine zCt rfl rfl rfl rfl g0 ?_
   refine zBr rfl rfl rfl rfl ?_
   refine zCt rfl rfl rfl rfl g0 ?_
   refine zBr rfl rfl rfl rfl ?_
   refine zCt rfl rfl rfl rfl g0 ?_
   refine zBr rfl rfl rfl rfl ?_
   refine zBr rfl rfl rfl rfl ?_
   refine zCt rfl rfl rfl rfl g0 ?_
   refine zBr rfl rfl rfl rfl ?_
   refine d_w rfl (fun _ => zBg (v := _) rfl rfl rfl rfl) rfl ?_
   refine zBh ?_
   refine zAd (g6 _ _ (zB7 rfl rfl ?_))
   refine zAx (zAn (zAd (g5 _ _ (zAc (w_p (zBq rfl rfl rfl rfl (by omega) (by omega)) rfl (zBe rfl rfl (zAe (zAd (g3 _ _ (nxI (c.seen.length - (i + 1)) (by omega) ?_))))))))))
   first
     | exact ⟨i + 1, rfl, by omega, rfl, zD3 hsk (okAt_1 hi2 hno (bit0n (by assumption))), g0.tail⟩
     | exact ⟨i + 1, rfl, by omega, rfl, zD3 hsk (okAt_2 hi2 hno hla (by assumption)), g0.tail⟩
     | exact ⟨i + 1, rfl, by omega, rfl, zD3 hsk (okAt_3 hi2 hno (by assumption)), g0.tail⟩
  try simp only [zS] at g4
  refine zBy (zAq (zAq (zBc (zAd (gc _ _ (zAg (fun gy gk => (zAc (zBj rfl rfl (zAe (zAd (gk _ _ (zA7 (zBa (l := [.tmp 6]) (vs := [_]) rfl ⟨⟨rfl, (rfl : _ = Value.bool _)⟩, trivial⟩ ?_))))))))))))))
  first
    | exact ⟨congrArg Value.bool (zHl (okAt_no hi2 hno hla (bit0 (by assumption)) (by assumption) (by assumption)) _ hi2).symm, hs.tail⟩
    | (have hil : i = c.seen.length := by omega
       subst hil
       exact ⟨congrArg Value.bool hsk.symm, hs.tail⟩)

end Go.Proofs.Ut
/- The walking engine, part 22: structs of numbers and arrays of numbers, compared as lists. No conditions. -/
namespace Go.Rt
open Go.RowKit
variable {r : Option Nat} {P : Program} {ops : Array Oper} {n : Nat} {ρ : Nat → Value} {ds : List Deferred} {w w0 : World} {L : List (Nat × Obj)}
  {d : Option Tmp} {ty : TypeId} {p : String} {e : Array Edge} {g : Option (Nat × Bool)}
theorem y_eqKey {t t2 : TypeId} {x y : Operand} {l m : List Int} {a b : Value} {k : Nat} (hg : P.eqGuardType P.depth t = false) (hK : KeyTy P t k) (hl : l.length = k) (hm : m.length = k) (ho : okO n x = true) (ho1 : okO n y = true) (hx : ev ρ x = a) (hy : ev ρ y = b) (ha : a = ia l) (hb : b = ia m) :
    Yd P (A n ρ ds) ⟨d, .binOp .eql t x y t2, ty, p, e, g⟩ w (.bool (decide (l = m))) := by
  subst ha hb
  have h1 : (Op.equalIn 10000 t (ia l) (ia m)).run P w = .ok (decide (l = m)) w := hK.eq l m w hl hm
  have h2 := zEd (P := P) (w := w) (op := .eql) (x := x) (y := y) (a := (iv l).toArray) (b := (iv m).toArray) hg
  unfold Yd
  simp only [execOp, zB2 ho, zB2 ho1, hx, hy, Sem.run_bind]
  have h2' : (eqGuard .eql t x y (ia l) (ia m)).run P w = .ok () w := h2
  have h3 : (binOp .eql t (ia l) (ia m)).run P w = .ok (.bool (decide (l = m))) w := by
    unfold ia at h1 ⊢
    rw [run_eql_struct, h1]
    rfl
  rw [h2']
  simp only [Result.andThen_ok]
  rw [h3]
  rfl
end Go.Rt
set_option maxRecDepth 20000
namespace Go.Proofs.Ut
open Go.Proofs.Tryz
open Go.Rt Go.Rt.Tu
open Go.Rt.Ha (firstE zCf zBu zB1 failE felt spanL upto zC1 listL fewest fewTo bit Bunch before fewStep zCm zDd zCc zCx zC6 zCw zB8)
attribute [local irreducible] WL WC Con Yd At Ats Sl Agree DW

theorem st_in {w0 w : World} {P X B R : List (Nat × Obj)} (h : St w0 w (P ++ (X ++ (B ++ R)))) : St w0 w ((P ++ (X ++ B)) ++ R) := by simpa only [List.append_assoc] using h
theorem st_out {w0 w : World} {P X B R : List (Nat × Obj)} (h : St w0 w ((P ++ (X ++ B)) ++ R)) : St w0 w (P ++ (X ++ (B ++ R))) := by simpa only [List.append_assoc] using h
theorem times_in {w0 w : World} {P X B M F : List (Nat × Obj)} (c : Cargo) (p : AtT) (but cb mm : Nat) (hk : CK w0 F c p but cb mm) (s : List Int) (hso : SOk s) (hM : Memo c mm M) (hs : St w0 w (P ++ (X ++ (B ++ (M ++ F))))) :
    Con Tryz.prog 59 [.pointer (some ⟨cb, 0, none⟩), ia s] w fun v w' => ∃ M', v = ia (times c s) ∧ Memo c mm M' ∧ St w0 w' (P ++ (X ++ (B ++ (M' ++ F)))) :=
  (zFr c p but cb mm hk s hso hM (st_in hs)).mono fun _ _ ⟨M', h1, h2, h3⟩ => ⟨M', h1, h2, st_out h3⟩
def NextC (c : Cargo) (but cb mm hold bp bh bs bla bsn bY bn : Nat) (Ls : List (List Int)) (J : Nat → List (Nat × Obj) → Prop) (Js : List (Nat × Obj) → Prop) (yv : Value) (w0 : World) (F : List (Nat × Obj)) (rem : Nat) : Prop :=
  ∀ (wm : Int) (d : Nat) (pre g last : List Int) (i : Nat) (R RF : List (List Int)) (B M X : List (Nat × Obj)) (w : World),(0 ≤ wm ∧ wm ≤ 6) → d + rem = c.lots.length → pre.length = d → (∀ j, 0 ≤ pre.getD j 0 ∧ pre.getD j 0 ≤ 40) → g.length = 5 → g.take d = pre → (∀ j, c.lots.length ≤ j → g.getD j 0 = 0) → i ≤ Ls.length →
    Ls.drop i = segK c but hold wm d pre ++ R → last.length = 8 → (segF c hold wm d pre ++ RF).Nodup → last ∉ segF c hold wm d pre ++ RF → J i B → Memo c mm M → St w0 w ((bn, blk 119 [.func (.func 93) #[] #[.pointer (some ⟨bp, 0, none⟩), .pointer (some ⟨bs, 0, none⟩), .pointer (some ⟨bla, 0, none⟩), .pointer (some ⟨bsn, 0, none⟩), .pointer (some ⟨bh, 0, none⟩), .pointer (some ⟨bY, 0, none⟩), .pointer (some ⟨bn, 0, none⟩)]]) :: (bla, blk 79 (iv last)) :: (bs, blk 79 (iv (mkG (hold : Int) wm g (ofH c (hold : Int))))) :: (bsn, blk 151 [.func (.func 92) #[.pointer (some ⟨cb, 0, none⟩)] #[]]) :: (bY, blk 150 [yv]) :: (X ++ (B ++ (M ++ F)))) →
    Con Tryz.prog 93 [.int .i64 (d : Int), .pointer (some ⟨bp, 0, none⟩), .pointer (some ⟨bs, 0, none⟩), .pointer (some ⟨bla, 0, none⟩), .pointer (some ⟨bsn, 0, none⟩), .pointer (some ⟨bh, 0, none⟩), .pointer (some ⟨bY, 0, none⟩), .pointer (some ⟨bn, 0, none⟩)] w fun v w' => ∃ (g' last' : List Int) (B' M' : List (Nat × Obj)), g'.length = 5 ∧ last'.length = 8 ∧ g'.take d = pre ∧ (∀ j, c.lots.length ≤ j → g'.getD j 0 = 0) ∧ Memo c mm M' ∧ St w0 w' ((bn, blk 119 [.func (.func 93) #[] #[.pointer (some ⟨bp, 0, none⟩), .pointer (some ⟨bs, 0, none⟩), .pointer (some ⟨bla, 0, none⟩), .pointer (some ⟨bsn, 0, none⟩), .pointer (some ⟨bh, 0, none⟩), .pointer (some ⟨bY, 0, none⟩), .pointer (some ⟨bn, 0, none⟩)]]) :: (bla, blk 79 (iv last')) :: (bs, blk 79 (iv (mkG (hold : Int) wm g' (ofH c (hold : Int))))) :: (bsn, blk 151 [.func (.func 92) #[.pointer (some ⟨cb, 0, none⟩)] #[]]) :: (bY, blk 150 [yv]) :: (X ++ (B' ++ (M' ++ F)))) ∧
      ((v = .bool true ∧ ∃ i', i' ≤ Ls.length ∧ Ls.drop i' = R ∧ last' ∉ RF ∧ J i' B') ∨ (v = .bool false ∧ Js B'))
theorem zFx {Ls R : List (List Int)} {cur : List Int} {i : Nat} {b : Bool} (hpos : Ls.drop i = (if b = true then [cur] else []) ++ R) (h : b = false) : Ls.drop i = R := by rw [hpos, h]; rfl
theorem leaf_some {Ls R : List (List Int)} {cur : List Int} {i : Nat} {b : Bool} (hpos : Ls.drop i = (if b = true then [cur] else []) ++ R) (h : b = true) : Ls.drop i = cur :: R := by rw [hpos, h]; rfl
theorem fr6 {w0 w : World} {R : List (Nat × Obj)} {a b c e f g : Nat × Obj} (hs : St w0 w (a :: b :: c :: e :: f :: g :: R)) : St w0 w (b :: c :: e :: f :: g :: a :: R) := hs.perm (zAa [a] [b, c, e, f, g] R)
theorem bk6 {w0 w : World} {R : List (Nat × Obj)} {a b c e f g : Nat × Obj} (hs : St w0 w (b :: c :: e :: f :: g :: a :: R)) : St w0 w (a :: b :: c :: e :: f :: g :: R) := hs.perm (zAa [b, c, e, f, g] [a] R)
theorem bun_hi0 {c : Cargo} {m d : Nat} (h : bit m d = 0) : (bunAt c m d).hi = (lotAt c d).lo := by unfold bunAt; rw [if_pos h]
theorem bun_hi1 {c : Cargo} {m d : Nat} (h : ¬ bit m d = 0) : (bunAt c m d).hi = (lotAt c d).hi := by unfold bunAt; rw [if_neg h]
theorem c93 {w0 : World} {F : List (Nat × Obj)} (c : Cargo) (p : AtT) (but cb mm : Nat) (hk : CK w0 F c p but cb mm)  (hco : c.Ok) (hold : Nat) (hh : hold < c.holds.length) (bp bh bs bla bsn bY bn : Nat) (h1 : Ats w0 F bp 0 [.pointer (some ⟨cb, 0, none⟩)]) (h2 : Ats w0 F bh 0 [.int .i64 (hold : Int)]) (Ls : List (List Int)) (J : Nat → List (Nat × Obj) → Prop) (Js : List (Nat × Obj) → Prop) (yv : Value) (hy : ∀ (i : Nat) (x : List Int) (R : List (List Int)) (B M X : List (Nat × Obj)) (w : World), Ls.drop i = x :: R → J i B → Memo c mm M → St w0 w (X ++ (B ++ (M ++ F))) → FCon Tryz.prog yv [ia x] w fun v w' => ∃ B' M', Memo c mm M' ∧ St w0 w' (X ++ (B' ++ (M' ++ F))) ∧ (v = .bool true ∧ J (i + 1) B' ∨ v = .bool false ∧ Js B')) (rem : Nat) (ih : ∀ r, rem = r + 1 → NextC c but cb mm hold bp bh bs bla bsn bY bn Ls J Js yv w0 F r) : NextC c but cb mm hold bp bh bs bla bsn bY bn Ls J Js yv w0 F rem := by
  intro wm d pre g last i R RF B M X w hwm hdr hpl hpr hgl hkt hz hi hpos hll hnd hlast hJ hM hs
  have hb := hk.l
  have hlh := hco.lh
  have hlo := hco.ll
  have hcl : (mkG (hold : Int) wm g (ofH c (hold : Int))).length = 8 := zHn hgl
  refine zAu (n := 71) func93 rfl rfl (zNl rfl) ?_
  refine zAg (fun K2 gm => (zAc (zBj rfl rfl (zAe (zAd (gm _ _ (zAg (fun K4 gn => (zAg (fun K6 go => (zAc (zBe rfl rfl (w_p (zAk isAgg69 hs.tail.tail.tail.tail.tail.drop.drop.drop rfl rfl h1) rfl ?_)))))))))))))
  refine w_p (zBn rfl rfl) rfl (w_p (zAf (o := 0) (i := 0) underlying132 rfl sizeOf42 rfl rfl rfl) rfl (w_p (zAf (o := 3) (i := 3) underlying42 rfl sizeOf39 rfl rfl rfl) rfl (w_p (zAk isAgg39 hs.tail.tail.tail.tail.tail.drop.drop.drop rfl rfl (show Ats _ _ _ _ [_] from Ats.part hb 3 1)) rfl ?_)))
  refine w_p (zBo underlying39 rfl rfl) rfl (w_p (zB3 rfl rfl rfl rfl) rfl (zAe (zAd (go _ _ (zA1 rfl rfl (fun h7 => ?_) (fun h7 => ?_))))))
  ·
   try simp only [zS] at h7
   refine zAg (fun K9 gp => (zAg (fun gH gq => ?_)))
   have hr0 : rem = 0 := by omega
   subst hr0
   have hgp := cur_pad5 hgl hpl (by omega) hkt (by have hdn : d = c.lots.length := (by omega); subst hdn; exact hz)
   have hcur : mkS (hold : Int) wm (ofH c (hold : Int)) pre = (mkG (hold : Int) wm g (ofH c (hold : Int))) := by rw [hgp]; rfl
   have hso := sok_mk hco (hold := hold) hwm hgl (fun j => by rw [hgp, pad5_at]; exact hpr j)
   rw [segK_leaf (by omega), hcur] at hpos
   rw [segF_leaf (by omega), hcur] at hlast hnd
   have hne : ¬ (mkG (hold : Int) wm g (ofH c (hold : Int))) = last := fun e => hlast (by rw [← e]; exact .head _)
   have hnc : (mkG (hold : Int) wm g (ofH c (hold : Int))) ∉ RF := (List.nodup_cons.1 hnd).1
   have hln : last ∉ RF := fun h => hlast (.tail _ h)
   refine w_drawC (C := fun w => ∃ M, Memo c mm M ∧ St w0 w ((bn, blk 119 [.func (.func 93) #[] #[.pointer (some ⟨bp, 0, none⟩), .pointer (some ⟨bs, 0, none⟩), .pointer (some ⟨bla, 0, none⟩), .pointer (some ⟨bsn, 0, none⟩), .pointer (some ⟨bh, 0, none⟩), .pointer (some ⟨bY, 0, none⟩), .pointer (some ⟨bn, 0, none⟩)]]) :: (bla, blk 79 (iv last)) :: (bs, blk 79 (iv (mkG (hold : Int) wm g (ofH c (hold : Int))))) :: (bsn, blk 151 [.func (.func 92) #[.pointer (some ⟨cb, 0, none⟩)] #[]]) :: (bY, blk 150 [yv]) :: (X ++ (B ++ (M ++ F))))) [] [(0,1),(1,1),(2,0),(3,0),(4,1),(5,1),(6,1),(7,1),(8,2),(9,2),(10,0),(11,0)] zB0 (zB5 (by kernel_rfl)) ⟨_, hM, hs⟩ (fun _ ⟨M, h1, h2⟩ => ⟨M, h1, h2.drew⟩) (fun gI ⟨M, hM, g7⟩ => ?_)
   refine zCn rfl zAb rfl ⟨_, hM, g7⟩ (fun _ ⟨M, hM, hq⟩ => (zBz (i := 2) isAgg79 sizeOf79 (by first | omega | rfl | (simp only [hcl, hll, zL] <;> omega)) hq rfl rfl rfl)) ?_
   refine zCn rfl zAb rfl ⟨_, hM, g7⟩ (fun _ ⟨M, hM, hq⟩ => (zBz (i := 1) isAgg79 sizeOf79 (by first | omega | rfl | (simp only [hcl, hll, zL] <;> omega)) hq rfl rfl rfl)) ?_
   refine d_w rfl (fun _ => y_eqKey (l := _) (m := _) eqGuardType79 key79 (by first | omega | rfl | (simp only [hcl, hll, zL] <;> omega)) (by first | omega | rfl | (simp only [hcl, hll, zL] <;> omega)) rfl rfl rfl rfl rfl rfl) rfl ?_
   refine d_w rfl (fun _ => zAi (v := .bool _) rfl rfl) rfl ?_
   refine zDx (fun ga => ?_) (fun ga => ?_)
   ·
    exfalso
    try simp only [zS] at ga
    exact hne ga
   try simp only [zS] at ga
   refine zCn rfl (zAp rfl rfl rfl) rfl ⟨_, hM, g7⟩ (fun _ ⟨M, hM, hq⟩ => (zAk isAgg151 hq rfl rfl (zAl (i := 3) (vs := [_]) rfl rfl))) ?_
   refine zCn rfl (zAp rfl rfl rfl) rfl ⟨_, hM, g7⟩ (fun _ ⟨M, hM, hq⟩ => (zAk isAgg3 hq.tail.tail.tail.tail.tail.drop.drop.drop rfl rfl h2)) ?_
   refine zCn rfl (zAp rfl rfl rfl) rfl ⟨_, hM, g7⟩ (fun _ ⟨M, hM, hq⟩ => (zAk isAgg69 hq.tail.tail.tail.tail.tail.drop.drop.drop rfl rfl h1)) ?_
   refine zCn rfl (zAp rfl rfl rfl) rfl ⟨_, hM, g7⟩ (fun _ ⟨M, hM, hq⟩ => (zBz (i := 2) isAgg79 sizeOf79 (by first | omega | rfl | (simp only [hcl, hll, zL] <;> omega)) hq rfl rfl rfl)) ?_
   refine zBl rfl ?_
   refine zAr (zAp rfl rfl rfl) call59 rfl rfl rfl rfl (times_in c p but cb mm hk (P := [_,_,_,_,_]) (X := X) (B := B) _ hso hM g7) ?_
   rintro _ gJ ⟨M2, rfl, g5, gb⟩
   replace gb := (show St _ _ (_ :: _ :: _ :: _ :: _ :: X ++ (B ++ (M2 ++ (F)))) from gb)
   refine zAe (qn ⟨⟨_, g5, gb⟩, ?_⟩)
   refine zBl rfl ?_
   refine zAr (zAp rfl rfl rfl) call92 rfl rfl rfl rfl (c92 c p but cb mm hk.app.app.app.cons.cons.cons.cons.cons hco (hold : Int) _ (zBf c _) gb) ?_
   rintro _ gK ⟨rfl, g6⟩
   refine zAe (qn ⟨⟨_, g5, g6⟩, ?_⟩)
   refine zBv rfl (zAp rfl rfl rfl) rfl (fun _ => (zDq rfl rfl)) ?_
   refine d_w rfl (fun _ => zBg (v := .bool _) rfl rfl rfl rfl) rfl ?_
   refine zBh ?_
   refine zAd (gq _ _ (zA1 rfl rfl (fun gc => ?_) (fun gc => ?_)))
   ·
    try simp only [zS] at gc
    refine zAg (fun gL gr => (zAc (zBj rfl rfl (zAe (zAd (gr _ _ (zA7 (zAm (zAm (zBa (l := [.tmp 9]) (vs := [_]) rfl ⟨⟨rfl, (rfl : _ = Value.bool _)⟩, trivial⟩ ?_))))))))))
    first
      | exact ⟨g, last, B, M2, hgl, hll, hkt, hz, g5, g6, .inl ⟨rfl, i, hi, zFx hpos (by unfold okS; assumption), hln, hJ⟩⟩
      | exact ⟨g, _, B1, M1, hgl, hcl, hkt, hz, g3, g6, .inl ⟨rfl, i + 1, zCm hpos2, zCc hpos2, hnc, hJ1⟩⟩
      | exact ⟨g, _, B1, M1, hgl, hcl, hkt, hz, g3, g6, .inr ⟨rfl, hJ1⟩⟩
      | exact ⟨g2, last2, B2, M3, hg2, hl2, zB8 hk2 hpl, hz2, g8, g6, .inr ⟨rfl, hJ2⟩⟩
      | (rw [zE5 (by omega), List.nil_append] at hpos
         rw [zE6 (by omega), List.nil_append] at hlast
         exact ⟨g, last, B, M, hgl, hll, hkt, hz, hM, g6, .inl ⟨rfl, i, hi, hpos, hlast, hJ⟩⟩)
   try simp only [zS] at gc
   refine zAx (zAd (gp _ _ (zAg (fun gM gt => ?_))))
   have hpos2 := leaf_some hpos (by unfold okS; assumption)
   refine zAc (w_p (zBz (i := 2) isAgg79 sizeOf79 (by first | omega | rfl | (simp only [hcl, hll, zL] <;> omega)) g6 rfl rfl rfl) rfl ?_)
   refine zB6 (i := 1) (l := _) zAb sizeOf79 (by first | omega | rfl | (simp only [hcl, hll, zL] <;> omega)) rfl rfl rfl rfl rfl g6 rfl (by first | omega | rfl | (simp only [hcl, hll, zL] <;> omega)) (fun gN gd => ?_)
   refine zAe (zAd (gt _ _ (zAg (fun gO gh => (zAc (w_p (zAk isAgg150 gd rfl rfl (zAl (i := 4) (vs := [_]) rfl rfl)) rfl (w_p (zBz (i := 2) isAgg79 sizeOf79 (by first | omega | rfl | (simp only [hcl, hll, zL] <;> omega)) gd rfl rfl rfl) rfl ?_)))))))
   refine zEc zAb rfl rfl rfl rfl (hy i _ R B M2 (_ :: _ :: _ :: _ :: _ :: X) _ hpos2 hJ g5 gd) ?_
   rintro _ gP ⟨B1, M1, g3, g0, (⟨rfl, hJ1⟩ | ⟨rfl, hJ1⟩)⟩
   ·
    replace g0 := (show St _ _ (_ :: _ :: _ :: _ :: _ :: X ++ (B1 ++ (M1 ++ (F)))) from g0)
    refine w_p (zAo (v := .bool _) rfl rfl) rfl (zAe (zAd (gh _ _ (zA7 (zAm (zBa (l := [.tmp 9]) (vs := [_]) rfl ⟨⟨rfl, (rfl : _ = Value.bool _)⟩, trivial⟩ ?_))))))
    first
      | exact ⟨g, last, B, M2, hgl, hll, hkt, hz, g5, g0, .inl ⟨rfl, i, hi, zFx hpos (by unfold okS; assumption), hln, hJ⟩⟩
      | exact ⟨g, _, B1, M1, hgl, hcl, hkt, hz, g3, g0, .inl ⟨rfl, i + 1, zCm hpos2, zCc hpos2, hnc, hJ1⟩⟩
      | exact ⟨g, _, B1, M1, hgl, hcl, hkt, hz, g3, g0, .inr ⟨rfl, hJ1⟩⟩
      | exact ⟨g2, last2, B2, M3, hg2, hl2, zB8 hk2 hpl, hz2, g8, g0, .inr ⟨rfl, hJ2⟩⟩
      | (rw [zE5 (by omega), List.nil_append] at hpos
         rw [zE6 (by omega), List.nil_append] at hlast
         exact ⟨g, last, B, M, hgl, hll, hkt, hz, hM, g0, .inl ⟨rfl, i, hi, hpos, hlast, hJ⟩⟩)
   replace g0 := (show St _ _ (_ :: _ :: _ :: _ :: _ :: X ++ (B1 ++ (M1 ++ (F)))) from g0)
   refine w_p (zAo (v := .bool _) rfl rfl) rfl (zAe (zAd (gh _ _ (zA7 (zAm (zBa (l := [.tmp 9]) (vs := [_]) rfl ⟨⟨rfl, (rfl : _ = Value.bool _)⟩, trivial⟩ ?_))))))
   first
     | exact ⟨g, last, B, M2, hgl, hll, hkt, hz, g5, g0, .inl ⟨rfl, i, hi, zFx hpos (by unfold okS; assumption), hln, hJ⟩⟩
     | exact ⟨g, _, B1, M1, hgl, hcl, hkt, hz, g3, g0, .inl ⟨rfl, i + 1, zCm hpos2, zCc hpos2, hnc, hJ1⟩⟩
     | exact ⟨g, _, B1, M1, hgl, hcl, hkt, hz, g3, g0, .inr ⟨rfl, hJ1⟩⟩
     | exact ⟨g2, last2, B2, M3, hg2, hl2, zB8 hk2 hpl, hz2, g8, g0, .inr ⟨rfl, hJ2⟩⟩
     | (rw [zE5 (by omega), List.nil_append] at hpos
        rw [zE6 (by omega), List.nil_append] at hlast
        exact ⟨g, last, B, M, hgl, hll, hkt, hz, hM, g0, .inl ⟨rfl, i, hi, hpos, hlast, hJ⟩⟩)
  try simp only [zS] at h7
  refine zAx (zAd (gn _ _ (zAg (fun gQ gu => ?_))))
  obtain ⟨r, rfl⟩ : ∃ r, rem = r + 1 := ⟨rem - 1, by omega⟩
  have ih2 := ih r rfl
  have hd2 : d < c.lots.length := by omega
  rw [segK_node hd2] at hpos
  rw [segF_node hd2] at hlast hnd
  have hbi := bun_in hco (m := (ofH c (hold : Int))) hd2
  have hla := zD1 hd2
  obtain ⟨bx, ox, hbx, hx⟩ := zDy hk.i.l hd2
  refine zAc (w_p (zAk isAgg69 hs.tail.tail.tail.tail.tail.drop.drop.drop rfl rfl h1) rfl (w_p (zBn rfl rfl) rfl (w_p (zAf (o := 0) (i := 0) underlying132 rfl sizeOf42 rfl rfl rfl) rfl (w_p (zAf (o := 3) (i := 3) underlying42 rfl sizeOf39 rfl rfl rfl) rfl ?_))))
  refine w_p (zFd hbx (zAk isAgg39 hs.tail.tail.tail.tail.tail.drop.drop.drop rfl rfl (show Ats _ _ _ _ [_] from Ats.part hb 3 1))) rfl (zBe rfl rfl (w_p (zBk underlying39 sizeOf38 rfl rfl rfl rfl (i := d) rfl hd2) rfl (w_p (zAf (o := 2) (i := 2) underlying38 rfl sizeOf23 rfl rfl rfl) rfl (w_p (zA9 (vs := [_,_]) isAgg23 sizeOf23 hs.tail.tail.tail.tail.tail.drop.drop.drop rfl rfl (show Ats _ _ _ _ [_,_] from Ats.part hx 2 2)) rfl ?_))))
  refine zA0 (cs := [_,_]) zAb zeroValue23 rfl hs (fun gi gR gv => ?_)
  refine zAs (i := 0) (v := .agg #[.int _ _, .int _ _]) (vs := [_,_]) zAb sizeOf23 rfl rfl rfl rfl rfl (by simp [Value.oneCell']) gv rfl (zNl rfl) (fun gS g9 => ?_)
  refine zAe (zAd (gu _ _ (zAg (fun gT gw => ?_))))
  have hMm := hM
  refine w_cut [45,46,47,48,49,50,51,52,53] [] (fun vs w => vs = [] ∧ St w0 w ((gi, blk 23 [.int .i64 (bunAt c (ofH c (hold : Int)) d).lo, .int .i64 (bunAt c (ofH c (hold : Int)) d).hi]) :: (bn, blk 119 [.func (.func 93) #[] #[.pointer (some ⟨bp, 0, none⟩), .pointer (some ⟨bs, 0, none⟩), .pointer (some ⟨bla, 0, none⟩), .pointer (some ⟨bsn, 0, none⟩), .pointer (some ⟨bh, 0, none⟩), .pointer (some ⟨bY, 0, none⟩), .pointer (some ⟨bn, 0, none⟩)]]) :: (bla, blk 79 (iv last)) :: (bs, blk 79 (iv (mkG (hold : Int) wm g (ofH c (hold : Int))))) :: (bsn, blk 151 [.func (.func 92) #[.pointer (some ⟨cb, 0, none⟩)] #[]]) :: (bY, blk 150 [yv]) :: (X ++ (B ++ (M ++ F))))) (fun gU gj => ?_) ?_
  ·
   refine zAg (fun gV gx => ?_)
   have hgt := mkG_t (hold := (hold : Int)) (w := wm) (m := (ofH c (hold : Int))) hgl
   have hofs : (ofH c (hold : Int)) < 32 := zId c (hold : Int) (i := c.lots.length) (by omega)
   refine zAc (w_p (zAf (o := 7) (i := 3) underlying79 rfl sizeOf3 rfl rfl rfl) rfl (w_p (zAk isAgg3 g9 rfl rfl (zD5 (i := 3) (o := 7) rfl (by first | omega | rfl | (simp only [hcl, hll, zL] <;> omega)))) rfl ?_))
   refine zBe rfl rfl (w_p (y_shr (x := (ofH c (hold : Int))) (y := d) rfl rfl rfl rfl (by first | rfl | omega) (by first | rfl | omega) (by first | omega | exact zDe (by omega))) rfl ?_)
   refine w_p (show Yd _ _ _ _ (.int .i64 ((bit (ofH c (hold : Int)) d : Nat) : Int)) from (y_and (x := _) (y := 1) rfl rfl rfl rfl rfl rfl (by first | omega | exact zDe (by omega)) (by first | omega | exact zDe (by omega)))) rfl ?_
   refine w_p (zB3 rfl rfl rfl rfl) rfl (zAe (zAd (gx _ _ (zA1 rfl rfl (fun ge => ?_) (fun ge => ?_)))))
   ·
    try simp only [zS] at ge
    refine zAc (w_p (zAf (o := 0) (i := 0) underlying23 rfl sizeOf3 rfl rfl rfl) rfl (w_p (zAk isAgg3 g9 rfl rfl (zAl (i := 0) (vs := [_]) rfl rfl)) rfl (w_p (zAf (o := 1) (i := 1) underlying23 rfl sizeOf3 rfl rfl rfl) rfl ?_)))
    refine zAs (i := 0) (v := .int _ _) (vs := [_]) zAb sizeOf3 rfl rfl rfl rfl rfl (by simp [Value.oneCell']) g9 rfl (zNl rfl) (fun gW gk => ?_)
    refine zAe (zAd (gj _ _ (Md.intro (by repeat (first | exact zAz | exact zA5 | refine zA4 rfl ?_ | refine zAw rfl ?_ _ | refine zAt rfl ?_)) ?_)))
    first
      | exact ⟨rfl, by rw [bun_hi0 (c := c) (m := ofH c (hold : Int)) (d := d) (bit0 (by assumption)), hbi.2.2.2, hla]; exact gk⟩
      | exact ⟨rfl, by rw [bun_hi1 (c := c) (m := ofH c (hold : Int)) (d := d) (bit0n (by assumption)), hbi.2.2.2, hla]; exact gk⟩
   try simp only [zS] at ge
   refine zAx (zAd (gj _ _ (Md.intro (by repeat (first | exact zAz | exact zA5 | refine zA4 rfl ?_ | refine zAw rfl ?_ _ | refine zAt rfl ?_)) ?_)))
   first
     | exact ⟨rfl, by rw [bun_hi0 (c := c) (m := ofH c (hold : Int)) (d := d) (bit0 (by assumption)), hbi.2.2.2, hla]; exact g9⟩
     | exact ⟨rfl, by rw [bun_hi1 (c := c) (m := ofH c (hold : Int)) (d := d) (bit0n (by assumption)), hbi.2.2.2, hla]; exact g9⟩
  intro vs μ gX hM
  clear hs
  obtain ⟨rfl, hs⟩ := hM
  have hM := hMm
  refine zAd (gw _ _ (zAg (fun gY gy => (zAg (fun gZ gz => (zAc (w_p (zAf (o := 0) (i := 0) underlying23 rfl sizeOf3 rfl rfl rfl) rfl (w_p (zAk isAgg3 hs rfl rfl (zAl (i := 0) (vs := [_]) rfl rfl)) rfl ?_))))))))
  refine zBs rfl rfl (zAe (zAd (gz _ _ (zA8 ?_))))
  refine zCd [9,11,56,57,58,59,60,61,62,63,64,65,66,67,68,69,70] [11] (fun k vs w => ∃ (q : Nat) (g last : List Int) (i : Nat) (B M : List (Nat × Obj)), vs = [.int .i64 ((bunAt c (ofH c (hold : Int)) d).lo + q)] ∧ (q : Int) ≤ (bunAt c (ofH c (hold : Int)) d).hi + 1 - (bunAt c (ofH c (hold : Int)) d).lo ∧ k = ((bunAt c (ofH c (hold : Int)) d).hi + 1 - (bunAt c (ofH c (hold : Int)) d).lo).toNat - q ∧ g.length = 5 ∧ last.length = 8 ∧ g.take d = pre ∧ (∀ j, c.lots.length ≤ j → g.getD j 0 = 0) ∧ i ≤ Ls.length ∧ Ls.drop i = restK c but hold wm d pre (upto ((bunAt c (ofH c (hold : Int)) d).lo + q) (((bunAt c (ofH c (hold : Int)) d).hi + 1 - (bunAt c (ofH c (hold : Int)) d).lo).toNat - q)) ++ R ∧ (restF c hold wm d pre (upto ((bunAt c (ofH c (hold : Int)) d).lo + q) (((bunAt c (ofH c (hold : Int)) d).hi + 1 - (bunAt c (ofH c (hold : Int)) d).lo).toNat - q)) ++ RF).Nodup ∧ last ∉ restF c hold wm d pre (upto ((bunAt c (ofH c (hold : Int)) d).lo + q) (((bunAt c (ofH c (hold : Int)) d).hi + 1 - (bunAt c (ofH c (hold : Int)) d).lo).toNat - q)) ++ RF ∧ J i B ∧ Memo c mm M ∧ St w0 w ((gi, blk 23 [.int .i64 (bunAt c (ofH c (hold : Int)) d).lo, .int .i64 (bunAt c (ofH c (hold : Int)) d).hi]) :: (bn, blk 119 [.func (.func 93) #[] #[.pointer (some ⟨bp, 0, none⟩), .pointer (some ⟨bs, 0, none⟩), .pointer (some ⟨bla, 0, none⟩), .pointer (some ⟨bsn, 0, none⟩), .pointer (some ⟨bh, 0, none⟩), .pointer (some ⟨bY, 0, none⟩), .pointer (some ⟨bn, 0, none⟩)]]) :: (bla, blk 79 (iv last)) :: (bs, blk 79 (iv (mkG (hold : Int) wm g (ofH c (hold : Int))))) :: (bsn, blk 151 [.func (.func 92) #[.pointer (some ⟨cb, 0, none⟩)] #[]]) :: (bY, blk 150 [yv]) :: (X ++ (B ++ (M ++ F))))) (((bunAt c (ofH c (hold : Int)) d).hi + 1 - (bunAt c (ofH c (hold : Int)) d).lo).toNat) ?_ ?_
  ·
   exact ⟨0, g, last, i, B, M, iv1 (by omega), by omega, by omega, hgl, hll, hkt, hz, hi, by rw [show (bunAt c (ofH c (hold : Int)) d).lo + ((0 : Nat) : Int) = (bunAt c (ofH c (hold : Int)) d).lo by omega, Nat.sub_zero]; exact hpos, by rw [show (bunAt c (ofH c (hold : Int)) d).lo + ((0 : Nat) : Int) = (bunAt c (ofH c (hold : Int)) d).lo by omega, Nat.sub_zero]; exact hnd, by rw [show (bunAt c (ofH c (hold : Int)) d).lo + ((0 : Nat) : Int) = (bunAt c (ofH c (hold : Int)) d).lo by omega, Nat.sub_zero]; exact hlast, hJ, hM, hs⟩
  intro k vs μ hD hI hG gA
  clear hcl hkt hz hi hpos hll hlast hnd hJ hs hgl hM
  obtain ⟨q, g, last, i, B, M, rfl, hq, rfl, hgl, hll, hkt, hz, hi, hpos, hnd, hlast, hJ, hM, hs⟩ := hI
  have hcl : (mkG (hold : Int) wm g (ofH c (hold : Int))).length = 8 := zHn hgl
  refine zAg (fun hH gB => (zAg (fun hN gC => (zAc (zBe rfl rfl (w_p (zAf (o := 1) (i := 1) underlying23 rfl sizeOf3 rfl rfl rfl) rfl (w_p (zAk isAgg3 hs rfl rfl (zAl (i := 0) (vs := [_]) rfl rfl)) rfl ?_)))))))
  refine w_p (zGf rfl rfl rfl rfl) rfl (zAe (zAd (gC _ _ (zA1 rfl rfl (fun gf => ?_) (fun gf => ?_)))))
  ·
   try simp only [zS] at gf
   refine zAx (zAd (gB _ _ (zAg (fun hO gD => (zA8 ?_)))))
   refine zAg (fun hP gE => (zAc (zBe rfl rfl (zBe rfl rfl (w_p (zAf (o := 2) (i := 2) underlying79 rfl sizeOf77 rfl rfl rfl) rfl (w_p (zCb underlying77 sizeOf3 rfl rfl rfl rfl (i := d) (by first | rfl | omega) (by omega)) rfl ?_))))))
   refine w_storeAtIO (i := 3) (o := 2) (j := d) zAb sizeOf3 rfl rfl rfl rfl hs rfl (by first | omega | rfl | (simp only [hcl, hll, zL] <;> omega)) (fun hX gg => ?_)
   refine zAe (zAd (gE _ _ (zAg (fun hY gl => (zAc ?_)))))
   rw [mkG_set (show d < g.length by omega)] at gg
   refine w_p (zAk isAgg119 gg rfl rfl (zAl (i := 1) (vs := [_]) rfl rfl)) rfl (zBe rfl rfl (w_p (zBq rfl rfl rfl rfl (by omega) (by omega)) rfl (zAr zAb call93 rfl rfl rfl rfl (ih2 wm (d + 1) (pre ++ [(bunAt c (ofH c (hold : Int)) d).lo + (q : Int)]) _ last i _ _ B M (_ :: X) _ hwm (by omega) (by simp; omega) (pre_next5 hpl hpr (by omega)) (by rw [List.length_set]; exact hgl) (zC6 hkt (by omega)) (zCw (by omega) hz) hi (by rw [restK_next (by omega), List.append_assoc] at hpos; exact hpos) hll (by rw [zHm (by omega), List.append_assoc] at hnd; exact hnd) (by rw [zHm (by omega), List.append_assoc] at hlast; exact hlast) hJ hM (fr6 gg)) ?_)))
   rintro _ j0 ⟨g2, last2, B2, M3, hg2, hl2, hk2, hz2, g8, g4, (⟨rfl, i2, hi2, hp2, hn2, hJ2⟩ | ⟨rfl, hJ2⟩)⟩
   ·
    replace g4 := bk6 (show St _ _ (_ :: _ :: _ :: _ :: _ :: _ :: (X ++ (B2 ++ (M3 ++ F)))) from g4)
    refine w_p (zDq rfl rfl) rfl (zAe (zAd (gl _ _ (zB7 rfl rfl ?_))))
    refine zAx (zAn (zAd (gD _ _ (zAc (zBe rfl rfl (w_p (zBq rfl rfl rfl rfl (by omega) (by omega)) rfl (zBs rfl rfl (zAe (zAd (gA _ _ (nxI (((bunAt c (ofH c (hold : Int)) d).hi + 1 - (bunAt c (ofH c (hold : Int)) d).lo).toNat - (q + 1)) (by omega) ?_)))))))))))
    exact ⟨q + 1, g2, last2, i2, B2, M3, iv1 (by omega), by omega, rfl, hg2, hl2, zB8 hk2 hpl, hz2, hi2, hp2, (by rw [zHm (by omega), List.append_assoc] at hnd; exact (List.nodup_append.1 hnd).2.1), hn2, hJ2, g8, g4⟩
   replace g4 := bk6 (show St _ _ (_ :: _ :: _ :: _ :: _ :: _ :: (X ++ (B2 ++ (M3 ++ F)))) from g4)
   refine w_p (zDq rfl rfl) rfl (zAe (zAd (gl _ _ (zC0 rfl rfl ?_))))
   refine zAg (fun j1 gF => (zAc (zBj rfl rfl (zAe (zAd (gF _ _ (zA7 (zAy (zAm (zAm (zAy (zAm (zBa (l := [.tmp 9]) (vs := [_]) rfl ⟨⟨rfl, (rfl : _ = Value.bool _)⟩, trivial⟩ ?_)))))))))))))
   first
     | exact ⟨g, last, B, M2, hgl, hll, hkt, hz, g5, g4.tail, .inl ⟨rfl, i, hi, zFx hpos (by unfold okS; assumption), hln, hJ⟩⟩
     | exact ⟨g, _, B1, M1, hgl, hcl, hkt, hz, g3, g4.tail, .inl ⟨rfl, i + 1, zCm hpos2, zCc hpos2, hnc, hJ1⟩⟩
     | exact ⟨g, _, B1, M1, hgl, hcl, hkt, hz, g3, g4.tail, .inr ⟨rfl, hJ1⟩⟩
     | exact ⟨g2, last2, B2, M3, hg2, hl2, zB8 hk2 hpl, hz2, g8, g4.tail, .inr ⟨rfl, hJ2⟩⟩
     | (rw [zE5 (by omega), List.nil_append] at hpos
        rw [zE6 (by omega), List.nil_append] at hlast
        exact ⟨g, last, B, M, hgl, hll, hkt, hz, hM, g4.tail, .inl ⟨rfl, i, hi, hpos, hlast, hJ⟩⟩)
  try simp only [zS] at gf
  refine zBy (zAq (zAq (zBc (zAd (gy _ _ (zAg (fun j2 gG => (zAc (zBj rfl rfl (zAe (zAd (gG _ _ (zA7 (zBa (l := [.tmp 9]) (vs := [_]) rfl ⟨⟨rfl, (rfl : _ = Value.bool _)⟩, trivial⟩ ?_))))))))))))))
  first
    | exact ⟨g, last, B, M2, hgl, hll, hkt, hz, g5, hs.tail, .inl ⟨rfl, i, hi, zFx hpos (by unfold okS; assumption), hln, hJ⟩⟩
    | exact ⟨g, _, B1, M1, hgl, hcl, hkt, hz, g3, hs.tail, .inl ⟨rfl, i + 1, zCm hpos2, zCc hpos2, hnc, hJ1⟩⟩
    | exact ⟨g, _, B1, M1, hgl, hcl, hkt, hz, g3, hs.tail, .inr ⟨rfl, hJ1⟩⟩
    | exact ⟨g2, last2, B2, M3, hg2, hl2, zB8 hk2 hpl, hz2, g8, hs.tail, .inr ⟨rfl, hJ2⟩⟩
    | (rw [zE5 (by omega), List.nil_append] at hpos
       rw [zE6 (by omega), List.nil_append] at hlast
       exact ⟨g, last, B, M, hgl, hll, hkt, hz, hM, hs.tail, .inl ⟨rfl, i, hi, hpos, hlast, hJ⟩⟩)

end Go.Proofs.Ut
/- Plain facts of the turn layer: how many truths there are; questions, asked one after the other. No conditions. -/
namespace Go.Rt.Tu
open Go.Rt.Ha (firstE failE felt spanL upto bit listL fewest Bunch zDf felt_in zF7 at_ zC1 zGz upto_nodup zE4)
theorem upto_len4 : ∀ (n : Nat) (lo : Int), (upto lo n).length = n
  | 0, _ => rfl
  | n + 1, lo => by simp [upto, upto_len4 n]
theorem felt_len4 {bs : List Bunch} (h : ∀ b ∈ bs, b.hi + 1 - b.lo ≤ 4) : (felt bs).length ≤ 4 ^ bs.length := by
  induction bs with
  | nil => simp [felt]
  | cons b bs ih =>
    have ih := ih fun x hx => h x (.tail _ hx)
    have hb := h b (.head _)
    have hl : (spanL b.lo b.hi).length ≤ 4 := by unfold spanL; rw [upto_len4]; omega
    have key : ∀ xs : List Int, (xs.flatMap fun n => (felt bs).map (n :: ·)).length = xs.length * (felt bs).length := by
      intro xs
      induction xs with
      | nil => simp
      | cons x xs ih => rw [List.flatMap_cons, List.length_append, ih, List.length_map, List.length_cons, Nat.succ_mul]; omega
    simp only [felt]
    rw [key, List.length_cons, Nat.pow_succ, Nat.mul_comm]
    exact Nat.mul_le_mul ih hl
theorem zIg {α β : Type} {f : α → List β} {k : Nat} : ∀ {l : List α}, (∀ x ∈ l, (f x).length ≤ k) → (l.flatMap f).length ≤ l.length * k
  | [], _ => by simp
  | a :: l, h => by
    have h1 := h a (.head _)
    have h2 := zIg (f := f) (l := l) fun x hx => h x (.tail _ hx)
    rw [List.flatMap_cons, List.length_append, List.length_cons, Nat.succ_mul]; omega
theorem truths_len {c : Cargo} (hc : c.Ok) (but : Nat) {hold : Nat} (hh : hold < c.holds.length) : (truths c but hold).length ≤ 1024 := by
  have hho := hc.hold _ (List.getElem_mem hh)
  unfold truths
  have h1 : ∀ w ∈ spanL (holdAt c hold).1 (holdAt c hold).2, ((allW c hold w).filter (okS c but hold)).length ≤ 256 := by
    intro w _
    have h2 := List.length_filter_le (okS c but hold) (allW c hold w)
    have h3 : (allW c hold w).length = (felt (bun c (ofH c hold))).length := by unfold allW; rw [List.length_map]
    have h4 := felt_len4 (bs := bun c (ofH c hold)) (by
      intro b hb
      obtain ⟨i, hi, rfl⟩ := List.getElem_of_mem hb
      rw [zHv] at hi
      rw [bun_get hi]
      have h5 := hc.lot _ (List.getElem_mem hi)
      have h6 := h5.w
      have h7 := h5.le
      unfold bunAt
      rw [zD1 hi]
      dsimp only
      split <;> omega)
    rw [zHv] at h4
    have h5 : 4 ^ c.lots.length ≤ 4 ^ 4 := Nat.pow_le_pow_right (by omega) hc.ll
    have h6 : (4 : Nat) ^ 4 = 256 := by decide
    omega
  have h2 := zIg h1
  have h3 : (spanL (holdAt c hold).1 (holdAt c hold).2).length ≤ 4 := by unfold spanL; rw [upto_len4, hold_at hh]; omega
  have h4 := Nat.mul_le_mul_right 256 h3
  omega
theorem fold_snoc {α β : Type} (f : β → α → β) (b : β) {l : List α} {i : Nat} (h : i < l.length) : (l.take (i + 1)).foldl f b = f ((l.take i).foldl f b) l[i] := by
  rw [List.take_succ_eq_append_getElem h, List.foldl_append]; rfl
theorem turns_step {c : Cargo} {lot : Nat} {l : List (List Int)} {i : Nat} (h : i < l.length) : turnsA c lot (l.take (i + 1)) = turnsSt c lot (turnsA c lot (l.take i)) l[i] := fold_snoc _ _ h
theorem cnt_step {α : Type} {q : α → Bool} {l : List α} {i : Nat} (h : i < l.length) : ((l.take (i + 1)).filter q).length = ((l.take i).filter q).length + if q l[i] then 1 else 0 := by
  rw [List.take_succ_eq_append_getElem h, List.filter_append, List.length_append]
  cases hq : q l[i] <;> simp [hq]
theorem cnt_le {α : Type} (q : α → Bool) (l : List α) (i : Nat) : ((l.take i).filter q).length ≤ l.length :=
  Nat.le_trans (List.length_filter_le _ _) (by rw [List.length_take]; omega)
def arows (l : List (Bool × Int)) : List (List Value) := l.map fun x => [.bool x.1, .int .i64 x.2]
theorem ask_no {l : List (Bool × Int)} {j : Nat} (hj : j < l.length) (h : anyAsk (l.take j) = false) (h2 : l[j].1 = false) : anyAsk (l.take (j + 1)) = false := by
  unfold anyAsk at h ⊢; rw [List.take_succ_eq_append_getElem hj, List.any_append, h]; simp [h2]
theorem zHe : ∀ {l : List (Bool × Int)} {j : Nat} (hj : j < l.length), anyAsk (l.take j) = false → l[j].1 = true → anyAsk l = true ∧ firstAsk l = l[j].2
  | x :: l, 0, _,_, h2 => by
    have h3 : x.1 = true := h2
    refine ⟨by simp [anyAsk, h3], by simp [firstAsk, h3]⟩
  | x :: l, j + 1, hj, h, h2 => by
    have h3 : x.1 = false := by
      unfold anyAsk at h; simp only [List.take_succ_cons, List.any_cons, Bool.or_eq_false_iff] at h; exact h.1
    have h4 : anyAsk (l.take j) = false := by
      unfold anyAsk at h ⊢; simp only [List.take_succ_cons, List.any_cons, Bool.or_eq_false_iff] at h; exact h.2
    have ih := zHe (l := l) (j := j) (by simpa using hj) h4 h2
    refine ⟨?_, ?_⟩
    · have := ih.1; unfold anyAsk at this ⊢; rw [List.any_cons, this, Bool.or_true]
    · rw [firstAsk, h3]; exact ih.2
theorem zEk {c : Cargo} {l : List (Bool × Int)} (h : (check c).2.2 ≠ 0) : enterE c l = (check c).2.2 := by unfold enterE; rw [if_pos h]
theorem zEj {c : Cargo} {l : List (Bool × Int)} (h : (check c).2.2 = 0) (ha : anyAsk l = true) : enterE c l = firstAsk l := by unfold enterE; rw [if_neg (by simp [h]), if_pos ha]
theorem zEi {c : Cargo} {l : List (Bool × Int)} (h : (check c).2.2 = 0) (ha : anyAsk l = false) (hs : someB c 0 = false) : enterE c l = 8 := by unfold enterE; rw [if_neg (by simp [h]), if_neg (by simp [ha]), if_neg (by simp [hs])]
theorem zIi {c : Cargo} {l : List (Bool × Int)} (h : (check c).2.2 = 0) (ha : anyAsk l = false) (hs : someB c 0 = true) : enterE c l = 0 := by unfold enterE; rw [if_neg (by simp [h]), if_neg (by simp [ha]), if_pos hs]
theorem zE8 {c : Cargo} {l : List (Bool × Int)} (hne : ∀ x ∈ l, x.1 = true → x.2 ≠ 0) (h : enterE c l = 0) : (check c).2.2 = 0 ∧ anyAsk l = false ∧ someB c 0 = true := by
  by_cases h1 : (check c).2.2 = 0
  · cases h2 : anyAsk l with
    | true =>
      exfalso
      rw [zEj h1 h2] at h
      have key : ∀ l : List (Bool × Int), (∀ x ∈ l, x.1 = true → x.2 ≠ 0) → anyAsk l = true → firstAsk l ≠ 0 := by
        intro l
        induction l with
        | nil => intro _ h; cases h
        | cons x l ih =>
          intro hl ha
          cases hx : x.1 with
          | true => rw [firstAsk, hx]; exact hl x (.head _) hx
          | false =>
            rw [firstAsk, hx]
            refine ih (fun y hy => hl y (.tail _ hy)) ?_
            unfold anyAsk at ha ⊢
            rw [List.any_cons, hx, Bool.false_or] at ha; exact ha
      exact key l hne h2 h
    | false =>
      cases h3 : someB c 0 with
      | true => exact ⟨h1, rfl, rfl⟩
      | false => rw [zEi h1 h2 h3] at h; cases h
  · rw [zEk h1] at h; exact absurd h h1
theorem some_step {c : Cargo} {but k : Nat} (h : someTo c but k = true) (h2 : 0 < (truths c but k).length) : someTo c but (k + 1) = true := by
  rw [someTo, h]
  cases hd : truths c but k with
  | nil => rw [hd] at h2; simp at h2
  | cons _ _ => rfl
theorem some_no {c : Cargo} {but k : Nat} (h2 : (truths c but k).length = 0) : ∀ n, k < n → someTo c but n = false
  | 0, h => by omega
  | n + 1, h => by
    rw [someTo]
    by_cases e : k = n
    · subst e; rw [List.length_eq_zero_iff.1 h2]; simp
    · rw [some_no h2 n (by omega)]; rfl
theorem sok_set7 {s : List Int} (h : SOk s) {z : Int} (hz : 0 ≤ z ∧ z < 64) : SOk (s.set 7 z) := by
  have h8 := h.len
  match s, h8 with
  | [a, b, c, d, e, f, g, t], _ =>
    exact ⟨rfl, h.w, fun i hi => by
      have := h.g i hi
      match i, hi with
      | 0, _ => exact this
      | 1, _ => exact this
      | 2, _ => exact this
      | 3, _ => exact this
      | 4, _ => exact this, hz⟩
theorem sok_setg {s : List Int} (h : SOk s) {j : Nat} (hj : j < 5) {z : Int} (hz : -1000 ≤ z ∧ z ≤ 1000) : SOk (s.set (2 + j) z) := by
  have h8 := h.len
  refine ⟨by rw [List.length_set]; exact h8, ?_, fun i hi => ?_, ?_⟩
  · have e : (s.set (2 + j) z).getD 1 0 = s.getD 1 0 := by simp [List.getD, List.getElem?_set, show 2 + j ≠ 1 by omega]
    rw [e]; exact h.w
  · by_cases e : j = i
    · subst e
      have e : (s.set (2 + j) z).getD (2 + j) 0 = z := by simp [List.getD, List.getElem?_set, show 2 + j < s.length by omega]
      rw [e]; exact hz
    · have e : (s.set (2 + j) z).getD (2 + i) 0 = s.getD (2 + i) 0 := by simp [List.getD, List.getElem?_set, e]
      rw [e]; exact h.g i hi
  · have e : (s.set (2 + j) z).getD 7 0 = s.getD 7 0 := by simp [List.getD, List.getElem?_set, show ¬ 2 + j = 7 by omega]
    rw [e]; exact h.t
end Go.Rt.Tu
set_option maxRecDepth 20000
namespace Go.Proofs.Ut
open Go.Proofs.Tryz
open Go.Rt Go.Rt.Tu
open Go.Rt.Ha (firstE zCf zBu zB1 failE felt spanL upto zC1 listL fewest fewTo bit Bunch before fewStep zCm zDd zCc zCx zC6 zCw zB8)
attribute [local irreducible] WL WC Con Yd At Ats Sl Agree DW
theorem Try_UG_fb0 (x0 : Int) (x1 : Int) (w : World) : (Instr.build 79 [(0, .int .i64 x0),(3, .int .i64 x1)].toArray).run Tryz.prog w = .ok (.agg #[.int .i64 x0, .int .i64 0, .int .i64 0, .int .i64 0, .int .i64 0, .int .i64 0, .int .i64 0, .int .i64 x1]) w := by kernel_rfl
theorem Try_UG_fb1 (x0 : Int) (w : World) : (Instr.build 79 [(0, .int .i64 x0)].toArray).run Tryz.prog w = .ok (.agg #[.int .i64 x0, .int .i64 0, .int .i64 0, .int .i64 0, .int .i64 0, .int .i64 0, .int .i64 0, .int .i64 0]) w := by kernel_rfl
theorem Try_UG_fb2 (x0 : Option Addr) (l0 c0 : Nat) (x1 : Int) (x2 : Option Addr) (l2 c2 : Nat) (x3 : Option Addr) (l3 c3 : Nat) (x4 : Option Addr) (l4 c4 : Nat) (x5 : Int) (x6 : Option Nat) (w : World) : (Instr.build 132 [(0, .agg #[.slice x0 l0 c0, .int .i64 x1, .slice x2 l2 c2, .slice x3 l3 c3, .slice x4 l4 c4]),(1, .int .i64 x5),(2, .map x6)].toArray).run Tryz.prog w = .ok (.agg #[.slice x0 l0 c0, .int .i64 x1, .slice x2 l2 c2, .slice x3 l3 c3, .slice x4 l4 c4, .int .i64 x5, .map x6]) w := by kernel_rfl
theorem next_all {w0 : World} {F : List (Nat × Obj)} (c : Cargo) (p : AtT) (but cb mm : Nat) (hk : CK w0 F c p but cb mm)  (hco : c.Ok) (hold : Nat) (hh : hold < c.holds.length) (bp bh bs bla bsn bY bn : Nat) (h1 : Ats w0 F bp 0 [.pointer (some ⟨cb, 0, none⟩)]) (h2 : Ats w0 F bh 0 [.int .i64 (hold : Int)]) (Ls : List (List Int)) (J : Nat → List (Nat × Obj) → Prop) (Js : List (Nat × Obj) → Prop) (yv : Value) (hy : ∀ (i : Nat) (x : List Int) (R : List (List Int)) (B M X : List (Nat × Obj)) (w : World), Ls.drop i = x :: R → J i B → Memo c mm M → St w0 w (X ++ (B ++ (M ++ F))) → FCon Tryz.prog yv [ia x] w fun v w' => ∃ B' M', Memo c mm M' ∧ St w0 w' (X ++ (B' ++ (M' ++ F))) ∧ (v = .bool true ∧ J (i + 1) B' ∨ v = .bool false ∧ Js B')) (rem : Nat) : NextC c but cb mm hold bp bh bs bla bsn bY bn Ls J Js yv w0 F rem := by
  induction rem with
  | zero => exact c93 c p but cb mm hk hco hold hh bp bh bs bla bsn bY bn h1 h2 Ls J Js yv hy 0 (fun r h => by omega)
  | succ r ih => exact c93 c p but cb mm hk hco hold hh bp bh bs bla bsn bY bn h1 h2 Ls J Js yv hy (r + 1) (fun q h => by have : q = r := (by omega); subst this; exact ih)
theorem iter_memo {w0 : World} {F : List (Nat × Obj)} {c : Cargo} {mm : Nat} {Ls : List (List Int)} {J : Nat → List (Nat × Obj) → Prop} {Js : List (Nat × Obj) → Prop} {J0 : Nat → List (Nat × Obj) → Prop} {Js0 : List (Nat × Obj) → Prop} (hJi : ∀ i Bx, J i Bx ↔ ∃ B M, Bx = B ++ M ∧ Memo c mm M ∧ J0 i B) (hJs : ∀ Bx, Js Bx ↔ ∃ B M, Bx = B ++ M ∧ Memo c mm M ∧ Js0 B) {yv : Value}
    (hy : ∀ i (hi : i < (Ls.map ia).length) B X w, J i B → St w0 w (X ++ (B ++ F)) → FCon Tryz.prog yv [(Ls.map ia)[i]] w fun v w' => ∃ B', St w0 w' (X ++ (B' ++ F)) ∧ (v = .bool true ∧ J (i + 1) B' ∨ v = .bool false ∧ Js B')) :
    ∀ (i : Nat) (x : List Int) (R : List (List Int)) (B M X : List (Nat × Obj)) (w : World), Ls.drop i = x :: R → J0 i B → Memo c mm M → St w0 w (X ++ (B ++ (M ++ F))) → FCon Tryz.prog yv [ia x] w fun v w' => ∃ B' M', Memo c mm M' ∧ St w0 w' (X ++ (B' ++ (M' ++ F))) ∧ (v = .bool true ∧ J0 (i + 1) B' ∨ v = .bool false ∧ Js0 B') := by
  intro i x R B M X w hd hJ hM hs
  have h := hy i (by simpa using zCm hd) (B ++ M) X w ((hJi _ _).2 ⟨B, M, rfl, hM, hJ⟩) (by rw [List.append_assoc]; exact hs)
  rw [List.getElem_map, zDd hd] at h
  refine h.mono ?_
  rintro v w' ⟨Bx, hs', (⟨rfl, hj⟩ | ⟨rfl, hj⟩)⟩
  · obtain ⟨B', M', rfl, hM', hJ'⟩ := (hJi _ _).1 hj
    exact ⟨B', M', hM', by rw [List.append_assoc] at hs'; exact hs', .inl ⟨rfl, hJ'⟩⟩
  · obtain ⟨B', M', rfl, hM', hJ'⟩ := (hJs _).1 hj
    exact ⟨B', M', hM', by rw [List.append_assoc] at hs'; exact hs', .inr ⟨rfl, hJ'⟩⟩
theorem mkG_at1 {hold w : Int} {g : List Int} {m : Nat} : (mkG hold w g m).getD 1 0 = w := rfl
theorem truths_iter {w0 : World} {F : List (Nat × Obj)} (c : Cargo) (p : AtT) (but cb mm : Nat) (hk : CK w0 F c p but cb mm) (hco : c.Ok) (hold : Nat) (hh : hold < c.holds.length) (bp bh : Nat) (h1 : Ats w0 F bp 0 [.pointer (some ⟨cb, 0, none⟩)]) (h2 : Ats w0 F bh 0 [.int .i64 (hold : Int)]) : IterC Tryz.prog 91 [] [.pointer (some ⟨bp, 0, none⟩), .pointer (some ⟨bh, 0, none⟩)] ((truths c but hold).map ia) w0 F (ClsM (Memo c mm)) := by
  intro J Js hcl yv B X w hyv hy hJ hs
  obtain ⟨J0, Js0, hJi, hJs⟩ := hcl
  obtain ⟨yf, ya, yb, rfl⟩ := hyv
  obtain ⟨B0, M, rfl, hM, hJ0⟩ := (hJi 0 B).1 hJ
  replace hs : St w0 w (X ++ (B0 ++ (M ++ F))) := by rw [List.append_assoc] at hs; exact hs
  have hb := hk.l
  have hlo := hco.ll
  have hlh := hco.lh
  have hho := hco.hold _ (List.getElem_mem hh)
  show Con Tryz.prog 91 [.func yf ya yb, .pointer (some ⟨bp, 0, none⟩), .pointer (some ⟨bh, 0, none⟩)] w _
  refine zAu (n := 46) func91 rfl rfl (zNl rfl) ?_
  refine zAg (fun K2 gh => (zAc (zCj (v := .func _ _ _) (cs := [_]) zAb rfl rfl rfl hs (fun b3 w4 ga => ?_))))
  refine zAe (zAd (gh _ _ (zAg (fun K7 gi => (zAc (w_p (zAk isAgg69 ga.tail.drop.drop.drop rfl rfl h1) rfl (w_p (zCa (fv := [_]) (cv := []) rfl rfl rfl rfl) rfl (zA0 (cs := [_]) zAb zeroValue151 rfl ga (fun b8 w9 gj => ?_)))))))))
  refine zAs (i := 0) (v := .func _ _ _) (vs := [_]) zAb sizeOf151 rfl rfl rfl rfl rfl (by simp [Value.oneCell']) gj rfl (zNl rfl) (fun gD gk => ?_)
  refine zAe (zAd (gi _ _ (zAg (fun gE gl => ?_))))
  have hMm := hM
  refine w_cut [5,10,11,12,13,14] [5] (fun vs w => ∃ bs, vs = [.pointer (some ⟨bs, 0, none⟩)] ∧ St w0 w ((bs, blk 79 (iv (mkG (hold : Int) 0 [0,0,0,0,0] (ofH c (hold : Int))))) :: (b8, blk 151 [.func (.func 92) #[.pointer (some ⟨cb, 0, none⟩)] #[]]) :: (b3, blk 150 [.func yf ya yb]) :: (X ++ (B0 ++ (M ++ F))))) (fun gF gb => ?_) ?_
  ·
   refine w_drawT (C := fun w => St w0 w _) [6] (.two [(0,1),(1,1),(2,1)] 3 5 (.done [(4,0),(5,2),(6,3)]) (.done [(3,2),(4,0),(6,3)])) zB0 (by kernel_rfl) gk (fun _ h => h.drew) (fun gG g4 => ?_)
   refine zFa ?_
   refine zBb rfl zAb rfl g4 (fun _ hq => (zAk isAgg3 hq.tail.tail.drop.drop.drop rfl rfl h2)) ?_
   refine zBb rfl zAb rfl g4 (fun _ hq => (zAk isAgg69 hq.tail.tail.drop.drop.drop rfl rfl h1)) ?_
   refine zBb rfl zAb rfl g4 (fun _ hq => (zAk isAgg3 hq.tail.tail.drop.drop.drop rfl rfl h2)) ?_
   refine zHu rfl rfl ?_ ?_
   ·
    refine zAr zAb call63 rfl rfl rfl rfl (c63 c p but cb mm hk.app.app.app.cons.cons _ g4) ?_
    rintro _ gH ⟨rfl, gc⟩
    refine zAe (qn ⟨gc, ?_⟩)
    refine zDg ?_
    refine d_w rfl (fun _ => show Yd _ _ _ _ (ia [(hold : Int), 0,0,0,0,0,0, ((ofH c (hold : Int) : Nat) : Int)]) from (zBx (ps := [(0, _),(3, _)]) (pv := [(0, .int _ _),(3, .int _ _)]) rfl rfl (fun w => Try_UG_fb0 _ _ w))) rfl ?_
    refine zBl rfl ?_
    refine zA0 (cs := iv [0,0,0,0,0,0,0,0]) zAb zeroValue79 rfl gc (fun gI gJ gd => ?_)
    refine zAe (qn ⟨gd.tail, ?_⟩)
    refine zBm rfl ?_
    refine zB6 (i := 0) (l := _) zAb sizeOf79 (by first | omega | rfl | (simp only [zL] <;> omega)) rfl rfl rfl rfl rfl gd rfl (by first | omega | rfl | (simp only [zL] <;> omega)) (fun gK gm => ?_)
    refine zAe (qn ?_)
    refine zBh ?_
    refine zAd (gb _ _ (Md.intro (by repeat (first | exact zAz | exact zA5 | refine zA4 rfl ?_ | refine zAw rfl ?_ _ | refine zAt rfl ?_)) ?_))
    exact ⟨_, rfl, gm⟩
   refine zA0 (cs := iv [0,0,0,0,0,0,0,0]) zAb zeroValue79 rfl g4 (fun gL gM ge => ?_)
   refine zAe (qn ⟨ge.tail, ?_⟩)
   refine zDg ?_
   refine zBl rfl ?_
   refine zAr zAb call63 rfl rfl rfl rfl (c63 c p but cb mm hk.app.app.app.cons.cons.cons _ ge) ?_
   rintro _ gN ⟨rfl, gf⟩
   refine zAe (qn ⟨gf.tail, ?_⟩)
   refine d_w rfl (fun _ => show Yd _ _ _ _ (ia [(hold : Int), 0,0,0,0,0,0, ((ofH c (hold : Int) : Nat) : Int)]) from (zBx (ps := [(0, _),(3, _)]) (pv := [(0, .int _ _),(3, .int _ _)]) rfl rfl (fun w => Try_UG_fb0 _ _ w))) rfl ?_
   refine zBm rfl ?_
   refine zB6 (i := 0) (l := _) zAb sizeOf79 (by first | omega | rfl | (simp only [zL] <;> omega)) rfl rfl rfl rfl rfl gf rfl (by first | omega | rfl | (simp only [zL] <;> omega)) (fun gO gn => ?_)
   refine zAe (qn ?_)
   refine zBh ?_
   refine zAd (gb _ _ (Md.intro (by repeat (first | exact zAz | exact zA5 | refine zA4 rfl ?_ | refine zAw rfl ?_ _ | refine zAt rfl ?_)) ?_))
   exact ⟨_, rfl, gn⟩
  intro vs μ gP hM
  clear hs
  obtain ⟨bs, rfl, hs⟩ := hM
  have hM := hMm
  refine zAd (gl _ _ (zAg (fun gQ go => (zAc (w_p (show Yd _ _ _ _ (ia [-1,0,0,0,0,0,0,0]) from (zBx (ps := [(0, _)]) (pv := [(0, .int _ _)]) rfl rfl (fun w => Try_UG_fb1 _ w))) rfl ?_)))))
  refine zA0 (cs := iv [0,0,0,0,0,0,0,0]) zAb zeroValue79 rfl hs (fun g6 gR gp => ?_)
  refine zB6 (i := 0) (l := _) zAb sizeOf79 (by first | omega | rfl | (simp only [zL] <;> omega)) rfl rfl rfl rfl rfl gp rfl (by first | omega | rfl | (simp only [zL] <;> omega)) (fun gS gq => ?_)
  refine zAe (zAd (go _ _ (zAg (fun gT gr => (zAc (zA0 (cs := [_]) zAb zeroValue119 rfl gq (fun g7 gU gt => ?_)))))))
  refine zAe (zAd (gr _ _ (zAg (fun gV gu => (zAc (w_p (zCa (fv := []) (cv := [_,_,_,_,_,_,_]) rfl rfl rfl rfl) rfl (zAs (i := 0) (v := .func _ _ _) (vs := [_]) zAb sizeOf119 rfl rfl rfl rfl rfl (by simp [Value.oneCell']) gt rfl (zNl rfl) (fun gW gv => ?_))))))))
  refine zAe (zAd (gu _ _ (zAg (fun gX gw => ?_))))
  obtain ⟨bx, ox, hbx, hx⟩ := sl_srows hk.i.h hh
  have hgm0 := zHn (hold := (hold : Int)) (w := 0) (g := [0,0,0,0,0]) (m := (ofH c (hold : Int))) rfl
  refine zCe [10] [(0,1),(1,0),(2,0),(3,0),(4,1),(5,1),(6,0),(7,0),(8,1),(9,0),(10,3)] zB0 (zB5 (by kernel_rfl)) gv (fun gY g5 => ?_)
  refine zBb rfl zAb rfl g5 (fun _ hq => (zAk isAgg69 hq.tail.tail.tail.tail.tail.drop.drop.drop rfl rfl h1)) ?_
  refine d_w rfl (fun _ => zBn rfl rfl) rfl ?_
  refine d_w rfl (fun _ => zAf (o := 0) (i := 0) underlying132 rfl sizeOf42 rfl rfl rfl) rfl ?_
  refine d_w rfl (fun _ => zAf (o := 2) (i := 2) underlying42 rfl sizeOf36 rfl rfl rfl) rfl ?_
  refine zBb rfl zAb rfl g5 (fun _ hq => (zFd hbx (zAk isAgg36 hq.tail.tail.tail.tail.tail.drop.drop.drop rfl rfl (show Ats _ _ _ _ [_] from Ats.part hb 2 1)))) ?_
  refine zBb rfl zAb rfl g5 (fun _ hq => (zAk isAgg3 hq.tail.tail.tail.tail.tail.drop.drop.drop rfl rfl h2)) ?_
  refine d_w rfl (fun _ => zBk underlying36 sizeOf23 rfl rfl rfl rfl (i := hold) rfl hh) rfl ?_
  refine d_w rfl (fun _ => zAf (o := 0) (i := 0) underlying23 rfl sizeOf3 rfl rfl rfl) rfl ?_
  refine zBb rfl zAb rfl g5 (fun _ hq => (zAk isAgg3 hq.tail.tail.tail.tail.tail.drop.drop.drop rfl rfl (show Ats _ _ _ _ [_] from Ats.part hx 0 1))) ?_
  refine d_w rfl (fun _ => zAf (o := 1) (i := 1) underlying79 rfl sizeOf3 rfl rfl rfl) rfl ?_
  refine zBm rfl ?_
  refine zEp (i := 2) (o := 1) zAb sizeOf3 rfl rfl rfl rfl g5 rfl (by first | omega | rfl | (simp only [zL] <;> omega)) (fun gZ gx => ?_)
  refine zAe (qn ?_)
  refine zBh ?_
  refine zAd (gw _ _ (zA8 ?_))
  refine zCd [27,28,29,30,31,32,33,34,35,36,37,38,39,40,41,42,43,44,45] [] (fun k vs w => ∃ (q : Nat) (g last : List Int) (i : Nat) (B M : List (Nat × Obj)), vs = [] ∧ (q : Int) ≤ (c.holds[hold]'hh).2 + 1 - (c.holds[hold]'hh).1 ∧ k = ((c.holds[hold]'hh).2 + 1 - (c.holds[hold]'hh).1).toNat - q ∧ g.length = 5 ∧ last.length = 8 ∧ (∀ j, c.lots.length ≤ j → g.getD j 0 = 0) ∧ i ≤ (truths c but hold).length ∧ (truths c but hold).drop i = warmK c but hold (upto ((c.holds[hold]'hh).1 + q) (((c.holds[hold]'hh).2 + 1 - (c.holds[hold]'hh).1).toNat - q)) ∧ (warmF c hold (upto ((c.holds[hold]'hh).1 + q) (((c.holds[hold]'hh).2 + 1 - (c.holds[hold]'hh).1).toNat - q))).Nodup ∧ last ∉ warmF c hold (upto ((c.holds[hold]'hh).1 + q) (((c.holds[hold]'hh).2 + 1 - (c.holds[hold]'hh).1).toNat - q)) ∧ J0 i B ∧ Memo c mm M ∧ St w0 w ((g7, blk 119 [.func (.func 93) #[] #[.pointer (some ⟨bp, 0, none⟩), .pointer (some ⟨bs, 0, none⟩), .pointer (some ⟨g6,0, none⟩), .pointer (some ⟨b8,0, none⟩), .pointer (some ⟨bh, 0, none⟩), .pointer (some ⟨b3,0, none⟩), .pointer (some ⟨g7,0, none⟩)]]) :: (g6, blk 79 (iv last)) :: (bs, blk 79 (iv (mkG (hold : Int) ((c.holds[hold]'hh).1 + (q : Int)) g (ofH c (hold : Int))))) :: (b8, blk 151 [.func (.func 92) #[.pointer (some ⟨cb, 0, none⟩)] #[]]) :: (b3, blk 150 [.func yf ya yb]) :: (X ++ (B ++ (M ++ F))))) (((c.holds[hold]'hh).2 + 1 - (c.holds[hold]'hh).1).toNat) ?_ ?_
  ·
   exact ⟨0, [0,0,0,0,0], [-1,0,0,0,0,0,0,0], 0, B0, M, rfl, by omega, by omega, rfl, rfl, (fun j _ => by match j with | 0 => rfl | 1 => rfl | 2 => rfl | 3 => rfl | 4 => rfl | _ + 5 => rfl), by omega, by rw [show (c.holds[hold]'hh).1 + ((0 : Nat) : Int) = (c.holds[hold]'hh).1 by omega]; have h := warmK_all c but hold; rw [hold_at hh] at h; exact h.symm, warm_nodup hco hold _ (Go.Rt.Ha.upto_nodup _ _), start_last hco hold _, hJ0, hM, by rw [show (c.holds[hold]'hh).1 + ((0 : Nat) : Int) = (c.holds[hold]'hh).1 by omega]; exact gx⟩
  intro k vs μ hD hI hG gy
  clear hs hM hMm
  obtain ⟨q, g, last, i, B, M, rfl, hq, rfl, hgl, hll, hz, hi, hpos, hnd, hlast, hJ, hM, hs⟩ := hI
  refine zAg (fun hH gz => (zAg (fun hN gA => ?_)))
  have hw1 := mkG_at1 (hold := (hold : Int)) (w := (c.holds[hold]'hh).1 + (q : Int)) (g := g) (m := (ofH c (hold : Int)))
  have hgm := zHn (hold := (hold : Int)) (w := (c.holds[hold]'hh).1 + (q : Int)) (m := (ofH c (hold : Int))) hgl
  refine zCe [] [(0,0),(1,1),(2,1),(3,0),(4,0),(5,0),(6,1),(7,1),(8,0),(9,0),(10,1),(11,0)] zB0 (zB5 (by kernel_rfl)) hs (fun hO g0 => ?_)
  refine d_w rfl (fun _ => zAf (o := 1) (i := 1) underlying79 rfl sizeOf3 rfl rfl rfl) rfl ?_
  refine zBb rfl zAb rfl g0 (fun _ hq => (zAk isAgg3 hq rfl rfl (zD5 (i := 2) (o := 1) rfl (by first | omega | rfl | (simp only [zL] <;> omega))))) ?_
  refine zBb rfl zAb rfl g0 (fun _ hq => (zAk isAgg69 hq.tail.tail.tail.tail.tail.drop.drop.drop rfl rfl h1)) ?_
  refine d_w rfl (fun _ => zBn rfl rfl) rfl ?_
  refine d_w rfl (fun _ => zAf (o := 0) (i := 0) underlying132 rfl sizeOf42 rfl rfl rfl) rfl ?_
  refine d_w rfl (fun _ => zAf (o := 2) (i := 2) underlying42 rfl sizeOf36 rfl rfl rfl) rfl ?_
  refine zBb rfl zAb rfl g0 (fun _ hq => (zFd hbx (zAk isAgg36 hq.tail.tail.tail.tail.tail.drop.drop.drop rfl rfl (show Ats _ _ _ _ [_] from Ats.part hb 2 1)))) ?_
  refine zBb rfl zAb rfl g0 (fun _ hq => (zAk isAgg3 hq.tail.tail.tail.tail.tail.drop.drop.drop rfl rfl h2)) ?_
  refine d_w rfl (fun _ => zBk underlying36 sizeOf23 rfl rfl rfl rfl (i := hold) rfl hh) rfl ?_
  refine d_w rfl (fun _ => zAf (o := 1) (i := 1) underlying23 rfl sizeOf3 rfl rfl rfl) rfl ?_
  refine zBb rfl zAb rfl g0 (fun _ hq => (zAk isAgg3 hq.tail.tail.tail.tail.tail.drop.drop.drop rfl rfl (show Ats _ _ _ _ [_] from Ats.part hx 1 1))) ?_
  refine d_w rfl (fun _ => zGf rfl rfl rfl rfl) rfl ?_
  refine zBh ?_
  refine zAd (gA _ _ (zA1 rfl rfl (fun g8 => ?_) (fun g8 => ?_)))
  ·
   try simp only [zS] at g8
   refine zAx (zAd (gz _ _ (zAg (fun hP gB => (zA8 ?_)))))
   refine zAg (fun hX gg => (zAc (w_p (zAk isAgg119 g0 rfl rfl (zAl (i := 0) (vs := [_]) rfl rfl)) rfl (zAr zAb call93 rfl rfl rfl rfl (next_all c p but cb mm hk hco hold hh bp bh bs g6 b8 b3 g7 h1 h2 (truths c but hold) J0 Js0 (.func yf ya yb) (iter_memo hJi hJs hy) c.lots.length ((c.holds[hold]'hh).1 + (q : Int)) 0 [] g last i (warmK c but hold (upto ((c.holds[hold]'hh).1 + (q + 1 : Nat)) (((c.holds[hold]'hh).2 + 1 - (c.holds[hold]'hh).1).toNat - (q + 1)))) (warmF c hold (upto ((c.holds[hold]'hh).1 + (q + 1 : Nat)) (((c.holds[hold]'hh).2 + 1 - (c.holds[hold]'hh).1).toNat - (q + 1)))) B M X _ (by omega) (by omega) rfl (fun j => by simp) hgl rfl hz hi (by rw [warmK_next (by omega)] at hpos; exact hpos) hll (by rw [zHi (by omega)] at hnd; exact hnd) (by rw [zHi (by omega)] at hlast; exact hlast) hJ hM g0) ?_))))
   rintro _ hY ⟨g2, last2, B2, M3, hg2, hl2, hk2, hz2, g9, g3, (⟨rfl, i2, hi2, hp2, hn2, hJ2⟩ | ⟨rfl, hJ2⟩)⟩
   ·
    replace g3 := (show St _ _ (_ :: _ :: _ :: _ :: _ :: X ++ (B2 ++ (M3 ++ (F)))) from g3)
    refine w_p (zDq rfl rfl) rfl (zAe (zAd (gg _ _ (zB7 rfl rfl ?_))))
    refine zAx (zAn (zAd (gB _ _ (zAc ?_))))
    have hw2 := mkG_at1 (hold := (hold : Int)) (w := (c.holds[hold]'hh).1 + (q : Int)) (g := g2) (m := (ofH c (hold : Int)))
    have hgm2 := zHn (hold := (hold : Int)) (w := (c.holds[hold]'hh).1 + (q : Int)) (m := (ofH c (hold : Int))) hg2
    refine w_p (zAf (o := 1) (i := 1) underlying79 rfl sizeOf3 rfl rfl rfl) rfl (w_p (zAk isAgg3 g3 rfl rfl (zD5 (i := 2) (o := 1) rfl (by first | omega | rfl | (simp only [zL] <;> omega)))) rfl ?_)
    refine w_p (zBq rfl rfl rfl rfl (by omega) (by omega)) rfl (w_p (zAf (o := 1) (i := 1) underlying79 rfl sizeOf3 rfl rfl rfl) rfl (zEp (i := 2) (o := 1) zAb sizeOf3 rfl rfl rfl rfl g3 rfl (by first | omega | rfl | (simp only [zL] <;> omega)) (fun j0 gC => ?_)))
    refine zAe (zAd (gy _ _ (nxI (((c.holds[hold]'hh).2 + 1 - (c.holds[hold]'hh).1).toNat - (q + 1)) (by omega) ?_)))
    exact ⟨q + 1, g2, last2, i2, B2, M3, rfl, by omega, by omega, hg2, hl2, hz2, hi2, hp2, (by rw [zHi (by omega)] at hnd; exact (List.nodup_append.1 hnd).2.1), hn2, hJ2, g9, by rw [show (c.holds[hold]'hh).1 + ((q + 1 : Nat) : Int) = (c.holds[hold]'hh).1 + (q : Int) + 1 by omega]; exact gC⟩
   replace g3 := (show St _ _ (_ :: _ :: _ :: _ :: _ :: X ++ (B2 ++ (M3 ++ (F)))) from g3)
   refine w_p (zDq rfl rfl) rfl (zAe (zAd (gg _ _ (zC0 rfl rfl ?_))))
   refine zA7 (zAy (zAm (zAm (zAy (zBa (l := []) (vs := []) rfl trivial ?_)))))
   first
     | exact ⟨B2 ++ M3, by rw [List.append_assoc]; exact g3.tail.tail.tail.tail.tail, .inr ((hJs _).2 ⟨B2, M3, rfl, g9, hJ2⟩)⟩
     | (rw [warmK_done (by omega)] at hpos
        exact ⟨B ++ M, by rw [List.append_assoc]; exact g3.tail.tail.tail.tail.tail, .inl (by rw [List.length_map, ← zCx hi hpos]; exact (hJi _ _).2 ⟨B, M, rfl, hM, hJ⟩)⟩)
  try simp only [zS] at g8
  refine zBy (zAq (zAq (zBc (q_end (l := []) (vs := []) rfl trivial ?_))))
  first
    | exact ⟨B2 ++ M3, by rw [List.append_assoc]; exact g0.tail.tail.tail.tail.tail, .inr ((hJs _).2 ⟨B2, M3, rfl, g9, hJ2⟩)⟩
    | (rw [warmK_done (by omega)] at hpos
       exact ⟨B ++ M, by rw [List.append_assoc]; exact g0.tail.tail.tail.tail.tail, .inl (by rw [List.length_map, ← zCx hi hpos]; exact (hJi _ _).2 ⟨B, M, rfl, hM, hJ⟩)⟩)

theorem c72 {w0 w : World} {F : List (Nat × Obj)} (cb : Nat) (hold : Int) (hs : St w0 w F) :
  Con Tryz.prog 72 [.pointer (some ⟨cb, 0, none⟩), .int .i64 hold] w fun v w' => ∃ bp bh, v = .func (.func 91) #[] #[.pointer (some ⟨bp, 0, none⟩), .pointer (some ⟨bh, 0, none⟩)] ∧ St w0 w' ((bh, blk 3 [.int .i64 hold]) :: (bp, blk 69 [.pointer (some ⟨cb, 0, none⟩)]) :: F) := by
  refine zAu (n := 6) func72 rfl rfl (zNl rfl) ?_
  refine zAg (fun K2 g0 => (zAc (zCj (v := .pointer _) (cs := [_]) zAb rfl rfl rfl hs (fun b3 w4 g3 => ?_))))
  refine zCj (v := .int _ _) (cs := [_]) zAb rfl rfl rfl g3 (fun b6 w7 g4 => ?_)
  refine zBj rfl rfl (zAe (zAd (g0 _ _ (zAg (fun g6 g5 => (zAc (w_p (zCa (fv := []) (cv := [_,_]) rfl rfl rfl rfl) rfl (w_p (zAo (v := .func _ _ _) rfl rfl) rfl ?_))))))))
  refine zAe (zAd (g5 _ _ (zA7 (zBa (l := [.tmp 4]) (vs := [_]) rfl ⟨⟨rfl, show _ = (.func _ _ _ : Value) from rfl⟩, trivial⟩ ?_))))
  exact ⟨_, _, rfl, g4⟩

theorem c61 {w0 w : World} {F : List (Nat × Obj)} (c : Cargo) (p : AtT) (but : Nat) (hs : St w0 w F) :
  Con Tryz.prog 61 [.agg (c.cells p).toArray, .int .i64 (but : Int)] w fun v w' => ∃ cb mm, v = .pointer (some ⟨cb, 0, none⟩) ∧ St w0 w' ((cb, blk 132 [.slice p.ae c.heat.length p.ce, .int .i64 c.gas, .slice p.ah c.holds.length p.ch, .slice p.al c.lots.length p.cl, .slice p.an c.seen.length p.cn, .int .i64 (but : Int), .map (some mm)]) :: (mm, .map #[] 0) :: F) := by
  refine zAu (n := 10) func61 rfl rfl (zNl rfl) ?_
  refine zAg (fun K2 g3 => (zAc (zCj (v := .agg #[.slice _ _ _, .int _ _, .slice _ _ _, .slice _ _ _, .slice _ _ _]) (cs := [_,_,_,_,_]) zAb rfl rfl rfl hs (fun b3 w4 g0 => ?_))))
  refine zBj rfl rfl (zAe (zAd (g3 _ _ (zAg (fun K7 g4 => (zAc (w_p (zA9 (vs := [_,_,_,_,_]) isAgg42 sizeOf42 g0 rfl rfl (zAl (i := 0) (vs := [_,_,_,_,_]) rfl rfl)) rfl ?_)))))))
  refine zBe rfl rfl (w_makeMap zAb g0 (fun b8 w9 g5 => ?_))
  refine w_p (zBx (ps := [(0, _),(1, _),(2, _)]) (pv := [(0, .agg #[.slice _ _ _, .int _ _, .slice _ _ _, .slice _ _ _, .slice _ _ _]),(1, .int _ _),(2, .map _)]) rfl rfl (fun w => Try_UG_fb2 _ _ _ _ _ _ _ _ _ _ _ _ _ _ _ w)) rfl (zCj (v := .agg #[.slice _ _ _, .int _ _, .slice _ _ _, .slice _ _ _, .slice _ _ _, .int _ _, .map _]) (cs := [_,_,_,_,_,_,_]) zAb rfl rfl rfl g5 (fun g7 g8 g6 => ?_))
  refine w_p (zAo (v := .pointer _) rfl rfl) rfl (zAe (zAd (g4 _ _ (zA7 (zBa (l := [.tmp 4]) (vs := [_]) rfl ⟨⟨rfl, show _ = (.pointer _ : Value) from rfl⟩, trivial⟩ ?_)))))
  exact ⟨_, _, rfl, (St.perm (L := [_,_,_] ++ F) g6 (zAa [_,_] [_] F)).tail⟩

end Go.Proofs.Ut
set_option maxRecDepth 20000
namespace Go.Proofs.Ut
open Go.Proofs.Tryz
open Go.Rt Go.Rt.Tu
open Go.Rt.Ha (firstE zCf zBu zB1 failE felt spanL upto zC1 listL fewest fewTo bit Bunch before fewStep zCm zDd zCc zCx zC6 zCw zB8)
attribute [local irreducible] WL WC Con Yd At Ats Sl Agree DW

theorem kp_own {w0 w : World} {F : List (Nat × Obj)} {x a : Nat × Obj} (h : St w0 w (x :: (a :: F))) : St w0 w (x :: F) := (h.perm (zAa [x] [a] F)).tail
theorem kq_opq {w0 w : World} {B Y F : List (Nat × Obj)} (h : St w0 w (B ++ (Y ++ F))) : St w0 w (B ++ F) := (h.perm (zAa B Y F)).drop
theorem some_perm (a b : Nat × Obj) (D X M F : List (Nat × Obj)) : (a :: b :: (D ++ (X ++ (M ++ F)))).Perm (M ++ (a :: b :: (D ++ (X ++ F)))) :=
  ((List.Perm.append_left [a, b] ((List.Perm.append_left D (zAa X M F)).trans (zAa D M (X ++ F)))).trans (zAa [a, b] M (D ++ (X ++ F))))
theorem some_back {w0 w : World} {bd : Nat} {bs : List Nat} {a b : Nat × Obj} {M X F : List (Nat × Obj)} (h : St w0 w ((bd, .deferred (some [])) :: (M ++ (a :: b :: (dfs bs ++ (X ++ F)))))) : St w0 w (dfs (bd :: bs) ++ (X ++ (M ++ F))) := by
  have h1 := h.perm (List.Perm.cons _ (zAa M [a, b] (dfs bs ++ (X ++ F))))
  have h2 := kp_own (kp_own h1)
  exact h2.perm (List.Perm.cons _ ((zAa M (dfs bs) (X ++ F)).trans (List.Perm.append_left _ (zAa M X F))))
theorem zIm {w0 w : World} {x y : Nat × Obj} {M F : List (Nat × Obj)} (h : St w0 w (M ++ (x :: y :: F))) : St w0 w (M ++ (x :: F)) := by
  have h1 := h.perm (zAa M [x, y] F)
  exact (kp_own h1).perm (zAa [x] M F)
theorem swp2 {w0 w : World} {a b : Nat × Obj} {F : List (Nat × Obj)} (h : St w0 w (a :: b :: F)) : St w0 w (b :: a :: F) := h.perm (List.Perm.swap _ _ _)
theorem sl_arows {w0 : World} {F : List (Nat × Obj)} {a : Option Addr} {l : List (Bool × Int)} {i : Nat} (h : Sl w0 F a 2 (arows l)) (hi : i < l.length) : ∃ b off, a = some ⟨b, off, none⟩ ∧ Ats w0 F b (off + i * 2) [.bool l[i].1, .int .i64 l[i].2] := by
  obtain ⟨b, off, ha, _, hat⟩ := h.at (i := i) (row := [.bool l[i].1, .int .i64 l[i].2]) (by simp [arows, hi])
  exact ⟨b, off, ha, hat⟩
theorem ck_new {w0 : World} {L : List (Nat × Obj)} {c : Cargo} {p : AtT} {but cb mm : Nat} (hm : TIn w0 L c p) (hok : c.Ok) (hb : but < 1000) : CK w0 ((cb, blk 132 [.slice p.ae c.heat.length p.ce, .int .i64 c.gas, .slice p.ah c.holds.length p.ch, .slice p.al c.lots.length p.cl, .slice p.an c.seen.length p.cn, .int .i64 (but : Int), .map (some mm)]) :: L) c p but cb mm := ⟨hm.cons, zAl (i := 0) rfl rfl, hok.t, hb⟩
theorem c70 {w0 w : World} {X M F : List (Nat × Obj)} (c : Cargo) (p : AtT) (but cb mm : Nat) (hk : CK w0 F c p but cb mm) (hco : c.Ok) (hM : Memo c mm M) (hs : St w0 w (X ++ (M ++ F))) :
  Con Tryz.prog 70 [.pointer (some ⟨cb, 0, none⟩)] w fun v w' => v = .bool (someB c but) ∧ ∃ M', Memo c mm M' ∧ St w0 w' (X ++ (M' ++ F)) := by
  refine zD7 (n := 18) func70 rfl rfl (zNl rfl) ?_
  have hb := hk.l
  have hlh := hco.lh
  refine zAg (fun K2 g7 => (zAc (zBj rfl rfl (zAe (zAd (g7 _ _ (w_scope ?_)))))))
  refine zAg (fun K4 g8 => (w_label ?_))
  refine zAd (g8 _ _ (zAg (fun K6 g9 => (zAg (fun K8 ga => (zAc (w_p (zAi (v := .pointer _) rfl rfl) rfl (w_p (zBn rfl rfl) rfl (w_p (zAf (o := 0) (i := 0) underlying132 rfl sizeOf42 rfl rfl rfl) rfl ?_)))))))))
  refine w_p (zAf (o := 2) (i := 2) underlying42 rfl sizeOf36 rfl rfl rfl) rfl (w_p (zAk isAgg36 hs.drop.drop rfl rfl (show Ats _ _ _ _ [_] from Ats.part hb 2 1)) rfl (w_p (zBo underlying36 rfl rfl) rfl (w_p (zAi (v := _) rfl rfl) rfl (zAe (zAd (ga _ _ (zA8 ?_)))))))
  refine w_loopD [2,3,10,11,12,13,14,15,17] [10] (fun k vs bs w => ∃ (hold : Nat) (M : List (Nat × Obj)), vs = [.int .i64 (hold : Int)] ∧ hold ≤ c.holds.length ∧ k = c.holds.length - hold ∧ someTo c but hold = true ∧ Memo c mm M ∧ St w0 w (dfs bs ++ (X ++ (M ++ F)))) (c.holds.length) [] ?_ ?_
  ·
   exact ⟨0, M, rfl, by omega, by omega, rfl, hM, hs⟩
  intro k vs μ bs gn hI go gb
  clear hs hM
  obtain ⟨hold, M, rfl, hha, rfl, hsm, hM, hs⟩ := hI
  refine zAg (fun gp gc => (zAc (w_p (zCl rfl rfl rfl rfl) rfl (zAe (zAd (gc _ _ (zAg (fun gq gd => (zA1 rfl rfl (fun g3 => ?_) (fun g3 => ?_))))))))))
  ·
   try simp only [zS] at g3
   refine zAx (zAd (gd _ _ (zAg (fun gr ge => (zA8 ?_)))))
   refine zAg (fun gt gf => (zAc (zBe rfl rfl (zBs rfl rfl (zAe (zAd (gf _ _ (zAg (fun gu gg => (zAg (fun gv gh => ?_)))))))))))
   have hh : hold < c.holds.length := by omega
   refine zAc (w_p (zAi (v := .pointer _) rfl rfl) rfl (zBe rfl rfl (zAr zAb call72 rfl rfl rfl rfl (c72 _ _ hs) ?_)))
   rintro _ gw ⟨bp, bh, rfl, gi⟩
   refine zAe (zAd (gh _ _ (zA8 ?_)))
   refine w_rangeC (M) (fun i Bx => ∃ B M, Bx = B ++ M ∧ Memo c mm M ∧ (i = 0 ∧ B = [])) (fun cd Bx => ∃ B M, Bx = B ++ M ∧ Memo c mm M ∧ ((cd = .exit 1 ∧ 0 < (truths c but hold).length) ∧ B = [])) rfl rfl rfl call91 (truths_iter c p but cb mm hk.app.app.cons.cons hco hold hh bp bh (zAl (i := 1) (vs := [_]) rfl rfl) (zAl (i := 0) (vs := [_]) rfl rfl)) (clsM_range (fun i B => (i = 0 ∧ B = [])) (fun cd B => ((cd = .exit 1 ∧ 0 < (truths c but hold).length) ∧ B = [])) (fun i Bx => Iff.rfl) (fun cd Bx => Iff.rfl)) gi (some_perm _ _ _ _ _ _) ⟨[], M, rfl, hM, rfl, rfl⟩ ?_ ?_ ?_
   ·
    intro lp i hi Bx Xr Xr2 gx hJ hs K gj
    obtain ⟨BB, M3, rfl, g0, rfl, rfl⟩ := hJ
    have hi0 : 0 < (truths c but hold).length := by simpa using hi
    replace hs := (show St _ _ (M3 ++ (Xr ++ (_ :: _ :: (dfs bs ++ (X ++ F))))) from hs)
    refine zAx (zAd (gj _ _ (M3) hs (fun gy g4 => ?_)))
    replace g4 := (show St _ _ (M3 ++ (Xr2 ++ (_ :: _ :: (dfs bs) ++ (X ++ (F))))) from g4)
    refine zA8 ?_
    refine zBy (zFh rfl ?_)
    refine rd_exit (M3) g4 ?_
    exact ⟨[], M3, rfl, g0, ⟨rfl, hi0⟩, rfl⟩
   ·
    intro bd Bx gz hJ hs
    obtain ⟨BB, M3, rfl, g0, h0, rfl⟩ := hJ
    rw [List.length_map] at h0
    replace hs := (show St _ _ (_ :: (M3 ++ (_ :: _ :: (dfs bs ++ (X ++ F))))) from hs)
    refine zAn (zAd (gg _ _ (zAg (fun gA gk => (zAc ?_)))))
    have gl := some_back hs
    refine zBj rfl rfl (zAe (zAd (gk _ _ (zA7 (zAy (zAm (zAm (zAy (zAm (q_ng_ret ?_))))))))))
    refine q_retMM (bs := (bd :: bs)) (l := [.tmp 2]) (vs := [_]) gl rfl (fun gB g5 => ⟨⟨⟨rfl, (rfl : _ = Value.bool _)⟩, trivial⟩, ?_⟩)
    first
      | exact ⟨congrArg Value.bool (some_no h0 _ hh).symm, M3, g0, g5⟩
      | (have hin : hold = c.holds.length := by omega
         subst hin
         exact ⟨congrArg Value.bool hsm.symm, M, hM, g5⟩)
   intro bd c Bx gC hJ hs
   obtain ⟨BB, M3, rfl, g0, ⟨rfl, h0⟩, rfl⟩ := hJ
   replace hs := (show St _ _ (_ :: (M3 ++ (_ :: _ :: (dfs bs ++ (X ++ F))))) from hs)
   refine zBy (zFh rfl ?_)
   refine zAq (zBc (zAd (ge _ _ (zAc (w_p (zBq rfl rfl rfl rfl (by omega) (by omega)) rfl (zBe rfl rfl (zAe (zAd (gb _ _ (NxD.intro (bd :: bs) (c.holds.length - (hold + 1)) (by omega) (by repeat (first | exact zA5 | refine zA4 rfl ?_ | refine zAw rfl ?_ _ | refine zAt rfl ?_)) ?_))))))))))
   exact ⟨hold + 1, M3, rfl, by omega, by omega, some_step hsm h0, g0, some_back hs⟩
  try simp only [zS] at g3
  refine zBy (zAq (zAq (zBc (zAd (g9 _ _ (zAg (fun gD gm => (zAc (zBj rfl rfl (zAe (zAd (gm _ _ (zA7 (q_ng_ret ?_))))))))))))))
  refine q_retMM (l := [.tmp 2]) (vs := [_]) hs rfl (fun gE g6 => ⟨⟨⟨rfl, (rfl : _ = Value.bool _)⟩, trivial⟩, ?_⟩)
  first
    | exact ⟨congrArg Value.bool (some_no h0 _ hh).symm, M3, g0, g6⟩
    | (have hin : hold = c.holds.length := by omega
       subst hin
       exact ⟨congrArg Value.bool hsm.symm, M, hM, g6⟩)

theorem c32 {w0 w : World} {F : List (Nat × Obj)} (c : Cargo) (p : AtT) (hm : TIn w0 F c p) (aa : Option Addr) (ca : Nat) (l : List (Bool × Int)) (hll : l.length ≤ 1000) (hne : ∀ x ∈ l, x.1 = true → x.2 ≠ 0) (ha : Sl w0 F aa 2 (arows l)) (hs : St w0 w F) :
  Con Tryz.prog 32 [.agg (c.cells p).toArray, .slice aa l.length ca] w fun v w' => (¬ enterE c l = 0 ∧ v = .tuple #[.pointer none, .int .i64 (enterE c l)] ∧ St w0 w' F) ∨ (enterE c l = 0 ∧ ∃ cb mm M, v = .tuple #[.pointer (some ⟨cb, 0, none⟩), .int .i64 0] ∧ Memo c mm M ∧ St w0 w' (M ++ ((cb, blk 132 [.slice p.ae c.heat.length p.ce, .int .i64 c.gas, .slice p.ah c.holds.length p.ch, .slice p.al c.lots.length p.cl, .slice p.an c.seen.length p.cn, .int .i64 ((0 : Nat) : Int), .map (some mm)]) :: F))) := by
  refine zAu (n := 38) func32 rfl rfl (zNl rfl) ?_
  refine zAg (fun K2 gd => (zAc (zCj (v := .agg #[.slice _ _ _, .int _ _, .slice _ _ _, .slice _ _ _, .slice _ _ _]) (cs := [_,_,_,_,_]) zAb rfl rfl rfl hs (fun b3 w4 gc => ?_))))
  refine zBj rfl rfl (zBj rfl rfl (zAe (zAd (gd _ _ (zAg (fun K7 ge => (zAg (fun K9 gf => (zAc (w_p (zA9 (vs := [_,_,_,_,_]) isAgg42 sizeOf42 gc rfl rfl (zAl (i := 0) (vs := [_,_,_,_,_]) rfl rfl)) rfl ?_))))))))))
  refine zAr zAb call68 rfl rfl rfl rfl (c68 c _ hm.cons gc) ?_
  rintro _ gz ⟨rfl, g3⟩
  refine w_p (zAi (v := .tuple _) rfl rfl) rfl (w_p (zAh (v := .int _ _) rfl rfl rfl) rfl (w_p (zAh (v := .int _ _) rfl rfl rfl) rfl (w_p (zAh (v := .int _ _) rfl rfl rfl) rfl (zBs rfl rfl (zBs rfl rfl (zBs rfl rfl ?_))))))
  refine zAe (zAd (gf _ _ (zAg (fun gA gg => (zAc (zBe rfl rfl (w_p (zCv rfl rfl rfl rfl) rfl (zAe (zAd (gg _ _ (zA1 rfl rfl (fun g6 => ?_) (fun g6 => ?_))))))))))))
  ·
   try simp only [zS] at g6
   refine zAg (fun gB gh => (zAc (zBe rfl rfl (zBj rfl rfl (zBs rfl rfl (zAe (zAd (gh _ _ (zA7 (zAm (zBa (l := [.tmp 4, .tmp 5]) (vs := [_,_]) rfl ⟨⟨rfl, show _ = (.pointer _ : Value) from rfl⟩, ⟨rfl, (rfl : _ = Value.int _ _)⟩, trivial⟩ ?_)))))))))))
   first
     | exact .inl ⟨by rw [zEk (by assumption)]; assumption, by rw [zEk (by assumption)]; rfl, g3.tail⟩
     | (obtain ⟨ha1, ha2⟩ := zHe hj2 hany (by assumption)
        exact .inl ⟨by rw [zEj hck ha1, ha2]; exact hne _ (List.getElem_mem hj2) (by assumption), by rw [zEj hck ha1, ha2]; rfl, g3.tail⟩)
     | exact .inl ⟨by rw [zEi hck haz (by assumption)]; decide, by rw [zEi hck haz (by assumption)]; rfl, g3.tail⟩
     | exact .inr ⟨by rw [zIi hck haz (by assumption)], _,_, M2, rfl, g5, zIm g3⟩
  try simp only [zS] at g6
  refine zAx (zAd (ge _ _ (zAg (fun gC gi => (zAg (fun gD gj => ?_))))))
  have hck : (check c).2.2 = 0 := by assumption
  have hok := check_ok hck
  refine zAc (w_p (zAi (v := .slice _ _ _) rfl rfl) rfl (w_p (zBo underlying121 rfl rfl) rfl (w_p (zAi (v := _) rfl rfl) rfl (zAe (zAd (gj _ _ (zA8 ?_)))))))
  refine zCd [4,5,10,23,24,25,26,27,28,29,30,31] [23] (fun k vs w => ∃ j : Nat, vs = [.int .i64 (j : Int)] ∧ j ≤ l.length ∧ k = l.length - j ∧ anyAsk (l.take j) = false ∧ St w0 w ((b3, blk 42 (c.cells p)) :: F)) (l.length) ?_ ?_
  ·
   exact ⟨0, rfl, by omega, by omega, rfl, g3⟩
  intro k vs μ gE hI gF gk
  clear hs
  obtain ⟨j, rfl, hja, rfl, hany, hs⟩ := hI
  refine zAg (fun gG gl => (zAc (w_p (zCl rfl rfl rfl rfl) rfl (zAe (zAd (gl _ _ (zAg (fun gH gm => (zA1 rfl rfl (fun g7 => ?_) (fun g7 => ?_))))))))))
  ·
   try simp only [zS] at g7
   refine zAx (zAd (gm _ _ (zAg (fun gI gn => (zA8 ?_)))))
   refine zAg (fun gJ go => ?_)
   have hj2 : j < l.length := by omega
   obtain ⟨bx, ox, rfl, hx⟩ := sl_arows ha hj2
   refine zAc (w_p (zBk underlying121 sizeOf73 rfl rfl rfl rfl (i := _) rfl (by omega)) rfl (w_p (zA9 (vs := [_,_]) isAgg73 sizeOf73 hs.tail rfl rfl hx) rfl (zA0 (cs := [_,_]) zAb zeroValue73 rfl hs (fun gK gL gp => ?_))))
   refine zAs (i := 0) (v := .agg #[.bool _, .int _ _]) (vs := [_,_]) zAb sizeOf73 rfl rfl rfl rfl rfl (by simp [Value.oneCell']) gp rfl (zNl rfl) (fun gM g8 => ?_)
   refine zAe (zAd (go _ _ (zAg (fun gN gq => (zAc (w_p (zAf (o := 0) (i := 0) underlying73 rfl sizeOf4 rfl rfl rfl) rfl (w_p (zAk isAgg4 g8 rfl rfl (zAl (i := 0) (vs := [_]) rfl rfl)) rfl ?_)))))))
   refine zAe (zAd (gq _ _ (zA1 rfl rfl (fun g9 => ?_) (fun g9 => ?_))))
   ·
    try simp only [zS] at g9
    refine zAg (fun gO gr => (zCe [] [(0,0),(1,1),(2,0),(3,0)] zB0 (zB5 (by kernel_rfl)) g8 (fun gP g4 => ?_)))
    refine d_w rfl (fun _ => zAf (o := 1) (i := 1) underlying73 rfl sizeOf28 rfl rfl rfl) rfl ?_
    refine zBb rfl zAb rfl g4 (fun _ hq => (zAk isAgg28 hq rfl rfl (zAl (i := 0) (vs := [_]) rfl rfl))) ?_
    refine d_w rfl (fun _ => zAo (v := _) rfl rfl) rfl ?_
    refine d_w rfl (fun _ => zA2 rfl rfl) rfl ?_
    refine zBh ?_
    refine zAd (gr _ _ (zA7 (zAy (zAm (zAm (zAy (zAm (zBa (l := [.tmp 4, .tmp 5]) (vs := [_,_]) rfl ⟨⟨rfl, show _ = (.pointer _ : Value) from rfl⟩, ⟨rfl, (rfl : _ = Value.int _ _)⟩, trivial⟩ ?_))))))))
    first
      | exact .inl ⟨by rw [zEk (by assumption)]; assumption, by rw [zEk (by assumption)]; rfl, g4.tail.tail⟩
      | (obtain ⟨ha1, ha2⟩ := zHe hj2 hany (by assumption)
         exact .inl ⟨by rw [zEj hck ha1, ha2]; exact hne _ (List.getElem_mem hj2) (by assumption), by rw [zEj hck ha1, ha2]; rfl, g4.tail.tail⟩)
      | exact .inl ⟨by rw [zEi hck haz (by assumption)]; decide, by rw [zEi hck haz (by assumption)]; rfl, g4.tail.tail⟩
      | exact .inr ⟨by rw [zIi hck haz (by assumption)], _,_, M2, rfl, g5, zIm g4⟩
   try simp only [zS] at g9
   refine zAx (zAn (zAd (gn _ _ (zAc (w_p (zBq rfl rfl rfl rfl (by omega) (by omega)) rfl (zBe rfl rfl (zAe (zAd (gk _ _ (nxI (l.length - (j + 1)) (by omega) ?_))))))))))
   exact ⟨j + 1, rfl, by omega, rfl, ask_no hj2 hany (by assumption), g8.tail⟩
  try simp only [zS] at g7
  refine zBy (zAq (zAq (zBc (zAd (gi _ _ (zAg (fun gQ gt => ?_)))))))
  have haz : anyAsk l = false := by
    have h := hany
    rwa [List.take_of_length_le (by omega)] at h
  refine zAc (w_p (zA9 (vs := [_,_,_,_,_]) isAgg42 sizeOf42 hs rfl rfl (zAl (i := 0) (vs := [_,_,_,_,_]) rfl rfl)) rfl (zAr zAb call61 rfl rfl rfl rfl (c61 c p 0 hs) ?_))
  rintro _ gR ⟨cb, mm, rfl, ga⟩
  replace ga := (show St _ _ (_ :: _ :: _ :: F) from ga)
  have gu := swp2 ga
  have hkc : CK w0 ((cb, blk 132 [.slice p.ae c.heat.length p.ce, .int .i64 c.gas, .slice p.ah c.holds.length p.ch, .slice p.al c.lots.length p.cl, .slice p.an c.seen.length p.cn, .int .i64 ((0 : Nat) : Int), .map (some mm)]) :: (b3, blk 42 (c.cells p)) :: F) c p 0 cb mm := ck_new (hm.cons) hok (by omega)
  refine w_p (zAo (v := .pointer _) rfl rfl) rfl (zAe (zAd (gt _ _ (zAg (fun gS gv => (zAg (fun gT gw => (zAc (w_p (zAi (v := .pointer _) rfl rfl) rfl ?_)))))))))
  refine zAr zAb call70 rfl rfl rfl rfl (c70 (X := []) (M := [(mm, .map #[] 0)]) c p 0 cb mm hkc hok (zEg c mm) gu) ?_
  rintro _ gU ⟨rfl, M2, g5, g0⟩
  replace g0 := (show St _ _ (M2 ++ (_ :: _ :: F)) from g0)
  refine w_p (zDq rfl rfl) rfl (zAe (zAd (gw _ _ (zA1 rfl rfl (fun gb => ?_) (fun gb => ?_)))))
  ·
   try simp only [zS] at gb
   refine zAg (fun gV gx => (zAc (zBj rfl rfl (zBj rfl rfl (zAe (zAd (gx _ _ (zA7 (zAm (zBa (l := [.tmp 4, .tmp 5]) (vs := [_,_]) rfl ⟨⟨rfl, show _ = (.pointer _ : Value) from rfl⟩, ⟨rfl, (rfl : _ = Value.int _ _)⟩, trivial⟩ ?_))))))))))
   first
     | exact .inl ⟨by rw [zEk (by assumption)]; assumption, by rw [zEk (by assumption)]; rfl, g0.drop.tail.tail⟩
     | (obtain ⟨ha1, ha2⟩ := zHe hj2 hany (by assumption)
        exact .inl ⟨by rw [zEj hck ha1, ha2]; exact hne _ (List.getElem_mem hj2) (by assumption), by rw [zEj hck ha1, ha2]; rfl, g0.drop.tail.tail⟩)
     | exact .inl ⟨by rw [zEi hck haz (by assumption)]; decide, by rw [zEi hck haz (by assumption)]; rfl, g0.drop.tail.tail⟩
     | exact .inr ⟨by rw [zIi hck haz (by assumption)], _,_, M2, rfl, g5, zIm g0⟩
  try simp only [zS] at gb
  refine zAx (zAd (gv _ _ (zAg (fun gW gy => (zAc (w_p (zAi (v := .pointer _) rfl rfl) rfl (w_p (zAo (v := .pointer _) rfl rfl) rfl (zBj rfl rfl (zAe (zAd (gy _ _ (zA7 (zBa (l := [.tmp 4, .tmp 5]) (vs := [_,_]) rfl ⟨⟨rfl, show _ = (.pointer _ : Value) from rfl⟩, ⟨rfl, (rfl : _ = Value.int _ _)⟩, trivial⟩ ?_)))))))))))))
  first
    | exact .inl ⟨by rw [zEk (by assumption)]; assumption, by rw [zEk (by assumption)]; rfl, g0.drop.tail.tail⟩
    | (obtain ⟨ha1, ha2⟩ := zHe hj2 hany (by assumption)
       exact .inl ⟨by rw [zEj hck ha1, ha2]; exact hne _ (List.getElem_mem hj2) (by assumption), by rw [zEj hck ha1, ha2]; rfl, g0.drop.tail.tail⟩)
    | exact .inl ⟨by rw [zEi hck haz (by assumption)]; decide, by rw [zEi hck haz (by assumption)]; rfl, g0.drop.tail.tail⟩
    | exact .inr ⟨by rw [zIi hck haz (by assumption)], _,_, M2, rfl, g5, zIm g0⟩

end Go.Proofs.Ut
