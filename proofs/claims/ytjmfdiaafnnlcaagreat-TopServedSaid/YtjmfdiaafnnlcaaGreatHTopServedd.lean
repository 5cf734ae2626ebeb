/- Own texts of this claim, joined. No conditions. -/
import Derived.Test.YtjmfdiaafnnlcaaGreatHTopServeda
import Derived.Test.YtjmfdiaafnnlcaaGreatHTopServedb
import Derived.Test.YtjmfdiaafnnlcaaGreatHTopServedc
set_option linter.unusedVariables false
set_option linter.unusedSimpArgs false
set_option maxRecDepth 20000
namespace Go.Proofs.Hn
open Go.Proofs.Tryz
open Go.Rt Go.Rt.Ha
attribute [local irreducible] WL WC Con Yd At Ats Sl Agree DW
theorem Try_HI_fb1 (x0 : Int) (w : World) : (Instr.buildSlice 43 1 [(0, .int .i64 x0)].toArray).run Tryz.prog w = .ok (.slice (some ⟨w.heap.size, 0, none⟩) 1 1) (w.alloc (Go.Rt.blk 3 [.int .i64 x0])) := by kernel_rfl
theorem zDb : Tryz.prog.info? 3 = some Tryz.t3 := by kernel_rfl
theorem key_zip {P : Program} {t k : Nat} {fs : Array Field} (ks : List Nat) (hu : P.underlying t = some (.struct fs)) (hp : P.stoodInHeld t = false) (h1 : fs.toList = (fs.toList.zip ks).map Prod.fst) (h2 : ∀ q ∈ fs.toList.zip ks, FF P q.1 q.2 ∧ q.1.offset + q.2 ≤ k)
    (h3 : ∀ q ∈ fs.toList.zip ks, P.underlying q.1.type = some (.int .i64) ∨ ∃ el, P.underlying q.1.type = some (.array q.2 el) ∧ P.underlying el = some (.int .i64) ∧ ∀ w, (sizeOf el).run P w = .ok 1 w)
    (h4 : ∀ l m : List Int, l.length = k → m.length = k → ((fs.toList.zip ks).all fun q => decide ((l.drop q.1.offset).take q.2 = (m.drop q.1.offset).take q.2)) = decide (l = m)) : KeyTy P t k := zJ3 _ hu hp h1 h2 h3 h4
theorem key124_cov : ∀ l m : List Int, l.length = 2 → m.length = 2 → (decide ((l.drop 0).take 1 = (m.drop 0).take 1) && (decide ((l.drop 1).take 1 = (m.drop 1).take 1) && true)) = decide (l = m) := by
  intro l m hl hm
  match l, hl with
  | [a, b], _ =>
    match m, hm with
    | [a', b'], _ => rw [Bool.eq_iff_iff]; simp
theorem key104 : KeyTy Tryz.prog 104 2 := by
  refine key_zip [1,1] underlying104 (by kernel_rfl) rfl ?_ ?_ ?_
  · intro q hq
    simp only [List.zip_cons_cons, List.zip_nil_right, List.mem_cons, List.not_mem_nil, or_false] at hq
    rcases hq with rfl | rfl
    · exact ⟨⟨by decide, .inl ⟨underlying3, rfl⟩⟩, by decide⟩
    · exact ⟨⟨by decide, .inl ⟨underlying3, rfl⟩⟩, by decide⟩
  · intro q hq
    simp only [List.zip_cons_cons, List.zip_nil_right, List.mem_cons, List.not_mem_nil, or_false] at hq
    rcases hq with rfl | rfl
    · exact .inl underlying3
    · exact .inl underlying3
  · exact key124_cov
def Memo (l : Lot) (mm : Nat) (M : List (Nat × Obj)) : Prop := ∃ es ck, M = [(mm, .map es ck)] ∧ ∀ e ∈ es.toList, ∃ (b : Nat) (h : Int), b < l.bunches.length ∧ e.key = ia [(b : Int), h] ∧ e.val = .int .i64 ((gradesB l (bunchOf l b) h : Nat) : Int)
theorem zHa (l : Lot) (mm : Nat) : Memo l mm [(mm, .map #[] 0)] := ⟨#[], 0, rfl, fun e he => by simp at he⟩
theorem drop_2nd {w0 w : World} {F : List (Nat × Obj)} {a b : Nat × Obj} (h : St w0 w (a :: b :: F)) : St w0 w (a :: F) := (h.perm (zBc [a] [b] F)).tail
theorem ptr_i {b : Nat} {z z' : Int} (h : z = z') : [Value.int .i64 z, Value.pointer (some ⟨b, 0, none⟩)] = [Value.int .i64 z', Value.pointer (some ⟨b, 0, none⟩)] := by rw [h]
theorem c79 {w0 w : World} {F : List (Nat × Obj)} (g : Grade) (bx bs : Nat) (b : Int) (h s : Int) (h1 : Ats w0 F bx 0 [.int .i64 b, .int .i64 h]) (h2 : Ats w0 F bs 0 [.int .i64 s]) (hs : St w0 w F) :
  Con Tryz.prog 79 [.agg g.cells.toArray, .pointer (some ⟨bx, 0, none⟩), .pointer (some ⟨bs, 0, none⟩)] w fun v w' => v = .bool (decide (g.hands ≤ h ∧ s ≤ g.scars)) ∧ St w0 w' F := by
  refine zAt (n := 16) func79 rfl rfl (zNl rfl) ?_
  refine zAe (fun K2 g4 => (zAa (zCa (v := .agg #[.string _, .int _ _, .int _ _]) (cs := [_,_,_]) zAc rfl rfl rfl hs (fun b3 w4 g0 => ?_))))
  refine zA5 rfl rfl (zAd (zAb (g4 _ _ (zAe (fun K7 g3 => (zAa (w_p (zAf (o := 1) (i := 1) underlying104 rfl sizeOf3 rfl rfl rfl) rfl (w_p (zAj isAgg3 g0.tail rfl rfl (show Ats _ _ _ _ [_] from Ats.part h1 1 1)) rfl ?_))))))))
  refine w_p (zAf (o := 1) (i := 1) underlying61 rfl sizeOf3 rfl rfl rfl) rfl (w_p (zAj isAgg3 g0 rfl rfl (zAk (i := 0) (vs := [_]) rfl rfl)) rfl (w_p (zKa rfl rfl rfl rfl) rfl (w_p (zAi (v := .bool _) rfl rfl) rfl ?_)))
  refine zBi (fun h8 => ?_) (fun h8 => ?_)
  ·
   try simp only [zS] at h8
   refine w_y rfl rfl rfl (zAj isAgg3 g0.tail rfl rfl h2) rfl ?_
   refine w_y rfl rfl rfl (zAf (o := 2) (i := 2) underlying61 rfl sizeOf3 rfl rfl rfl) rfl ?_
   refine w_y rfl rfl rfl (zAj isAgg3 g0 rfl rfl (zAk (i := 0) (vs := [_]) rfl rfl)) rfl ?_
   refine w_y rfl rfl rfl (y_leq rfl rfl rfl rfl) rfl ?_
   refine w_p (zAx (v := .bool _) rfl rfl rfl rfl) rfl (w_p (zAo (v := .bool _) rfl rfl) rfl (zAd (zAb (g3 _ _ (zAy (zA1 (l := [.tmp 4]) (vs := [_]) rfl ⟨⟨rfl, (rfl : _ = Value.bool _)⟩, trivial⟩ ?_))))))
   exact ⟨congrArg Value.bool (by rw [Bool.eq_iff_iff]; simp [h8] <;> omega), g0.tail⟩
  try simp only [zS] at h8
  refine zAh rfl rfl rfl ?_
  refine zAh rfl rfl rfl ?_
  refine zAh rfl rfl rfl ?_
  refine zAh rfl rfl rfl ?_
  refine w_p (zA9 (v := _) rfl rfl rfl rfl) rfl (w_p (zAo (v := .bool _) rfl rfl) rfl (zAd (zAb (g3 _ _ (zAy (zA1 (l := [.tmp 4]) (vs := [_]) rfl ⟨⟨rfl, (rfl : _ = Value.bool _)⟩, trivial⟩ ?_))))))
  exact ⟨congrArg Value.bool (by rw [Bool.eq_iff_iff]; simp [h8] <;> omega), g0.tail⟩

theorem c44f {w0 w : World} {F : List (Nat × Obj)} (l : Lot) (p : At3) (but lb mm : Nat) (hk : LK w0 F l p but lb mm) (b : Nat) (hb2 : b < l.bunches.length) (h : Int) (es : Array MapEntry) (ck : Nat) (j : Nat) (z : Int) (hz : 0 < z) (hf : ∀ w, (Instr.findKey 104 (ia [(b : Int), h]) es.toList).run Tryz.prog w = .ok (some (j, .int .i64 z)) w) (hs : St w0 w ((mm, .map es ck) :: F)) :
  Con Tryz.prog 44 [.pointer (some ⟨lb, 0, none⟩), .agg #[.int .i64 (b : Int), .int .i64 h]] w fun v w' => v = .int .i64 z ∧ St w0 w' ((mm, .map es ck) :: F) := by
  refine zAt (n := 57) func44 rfl rfl (zNl rfl) ?_
  have hb := hk.b
  refine zAe (fun K2 g4 => (zAa (zCa (v := .agg #[.int _ _, .int _ _]) (cs := [_,_]) zAc rfl rfl rfl hs (fun b3 w4 g5 => ?_))))
  refine zA5 rfl rfl (zAd (zAb (g4 _ _ (zAe (fun K7 g9 => (zAe (fun K9 g6 => (zCn [] [(0,0),(1,0),(2,0),(3,1),(4,1),(5,1),(6,0)] zCb (by kernel_rfl) g5 (fun ga g0 => ?_)))))))))
  refine d_w rfl (fun _ => zAi (v := .pointer _) rfl rfl) rfl ?_
  refine d_w rfl (fun _ => zBy rfl rfl) rfl ?_
  refine d_w rfl (fun _ => zAf (o := 4) (i := 2) underlying142 rfl sizeOf140 rfl rfl rfl) rfl ?_
  refine zBd rfl zAc rfl g0 (fun _ hq => (zAj isAgg140 hq.tail.tail rfl rfl (show Ats _ _ _ _ [_] from Ats.part hb 4 1))) ?_
  refine zBd rfl zAc rfl g0 (fun _ hq => (zA4 (vs := [_,_]) isAgg104 sizeOf104 hq rfl rfl (zAk (i := 0) (vs := [_,_]) rfl rfl))) ?_
  refine zBd rfl zAc rfl g0 (fun _ hq => (K_look1S (i := 1) (l := [(b : Int), h]) underlying140 key104 rfl hq rfl rfl rfl rfl rfl rfl hf)) ?_
  refine d_w rfl (fun _ => zCi rfl rfl) rfl ?_
  refine zCf ?_
  refine zAb (g6 _ _ (zAe (fun gb g7 => (zAa (zAz rfl rfl (w_p (zD5 rfl rfl rfl rfl) rfl (zAd (zAb (g7 _ _ (zAu rfl rfl (fun g3 => ?_) (fun g3 => ?_)))))))))))
  ·
   try simp only [zS] at g3
   refine zAe (fun gc g8 => (zAa (zAz rfl rfl (zBe rfl rfl (zAd (zAb (g8 _ _ (zAy (zAg (zA1 (l := [.tmp 4]) (vs := [_]) rfl ⟨⟨rfl, (rfl : _ = Value.int _ _)⟩, trivial⟩ ?_))))))))))
   exact ⟨rfl, g0.tail⟩
  exfalso
  try simp only [zS] at g3
  omega

theorem c44n {w0 w : World} {F : List (Nat × Obj)} (l : Lot) (p : At3) (but lb mm : Nat) (hk : LK w0 F l p but lb mm) (b : Nat) (hb2 : b < l.bunches.length) (h : Int) (es : Array MapEntry) (ck : Nat) (hf : ∀ w, (Instr.findKey 104 (ia [(b : Int), h]) es.toList).run Tryz.prog w = .ok none w) (hs : St w0 w ((mm, .map es ck) :: F)) :
  Con Tryz.prog 44 [.pointer (some ⟨lb, 0, none⟩), .agg #[.int .i64 (b : Int), .int .i64 h]] w fun v w' => v = .int .i64 ((gradesB l (bunchOf l b) h : Nat) : Int) ∧ St w0 w' ((mm, .map (es.push { key := ia [(b : Int), h], val := .int .i64 ((gradesB l (bunchOf l b) h : Nat) : Int), born := ck }) (ck + 1)) :: F) := by
  refine zAt (n := 57) func44 rfl rfl (zNl rfl) ?_
  obtain ⟨ag, cg, ab, cb, ac, cc⟩ := p
  have hb := hk.b
  have hbt := hk.bt
  have hlg := hk.ok.lg
  have hlb := hk.ok.lb
  have hlc := hk.ok.lc
  obtain ⟨bx, ox, hbx, hx⟩ := zG7 hk.i.b hb2
  subst hbx
  have hbu := hk.ok.bunch _ (List.getElem_mem hb2)
  have hgb := zFa hk.ok hb2 h
  refine zAe (fun K2 gb => (zAa (zCa (v := .agg #[.int _ _, .int _ _]) (cs := [_,_]) zAc rfl rfl rfl hs (fun b3 w4 gc => ?_))))
  refine zA5 rfl rfl (zAd (zAb (gb _ _ (zAe (fun K7 gd => (zAe (fun K9 gf => (zCn [] [(0,0),(1,0),(2,0),(3,1),(4,1),(5,1),(6,0)] zCb (by kernel_rfl) gc (fun gF g0 => ?_)))))))))
  refine d_w rfl (fun _ => zAi (v := .pointer _) rfl rfl) rfl ?_
  refine d_w rfl (fun _ => zBy rfl rfl) rfl ?_
  refine d_w rfl (fun _ => zAf (o := 4) (i := 2) underlying142 rfl sizeOf140 rfl rfl rfl) rfl ?_
  refine zBd rfl zAc rfl g0 (fun _ hq => (zAj isAgg140 hq.tail.tail rfl rfl (show Ats _ _ _ _ [_] from Ats.part hb 4 1))) ?_
  refine zBd rfl zAc rfl g0 (fun _ hq => (zA4 (vs := [_,_]) isAgg104 sizeOf104 hq rfl rfl (zAk (i := 0) (vs := [_,_]) rfl rfl))) ?_
  refine zBd rfl zAc rfl g0 (fun _ hq => (K_look1N (i := 1) (l := [(b : Int), h]) (z := .int .i64 0) underlying140 key104 rfl zeroValue3 hq rfl rfl rfl rfl rfl rfl hf)) ?_
  refine d_w rfl (fun _ => zCi rfl rfl) rfl ?_
  refine zCf ?_
  refine zAb (gf _ _ (zAe (fun gG gg => (zAa (zAz rfl rfl (w_p (zD5 rfl rfl rfl rfl) rfl (zAd (zAb (gg _ _ (zAu rfl rfl (fun g4 => ?_) (fun g4 => ?_)))))))))))
  ·
   exfalso
   try simp only [zS] at g4
   omega
  try simp only [zS] at g4
  refine zAs (zAb (gd _ _ (zAe (fun gH gh => (zAa (zA5 rfl rfl (zAd (zAb (gh _ _ (zAe (fun gI gi => (zCn [11] [(0,0),(1,0),(2,0),(3,0),(4,1),(5,0),(6,1),(7,0),(8,0),(9,1),(10,2),(11,3)] zCb (by kernel_rfl) g0 (fun gJ g3 => ?_)))))))))))))
  refine d_w rfl (fun _ => zAi (v := .pointer _) rfl rfl) rfl ?_
  refine d_w rfl (fun _ => zBy rfl rfl) rfl ?_
  refine d_w rfl (fun _ => zAf (o := 0) (i := 0) underlying142 rfl sizeOf26 rfl rfl rfl) rfl ?_
  refine d_w rfl (fun _ => zAf (o := 1) (i := 1) underlying26 rfl sizeOf23 rfl rfl rfl) rfl ?_
  refine zBd rfl zAc rfl g3 (fun _ hq => (zAj isAgg23 hq.tail.tail rfl rfl (show Ats _ _ _ _ [_] from Ats.part hb 1 1))) ?_
  refine d_w rfl (fun _ => zAf (o := 0) (i := 0) underlying104 rfl sizeOf3 rfl rfl rfl) rfl ?_
  refine zBd rfl zAc rfl g3 (fun _ hq => (zAj isAgg3 hq rfl rfl (zAk (i := 0) (vs := [_]) rfl rfl))) ?_
  refine d_w rfl (fun _ => zA3 underlying23 sizeOf65 rfl rfl rfl rfl (i := b) rfl (by omega)) rfl ?_
  refine d_w rfl (fun _ => zAf (o := 2) (i := 1) underlying65 rfl sizeOf46 rfl rfl rfl) rfl ?_
  refine zBd rfl zAc rfl g3 (fun _ hq => (zA4 (vs := [_,_]) isAgg46 sizeOf46 hq.tail.tail rfl rfl (show Ats _ _ _ _ [_,_] from Ats.part hx 2 2))) ?_
  refine zCq rfl ?_
  refine zBf (cs := [_,_]) zAc zeroValue46 rfl g3 (fun gj gK g7 => ?_)
  refine zAd (qn ⟨g7.tail, ?_⟩)
  refine zDc rfl ?_
  refine zA6 (i := 0) (v := .agg #[.int _ _, .int _ _]) (vs := [_,_]) zAc sizeOf46 rfl rfl rfl rfl rfl (by simp [Value.oneCell']) g7 rfl (zNl rfl) (fun gL g8 => ?_)
  refine zAd (qn ?_)
  refine zCf ?_
  refine zAb (gi _ _ (zAe (fun gM gk => (zAe (fun gN gm => (zAa (w_p (zAf (o := 0) (i := 0) underlying46 rfl sizeOf3 rfl rfl rfl) rfl (w_p (zAj isAgg3 g8 rfl rfl (zAk (i := 0) (vs := [_]) rfl rfl)) rfl ?_))))))))
  refine zBf (cs := [_]) zAc zeroValue3 rfl g8 (fun gP gQ gn => ?_)
  refine zA6 (i := 0) (v := .int _ _) (vs := [_]) zAc sizeOf3 rfl rfl rfl rfl rfl (by simp [Value.oneCell']) gn rfl (zNl rfl) (fun gR gq => ?_)
  refine zAd (zAb (gm _ _ (zAw ?_)))
  refine zBs [6,8,9,31,32,33,34,35,36,37,38,39,40,41,42,43,44,45,46,47,48,49] [6,8] (fun k vs w => ∃ (q b8 : Nat), vs = [.int .i64 ((orG l.grades h (upto (l.bunches[b]'hb2).slo q) : Nat) : Int), .pointer (some ⟨b8,0, none⟩)] ∧ (q : Int) ≤ (l.bunches[b]'hb2).shi + 1 - (l.bunches[b]'hb2).slo ∧ k = ((l.bunches[b]'hb2).shi + 1 - (l.bunches[b]'hb2).slo).toNat - q ∧ St w0 w ((b8, blk 3 [.int .i64 ((l.bunches[b]'hb2).slo + q)]) :: (gj, blk 46 [.int .i64 (l.bunches[b]'hb2).slo, .int .i64 (l.bunches[b]'hb2).shi]) :: (b3, blk 104 [.int .i64 (b : Int), .int .i64 h]) :: (mm, .map es ck) :: F)) (((l.bunches[b]'hb2).shi + 1 - (l.bunches[b]'hb2).slo).toNat) ?_ ?_
  ·
   exact ⟨0, _, rfl, by omega, by omega, by rw [show (l.bunches[b]'hb2).slo + ((0 : Nat) : Int) = (l.bunches[b]'hb2).slo by omega]; exact gq⟩
  intro k vs μ gS hI gU gr
  obtain ⟨q, b8, rfl, hq, rfl, hs⟩ := hI
  refine zAe (fun gV gt => (zAe (fun gW gu => (zAa (w_p (zAj isAgg3 hs rfl rfl (zAk (i := 0) (vs := [_]) rfl rfl)) rfl (w_p (zAf (o := 1) (i := 1) underlying46 rfl sizeOf3 rfl rfl rfl) rfl ?_))))))
  refine w_p (zAj isAgg3 hs rfl rfl (zAk (i := 1) (vs := [_]) rfl rfl)) rfl (w_p (y_leq rfl rfl rfl rfl) rfl (zAd (zAb (gu _ _ (zAu rfl rfl (fun g5 => ?_) (fun g5 => ?_))))))
  ·
   try simp only [zS] at g5
   refine zAs (zAb (gt _ _ (zAe (fun gX gv => (zAw ?_)))))
   refine zAe (fun gY gw => ?_)
   have ho := ofG_to (gs := l.grades) (h := h) (s := (l.bunches[b]'hb2).slo + q) hlg.2
   have hol := orG_lt (gs := l.grades) (h := h) hlg.2 (upto (l.bunches[b]'hb2).slo q)
   have hsl := (shl_5 ho.2.1).1
   refine zAa (w_p (zAi (v := .pointer _) rfl rfl) rfl (w_p (zBy rfl rfl) rfl (w_p (zAf (o := 0) (i := 0) underlying142 rfl sizeOf26 rfl rfl rfl) rfl (w_p (zAf (o := 0) (i := 0) underlying26 rfl sizeOf22 rfl rfl rfl) rfl ?_))))
   refine w_p (zAj isAgg22 hs.tail.tail.tail.tail rfl rfl (show Ats _ _ _ _ [_] from Ats.part hb 0 1)) rfl (w_p (zCc (fv := []) (cv := [_,_]) rfl rfl rfl rfl) rfl (zAr zAc call78 rfl rfl rfl rfl ((c78 _ l.grades _ (by omega) hk.i.g.cons.cons.cons.cons call79 #[] #[.pointer (some ⟨b3,0, none⟩), .pointer (some ⟨b8,0, none⟩)] (fun g => decide (g.hands ≤ h ∧ (l.bunches[b]'hb2).slo + q ≤ g.scars)) (fun g _ w hs => c79 g _ _ (b : Int) h ((l.bunches[b]'hb2).slo + q) (zAk (i := 2) (vs := [_,_]) rfl rfl) (zAk (i := 0) (vs := [_]) rfl rfl) hs) hs).mono (fun v w' h => by rw [fidx_of] at h; exact h)) ?_))
   rintro _ gZ ⟨rfl, g9⟩
   refine zBe rfl rfl (zAd (zAb (gw _ _ (zAa (zAz rfl rfl (zAz rfl rfl (w_p (zBg rfl rfl rfl rfl (by omega) (by omega)) rfl (w_p (zI1 (x := 1) (y := (ofG l.grades 0 h ((l.bunches[b]'hb2).slo + q) + 1).toNat) rfl rfl rfl rfl rfl (by first | rfl | omega) (by first | omega | exact zBo (by omega)) (by first | omega | exact zBo (by omega))) rfl ?_))))))))
   refine w_p (y_or (x := orG l.grades h (upto (l.bunches[b]'hb2).slo q)) (y := 1 <<< (ofG l.grades 0 h ((l.bunches[b]'hb2).slo + q) + 1).toNat) rfl rfl rfl rfl (by first | rfl | omega) (by first | rfl | omega) (by first | omega | exact zBo (by omega)) (by first | omega | exact zBo (by omega))) rfl ?_
   refine zBe rfl rfl (zAd (zAl (zAb (gv _ _ (zAe (fun hD gx => (zAe (fun hG gy => (zAa (w_p (zAj isAgg3 g9 rfl rfl (zAk (i := 0) (vs := [_]) rfl rfl)) rfl ?_))))))))))
   refine zAd (zAb (gy _ _ (zAa (zBf (cs := [_]) zAc zeroValue3 rfl g9 (fun hH hO gz => ?_)))))
   refine zA6 (i := 0) (v := .int _ _) (vs := [_]) zAc sizeOf3 rfl rfl rfl rfl rfl (by simp [Value.oneCell']) gz rfl (zNl rfl) (fun hX ga => ?_)
   refine zAd (zAb (gx _ _ (zAa (w_p (zAj isAgg3 ga rfl rfl (zAk (i := 0) (vs := [_]) rfl rfl)) rfl (w_p (zBg rfl rfl rfl rfl (by omega) (by omega)) rfl ?_)))))
   refine zA6 (i := 0) (v := .int _ _) (vs := [_]) zAc sizeOf3 rfl rfl rfl rfl rfl (by simp [Value.oneCell']) ga rfl (zNl rfl) (fun hY gA => ?_)
   refine zAd (zAb (gr _ _ (nxI (((l.bunches[b]'hb2).shi + 1 - (l.bunches[b]'hb2).slo).toNat - (q + 1)) (by omega) ?_)))
   exact ⟨q + 1, _, ptr_i (by rw [upto_snoc, orG_snoc]), by omega, rfl, by rw [show (l.bunches[b]'hb2).slo + ((q + 1 : Nat) : Int) = (l.bunches[b]'hb2).slo + q + 1 by omega]; exact drop_2nd gA⟩
  try simp only [zS] at g5
  refine zBl (zAm (zAm (zA0 (zAb (gk _ _ (zAe (fun j0 gB => ?_)))))))
  have hqc : q = ((l.bunches[b]'hb2).shi + 1 - (l.bunches[b]'hb2).slo).toNat := by omega
  have hgr : gradesB l (bunchOf l b) h = orG l.grades h (upto (l.bunches[b]'hb2).slo q) := by rw [zIx hb2, hqc]; rfl
  refine zCn [6] [(0,0),(1,0),(2,0),(3,1),(4,1),(5,0),(6,3)] zCb (by kernel_rfl) hs (fun j1 g6 => ?_)
  refine d_w rfl (fun _ => zAi (v := .pointer _) rfl rfl) rfl ?_
  refine d_w rfl (fun _ => zBy rfl rfl) rfl ?_
  refine d_w rfl (fun _ => zAf (o := 4) (i := 2) underlying142 rfl sizeOf140 rfl rfl rfl) rfl ?_
  refine zBd rfl zAc rfl g6 (fun _ hq => (zAj isAgg140 hq.tail.tail.tail.tail rfl rfl (show Ats _ _ _ _ [_] from Ats.part hb 4 1))) ?_
  refine zBd rfl zAc rfl g6 (fun _ hq => (zA4 (vs := [_,_]) isAgg104 sizeOf104 hq rfl rfl (zAk (i := 2) (vs := [_,_]) rfl rfl))) ?_
  refine d_w rfl (fun _ => zA2 rfl rfl) rfl ?_
  refine zDc rfl ?_
  refine K_mapAdd (i := 3) (l := [(b : Int), h]) zAc underlying140 key104 rfl rfl rfl rfl rfl rfl rfl rfl g6 rfl hf (fun j2 gC => ?_)
  refine zAd (qn ?_)
  refine zCf ?_
  refine zAb (gB _ _ (zAe (fun j3 gE => (zAa (zAz rfl rfl (zBe rfl rfl (zAd (zAb (gE _ _ (zAy (zA1 (l := [.tmp 4]) (vs := [_]) rfl ⟨⟨rfl, (rfl : _ = Value.int _ _)⟩, trivial⟩ ?_)))))))))))
  exact ⟨by rw [hgr]; rfl, by rw [hgr]; exact gC.tail.tail.tail⟩

theorem zHf {w0 w : World} {X M F : List (Nat × Obj)} (l : Lot) (p : At3) (but lb mm : Nat) (hk : LK w0 F l p but lb mm) (b : Nat) (hb2 : b < l.bunches.length) (h : Int) (hM : Memo l mm M) (hs : St w0 w (X ++ (M ++ F))) :
    Con Tryz.prog 44 [.pointer (some ⟨lb, 0, none⟩), .agg #[.int .i64 (b : Int), .int .i64 h]] w fun v w' => v = .int .i64 ((gradesB l (bunchOf l b) h : Nat) : Int) ∧ ∃ M', Memo l mm M' ∧ St w0 w' (X ++ (M' ++ F)) := by
  obtain ⟨es, ck, rfl, hes⟩ := hM
  have g3 : St w0 w ((mm, .map es ck) :: (X ++ F)) := hs.perm (zBc X [(mm, .map es ck)] F)
  rcases K_findKey key104 (l := [(b : Int), h]) rfl es.toList (fun e he => by obtain ⟨b', h', _, h2, _⟩ := hes e he; exact ⟨_, rfl, h2⟩) with ⟨hf, hne⟩ | ⟨j, e, hf, hmem, hkey⟩
  · refine (c44n l p but lb mm hk.app b hb2 h es ck hf g3).mono ?_
    rintro v w' ⟨rfl, g0⟩
    refine ⟨rfl, _, ⟨_, _, rfl, fun e he => ?_⟩, g0.perm (zBc [_] X F)⟩
    rw [Array.toList_push, List.mem_append] at he
    rcases he with he | he
    · exact hes e he
    · rw [List.mem_singleton] at he
      subst he
      exact ⟨b, h, hb2, rfl, rfl⟩
  · obtain ⟨b', h', hb', h2, h3⟩ := hes e hmem
    have e1 := ia_inj (h2.symm.trans hkey)
    injection e1 with e1 e2
    injection e2 with e2 _
    have e3 : b' = b := by omega
    subst e2 e3
    rw [h3] at hf
    refine (c44f l p but lb mm hk.app b' hb2 h' es ck j _ (by have := zFa hk.ok hb2 h'; omega) hf g3).mono ?_
    rintro v w' ⟨rfl, g0⟩
    exact ⟨rfl, _, ⟨es, ck, rfl, hes⟩, g0.perm (zBc [_] X F)⟩
theorem zE3 {v : Value} {l : List Int} {z : Int} {B : List (Nat × Obj)} (h : Rt.Own v 3 1 (l.length + 1) (iv l ++ [[Value.int .i64 z]].flatten) B) : Rt.Own v 3 1 (l ++ [z]).length (iv (l ++ [z])) B := by simpa [iv] using h
theorem zF2 {x i : Nat} (h : ((bit x i : Nat) : Int) = 1) : listL x (i + 1) = listL x i ++ [(i : Int)] := by simp only [listL]; rw [if_pos (by omega)]
theorem zHb {x i : Nat} (h : ¬ ((bit x i : Nat) : Int) = 1) : listL x (i + 1) = listL x i := by simp only [listL]; rw [if_neg (by omega), List.append_nil]
theorem zDh (x : Nat) : ∀ n, (listL x n).length ≤ n
  | 0 => by simp [listL]
  | n + 1 => by have := zDh x n; simp only [listL, List.length_append]; split <;> simp <;> omega
theorem c54 {w0 w : World} {F : List (Nat × Obj)} (x n : Nat) (hx : x < 1000) (hn : n ≤ 40) (hs : St w0 w F) :
  Con Tryz.prog 54 [.int .i64 x, .int .i64 n] w fun v w' => ∃ B, Rt.Own v 3 1 (listL x n).length (iv (listL x n)) B ∧ St w0 w' (B ++ F) := by
  refine zAt (n := 21) func54 rfl rfl (zNl rfl) ?_
  refine zAe (fun K2 g7 => (zAa (zA5 rfl rfl (zAd (zAb (g7 _ _ (zAe (fun K4 g8 => (zAe (fun K6 g9 => (zAa (zAz rfl rfl (w_p (zAi (v := _) rfl rfl) rfl ?_)))))))))))))
  refine zAd (zAb (g9 _ _ (zAw ?_)))
  refine zBs [4,5,7,8,9,10,11,12,13,14,15,16,17,18,19] [4,7] (fun k vs w => ∃ (i : Nat) (v : Value) (B : List (Nat × Obj)), vs = [v, .int .i64 i] ∧ i ≤ n ∧ k = n - i ∧ Rt.Own v 3 1 (listL x i).length (iv (listL x i)) B ∧ St w0 w (B ++ F)) (n) ?_ ?_
  ·
   exact ⟨0, _, [], rfl, by omega, by omega, zEm 3 1, hs⟩
  intro k vs μ w9 hI K8 g5
  obtain ⟨i, v, B, rfl, hia, rfl, hown, hs⟩ := hI
  have hll := zDh x i
  refine zAe (fun gk ga => (zAa (w_p (zBw rfl rfl rfl rfl) rfl (zAd (zAb (ga _ _ (zAe (fun gm gb => (zAu rfl rfl (fun g0 => ?_) (fun g0 => ?_))))))))))
  ·
   try simp only [zS] at g0
   refine zAs (zAb (gb _ _ (zAe (fun gn g6 => (zAw ?_)))))
   refine zAe (fun gq gc => (zAa (zAz rfl rfl (zBe rfl rfl (zAd (zAb (gc _ _ (zAe (fun gr gd => (zAa (zAz rfl rfl (zAz rfl rfl (w_p (zJ9 (x := x) (y := i) rfl rfl rfl rfl (by first | rfl | omega) (by first | rfl | omega) (by first | omega | exact zBo (by omega))) rfl ?_)))))))))))))
   refine w_p (show Yd _ _ _ _ (.int .i64 ((bit x i : Nat) : Int)) from (zI2 (x := _) (y := 1) rfl rfl rfl rfl rfl rfl (by first | omega | exact zBo (by omega)) (by first | omega | exact zBo (by omega)))) rfl ?_
   refine w_p (zB6 rfl rfl rfl rfl) rfl (zAd (zAb (gd _ _ (zAu rfl rfl (fun g3 => ?_) (fun g3 => ?_)))))
   ·
    try simp only [zS] at g3
    refine zAa (w_p (zAi (v := v) rfl rfl) rfl (zAz rfl rfl (zBb (ps := [(0, _)]) (pv := [(0, .int _ _)]) (cs := [_]) zAc rfl rfl (fun w => Try_HI_fb1 _ w) hs (fun gt gu gf => ?_))))
    refine zCk (X := (_ :: [])) (B := B) (rows := [[_]]) (sz := 1) (bytes := 8) zAc underlying43 zDb rfl rfl rfl rfl rfl rfl rfl rfl rfl gf hown (zBt (i := 0) rfl (by simp) rfl) rfl (by simp) (by simp [Value.oneCell']) (by simp only [maxLen]; omega) (by omega) (fun gg gv gh gi g4 => ?_)
    replace g4 := (show St _ _ (_ :: gh ++ (F)) from g4)
    refine w_p (zAo (v := gg) rfl rfl) rfl (zAd (zAl (zAb (g6 _ _ (zAa (w_p (zBg rfl rfl rfl rfl (by omega) (by omega)) rfl (zAz rfl rfl (zAd (zAb (g5 _ _ (nxI (n - (i + 1)) (by omega) ?_)))))))))))
    exact ⟨i + 1, _,_, rfl, by omega, rfl, by rw [zF2 (by assumption)]; exact zE3 gi, g4.tail⟩
   try simp only [zS] at g3
   refine zAs (zAl (zAb (g6 _ _ (zAa (w_p (zBg rfl rfl rfl rfl (by omega) (by omega)) rfl (zAz rfl rfl (zAd (zAb (g5 _ _ (nxI (n - (i + 1)) (by omega) ?_))))))))))
   exact ⟨i + 1, v, B, rfl, by omega, rfl, by rw [zHb (by assumption)]; exact hown, hs⟩
  try simp only [zS] at g0
  refine zBl (zAm (zAm (zA0 (zAb (g8 _ _ (zAe (fun gw gj => (zAa (w_p (zAi (v := v) rfl rfl) rfl (w_p (zAo (v := v) rfl rfl) rfl ?_))))))))))
  refine zAd (zAb (gj _ _ (zAy (zA1 (l := [.tmp 4]) (vs := [_]) rfl ⟨⟨rfl, show _ = (v : Value) from rfl⟩, trivial⟩ ?_))))
  have hin : i = n := by omega
  subst hin
  exact ⟨B, hown, hs⟩

end Go.Proofs.Hn
set_option maxRecDepth 20000
namespace Go.Proofs.Hn
open Go.Proofs.Tryz
open Go.Rt Go.Rt.Ha
attribute [local irreducible] WL WC Con Yd At Ats Sl Agree DW
theorem Try_HJ_fb2 (x0 : Int) (w : World) : (Instr.build 46 [(0, .int .i64 x0)].toArray).run Tryz.prog w = .ok (.agg #[.int .i64 x0, .int .i64 0]) w := by kernel_rfl
theorem Try_HJ_fb3 (x0 : Int) (x1 : Int) (w : World) : (Instr.build 46 [(0, .int .i64 x0),(1, .int .i64 x1)].toArray).run Tryz.prog w = .ok (.agg #[.int .i64 x0, .int .i64 x1]) w := by kernel_rfl
theorem Try_HJ_fb4 (x0 : Int) (x1 : Int) (w : World) : (Instr.build 104 [(0, .int .i64 x0),(1, .int .i64 x1)].toArray).run Tryz.prog w = .ok (.agg #[.int .i64 x0, .int .i64 x1]) w := by kernel_rfl
theorem bounds_perm {p s t u v : Nat × Obj} (X M F : List (Nat × Obj)) : (p :: s :: t :: u :: v :: (X ++ (M ++ F))).Perm ((s :: t :: M) ++ (p :: u :: v :: (X ++ F))) :=
  (zBc [p] [s, t] (u :: v :: (X ++ (M ++ F)))).trans (List.Perm.append_left [s, t] (zBc (p :: u :: v :: X) M F))
theorem bounds_back {w0 w : World} {a b c : Nat × Obj} {X M F : List (Nat × Obj)} (h : St w0 w (M ++ (a :: b :: c :: (X ++ F)))) : St w0 w (X ++ (M ++ F)) := by
  have h1 := (h.perm (zBc M [a, b, c] (X ++ F))).tail.tail.tail
  exact St.perm (L := M ++ (X ++ F)) h1 (zBc M X F)
theorem span_take {b : Nat} {ws : List (List Int)} {i : Nat} (h : i < ws.length) : spanW b (ws.take (i + 1)) = (min (spanW b (ws.take i)).1 (at_ ws[i] b), max (spanW b (ws.take i)).2 (at_ ws[i] b)) := fold_take _ _ h
theorem setW_take {l : Lot} {b : Nat} {ws : List (List Int)} {i : Nat} (h : i < ws.length) : setW l b (ws.take (i + 1)) = setW l b (ws.take i) ||| gradesB l (bunchOf l b) (at_ ws[i] b) := fold_take _ _ h
theorem bounds_cells {b5 b4 : Nat} {M : List (Nat × Obj)} {s s' : Nat} {x y x' y' : Int} (h1 : s = s') (h2 : x = x') (h3 : y = y') : ((b5, blk 3 [.int .i64 (s : Int)]) :: (b4, blk 46 [.int .i64 x, .int .i64 y]) :: M : List (Nat × Obj)) = (b5, blk 3 [.int .i64 (s' : Int)]) :: (b4, blk 46 [.int .i64 x', .int .i64 y']) :: M := by subst h1 h2 h3; rfl
theorem c53 {w0 w : World} {X M F : List (Nat × Obj)} (l : Lot) (p : At3) (but lb mm : Nat) (hk : LK w0 F l p but lb mm) (b : Nat) (hb2 : b < l.bunches.length) (hM : Memo l mm M) (hs : St w0 w (X ++ (M ++ F))) :
  Con Tryz.prog 53 [.pointer (some ⟨lb, 0, none⟩), .int .i64 (b : Int)] w fun v w' => v = .tuple #[.agg #[.int .i64 (spanW b (Ha.ways l but)).1, .int .i64 (spanW b (Ha.ways l but)).2], .int .i64 ((setW l b (Ha.ways l but) : Nat) : Int)] ∧ ∃ M', Memo l mm M' ∧ St w0 w' (X ++ (M' ++ F)) := by
  refine zFb (n := 35) func53 rfl rfl (zNl rfl) ?_
  have hbt := hk.bt
  have hlg := hk.ok.lg
  have hlb := hk.ok.lb
  have hlc := hk.ok.lc
  refine zAe (fun K2 gc => (zAa (zCa (v := .pointer _) (cs := [_]) zAc rfl rfl rfl hs (fun b3 w4 gd => ?_))))
  refine zCa (v := .int _ _) (cs := [_]) zAc rfl rfl rfl gd (fun b6 w7 gf => ?_)
  refine zBf (cs := [_,_]) zAc zeroValue46 rfl gf (fun b9 gz gg => ?_)
  refine zBf (cs := [_]) zAc zeroValue3 rfl gg (fun g8 gA gh => ?_)
  refine zAd (zAb (gc _ _ (zAe (fun gB gi => (zAa (w_p (zBv (ps := [(0, _)]) (pv := [(0, .int _ _)]) rfl rfl (fun w => Try_HJ_fb2 _ w)) rfl ?_))))))
  refine zA6 (i := 1) (v := .agg #[.int _ _, .int _ _]) (vs := [_,_]) zAc sizeOf46 rfl rfl rfl rfl rfl (by simp [Value.oneCell']) gh rfl (zNl rfl) (fun gC g9 => ?_)
  refine zAd (zAb (gi _ _ (zAe (fun gE gj => (zAe (fun gF gk => (zAa (w_p (zAj isAgg92 g9 rfl rfl (zAk (i := 3) (vs := [_]) rfl rfl)) rfl ?_))))))))
  refine zAr zAc call43 rfl rfl rfl rfl (c43 _ g9) ?_
  rintro _ gG ⟨bp, rfl, gm⟩
  refine zAd (zAb (gk _ _ (zAw ?_)))
  refine zHp (_ :: _ :: M) (fun i Bx => ∃ M, Bx = (g8, blk 3 [.int .i64 ((setW l b ((Ha.ways l but).take i) : Nat) : Int)]) :: (b9, blk 46 [.int .i64 (spanW b ((Ha.ways l but).take i)).1, .int .i64 (spanW b ((Ha.ways l but).take i)).2]) :: M ∧ Memo l mm M) (fun _ _ => False) rfl rfl rfl call75 (zFg l p but lb mm hk.app.cons.cons.cons bp (zAk (i := 0) (vs := [_]) rfl rfl)) gm (bounds_perm X M F) ⟨M, rfl, hM⟩ ?_ ?_ ?_
  ·
   intro lp i hi Bx Xr Xr2 gH hJ hs K gn
   obtain ⟨M, rfl, hM⟩ := hJ
   have hi2 : i < (Ha.ways l but).length := by simpa using hi
   rw [List.getElem_map, List.getElem_map]
   have hpl := zG9 hk.ok (List.mem_map.2 ⟨_, List.getElem_mem hi2, rfl⟩)
   have hat := zHr (Ha.ways l but)[i] b
   obtain ⟨h, hh⟩ : ∃ h, h = pad6 (Ha.ways l but)[i] := ⟨_, rfl⟩
   rw [← hh] at hpl hat ⊢
   have hh6 := hpl.1
   have hgd := getD_12 hpl.2 b
   have hsi := span_in hk.ok (but := but) b i
   have hsw := setW_lt hk.ok b ((Ha.ways l but).take i)
   have hgr := zFa hk.ok hb2 (h.getD b 0)
   have hx3 : Ats w0 ((bp, blk 92 [.pointer (some ⟨lb, 0, none⟩)]) :: (b6, blk 3 [.int .i64 (b : Int)]) :: (b3, blk 92 [.pointer (some ⟨lb, 0, none⟩)]) :: (X ++ F)) b6 0 [.int .i64 (b : Int)] := zAk (i := 1) rfl rfl
   have hx2 : Ats w0 ((bp, blk 92 [.pointer (some ⟨lb, 0, none⟩)]) :: (b6, blk 3 [.int .i64 (b : Int)]) :: (b3, blk 92 [.pointer (some ⟨lb, 0, none⟩)]) :: (X ++ F)) b3 0 [.pointer (some ⟨lb, 0, none⟩)] := zAk (i := 2) rfl rfl
   replace hs := (show St _ _ (_ :: _ :: (M ++ (Xr ++ (_ :: _ :: _ :: (X ++ F))))) from hs)
   refine zAa (zBf (cs := iv [0,0,0,0,0,0]) zAc zeroValue101 rfl hs (fun gq gI gr => ?_))
   refine zDf (i := 0) (l := _) zAc sizeOf101 (by first | omega | rfl | (simp only [hh6, zL] <;> omega)) rfl rfl rfl rfl rfl gr rfl (by first | omega | rfl | (simp only [hh6, zL] <;> omega)) (fun gJ gt => ?_)
   refine zAd (zAb (gn _ _ (_ :: _ :: _ :: M) gt (fun gK g5 => ?_)))
   replace g5 := (show St _ _ (_ :: _ :: _ :: M ++ (Xr2 ++ (_ :: _ :: _ :: X ++ (F)))) from g5)
   refine zAw ?_
   refine zAe (fun gL gu => (zCn [13] [(0,0),(1,1),(2,1),(3,0),(4,1),(5,0),(6,0),(7,1),(8,1),(9,0),(10,1),(11,0),(12,0),(13,3)] zCb (by kernel_rfl) g5 (fun gM g0 => ?_)))
   refine d_w rfl (fun _ => zAf (o := 0) (i := 0) underlying46 rfl sizeOf3 rfl rfl rfl) rfl ?_
   refine zBd rfl zAc rfl g0 (fun _ hq => (zAj isAgg3 hq rfl rfl (zAk (i := 2) (vs := [_]) rfl rfl))) ?_
   refine zBd rfl zAc rfl g0 (fun _ hq => (zAj isAgg3 hq.tail.tail.tail.drop.drop rfl rfl hx3)) ?_
   refine d_w rfl (fun _ => zBr underlying101 sizeOf3 rfl rfl rfl rfl (i := b) (by first | rfl | omega) (by omega)) rfl ?_
   refine zBd rfl zAc rfl g0 (fun _ hq => (zAj isAgg3 hq rfl rfl (zB7 (i := 0) (j := b) rfl (by first | omega | rfl | (simp only [hh6, zL] <;> omega))))) ?_
   refine d_w rfl (fun _ => y_min2 rfl rfl rfl rfl) rfl ?_
   refine d_w rfl (fun _ => zAf (o := 1) (i := 1) underlying46 rfl sizeOf3 rfl rfl rfl) rfl ?_
   refine zBd rfl zAc rfl g0 (fun _ hq => (zAj isAgg3 hq rfl rfl (zAk (i := 2) (vs := [_]) rfl rfl))) ?_
   refine zBd rfl zAc rfl g0 (fun _ hq => (zAj isAgg3 hq.tail.tail.tail.drop.drop rfl rfl hx3)) ?_
   refine d_w rfl (fun _ => zBr underlying101 sizeOf3 rfl rfl rfl rfl (i := b) (by first | rfl | omega) (by omega)) rfl ?_
   refine zBd rfl zAc rfl g0 (fun _ hq => (zAj isAgg3 hq rfl rfl (zB7 (i := 0) (j := b) rfl (by first | omega | rfl | (simp only [hh6, zL] <;> omega))))) ?_
   refine d_w rfl (fun _ => y_max2 rfl rfl rfl rfl) rfl ?_
   refine d_w rfl (fun _ => zBv (ps := [(0, _),(1, _)]) (pv := [(0, .int _ _),(1, .int _ _)]) rfl rfl (fun w => Try_HJ_fb3 _ _ w)) rfl ?_
   refine zDc rfl ?_
   refine zA6 (i := 2) (v := .agg #[.int _ _, .int _ _]) (vs := [_,_]) zAc sizeOf46 rfl rfl rfl rfl rfl (by simp [Value.oneCell']) g0 rfl (zNl rfl) (fun gN gv => ?_)
   refine zAd (qn ?_)
   refine zCf ?_
   refine zAb (gu _ _ (w_drawC (C := fun w => ∃ M, Memo l mm M ∧ St w0 w ((gq, blk 101 (iv h)) :: (g8, blk 3 [.int .i64 ((setW l b ((Ha.ways l but).take i) : Nat) : Int)]) :: (b9, blk 46 [.int .i64 (min (spanW b ((Ha.ways l but).take i)).1 (h.getD b 0)), .int .i64 (max (spanW b ((Ha.ways l but).take i)).2 (h.getD b 0))]) :: (M ++ (Xr2 ++ ((bp, blk 92 [.pointer (some ⟨lb, 0, none⟩)]) :: (b6, blk 3 [.int .i64 (b : Int)]) :: (b3, blk 92 [.pointer (some ⟨lb, 0, none⟩)]) :: (X ++ F)))))) [9] [(0,1),(1,1),(2,1),(3,1),(4,0),(5,1),(6,0),(7,2),(8,0),(9,3)] zCb (by kernel_rfl) ⟨_, hM, gv⟩ (fun _ ⟨M, h1, h2⟩ => ⟨M, h1, h2.drew⟩) (fun gP ⟨M, hM, g3⟩ => ?_)))
   refine zEo rfl zAc rfl ⟨_, hM, g3⟩ (fun _ ⟨M, hM, hq⟩ => (zAj isAgg3 hq rfl rfl (zAk (i := 1) (vs := [_]) rfl rfl))) ?_
   refine zEo rfl zAc rfl ⟨_, hM, g3⟩ (fun _ ⟨M, hM, hq⟩ => (zAj isAgg92 hq.tail.tail.tail.drop.drop rfl rfl hx2)) ?_
   refine zEo rfl zAc rfl ⟨_, hM, g3⟩ (fun _ ⟨M, hM, hq⟩ => (zAj isAgg3 hq.tail.tail.tail.drop.drop rfl rfl hx3)) ?_
   refine zEo rfl zAc rfl ⟨_, hM, g3⟩ (fun _ ⟨M, hM, hq⟩ => (zAj isAgg3 hq.tail.tail.tail.drop.drop rfl rfl hx3)) ?_
   refine d_w rfl (fun _ => zBr underlying101 sizeOf3 rfl rfl rfl rfl (i := b) (by first | rfl | omega) (by omega)) rfl ?_
   refine zEo rfl zAc rfl ⟨_, hM, g3⟩ (fun _ ⟨M, hM, hq⟩ => (zAj isAgg3 hq rfl rfl (zB7 (i := 0) (j := b) rfl (by first | omega | rfl | (simp only [hh6, zL] <;> omega))))) ?_
   refine d_w rfl (fun _ => zBv (ps := [(0, _),(1, _)]) (pv := [(0, .int _ _),(1, .int _ _)]) rfl rfl (fun w => Try_HJ_fb4 _ _ w)) rfl ?_
   refine zCq rfl ?_
   refine zAr zAc call44 rfl rfl rfl rfl (zHf (X := _ :: _ :: _ :: []) (F := Xr2 ++ ((bp, blk 92 [.pointer (some ⟨lb, 0, none⟩)]) :: (b6, blk 3 [.int .i64 (b : Int)]) :: (b3, blk 92 [.pointer (some ⟨lb, 0, none⟩)]) :: (X ++ F))) l p but lb mm hk.app.cons.cons.cons.app b hb2 (h.getD b 0) hM g3) ?_
   rintro _ gQ ⟨rfl, M2, ga, g4⟩
   replace g4 := (show St _ _ (_ :: _ :: _ :: M2 ++ (Xr2 ++ (_ :: _ :: _ :: X ++ (F)))) from g4)
   refine zAd (qn ⟨⟨_, ga, g4⟩, ?_⟩)
   refine d_w rfl (fun _ => y_or (x := setW l b ((Ha.ways l but).take i)) (y := gradesB l (bunchOf l b) (h.getD b 0)) rfl rfl rfl rfl (by first | rfl | omega) (by first | rfl | omega) (by first | omega | exact zBo (by omega)) (by first | omega | exact zBo (by omega))) rfl ?_
   refine zDc rfl ?_
   refine zA6 (i := 1) (v := .int _ _) (vs := [_]) zAc sizeOf3 rfl rfl rfl rfl rfl (by simp [Value.oneCell']) g4 rfl (zNl rfl) (fun gR gw => ?_)
   refine zAd (qn ?_)
   refine zCf ?_
   refine zAl (zFy (_ :: _ :: M2) gw.tail ?_)
   exact ⟨M2, bounds_cells (by rw [setW_take hi2, hat]) (by rw [span_take hi2, hat]) (by rw [span_take hi2, hat]), ga⟩
  ·
   intro bd Bx gS hJ hs
   obtain ⟨M, rfl, hM⟩ := hJ
   rw [List.length_map, List.length_map, List.take_length] at hs
   replace hs := (show St _ _ (_ :: _ :: _ :: (M ++ (_ :: _ :: _ :: (X ++ F)))) from hs)
   refine zAl (zAb (gj _ _ (zAe (fun gU gx => (zCn [3] [(0,1),(1,1),(2,2),(3,3)] zCb (by kernel_rfl) hs (fun gV g6 => ?_))))))
   refine zBd rfl zAc rfl g6 (fun _ hq => (zA4 (vs := [_,_]) isAgg46 sizeOf46 hq rfl rfl (zAk (i := 2) (vs := [_,_]) rfl rfl))) ?_
   refine zBd rfl zAc rfl g6 (fun _ hq => (zAj isAgg3 hq rfl rfl (zAk (i := 1) (vs := [_]) rfl rfl))) ?_
   refine zCq rfl ?_
   refine zA6 (i := 2) (v := .agg #[.int _ _, .int _ _]) (vs := [_,_]) zAc sizeOf46 rfl rfl rfl rfl rfl (by simp [Value.oneCell']) g6 rfl (zNl rfl) (fun gW gb => ?_)
   refine zAd (qn ⟨gb, ?_⟩)
   refine zDc rfl ?_
   refine zA6 (i := 1) (v := .int _ _) (vs := [_]) zAc sizeOf3 rfl rfl rfl rfl rfl (by simp [Value.oneCell']) gb rfl (zNl rfl) (fun gX gy => ?_)
   refine zAd (qn ?_)
   refine zCf ?_
   refine zAb (gx _ _ (zAy (zHm (i := 0) (l := [.cell 4 46, .cell 5 3]) (vs := [_,_]) gy rfl rfl (fun gY g7 => ⟨⟨⟨rfl, _, rfl, zB9 (vs := [_,_]) isAgg46 sizeOf46 g7 (zAk (i := 2) (vs := [_,_]) rfl rfl)⟩, ⟨rfl, _, rfl, zD0 isAgg3 g7 (zAk (i := 1) (vs := [_]) rfl rfl)⟩, trivial⟩, ?_⟩))))
   exact ⟨rfl, M, hM, bounds_back g7.tail.tail.tail⟩
  intro _ _ _ _ hJ
  exact hJ.elim

end Go.Proofs.Hn
set_option maxRecDepth 20000
namespace Go.Proofs.Hn
open Go.Proofs.Tryz
open Go.Rt Go.Rt.Ha
attribute [local irreducible] WL WC Con Yd At Ats Sl Agree DW
theorem Try_HK_fb2 (x0 : Int) (w : World) : (Instr.buildSlice 43 1 [(0, .int .i64 x0)].toArray).run Tryz.prog w = .ok (.slice (some ⟨w.heap.size, 0, none⟩) 1 1) (w.alloc (Go.Rt.blk 3 [.int .i64 x0])) := by kernel_rfl
theorem zDx {l : Lot} {e : Int} (h : (check l).2.2 ≠ 0) : enterE l e = (check l).2.2 := by unfold enterE; rw [if_pos h]
theorem zDw {l : Lot} {e : Int} (h : (check l).2.2 = 0) (he : e ≠ 0) : enterE l e = e := by unfold enterE; rw [if_neg (by simp [h]), if_pos he]
theorem zFr {l : Lot} {e : Int} (h : (check l).2.2 = 0) (he : e = 0) (hw : Ha.ways l 0 = []) : enterE l e = 8 := by unfold enterE; rw [if_neg (by simp [h]), if_neg (by simp [he]), if_pos hw]
theorem zFs {l : Lot} {e : Int} (h : (check l).2.2 = 0) (he : e = 0) (hw : Ha.ways l 0 ≠ []) : enterE l e = 0 := by unfold enterE; rw [if_neg (by simp [h]), if_neg (by simp [he]), if_neg hw]
theorem zGx {w0 w : World} {M L : List (Nat × Obj)} {l : Lot} {p : At3} {lb mm : Nat} (hs : St w0 w (M ++ ((lb, blk 142 [.slice p.ag l.grades.length p.cg, .slice p.ab l.bunches.length p.cb, .slice p.ac l.counts.length p.cc, .int .i64 ((0 : Nat) : Int), .map (some mm)]) :: L))) (hm : LIn w0 L l p) (hc : (check l).2.2 = 0) : LK w0 ((lb, blk 142 [.slice p.ag l.grades.length p.cg, .slice p.ab l.bunches.length p.cb, .slice p.ac l.counts.length p.cc, .int .i64 ((0 : Nat) : Int), .map (some mm)]) :: L) l p 0 lb mm :=
  ⟨hm.cons, zAk (i := 0) rfl rfl, check_ok hc, by omega⟩
theorem lk_but {w0 w : World} {L : List (Nat × Obj)} {l : Lot} {p : At3} {but lb mm : Nat} (hs : St w0 w ((lb, blk 142 [.slice p.ag l.grades.length p.cg, .slice p.ab l.bunches.length p.cb, .slice p.ac l.counts.length p.cc, .int .i64 (but : Int), .map (some mm)]) :: L)) (hm : LIn w0 L l p) (hc : (check l).2.2 = 0) (hb : but < 1000) : LK w0 ((lb, blk 142 [.slice p.ag l.grades.length p.cg, .slice p.ab l.bunches.length p.cb, .slice p.ac l.counts.length p.cc, .int .i64 (but : Int), .map (some mm)]) :: L) l p but lb mm :=
  ⟨hm.cons, zAk (i := 0) rfl rfl, check_ok hc, hb⟩
theorem isE {l : List (List Int)} (h : l.isEmpty = true) : l = [] := by cases l with | nil => rfl | cons _ _ => simp at h
theorem isE1 {l : List (List Int)} (h : l.isEmpty = false) : l ≠ [] := by rintro rfl; simp at h
theorem swap2 {w0 w : World} {F : List (Nat × Obj)} {a b c : Nat × Obj} (h : St w0 w (a :: b :: c :: F)) : St w0 w ([b] ++ (a :: F)) := ((h.perm (zBc [a, b] [c] F)).tail).perm (List.Perm.swap _ _ _)
theorem c74 {w0 w : World} {F : List (Nat × Obj)} (n : Int) (below : Nat) (bb bn : Nat) (hbl : below ≤ 9223372036854775807) (h1 : Ats w0 F bb 0 [.int .i64 (below : Int)]) (h2 : Ats w0 F bn 0 [.int .i64 n]) (hs : St w0 w F) :
  Con Tryz.prog 74 [.pointer (some ⟨bb, 0, none⟩), .pointer (some ⟨bn, 0, none⟩)] w fun v w' => v = .int .i64 (idxE n below) ∧ St w0 w' F := by
  refine zAt (n := 8) func74 rfl rfl (zNl rfl) ?_
  refine zAe (fun K2 g4 => (zAa (zA5 rfl rfl (zAd (zAb (g4 _ _ (zAe (fun K4 g5 => (zAe (fun K6 g6 => (zAa (w_p (zAj isAgg3 hs rfl rfl h1) rfl ?_))))))))))))
  refine w_p (zE0 rfl rfl rfl rfl (by omega) (by omega)) rfl (w_p (zAj isAgg3 hs rfl rfl h2) rfl (zBb (ps := [(0, _)]) (pv := [(0, .int _ _)]) (cs := [_]) zAc rfl rfl (fun w => Try_HK_fb2 _ w) hs (fun b7 w8 g7 => ?_)))
  refine zAr zAc call57 rfl rfl rfl rfl (c57 _ _ _ [_] _ (by simp) (zBt (i := 0) (rows := [[_]]) rfl (by simp) rfl) g7) ?_
  rintro _ ga ⟨rfl, g3⟩
  refine zAd (zAb (g6 _ _ (zAu rfl rfl (fun g0 => ?_) (fun g0 => ?_))))
  ·
   try simp only [zS] at g0
   refine zAe (fun gb g8 => (zAa (zA5 rfl rfl (zAd (zAb (g8 _ _ (zAy (zAg (zA1 (l := [.tmp 2]) (vs := [_]) rfl ⟨⟨rfl, (rfl : _ = Value.int _ _)⟩, trivial⟩ ?_)))))))))
   try simp only [List.any_cons, List.any_nil, Bool.or_false, Bool.or_eq_false_iff] at g0
   exact ⟨congrArg (Value.int .i64) (by unfold idxE; simp [g0]), g3.tail⟩
  try simp only [zS] at g0
  refine zAs (zAb (g5 _ _ (zAe (fun gc g9 => (zAa (zA5 rfl rfl (zAd (zAb (g9 _ _ (zAy (zA1 (l := [.tmp 2]) (vs := [_]) rfl ⟨⟨rfl, (rfl : _ = Value.int _ _)⟩, trivial⟩ ?_)))))))))))
  try simp only [List.any_cons, List.any_nil, Bool.or_false, Bool.or_eq_false_iff] at g0
  exact ⟨congrArg (Value.int .i64) (by unfold idxE; simp [g0]), g3.tail⟩

theorem c42 {w0 w : World} {F : List (Nat × Obj)} (n : Int) (below : Int) (hs : St w0 w F) :
  Con Tryz.prog 42 [.int .i64 n, .int .i64 below] w fun v w' => ∃ bb bn, v = .func (.func 74) #[] #[.pointer (some ⟨bb, 0, none⟩), .pointer (some ⟨bn, 0, none⟩)] ∧ St w0 w' ((bb, blk 3 [.int .i64 below]) :: (bn, blk 3 [.int .i64 n]) :: F) := by
  refine zAt (n := 6) func42 rfl rfl (zNl rfl) ?_
  refine zAe (fun K2 g0 => (zAa (zCa (v := .int _ _) (cs := [_]) zAc rfl rfl rfl hs (fun b3 w4 g3 => ?_))))
  refine zCa (v := .int _ _) (cs := [_]) zAc rfl rfl rfl g3 (fun b6 w7 g4 => ?_)
  refine zA5 rfl rfl (zAd (zAb (g0 _ _ (zAe (fun g6 g5 => (zAa (w_p (zCc (fv := []) (cv := [_,_]) rfl rfl rfl rfl) rfl (w_p (zAo (v := .func _ _ _) rfl rfl) rfl ?_))))))))
  refine zAd (zAb (g5 _ _ (zAy (zA1 (l := [.tmp 4]) (vs := [_]) rfl ⟨⟨rfl, show _ = (.func _ _ _ : Value) from rfl⟩, trivial⟩ ?_))))
  exact ⟨_, _, rfl, g4⟩

theorem c55 {w0 w : World} {F : List (Nat × Obj)}  (hs : St w0 w F) :
  Con Tryz.prog 55 [] w fun v w' => v = .int .i64 0 ∧ St w0 w' F := by
  refine zAt (n := 1) func55 rfl rfl (zNl rfl) ?_
  refine zAe (fun K2 g0 => (zAa (zA5 rfl rfl (zAd (zAb (g0 _ _ (zAe (fun K4 g3 => (zAa (zA5 rfl rfl (zAd (zAb (g3 _ _ (zAy (zA1 (l := [.tmp 0]) (vs := [_]) rfl ⟨⟨rfl, (rfl : _ = Value.int _ _)⟩, trivial⟩ ?_)))))))))))))))
  exact ⟨rfl, hs⟩

theorem c41 {w0 w : World} {F : List (Nat × Obj)} (l : Lot) (p : At3) (hm : LIn w0 F l p) (fv : Value) (e : Int) (hE : ∀ (X : List (Nat × Obj)) (w : World), St w0 w (X ++ F) → FCon Tryz.prog fv [] w fun v w' => v = .int .i64 e ∧ St w0 w' (X ++ F)) (hs : St w0 w F) :
  Con Tryz.prog 41 [.agg (l.cells p).toArray, fv] w fun v w' => (enterE l e ≠ 0 ∧ v = .tuple #[.pointer none, .int .i64 (enterE l e)] ∧ St w0 w' F) ∨ (enterE l e = 0 ∧ ∃ lb mm M, v = .tuple #[.pointer (some ⟨lb, 0, none⟩), .int .i64 0] ∧ Memo l mm M ∧ St w0 w' (M ++ ((lb, blk 142 [.slice p.ag l.grades.length p.cg, .slice p.ab l.bunches.length p.cb, .slice p.ac l.counts.length p.cc, .int .i64 ((0 : Nat) : Int), .map (some mm)]) :: F))) := by
  refine zAt (n := 31) func41 rfl rfl (zNl rfl) ?_
  refine zAe (fun K2 ga => (zAa (zCa (v := .agg #[.slice _ _ _, .slice _ _ _, .slice _ _ _]) (cs := [_,_,_]) zAc rfl rfl rfl hs (fun b3 w4 g9 => ?_))))
  refine zA5 rfl rfl (zA5 rfl rfl (zAd (zAb (ga _ _ (zAe (fun K7 gb => (zAe (fun K9 gc => (zAa (w_p (zA4 (vs := [_,_,_]) isAgg26 sizeOf26 g9 rfl rfl (zAk (i := 0) (vs := [_,_,_]) rfl rfl)) rfl ?_))))))))))
  refine zAr zAc call61 rfl rfl rfl rfl (c61 l _ hm.cons g9) ?_
  rintro _ gt ⟨rfl, g4⟩
  refine w_p (zAi (v := .tuple _) rfl rfl) rfl (w_p (zAp (v := .int _ _) rfl rfl rfl) rfl (w_p (zAp (v := .int _ _) rfl rfl rfl) rfl (w_p (zAp (v := .int _ _) rfl rfl rfl) rfl (zBe rfl rfl (zBe rfl rfl (zBe rfl rfl ?_))))))
  refine zAd (zAb (gc _ _ (zAe (fun gu gd => (zAa (zAz rfl rfl (w_p (zB2 rfl rfl rfl rfl) rfl (zAd (zAb (gd _ _ (zAu rfl rfl (fun g6 => ?_) (fun g6 => ?_))))))))))))
  ·
   try simp only [zS] at g6
   refine zAe (fun gv gf => (zAa (zAz rfl rfl (zA5 rfl rfl (zBe rfl rfl (zAd (zAb (gf _ _ (zAy (zAg (zA1 (l := [.tmp 4, .tmp 5]) (vs := [_,_]) rfl ⟨⟨rfl, show _ = (.pointer _ : Value) from rfl⟩, ⟨rfl, (rfl : _ = Value.int _ _)⟩, trivial⟩ ?_)))))))))))
   first
     | exact .inl ⟨by rw [zDx (by assumption)]; assumption, by rw [zDx (by assumption)]; rfl, g4.tail⟩
     | exact .inl ⟨by rw [zDw (by assumption) (by assumption)]; assumption, by rw [zDw (by assumption) (by assumption)]; rfl, g4.tail⟩
     | exact .inl ⟨by rw [zFr (by assumption) (by assumption) (isE (by assumption))]; decide, by rw [zFr (by assumption) (by assumption) (isE (by assumption))]; rfl, g4.tail⟩
     | exact .inr ⟨zFs (by assumption) (by assumption) (isE1 (by assumption)), lb, mm, _, rfl, zHa l mm, swap2 g4⟩
  try simp only [zS] at g6
  refine zAs (zAb (gb _ _ (zAe (fun gw gg => (zAe (fun gx gh => (zAa (w_p (zAi (v := fv) rfl rfl) rfl (zD9 zAc rfl rfl rfl rfl (hE [_] _ g4) ?_)))))))))
  rintro _ gy ⟨rfl, g3⟩
  refine zBe rfl rfl (zAd (zAb (gh _ _ (zAe (fun gz gi => (zAa (zAz rfl rfl (w_p (zB2 rfl rfl rfl rfl) rfl (zAd (zAb (gi _ _ (zAu rfl rfl (fun g7 => ?_) (fun g7 => ?_)))))))))))))
  ·
   try simp only [zS] at g7
   refine zAe (fun gA gj => (zAa (zAz rfl rfl (zA5 rfl rfl (zBe rfl rfl (zAd (zAb (gj _ _ (zAy (zAg (zA1 (l := [.tmp 4, .tmp 5]) (vs := [_,_]) rfl ⟨⟨rfl, show _ = (.pointer _ : Value) from rfl⟩, ⟨rfl, (rfl : _ = Value.int _ _)⟩, trivial⟩ ?_)))))))))))
   first
     | exact .inl ⟨by rw [zDx (by assumption)]; assumption, by rw [zDx (by assumption)]; rfl, g3.tail⟩
     | exact .inl ⟨by rw [zDw (by assumption) (by assumption)]; assumption, by rw [zDw (by assumption) (by assumption)]; rfl, g3.tail⟩
     | exact .inl ⟨by rw [zFr (by assumption) (by assumption) (isE (by assumption))]; decide, by rw [zFr (by assumption) (by assumption) (isE (by assumption))]; rfl, g3.tail⟩
     | exact .inr ⟨zFs (by assumption) (by assumption) (isE1 (by assumption)), lb, mm, _, rfl, zHa l mm, swap2 g3⟩
  try simp only [zS] at g7
  refine zAs (zAb (gg _ _ (zAe (fun gB gk => (zAa (w_p (zA4 (vs := [_,_,_]) isAgg26 sizeOf26 g3 rfl rfl (zAk (i := 0) (vs := [_,_,_]) rfl rfl)) rfl (zAr zAc call63 rfl rfl rfl rfl (c63 l p 0 g3) ?_)))))))
  rintro _ gC ⟨lb, mm, rfl, g5⟩
  replace g5 := (show St _ _ (_ :: _ :: _ :: F) from g5)
  have hk := lk_but (but := 0) g5 hm.cons.cons (by assumption) (by omega)
  refine w_p (zAo (v := .pointer _) rfl rfl) rfl (zAd (zAb (gk _ _ (zAe (fun gE gm => (zAe (fun gF gn => (zAa (w_p (zAi (v := .pointer _) rfl rfl) rfl ?_)))))))))
  refine zAr zAc call64 rfl rfl rfl rfl (c64 l p 0 lb mm hk g5) ?_
  rintro _ gG ⟨rfl, g0⟩
  refine w_p (zDz rfl rfl) rfl (zAd (zAb (gn _ _ (zAu rfl rfl (fun g8 => ?_) (fun g8 => ?_)))))
  ·
   try simp only [zS] at g8
   refine zAe (fun gH gq => (zAa (zA5 rfl rfl (zA5 rfl rfl (zAd (zAb (gq _ _ (zAy (zAg (zA1 (l := [.tmp 4, .tmp 5]) (vs := [_,_]) rfl ⟨⟨rfl, show _ = (.pointer _ : Value) from rfl⟩, ⟨rfl, (rfl : _ = Value.int _ _)⟩, trivial⟩ ?_))))))))))
   first
     | exact .inl ⟨by rw [zDx (by assumption)]; assumption, by rw [zDx (by assumption)]; rfl, g0.tail.tail.tail⟩
     | exact .inl ⟨by rw [zDw (by assumption) (by assumption)]; assumption, by rw [zDw (by assumption) (by assumption)]; rfl, g0.tail.tail.tail⟩
     | exact .inl ⟨by rw [zFr (by assumption) (by assumption) (isE (by assumption))]; decide, by rw [zFr (by assumption) (by assumption) (isE (by assumption))]; rfl, g0.tail.tail.tail⟩
     | exact .inr ⟨zFs (by assumption) (by assumption) (isE1 (by assumption)), lb, mm, _, rfl, zHa l mm, swap2 g0⟩
  try simp only [zS] at g8
  refine zAs (zAb (gm _ _ (zAe (fun gI gr => (zAa (w_p (zAi (v := .pointer _) rfl rfl) rfl (w_p (zAo (v := .pointer _) rfl rfl) rfl (zA5 rfl rfl (zAd (zAb (gr _ _ (zAy (zA1 (l := [.tmp 4, .tmp 5]) (vs := [_,_]) rfl ⟨⟨rfl, show _ = (.pointer _ : Value) from rfl⟩, ⟨rfl, (rfl : _ = Value.int _ _)⟩, trivial⟩ ?_)))))))))))))
  first
    | exact .inl ⟨by rw [zDx (by assumption)]; assumption, by rw [zDx (by assumption)]; rfl, g0.tail.tail.tail⟩
    | exact .inl ⟨by rw [zDw (by assumption) (by assumption)]; assumption, by rw [zDw (by assumption) (by assumption)]; rfl, g0.tail.tail.tail⟩
    | exact .inl ⟨by rw [zFr (by assumption) (by assumption) (isE (by assumption))]; decide, by rw [zFr (by assumption) (by assumption) (isE (by assumption))]; rfl, g0.tail.tail.tail⟩
    | exact .inr ⟨zFs (by assumption) (by assumption) (isE1 (by assumption)), lb, mm, _, rfl, zHa l mm, swap2 g0⟩

theorem bounds_at {w0 w : World} {X M F : List (Nat × Obj)} (l : Lot) (p : At3) (but lb mm : Nat) (hk : LK w0 F l p but lb mm) (b : Int) (hb : 0 ≤ b ∧ b < l.bunches.length) (hM : Memo l mm M) (hs : St w0 w (X ++ (M ++ F))) :
    Con Tryz.prog 53 [.pointer (some ⟨lb, 0, none⟩), .int .i64 b] w fun v w' => v = .tuple #[.agg #[.int .i64 (spanW b.toNat (Ha.ways l but)).1, .int .i64 (spanW b.toNat (Ha.ways l but)).2], .int .i64 ((setW l b.toNat (Ha.ways l but) : Nat) : Int)] ∧ ∃ M', Memo l mm M' ∧ St w0 w' (X ++ (M' ++ F)) := by
  have h := c53 l p but lb mm hk b.toNat (by omega) hM hs
  rw [Int.toNat_of_nonneg hb.1] at h
  exact h
theorem c24 {w0 w : World} {F : List (Nat × Obj)} (l : Lot) (p : At3) (hm : LIn w0 F l p) (b : Int) (hs : St w0 w F) :
  Con Tryz.prog 24 [.agg (l.cells p).toArray, .int .i64 b] w fun v w' => v = .tuple #[.agg #[.int .i64 (handsP l b).1.1, .int .i64 (handsP l b).1.2], .int .i64 (handsP l b).2] ∧ St w0 w' F := by
  refine zAt (n := 28) func24 rfl rfl (zNl rfl) ?_
  have hlb0 := hm.lb
  refine zAe (fun K2 gb => (zAa (zCa (v := .agg #[.slice _ _ _, .slice _ _ _, .slice _ _ _]) (cs := [_,_,_]) zAc rfl rfl rfl hs (fun b3 w4 gc => ?_))))
  refine zBf (cs := [_,_]) zAc zeroValue46 rfl gc (fun b6 w7 gd => ?_)
  refine zA5 rfl rfl (zAd (zAb (gb _ _ (zAe (fun gn g6 => (zCn [] [(0,1),(1,0),(2,0),(3,1),(4,0),(5,2),(6,2),(7,0),(8,0),(9,0),(10,0),(11,0)] zCb (by kernel_rfl) gd (fun gq g4 => ?_)))))))
  refine zBd rfl zAc rfl g4 (fun _ hq => (zA4 (vs := [_,_,_]) isAgg26 sizeOf26 hq rfl rfl (zAk (i := 1) (vs := [_,_,_]) rfl rfl))) ?_
  refine d_w rfl (fun _ => zA2 rfl rfl) rfl ?_
  refine d_w rfl (fun _ => zAf (o := 1) (i := 1) underlying26 rfl sizeOf23 rfl rfl rfl) rfl ?_
  refine zBd rfl zAc rfl g4 (fun _ hq => (zAj isAgg23 hq rfl rfl (zAk (i := 1) (vs := [_]) rfl rfl))) ?_
  refine d_w rfl (fun _ => zA8 underlying23 rfl rfl) rfl ?_
  refine zCq rfl ?_
  refine zAr zAc call42 rfl rfl rfl rfl (c42 _ _ g4) ?_
  rintro _ gr ⟨bb, bn, rfl, g7⟩
  refine zAd (qn ⟨g7.tail.tail, ?_⟩)
  refine zCq rfl ?_
  refine zAr zAc call41 rfl rfl rfl rfl (c41 l p hm.cons.cons.cons.cons (.func (.func 74) #[] #[.pointer (some ⟨bb, 0, none⟩), .pointer (some ⟨bn, 0, none⟩)]) (idxE b l.bunches.length) (fun X w hs => zDd call74 (c74 b l.bunches.length _ _ (by omega) (Ats.app (zAk (i := 0) (vs := [_]) rfl rfl)) (Ats.app (zAk (i := 1) (vs := [_]) rfl rfl)) hs)) g7) ?_
  rintro _ gt (⟨hee, rfl, g0⟩ | ⟨hee, lb, mm, M, rfl, hM, g0⟩)
  ·
   refine zAd (qn ⟨g0.tail.tail, ?_⟩)
   refine d_w rfl (fun _ => zAi (v := .tuple _) rfl rfl) rfl ?_
   refine d_w rfl (fun _ => zAp (v := .pointer _) rfl rfl rfl) rfl ?_
   refine d_w rfl (fun _ => zAp (v := .int _ _) rfl rfl rfl) rfl ?_
   refine d_w rfl (fun _ => zAo (v := .pointer _) rfl rfl) rfl ?_
   refine d_w rfl (fun _ => zCi rfl rfl) rfl ?_
   refine zCf ?_
   refine zAb (g6 _ _ (zAe (fun gu gv => (zAe (fun gw gf => (zAa (zAz rfl rfl (w_p (zB2 rfl rfl rfl rfl) rfl (zAd (zAb (gf _ _ (zAu rfl rfl (fun g3 => ?_) (fun g3 => ?_)))))))))))))
   ·
    try simp only [zS] at g3
    refine zAe (fun gx gg => (zAa (w_p (zA4 (vs := [_,_]) isAgg46 sizeOf46 g0 rfl rfl (zAk (i := 2) (vs := [_,_]) rfl rfl)) rfl (zAz rfl rfl (zA6 (i := 2) (v := .agg #[.int _ _, .int _ _]) (vs := [_,_]) zAc sizeOf46 rfl rfl rfl rfl rfl (by simp [Value.oneCell']) g0 rfl (zNl rfl) (fun gy g8 => ?_))))))
    refine zBe rfl rfl (zAd (zAb (gg _ _ (zAy (zAg (zA1 (l := [.cell 4 46, .tmp 5]) (vs := [_,_]) rfl ⟨⟨rfl, _, rfl, zB9 (vs := [_,_]) isAgg46 sizeOf46 g8 (zAk (i := 2) (vs := [_,_]) rfl rfl)⟩, ⟨rfl, (rfl : _ = Value.int _ _)⟩, trivial⟩ ?_))))))
    exact ⟨by unfold handsP; rw [if_pos hee]; rfl, g8.tail.tail.tail.tail⟩
   exfalso
   try simp only [zS] at g3
   first | exact hee g3 | exact g3 hee
  replace g0 := (show St _ _ (M ++ (_ :: _ :: _ :: _ :: _ :: F)) from g0)
  have hk := zGx g0 hm.cons.cons.cons.cons (zB4 hee).1
  have hew := zB4 hee
  have hbt := hk.bt
  have hlg := hk.ok.lg
  have hlb := hk.ok.lb
  have hlc := hk.ok.lc
  refine zAd (qn ⟨g0.drop.tail.tail.tail, ?_⟩)
  refine d_w rfl (fun _ => zAi (v := .tuple _) rfl rfl) rfl ?_
  refine d_w rfl (fun _ => zAp (v := .pointer _) rfl rfl rfl) rfl ?_
  refine d_w rfl (fun _ => zAp (v := .int _ _) rfl rfl rfl) rfl ?_
  refine d_w rfl (fun _ => zAo (v := .pointer _) rfl rfl) rfl ?_
  refine d_w rfl (fun _ => zCi rfl rfl) rfl ?_
  refine zCf ?_
  refine zAb (g6 _ _ (zAe (fun gz gh => (zAe (fun gA gi => (zAa (zAz rfl rfl (w_p (zB2 rfl rfl rfl rfl) rfl (zAd (zAb (gi _ _ (zBx rfl rfl ?_))))))))))))
  refine zAs (zAb (gh _ _ (zAe (fun gB gj => (zAa (w_p (zAi (v := .pointer _) rfl rfl) rfl (zAz rfl rfl (zAr zAc call53 rfl rfl rfl rfl (bounds_at (X := []) l _ 0 lb mm hk b (zF3 hew.2.1) hM g0) ?_))))))))
  rintro _ gC ⟨rfl, M37, gE, g5⟩
  replace g5 := (show St _ _ (M37 ++ (_ :: _ :: _ :: _ :: _ :: F)) from g5)
  have gk := g5.drop
  refine w_p (zAi (v := .tuple _) rfl rfl) rfl (w_p (zAp (v := .agg _) rfl rfl rfl) rfl (w_p (zAp (v := .int _ _) rfl rfl rfl) rfl (zA6 (i := 3) (v := .agg #[.int _ _, .int _ _]) (vs := [_,_]) zAc sizeOf46 rfl rfl rfl rfl rfl (by simp [Value.oneCell']) gk rfl (zNl rfl) (fun gF g9 => ?_))))
  refine zAd (zAb (gj _ _ (zAe (fun gG gm => (zAa (w_p (zA4 (vs := [_,_]) isAgg46 sizeOf46 g9 rfl rfl (zAk (i := 3) (vs := [_,_]) rfl rfl)) rfl (zA6 (i := 3) (v := .agg #[.int _ _, .int _ _]) (vs := [_,_]) zAc sizeOf46 rfl rfl rfl rfl rfl (by simp [Value.oneCell']) g9 rfl (zNl rfl) (fun gH ga => ?_))))))))
  refine zA5 rfl rfl (zAd (zAb (gm _ _ (zAy (zA1 (l := [.cell 4 46, .tmp 5]) (vs := [_,_]) rfl ⟨⟨rfl, _, rfl, zB9 (vs := [_,_]) isAgg46 sizeOf46 ga (zAk (i := 3) (vs := [_,_]) rfl rfl)⟩, ⟨rfl, (rfl : _ = Value.int _ _)⟩, trivial⟩ ?_)))))
  exact ⟨by unfold handsP; rw [if_neg (by simp [hee])]; rfl, ga.tail.tail.tail.tail.tail⟩

end Go.Proofs.Hn
set_option maxRecDepth 20000
namespace Go.Proofs.Hn
open Go.Proofs.Tryz
open Go.Rt Go.Rt.Ha
attribute [local irreducible] WL WC Con Yd At Ats Sl Agree DW
theorem zJy (x0 : Int) (w : World) : (Instr.buildSlice 43 1 [(0, .int .i64 x0)].toArray).run Tryz.prog w = .ok (.slice (some ⟨w.heap.size, 0, none⟩) 1 1) (w.alloc (Go.Rt.blk 3 [.int .i64 x0])) := by kernel_rfl
theorem _root_.Go.Rt.Sl.top {w0 : World} {B F : List (Nat × Obj)} {a : Option Addr} {sz : Nat} {rows : List (List Value)} (h : Sl w0 B a sz rows) : Sl w0 (B ++ F) a sz rows := h.mono fun _ h => h.front
def EL (w0 : World) (L : List (Nat × Obj)) (vs : List Value) (ll : List (List Int)) : Prop :=
  vs.length = ll.length ∧ ∀ k (h : k < ll.length), ∃ b c, vs[k]? = some (.slice b ll[k].length c) ∧ Sl w0 L b 1 (ll[k].map fun x => [Value.int .i64 x]) ∧ (b = none → c = 0)
theorem EL.mono {w0 : World} {L L' : List (Nat × Obj)} {vs : List Value} {ll : List (List Int)} (h : EL w0 L vs ll) (hs : ∀ w, St w0 w L' → St w0 w L) : EL w0 L' vs ll :=
  ⟨h.1, fun k hk => by obtain ⟨b, c, h1, h2, h3⟩ := h.2 k hk; exact ⟨b, c, h1, h2.mono hs, h3⟩⟩
theorem EL.cons {w0 : World} {L : List (Nat × Obj)} {x : Nat × Obj} {vs : List Value} {ll : List (List Int)} (h : EL w0 L vs ll) : EL w0 (x :: L) vs ll := h.mono fun _ h => h.tail
theorem EL.app {w0 : World} {L B : List (Nat × Obj)} {vs : List Value} {ll : List (List Int)} (h : EL w0 L vs ll) : EL w0 (B ++ L) vs ll := h.mono fun _ h => h.drop
theorem EL.top {w0 : World} {B F : List (Nat × Obj)} {vs : List Value} {ll : List (List Int)} (h : EL w0 B vs ll) : EL w0 (B ++ F) vs ll := h.mono fun _ h => h.front
theorem EL.nil (w0 : World) (L : List (Nat × Obj)) : EL w0 L [] [] := ⟨rfl, fun k h => by simp at h⟩
theorem EL.snoc {w0 : World} {L : List (Nat × Obj)} {vs : List Value} {ll : List (List Int)} {b : Option Addr} {c : Nat} {l : List Int} (h : EL w0 L vs ll) (hl : Sl w0 L b 1 (l.map fun x => [Value.int .i64 x])) (hn : b = none → c = 0) : EL w0 L (vs ++ [.slice b l.length c]) (ll ++ [l]) := by
  refine ⟨by simp [h.1], fun k hk => ?_⟩
  rw [List.length_append, List.length_singleton] at hk
  by_cases hkl : k < ll.length
  · obtain ⟨b', c', h1, h2, h3⟩ := h.2 k hkl
    refine ⟨b', c', ?_, ?_, h3⟩
    · rw [List.getElem?_append_left (by rw [h.1]; exact hkl), h1, List.getElem_append_left hkl]
    · rw [List.getElem_append_left hkl]; exact h2
  · have : k = ll.length := by omega
    subst this
    refine ⟨b, c, ?_, ?_, hn⟩
    · rw [List.getElem?_append_right (by rw [h.1]; omega), h.1]; simp
    · simpa using hl
theorem el_at {w0 : World} {L : List (Nat × Obj)} {a : Option Addr} {vs : List Value} {ll : List (List Int)} {k : Nat} (hs : Sl w0 L a 1 (vs.map fun v => [v])) (h : EL w0 L vs ll) (hk : k < ll.length) :
    ∃ b off b2 c2, a = some ⟨b, off, none⟩ ∧ Ats w0 L b (off + k * 1) [.slice b2 ll[k].length c2] ∧ Sl w0 L b2 1 (ll[k].map fun x => [Value.int .i64 x]) ∧ (b2 = none → c2 = 0) := by
  obtain ⟨b2, c2, h1, h2, h3⟩ := h.2 k hk
  obtain ⟨b, off, ha, _, hat⟩ := hs.at (i := k) (row := [.slice b2 ll[k].length c2]) (by rw [List.getElem?_map, h1]; rfl)
  exact ⟨b, off, b2, c2, ha, hat, h2, h3⟩
theorem el_perm {w0 w : World} {a b : Nat × Obj} {B N E R : List (Nat × Obj)} (h : St w0 w (a :: b :: (B ++ (N ++ (E ++ R))))) : St w0 w (N ++ ((B ++ E) ++ R)) := by
  have h1 : St w0 w (B ++ (N ++ (E ++ R))) := h.tail.tail
  have h2 : St w0 w (N ++ (B ++ (E ++ R))) := h1.perm (zBc B N (E ++ R))
  rwa [← List.append_assoc B] at h2
theorem _root_.Go.Rt.Ats.top {w0 : World} {B F : List (Nat × Obj)} {b off : Nat} {vs : List Value} (h : Ats w0 B b off vs) : Ats w0 (B ++ F) b off vs := h.mono fun _ h => h.front
theorem el_drop2 (N E1 O E F : List (Nat × Obj)) : (N ++ (E1 ++ (O ++ (E ++ F)))).Perm ((O ++ E) ++ (N ++ (E1 ++ F))) := by
  have h := zBc (N ++ E1) (O ++ E) F
  simpa only [List.append_assoc] using h
theorem flat_ints (l : List Int) : (l.map fun x => [Value.int .i64 x]).flatten = iv l := by induction l <;> simp_all
theorem ints_one (l : List Int) : ∀ row ∈ (l.map fun x => [Value.int .i64 x]), ∀ u ∈ row, u.oneCell' = true := by
  intro row hr u hu; obtain ⟨x, _, rfl⟩ := List.mem_map.1 hr; simp at hu; subst hu; rfl
theorem zGg {w0 : World} {v : Value} {l : List Int} {B : List (Nat × Obj)} (h : Rt.Own v 3 1 l.length (iv l) B) : ∃ a c, v = .slice a l.length c ∧ Sl w0 B a 1 (l.map fun x => [Value.int .i64 x]) ∧ (a = none → c = 0) ∧ l.length ≤ c := by
  obtain ⟨a, c, hv, hs⟩ := zEf (w0 := w0) h rfl []
  rw [List.append_nil] at hs
  refine ⟨a, c, hv, hs, fun ha => ?_, ?_⟩
  · rcases h.2 with ⟨h2, _⟩ | ⟨b, cap, cs, h2, _⟩
    · rw [h2] at hv; injection hv with _ _ h3; exact h3.symm
    · rw [h2] at hv; injection hv with h3; rw [ha] at h3; cases h3
  · rcases h.2 with ⟨h2, h3, _⟩ | ⟨b, cap, cs, h2, _, h4, _⟩
    · rw [h2] at hv; injection hv with _ _ h5; omega
    · rw [h2] at hv; injection hv with _ _ h5; omega
theorem own_ints1 {v : Value} {l : List Int} {d : Int} {B : List (Nat × Obj)} (h : Rt.Own v 3 1 (0 + l.length + 1) ([] ++ (l.map fun x => [Value.int .i64 x]).flatten ++ [[Value.int .i64 d]].flatten) B) : Rt.Own v 3 1 (l ++ [d]).length (iv (l ++ [d])) B := by
  rw [flat_ints] at h
  simpa [Nat.add_comm] using h
theorem own_el {v : Value} {ws : List Value} {u : Value} {NB : List (Nat × Obj)} {g : List (List Int)} {x : List Int} (h : Rt.Own v 43 1 (g.length + 1) (ws ++ [[u]].flatten) NB) : Rt.Own v 43 1 (g ++ [x]).length (ws ++ [u]) NB := by simpa using h
theorem zG5 {P : Program} {a : Act} {o : Oper} {w : World} {x y : Option Addr} {l c : Nat} (h : x = y) (hy : Yd P a o w (.slice x l c)) : Yd P a o w (.slice y l c) := h ▸ hy
theorem sl_own_ints {w0 : World} {L : List (Nat × Obj)} {i b n : Nat} {t : TypeId} {cs : List Value} {l : List Int} (hi : L[i]? = some (b, blk t cs)) (hn : l.length = n) (h : cs.take (n * 1) = iv l) : Sl w0 L (some ⟨b, 0, none⟩) 1 (l.map fun x => [Value.int .i64 x]) :=
  zBt hi (by intro row hr; obtain ⟨f, _, rfl⟩ := List.mem_map.1 hr; rfl) (by rw [List.length_map, flat_ints, hn]; exact h)
theorem el_more {w0 : World} {B E : List (Nat × Obj)} {ws : List Value} {g : List (List Int)} {a : Option Addr} {c : Nat} {l : List Int} (h : EL w0 E ws g) (hs : Sl w0 B a 1 (l.map fun x => [Value.int .i64 x])) (hn : a = none → c = 0) : EL w0 (B ++ E) (ws ++ [.slice a l.length c]) (g ++ [l]) := h.app.snoc hs.top hn
theorem zIm {w0 w : World} {F : List (Nat × Obj)} {x a : Nat × Obj} (h : St w0 w (x :: (a :: F))) : St w0 w (x :: F) := (h.perm (zBc [x] [a] F)).tail
theorem kp_opq {w0 w : World} {Y F : List (Nat × Obj)} {x : Nat × Obj} (h : St w0 w (x :: (Y ++ F))) : St w0 w (x :: F) := (h.perm (zBc [x] Y F)).drop
theorem zEg {w0 w : World} {B F : List (Nat × Obj)} {a : Nat × Obj} (h : St w0 w (B ++ (a :: F))) : St w0 w (B ++ F) := (h.perm (zBc B [a] F)).tail
theorem kq_opq {w0 w : World} {B Y F : List (Nat × Obj)} (h : St w0 w (B ++ (Y ++ F))) : St w0 w (B ++ F) := (h.perm (zBc B Y F)).drop
theorem dec_start (l : List Int) : l.take l.length ++ (List.replicate l.length (0 : Int)).drop l.length = (l.take 0).map (· - 1) ++ l.drop 0 := by simp
theorem dec_step {l : List Int} {i : Nat} (h : i < l.length) : ((l.take i).map (· - 1) ++ l.drop i).set i (((l.take i).map (· - 1) ++ l.drop i).getD i 0 - 1) = (l.take (i + 1)).map (· - 1) ++ l.drop (i + 1) := by
  have hl : ((l.take i).map (· - 1)).length = i := by simp; omega
  have hg : ((l.take i).map (· - 1) ++ l.drop i).getD i 0 = l[i] := by
    simp only [List.getD]; rw [List.getElem?_append_right (by omega), hl, Nat.sub_self, List.getElem?_drop]; simp [h]
  rw [hg, List.set_append_right i _ (by omega), hl, Nat.sub_self, List.drop_eq_getElem_cons h, List.set_cons_zero, List.take_succ_eq_append_getElem h, List.map_append, List.append_assoc]; rfl
theorem dec_end (l : List Int) : (l.take l.length).map (· - 1) ++ l.drop l.length = l.map (· - 1) := by simp
theorem dec_len (l : List Int) (i : Nat) : ((l.take i).map (· - 1) ++ l.drop i).length = l.length := by simp; omega
theorem dec_get {l : List Int} (n : Nat) {b : Nat} (h : l = listL b n) (i : Nat) (hn : n ≤ 40) : -50 ≤ ((l.take i).map (· - 1) ++ l.drop i).getD i 0 ∧ ((l.take i).map (· - 1) ++ l.drop i).getD i 0 ≤ 50 := by
  have hm : ∀ z ∈ l, 0 ≤ z ∧ z ≤ 40 := by
    have key : ∀ n, n ≤ 40 → ∀ z ∈ listL b n, 0 ≤ z ∧ z ≤ 40 := by
      intro n
      induction n with
      | zero => intro _ z hz; simp [listL] at hz
      | succ n ih =>
        intro hn z hz
        simp only [listL, List.mem_append] at hz
        rcases hz with hz | hz
        · exact ih (by omega) z hz
        · split at hz <;> simp at hz
          omega
    subst h
    exact key n hn
  generalize hL : (l.take i).map (· - 1) ++ l.drop i = L
  by_cases hi : i < L.length
  · simp only [List.getD, List.getElem?_eq_getElem hi, Option.getD_some]
    have h0 := List.getElem_mem hi
    generalize L[i] = x at h0 ⊢
    rw [← hL] at h0
    rcases List.mem_append.1 h0 with h1 | h1
    · obtain ⟨y, hy, he⟩ := List.mem_map.1 h1
      have h2 := hm y (List.mem_of_mem_take hy)
      omega
    · have h2 := hm _ (List.mem_of_mem_drop h1); omega
  · simp [List.getD, List.getElem?_eq_none (by omega : L.length ≤ i)]
theorem keep_two {w0 w : World} {B1 B2 M F : List (Nat × Obj)} {x y : Nat × Obj} (h : St w0 w (B1 ++ (B2 ++ (M ++ (x :: y :: F))))) : St w0 w ((B1 ++ B2) ++ F) := by
  rw [← List.append_assoc] at h
  exact zEg (zEg (kq_opq h))
theorem c25 {w0 w : World} {F : List (Nat × Obj)} (l : Lot) (p : At3) (hm : LIn w0 F l p) (b : Int) (hs : St w0 w F) :
  Con Tryz.prog 25 [.agg (l.cells p).toArray, .int .i64 b] w fun v w' => ∃ B a c, v = .tuple #[.slice a (gradeP l b).1.length c, .int .i64 (gradeP l b).2] ∧ Sl w0 B a 1 ((gradeP l b).1.map fun x => [Value.int .i64 x]) ∧ St w0 w' (B ++ F) := by
  refine zAt (n := 57) func25 rfl rfl (zNl rfl) ?_
  have hlb0 := hm.lb
  refine zAe (fun K2 gb => (zAa (zCa (v := .agg #[.slice _ _ _, .slice _ _ _, .slice _ _ _]) (cs := [_,_,_]) zAc rfl rfl rfl hs (fun b3 w4 gc => ?_))))
  refine zA5 rfl rfl (zA5 rfl rfl (zAd (zAb (gb _ _ (zAe (fun K7 g8 => (zCn [] [(0,1),(1,0),(2,0),(3,1),(4,0),(5,2),(6,2),(7,0),(8,0),(9,0),(10,0),(11,0)] zCb (by kernel_rfl) gc (fun w8 g4 => ?_))))))))
  refine zBd rfl zAc rfl g4 (fun _ hq => (zA4 (vs := [_,_,_]) isAgg26 sizeOf26 hq rfl rfl (zAk (i := 0) (vs := [_,_,_]) rfl rfl))) ?_
  refine d_w rfl (fun _ => zA2 rfl rfl) rfl ?_
  refine d_w rfl (fun _ => zAf (o := 1) (i := 1) underlying26 rfl sizeOf23 rfl rfl rfl) rfl ?_
  refine zBd rfl zAc rfl g4 (fun _ hq => (zAj isAgg23 hq rfl rfl (zAk (i := 0) (vs := [_]) rfl rfl))) ?_
  refine d_w rfl (fun _ => zA8 underlying23 rfl rfl) rfl ?_
  refine zCq rfl ?_
  refine zAr zAc call42 rfl rfl rfl rfl (c42 _ _ g4) ?_
  rintro _ gF ⟨bb, bn, rfl, g9⟩
  refine zAd (qn ⟨g9.tail.tail, ?_⟩)
  refine zCq rfl ?_
  refine zAr zAc call41 rfl rfl rfl rfl (c41 l p hm.cons.cons.cons (.func (.func 74) #[] #[.pointer (some ⟨bb, 0, none⟩), .pointer (some ⟨bn, 0, none⟩)]) (idxE b l.bunches.length) (fun X w hs => zDd call74 (c74 b l.bunches.length _ _ (by omega) (Ats.app (zAk (i := 0) (vs := [_]) rfl rfl)) (Ats.app (zAk (i := 1) (vs := [_]) rfl rfl)) hs)) g9) ?_
  rintro _ gG (⟨hee, rfl, g0⟩ | ⟨hee, lb, mm, M, rfl, hM, g0⟩)
  ·
   refine zAd (qn ⟨g0.tail.tail, ?_⟩)
   refine d_w rfl (fun _ => zAi (v := .tuple _) rfl rfl) rfl ?_
   refine d_w rfl (fun _ => zAp (v := .pointer _) rfl rfl rfl) rfl ?_
   refine d_w rfl (fun _ => zAp (v := .int _ _) rfl rfl rfl) rfl ?_
   refine d_w rfl (fun _ => zAo (v := .pointer _) rfl rfl) rfl ?_
   refine d_w rfl (fun _ => zCi rfl rfl) rfl ?_
   refine zCf ?_
   refine zAb (g8 _ _ (zAe (fun gH gI => (zAe (fun gJ gd => (zAa (zAz rfl rfl (w_p (zB2 rfl rfl rfl rfl) rfl (zAd (zAb (gd _ _ (zAu rfl rfl (fun g3 => ?_) (fun g3 => ?_)))))))))))))
   ·
    try simp only [zS] at g3
    refine zAe (fun gK gf => (zAa (zAz rfl rfl (zA5 rfl rfl (zBe rfl rfl (zAd (zAb (gf _ _ (zAy (zAg (zA1 (l := [.tmp 4, .tmp 5]) (vs := [_,_]) rfl ⟨⟨rfl, show _ = (.slice _ _ _ : Value) from rfl⟩, ⟨rfl, (rfl : _ = Value.int _ _)⟩, trivial⟩ ?_)))))))))))
    have hq : gradeP l b = ([], enterE l (idxE b l.bunches.length)) := by unfold gradeP; rw [if_pos hee]
    exact ⟨[], none, 0, by rw [hq]; rfl, by rw [hq]; exact Sl.nil _ _, g0.tail.tail.tail⟩
   exfalso
   try simp only [zS] at g3
   first | exact hee g3 | exact g3 hee
  replace g0 := (show St _ _ (M ++ (_ :: _ :: _ :: _ :: F)) from g0)
  have hk := zGx g0 hm.cons.cons.cons (zB4 hee).1
  have hew := zB4 hee
  have hbt := hk.bt
  have hlg := hk.ok.lg
  have hlb := hk.ok.lb
  have hlc := hk.ok.lc
  refine zAd (qn ⟨g0.drop.tail.tail.tail, ?_⟩)
  refine d_w rfl (fun _ => zAi (v := .tuple _) rfl rfl) rfl ?_
  refine d_w rfl (fun _ => zAp (v := .pointer _) rfl rfl rfl) rfl ?_
  refine d_w rfl (fun _ => zAp (v := .int _ _) rfl rfl rfl) rfl ?_
  refine d_w rfl (fun _ => zAo (v := .pointer _) rfl rfl) rfl ?_
  refine d_w rfl (fun _ => zCi rfl rfl) rfl ?_
  refine zCf ?_
  refine zAb (g8 _ _ (zAe (fun gL gg => (zAe (fun gM gh => (zAa (zAz rfl rfl (w_p (zB2 rfl rfl rfl rfl) rfl (zAd (zAb (gh _ _ (zBx rfl rfl ?_))))))))))))
  refine zAs (zAb (gg _ _ (zAe (fun gN gi => (zAa (w_p (zAi (v := .pointer _) rfl rfl) rfl (zAz rfl rfl (zAr zAc call53 rfl rfl rfl rfl (bounds_at (X := []) l _ 0 lb mm hk b (zF3 hew.2.1) hM g0) ?_))))))))
  rintro _ gP ⟨rfl, M32, gQ, g5⟩
  replace g5 := (show St _ _ (M32 ++ (_ :: _ :: _ :: _ :: F)) from g5)
  have gj := g5.drop
  refine w_p (zAi (v := .tuple _) rfl rfl) rfl (w_p (zAp (v := .agg _) rfl rfl rfl) rfl (w_p (zAp (v := .int _ _) rfl rfl rfl) rfl (zBf (cs := [_,_]) zAc zeroValue46 rfl gj (fun gR gS gk => ?_))))
  refine zA6 (i := 0) (v := .agg #[.int _ _, .int _ _]) (vs := [_,_]) zAc sizeOf46 rfl rfl rfl rfl rfl (by simp [Value.oneCell']) gk rfl (zNl rfl) (fun gU ga => ?_)
  refine zBe rfl rfl (zAd (zAb (gi _ _ (zAe (fun gV gm => (zAa (zAz rfl rfl (w_p (zAf (o := 0) (i := 0) underlying26 rfl sizeOf22 rfl rfl rfl) rfl (w_p (zAj isAgg22 ga rfl rfl (zAk (i := 4) (vs := [_]) rfl rfl)) rfl ?_)))))))))
  refine w_p (zA8 underlying22 rfl rfl) rfl (w_p (zGt (z' := ((l.grades.length + 1 : Nat) : Int)) (by omega) (zBg rfl rfl rfl rfl (by omega) (by omega))) rfl (zAr zAc call54 rfl rfl rfl rfl (c54 _ _ (by have := setW_lt hk.ok b.toNat (Ha.ways l 0); omega) (by omega) ga) ?_))
  rintro _ gW ⟨B, hown, g6⟩
  replace g6 := (show St _ _ (B ++ (_ :: _ :: _ :: _ :: _ :: F)) from g6)
  obtain ⟨aL, cL, rfl, hslL, hnL, hcL⟩ := zGg (w0 := w0) hown
  have hll := zDh (setW l b.toNat (Ha.ways l 0)) (l.grades.length + 1)
  refine w_p (zAo (v := .slice _ _ _) rfl rfl) rfl (zAd (zAb (gm _ _ (zAe (fun gX gn => (zAa (w_p (zAi (v := .slice _ _ _) rfl rfl) rfl (w_p (zA8 underlying43 rfl rfl) rfl ?_))))))))
  refine zG6 (k := (listL (setW l b.toNat (Ha.ways l 0)) (l.grades.length + 1)).length) zAc underlying43 zDb rfl rfl (by omega) rfl rfl rfl rfl rfl g6 (fun gq gY gr => ?_)
  refine w_p (zAo (v := .slice _ _ _) rfl rfl) rfl (zAd (zAb (gn _ _ (zAe (fun gZ gt => (zAa (w_p (zAi (v := .slice _ _ _) rfl rfl) rfl (w_p (zAi (v := .slice _ _ _) rfl rfl) rfl ?_))))))))
  refine w_copyI (i := 0) zAc underlying43 sizeOf3 rfl rfl rfl rfl gr rfl hslL.top.cons (by first | omega | rfl | (simp only [dec_len, zL] <;> omega)) (by first | omega | rfl | (simp only [dec_len, zL] <;> omega)) (fun hD gu => ?_)
  refine zAd (zAb (gt _ _ (zAe (fun hG gv => (zAe (fun hH gw => (zAa (w_p (zAi (v := .slice _ _ _) rfl rfl) rfl (w_p (zA8 underlying43 rfl rfl) rfl ?_)))))))))
  refine w_p (zAi (v := _) rfl rfl) rfl (zAd (zAb (gw _ _ (zAw ?_))))
  refine zBs [12,46,47,48,49,50,51,52,53,54,55] [46] (fun k vs w => ∃ (i : Nat), vs = [.int .i64 i] ∧ i ≤ (listL (setW l b.toNat (Ha.ways l 0)) (l.grades.length + 1)).length ∧ k = (listL (setW l b.toNat (Ha.ways l 0)) (l.grades.length + 1)).length - i ∧ St w0 w ((gq, blk 3 (iv (((listL (setW l b.toNat (Ha.ways l 0)) (l.grades.length + 1)).take i).map (· - 1) ++ (listL (setW l b.toNat (Ha.ways l 0)) (l.grades.length + 1)).drop i))) :: F)) ((listL (setW l b.toNat (Ha.ways l 0)) (l.grades.length + 1)).length) ?_ ?_
  ·
   exact ⟨0, rfl, by omega, by omega, by rw [← dec_start]; exact (zIm (zIm (zIm (zIm (zIm (kp_opq gu))))))⟩
  intro k vs μ hO hI hX gx
  obtain ⟨i, rfl, hia, rfl, hs⟩ := hI
  refine zAe (fun hY gy => (zAa (w_p (zBw rfl rfl rfl rfl) rfl (zAd (zAb (gy _ _ (zAe (fun j0 gz => (zAu rfl rfl (fun g7 => ?_) (fun g7 => ?_))))))))))
  ·
   try simp only [zS] at g7
   refine zAs (zAb (gz _ _ (zAe (fun j1 gA => (zAw ?_)))))
   refine zAe (fun j2 gB => (zAa (zAz rfl rfl (zBe rfl rfl (zAd (zAb (gB _ _ ?_)))))))
   have hi2 : i < (listL (setW l b.toNat (Ha.ways l 0)) (l.grades.length + 1)).length := by omega
   have hdg := dec_get (l := (listL (setW l b.toNat (Ha.ways l 0)) (l.grades.length + 1))) _ rfl i (by omega)
   refine zAa (w_p (zAi (v := .slice _ _ _) rfl rfl) rfl (zAz rfl rfl (w_p (zA3 underlying43 sizeOf3 rfl rfl rfl rfl (i := i) (by first | rfl | omega) (by omega)) rfl ?_)))
   refine w_p (zAj isAgg3 hs rfl rfl (zB7 (i := 0) (j := i) rfl (by first | omega | rfl | (simp only [dec_len, zL] <;> omega)))) rfl ?_
   refine w_p (zE0 rfl rfl rfl rfl (by omega) (by omega)) rfl (w_p (zA3 underlying43 sizeOf3 rfl rfl rfl rfl (i := i) (by first | rfl | omega) (by omega)) rfl ?_)
   refine zC0 (i := 0) (j := i) zAc sizeOf3 rfl rfl rfl rfl hs rfl (by first | omega | rfl | (simp only [dec_len, zL] <;> omega)) (fun j3 gC => ?_)
   refine zAd (zAl (zAb (gA _ _ (zAa (w_p (zBg rfl rfl rfl rfl (by omega) (by omega)) rfl (zAz rfl rfl (zAd (zAb (gx _ _ (nxI ((listL (setW l b.toNat (Ha.ways l 0)) (l.grades.length + 1)).length - (i + 1)) (by omega) ?_))))))))))
   exact ⟨i + 1, rfl, by omega, rfl, by rw [← dec_step hi2]; exact gC⟩
  try simp only [zS] at g7
  refine zBl (zAm (zAm (zA0 (zAb (gv _ _ (zAe (fun j4 gE => (zAa (w_p (zAi (v := .slice _ _ _) rfl rfl) rfl (w_p (zAo (v := .slice _ _ _) rfl rfl) rfl ?_))))))))))
  refine zA5 rfl rfl (zAd (zAb (gE _ _ (zAy (zA1 (l := [.tmp 4, .tmp 5]) (vs := [_,_]) rfl ⟨⟨rfl, show _ = (.slice _ _ _ : Value) from rfl⟩, ⟨rfl, (rfl : _ = Value.int _ _)⟩, trivial⟩ ?_)))))
  have hil : i = (listL (setW l b.toNat (Ha.ways l 0)) (l.grades.length + 1)).length := by omega
  subst hil
  have hq : gradeP l b = ((listL (setW l b.toNat (Ha.ways l 0)) (l.grades.length + 1)).map (· - 1), 0) := by unfold gradeP; rw [if_neg (by simp [hee])]
  rw [dec_end] at hs
  exact ⟨[_], some ⟨_, 0, none⟩, _, by rw [hq, List.length_map]; rfl, by rw [hq]; exact zEa (i := 0) rfl, hs⟩

theorem sure_yes {l : Lot} {ws : List (List Int)} {i : Nat} (h : ((setW l i ws : Nat) : Int) = 1) : sureTo l ws (i + 1) = sureTo l ws i ++ [(i : Int)] := by simp only [sureTo]; rw [if_pos (by omega)]
theorem sure_no {l : Lot} {ws : List (List Int)} {i : Nat} (h : ¬ ((setW l i ws : Nat) : Int) = 1) : sureTo l ws (i + 1) = sureTo l ws i := by simp only [sureTo]; rw [if_neg (by omega), List.append_nil]
theorem may_yes {l : Lot} {ws : List (List Int)} {i : Nat} (h : ((setW l i ws &&& 1 : Nat) : Int) = 1) : mayTo l ws (i + 1) = mayTo l ws i ++ [(i : Int)] := by simp only [mayTo]; rw [if_pos (by omega)]
theorem may_no {l : Lot} {ws : List (List Int)} {i : Nat} (h : ¬ ((setW l i ws &&& 1 : Nat) : Int) = 1) : mayTo l ws (i + 1) = mayTo l ws i := by simp only [mayTo]; rw [if_neg (by omega), List.append_nil]
theorem sure_len (l : Lot) (ws : List (List Int)) : ∀ n, (sureTo l ws n).length ≤ n
  | 0 => by simp [sureTo]
  | n + 1 => by have := sure_len l ws n; simp only [sureTo, List.length_append]; split <;> simp <;> omega
theorem may_len (l : Lot) (ws : List (List Int)) : ∀ n, (mayTo l ws n).length ≤ n
  | 0 => by simp [mayTo]
  | n + 1 => by have := may_len l ws n; simp only [mayTo, List.length_append]; split <;> simp <;> omega
theorem own_both {w0 w : World} {v1 v2 : Value} {l1 l2 : List Int} {B1 B2 F : List (Nat × Obj)} (h1 : Rt.Own v1 3 1 l1.length (iv l1) B1) (h2 : Rt.Own v2 3 1 l2.length (iv l2) B2) (hs : St w0 w ((B1 ++ B2) ++ F)) (e : Int) :
    ∃ B a1 c1 a2 c2, Value.tuple #[v1, v2, .int .i64 e] = .tuple #[.slice a1 l1.length c1, .slice a2 l2.length c2, .int .i64 e] ∧ Sl w0 B a1 1 (l1.map fun x => [Value.int .i64 x]) ∧ Sl w0 B a2 1 (l2.map fun x => [Value.int .i64 x]) ∧ St w0 w (B ++ F) := by
  obtain ⟨a1, c1, rfl, g0, _⟩ := zGg (w0 := w0) h1
  obtain ⟨a2, c2, rfl, g3, _⟩ := zGg (w0 := w0) h2
  exact ⟨B1 ++ B2, a1, c1, a2, c2, rfl, g0.mono fun _ h => h.front, g3.app, hs⟩
theorem c26 {w0 w : World} {F : List (Nat × Obj)} (l : Lot) (p : At3) (hm : LIn w0 F l p)  (hs : St w0 w F) :
  Con Tryz.prog 26 [.agg (l.cells p).toArray] w fun v w' => ∃ B a1 c1 a2 c2, v = .tuple #[.slice a1 (refusedP l).1.length c1, .slice a2 (refusedP l).2.1.length c2, .int .i64 (refusedP l).2.2] ∧ Sl w0 B a1 1 ((refusedP l).1.map fun x => [Value.int .i64 x]) ∧ Sl w0 B a2 1 ((refusedP l).2.1.map fun x => [Value.int .i64 x]) ∧ St w0 w' (B ++ F) := by
  refine zAt (n := 45) func26 rfl rfl (zNl rfl) ?_
  have hlb0 := hm.lb
  refine zAe (fun K2 gr => (zAa (zCa (v := .agg #[.slice _ _ _, .slice _ _ _, .slice _ _ _]) (cs := [_,_,_]) zAc rfl rfl rfl hs (fun b3 w4 gi => ?_))))
  refine zA5 rfl rfl (zA5 rfl rfl (zA5 rfl rfl (zAd (zAb (gr _ _ (zAe (fun K7 gj => (zAa (w_p (zA4 (vs := [_,_,_]) isAgg26 sizeOf26 gi rfl rfl (zAk (i := 0) (vs := [_,_,_]) rfl rfl)) rfl ?_)))))))))
  refine zAr zAc call41 rfl rfl rfl rfl (c41 l p hm.cons (.func (.func 55) #[] #[]) 0 (fun X w hs => zDd call55 (c55 hs)) gi) ?_
  rintro _ w9 (⟨hee, rfl, g0⟩ | ⟨hee, lb, mm, M, rfl, hM, g0⟩)
  ·
   refine w_p (zAi (v := .tuple _) rfl rfl) rfl (w_p (zAp (v := .pointer _) rfl rfl rfl) rfl (w_p (zAp (v := .int _ _) rfl rfl rfl) rfl (w_p (zAo (v := .pointer _) rfl rfl) rfl (zBe rfl rfl (zAd (zAb (gj _ _ (zAe (fun gS gU => (zAe (fun gV gt => (zAa (zAz rfl rfl ?_)))))))))))))
   refine w_p (zB2 rfl rfl rfl rfl) rfl (zAd (zAb (gt _ _ (zAu rfl rfl (fun g3 => ?_) (fun g3 => ?_)))))
   ·
    try simp only [zS] at g3
    refine zAe (fun gW gu => (zAa (zAz rfl rfl (zA5 rfl rfl (zA5 rfl rfl (zBe rfl rfl (zAd (zAb (gu _ _ (zAy (zAg (zA1 (l := [.tmp 2, .tmp 3, .tmp 4]) (vs := [_,_,_]) rfl ⟨⟨rfl, show _ = (.slice _ _ _ : Value) from rfl⟩, ⟨rfl, show _ = (.slice _ _ _ : Value) from rfl⟩, ⟨rfl, (rfl : _ = Value.int _ _)⟩, trivial⟩ ?_))))))))))))
    have hq : refusedP l = ([], [], enterE l 0) := by unfold refusedP; rw [if_pos hee]
    exact ⟨[], none, 0, none, 0, by rw [hq]; rfl, by rw [hq]; exact Sl.nil _ _, by rw [hq]; exact Sl.nil _ _, g0.tail⟩
   exfalso
   try simp only [zS] at g3
   first | exact hee g3 | exact g3 hee
  replace g0 := (show St _ _ (M ++ (_ :: _ :: F)) from g0)
  have hk := zGx g0 hm.cons (zB4 hee).1
  have hew := zB4 hee
  have hbt := hk.bt
  have hlg := hk.ok.lg
  have hlb := hk.ok.lb
  have hlc := hk.ok.lc
  refine w_p (zAi (v := .tuple _) rfl rfl) rfl (w_p (zAp (v := .pointer _) rfl rfl rfl) rfl (w_p (zAp (v := .int _ _) rfl rfl rfl) rfl (w_p (zAo (v := .pointer _) rfl rfl) rfl (zBe rfl rfl (zAd (zAb (gj _ _ (zAe (fun gX gv => (zAe (fun gY gw => (zAa (zAz rfl rfl ?_)))))))))))))
  refine w_p (zB2 rfl rfl rfl rfl) rfl (zAd (zAb (gw _ _ (zBx rfl rfl ?_))))
  refine zAs (zAb (gv _ _ (zAe (fun gZ gx => (zAe (fun hD gy => ?_))))))
  have hbx : Ats w0 ((lb, blk 142 [.slice p.ag l.grades.length p.cg, .slice p.ab l.bunches.length p.cb, .slice p.ac l.counts.length p.cc, .int .i64 ((0 : Nat) : Int), .map (some mm)]) :: (b3, blk 26 (l.cells p)) :: F) b3 0 (l.cells p) := zAk (i := 1) rfl rfl
  refine zAa (w_p (zAf (o := 1) (i := 1) underlying26 rfl sizeOf23 rfl rfl rfl) rfl (w_p (zAj isAgg23 g0.drop rfl rfl (show Ats _ _ _ _ [_] from Ats.part hbx 1 1)) rfl (w_p (zA8 underlying23 rfl rfl) rfl (w_p (zAi (v := _) rfl rfl) rfl ?_))))
  refine zAd (zAb (gy _ _ (zAw ?_)))
  refine zBs [2,3,6,7,8,20,21,22,23,24,25,26,27,28,29,30,31,32,33,34,35,36,37,38,39,40,41,42] [2,3,20] (fun k vs w => ∃ (i : Nat) (v1 v2 : Value) (B1 B2 M : List (Nat × Obj)), vs = [v1, v2, .int .i64 i] ∧ i ≤ l.bunches.length ∧ k = l.bunches.length - i ∧ Rt.Own v1 3 1 (sureTo l (Ha.ways l 0) i).length (iv (sureTo l (Ha.ways l 0) i)) B1 ∧ Rt.Own v2 3 1 (mayTo l (Ha.ways l 0) i).length (iv (mayTo l (Ha.ways l 0) i)) B2 ∧ Memo l mm M ∧ St w0 w (B1 ++ (B2 ++ (M ++ ((lb, blk 142 [.slice p.ag l.grades.length p.cg, .slice p.ab l.bunches.length p.cb, .slice p.ac l.counts.length p.cc, .int .i64 ((0 : Nat) : Int), .map (some mm)]) :: (b3, blk 26 (l.cells p)) :: F))))) (l.bunches.length) ?_ ?_
  ·
   exact ⟨0, _,_, [], [], M, rfl, by omega, by omega, zEm 3 1, zEm 3 1, hM, g0⟩
  intro k vs μ hG hI hH g5
  obtain ⟨i, v1, v2, B1, B2, M, rfl, hia, rfl, hown1, hown2, hM, hs⟩ := hI
  refine zAe (fun hO gz => (zAa (w_p (zBw rfl rfl rfl rfl) rfl (zAd (zAb (gz _ _ (zAe (fun hX gA => (zAu rfl rfl (fun g9 => ?_) (fun g9 => ?_))))))))))
  ·
   try simp only [zS] at g9
   refine zAs (zAb (gA _ _ (zAe (fun hY g6 => (zAw ?_)))))
   refine zAe (fun j0 gB => (zAa (zAz rfl rfl (zBe rfl rfl (zAd (zAb (gB _ _ (zAe (fun j1 gC => ?_)))))))))
   have hi2 : i < l.bunches.length := by omega
   have hsl := sure_len l (Ha.ways l 0) i
   have hml := may_len l (Ha.ways l 0) i
   have hsw := setW_lt hk.ok i (Ha.ways l 0)
   refine zAa (w_p (zAi (v := .pointer _) rfl rfl) rfl (zAz rfl rfl (zAr zAc call53 rfl rfl rfl rfl (c53 (X := (B1 ++ (B2))) l _ 0 lb mm hk i hi2 hM (St.cast (by simp only [List.append_assoc, List.cons_append] <;> rfl) hs)) ?_)))
   rintro _ j2 ⟨rfl, M43, g7, ga⟩
   replace ga : St _ _ (B1 ++ (B2 ++ (M43 ++ (_ :: _ :: F)))) := St.cast (by simp only [List.append_assoc, List.cons_append] <;> rfl) ga
   refine w_p (zAi (v := .tuple _) rfl rfl) rfl (w_p (zAp (v := .agg _) rfl rfl rfl) rfl (w_p (zAp (v := .int _ _) rfl rfl rfl) rfl (zBf (cs := [_,_]) zAc zeroValue46 rfl ga (fun j3 j4 gE => ?_))))
   refine zA6 (i := 0) (v := .agg #[.int _ _, .int _ _]) (vs := [_,_]) zAc sizeOf46 rfl rfl rfl rfl rfl (by simp [Value.oneCell']) gE rfl (zNl rfl) (fun j5 gb => ?_)
   refine zBe rfl rfl (zAd (zAb (gC _ _ (zAe (fun j6 gk => (zAe (fun j7 gF => (zAa (zAz rfl rfl (w_p (zB6 rfl rfl rfl rfl) rfl (zAd (zAb (gF _ _ (zAu rfl rfl (fun gc => ?_) (fun gc => ?_)))))))))))))))
   ·
    try simp only [zS] at gc
    refine zAa (w_p (zAi (v := v1) rfl rfl) rfl (zAz rfl rfl (zBb (ps := [(0, _)]) (pv := [(0, .int _ _)]) (cs := [_]) zAc rfl rfl (fun w => zJy _ w) gb (fun j8 j9 gG => ?_))))
    refine zCk (X := (_ :: _ :: [])) (B := B1) (rows := [[_]]) (sz := 1) (bytes := 8) zAc underlying43 zDb rfl rfl rfl rfl rfl rfl rfl rfl rfl gG hown1 (zBt (i := 0) rfl (by simp) rfl) rfl (by simp) (by simp [Value.oneCell']) (by simp only [maxLen]; omega) (by omega) (fun gH ja g4 gm g8 => ?_)
    replace g8 := (show St _ _ (_ :: _ :: g4 ++ (B2 ++ (M43 ++ (_ :: _ :: F)))) from g8)
    refine w_p (zAo (v := gH) rfl rfl) rfl (zAd (zAb (gk _ _ (zAe (fun jb gI => (zAa (zAz rfl rfl (w_p (zI2 (x := setW l i (Ha.ways l 0)) (y := 1) rfl rfl rfl rfl (by first | rfl | omega) rfl (by first | omega | exact zBo (by omega)) (by first | omega | exact zBo (by omega))) rfl ?_))))))))
    refine w_p (zB6 rfl rfl rfl rfl) rfl (zAd (zAb (gI _ _ (zAu rfl rfl (fun gd => ?_) (fun gd => ?_)))))
    ·
     try simp only [zS] at gd
     refine zAa (w_p (zAi (v := v2) rfl rfl) rfl (zAz rfl rfl (zBb (ps := [(0, _)]) (pv := [(0, .int _ _)]) (cs := [_]) zAc rfl rfl (fun w => zJy _ w) g8 (fun jc jd gJ => ?_))))
     refine zCk (X := (_ :: _ :: _ :: g4)) (B := B2) (rows := [[_]]) (sz := 1) (bytes := 8) zAc underlying43 zDb rfl rfl rfl rfl rfl rfl rfl rfl rfl gJ hown2 (zBt (i := 0) rfl (by simp) rfl) rfl (by simp) (by simp [Value.oneCell']) (by simp only [maxLen]; omega) (by omega) (fun gK je gn gL gf => ?_)
     replace gf := (show St _ _ (_ :: _ :: _ :: g4 ++ (gn ++ (M43 ++ (_ :: _ :: F)))) from gf)
     refine w_p (zAo (v := gK) rfl rfl) rfl (zAd (zAl (zAb (g6 _ _ (zAa (w_p (zBg rfl rfl rfl rfl (by omega) (by omega)) rfl (zAz rfl rfl (zAd (zAb (g5 _ _ (nxI (l.bunches.length - (i + 1)) (by omega) ?_)))))))))))
     exact ⟨i + 1, _,_, g4, gn, M43, rfl, by omega, rfl, by rw [sure_yes (by assumption)]; exact zE3 gm, by rw [may_yes (by assumption)]; exact zE3 gL, g7, gf.tail.tail.tail⟩
    try simp only [zS] at gd
    refine zAs (zAl (zAb (g6 _ _ (zAa (w_p (zBg rfl rfl rfl rfl (by omega) (by omega)) rfl (zAz rfl rfl (zAd (zAb (g5 _ _ (nxI (l.bunches.length - (i + 1)) (by omega) ?_))))))))))
    exact ⟨i + 1, _,_, g4, B2, M43, rfl, by omega, rfl, by rw [sure_yes (by assumption)]; exact zE3 gm, by rw [may_no (by assumption)]; exact hown2, g7, g8.tail.tail⟩
   try simp only [zS] at gc
   refine zAs (zAb (gk _ _ (zAe (fun jf gM => (zAa (zAz rfl rfl (w_p (zI2 (x := setW l i (Ha.ways l 0)) (y := 1) rfl rfl rfl rfl (by first | rfl | omega) rfl (by first | omega | exact zBo (by omega)) (by first | omega | exact zBo (by omega))) rfl ?_)))))))
   refine w_p (zB6 rfl rfl rfl rfl) rfl (zAd (zAb (gM _ _ (zAu rfl rfl (fun gg => ?_) (fun gg => ?_)))))
   ·
    try simp only [zS] at gg
    refine zAa (w_p (zAi (v := v2) rfl rfl) rfl (zAz rfl rfl (zBb (ps := [(0, _)]) (pv := [(0, .int _ _)]) (cs := [_]) zAc rfl rfl (fun w => zJy _ w) gb (fun jg jh gN => ?_))))
    refine zCk (X := (_ :: _ :: B1)) (B := B2) (rows := [[_]]) (sz := 1) (bytes := 8) zAc underlying43 zDb rfl rfl rfl rfl rfl rfl rfl rfl rfl gN hown2 (zBt (i := 0) rfl (by simp) rfl) rfl (by simp) (by simp [Value.oneCell']) (by simp only [maxLen]; omega) (by omega) (fun gP ji gq gQ gh => ?_)
    replace gh := (show St _ _ (_ :: _ :: B1 ++ (gq ++ (M43 ++ (_ :: _ :: F)))) from gh)
    refine w_p (zAo (v := gP) rfl rfl) rfl (zAd (zAl (zAb (g6 _ _ (zAa (w_p (zBg rfl rfl rfl rfl (by omega) (by omega)) rfl (zAz rfl rfl (zAd (zAb (g5 _ _ (nxI (l.bunches.length - (i + 1)) (by omega) ?_)))))))))))
    exact ⟨i + 1, _,_, B1, gq, M43, rfl, by omega, rfl, by rw [sure_no (by assumption)]; exact hown1, by rw [may_yes (by assumption)]; exact zE3 gQ, g7, gh.tail.tail⟩
   try simp only [zS] at gg
   refine zAs (zAl (zAb (g6 _ _ (zAa (w_p (zBg rfl rfl rfl rfl (by omega) (by omega)) rfl (zAz rfl rfl (zAd (zAb (g5 _ _ (nxI (l.bunches.length - (i + 1)) (by omega) ?_))))))))))
   exact ⟨i + 1, _,_, B1, B2, M43, rfl, by omega, rfl, by rw [sure_no (by assumption)]; exact hown1, by rw [may_no (by assumption)]; exact hown2, g7, gb.tail⟩
  try simp only [zS] at g9
  refine zBl (zAm (zAm (zA0 (zAb (gx _ _ (zAe (fun jj gR => (zAa (w_p (zAi (v := v1) rfl rfl) rfl (w_p (zAi (v := v2) rfl rfl) rfl ?_))))))))))
  refine w_p (zAo (v := v1) rfl rfl) rfl (w_p (zAo (v := v2) rfl rfl) rfl (zA5 rfl rfl (zAd (zAb (gR _ _ (zAy (zA1 (l := [.tmp 2, .tmp 3, .tmp 4]) (vs := [_,_,_]) rfl ⟨⟨rfl, show _ = (v1 : Value) from rfl⟩, ⟨rfl, show _ = (v2 : Value) from rfl⟩, ⟨rfl, (rfl : _ = Value.int _ _)⟩, trivial⟩ ?_)))))))
  have hil : i = l.bunches.length := by omega
  subst hil
  have hq : refusedP l = (sureTo l (Ha.ways l 0) l.bunches.length, mayTo l (Ha.ways l 0) l.bunches.length, 0) := by unfold refusedP; rw [if_neg (by simp [hee])]
  rw [hq]
  exact own_both hown1 hown2 (keep_two hs) 0

end Go.Proofs.Hn
/- The walking engine, part 15: loops that hold ranges over functions: the marks pile up. No conditions. -/
namespace Go.Rt
open Go.RowKit
variable {r : Option Nat} {P : Program} {ops : Array Oper} {Q : Exit → Act → World → Prop} {rest : List Oper} {n : Nat} {ρ : Nat → Value} {ds : List Deferred} {w w0 : World} {L : List (Nat × Obj)}
def mks (bs : List Nat) : List Deferred := bs.map mk
def dfs (bs : List Nat) : List (Nat × Obj) := bs.map fun b => (b, .deferred (some []))
def NxD (n : Nat) (D S : List Nat) (ρ : Nat → Value) (I : Nat → List Value → List Nat → World → Prop) (k : Nat) (a : Act) (w : World) : Prop :=
  ∃ ρ' k' bs', a = A n ρ' (mks bs') ∧ Agree D ρ ρ' ∧ k' < k ∧ I k' (S.map ρ') bs' w
theorem NxD.intro {D S : List Nat} {I : Nat → List Value → List Nat → World → Prop} {k : Nat} {ρ' : Nat → Value} (bs' : List Nat) (k' : Nat) (hk : k' < k) (ha : Agree D ρ ρ') (hI : I k' (S.map ρ') bs' w) : NxD n D S ρ I k (A n ρ' (mks bs')) w :=
  ⟨ρ', k', bs', rfl, ha, hk, hI⟩
open Classical in
theorem w_loopD {c : Code} (D S : List Nat) (I : Nat → List Value → List Nat → World → Prop) (k0 : Nat) (bs0 : List Nat) (h0 : I k0 (S.map ρ) bs0 w)
    (round : ∀ k vs μ bs w, I k vs bs w → ∀ K : Act → World → Prop, (∀ a w, NxD n D S ρ I k a w → K a w) → WC r P c (Exit.then K Q) (A n (updL (mix D ρ μ) S vs) (mks bs)) w) :
    WC r P (.loop c) Q (A n ρ (mks bs0)) w := by
  let J : Nat → Act → World → Prop := fun k a w => ∃ vs μ bs, a = A n (updL (mix D ρ μ) S vs) (mks bs) ∧ I k vs bs w
  refine wpIn_loop (fun a w => ∃ k, J k a w) (fun a w => leastOf fun k => J k a w) ⟨k0, S.map ρ, ρ, bs0, by rw [zGw S zEj], h0⟩ ?_
  intro a w hI
  obtain ⟨vs, μ, bs, ha, hi⟩ := (leastOf_spec hI).1
  subst ha
  refine wpIn_mono (round _ vs μ bs w hi _ fun _ _ h => h) ?_
  intro e a' w' hq
  cases e with
  | normal =>
    obtain ⟨ρ', k', bs', rfl, hag, hlt, hI'⟩ := hq
    have hJ : J k' (A n ρ' (mks bs')) w' := ⟨S.map ρ', ρ', bs', by rw [zGw S hag], hI'⟩
    exact show (∃ k, J k (A n ρ' (mks bs')) w') ∧ leastOf (fun k => J k (A n ρ' (mks bs')) w') < leastOf (fun k => J k _ w) from ⟨⟨k', hJ⟩, Nat.lt_of_le_of_lt ((leastOf_spec ⟨k', hJ⟩).2 k' hJ) hlt⟩
  | exit id => exact hq
  | goto l => exact hq
  | ret => exact hq
  | panic ch => exact hq
  | outgrown => exact hq
theorem leavesMM {fn : Func} {l : List ResultVar} {vs : List Value} {R : Value → World → Prop} (hl : fn.results = l.toArray) : ∀ (bs : List Nat) (w : World), St w0 w (dfs bs ++ L) → (∀ w', St w0 w' L → RVs P ρ n w' l vs ∧ R (retV vs) w') →
    LeavesInM (FW none) 0 P fn (fa n ρ) (fun e w' => ∃ v, e = .returned v ∧ R v w') (mks bs) .returning w
  | [], w, hst, h => by
    obtain ⟨h1, h2⟩ := h _ hst
    exact ⟨_, zGv hl h1, _, rfl, h2⟩
  | bd :: bs, w, hst, h => by
    have hst1 : St w0 w ((bd, .deferred (some [])) :: (dfs bs ++ L)) := hst
    exact ⟨by simp, .inl ⟨bd, _, rfl, run_takeDeferred (hst1.get (i := 0) rfl), leavesMM hl bs _ (hst1.putObj (i := 0) rfl _).tail h⟩⟩
theorem q_retMM {fn : Func} {l : List ResultVar} {vs : List Value} {R : Value → World → Prop} {bs : List Nat} (hst : St w0 w (dfs bs ++ L)) (hl : fn.results = l.toArray)
    (h : ∀ w', St w0 w' L → RVs P ρ n w' l vs ∧ R (retV vs) w') :
    bodyPostM (FW none) 0 P fn (fun e w' => ∃ v, e = .returned v ∧ R v w') .ret (A n ρ (mks bs)) w := leavesMM hl bs w hst h
end Go.Rt
set_option maxRecDepth 20000
namespace Go.Proofs.Hn
open Go.Proofs.Tryz
open Go.Rt Go.Rt.Ha
attribute [local irreducible] WL WC Con Yd At Ats Sl Agree DW

theorem c116 {w0 w : World} {F : List (Nat × Obj)} (x : Int) (hs : St w0 w F) :
  Con Tryz.prog 116 [.int .i64 x] w fun v w' => v = .bool false ∧ St w0 w' F := by
  refine zAt (n := 6) func116 rfl rfl (zNl rfl) ?_
  refine zAe (fun K2 g0 => (zAa (zA5 rfl rfl (zAd (zAb (g0 _ _ (zAe (fun K4 g3 => (zAa (zAz rfl rfl (zAz rfl rfl (w_p (zB2 rfl rfl rfl rfl) rfl ?_))))))))))))
  refine w_p (zAo (v := .bool _) rfl rfl) rfl (zAd (zAb (g3 _ _ (zAy (zA1 (l := [.tmp 2]) (vs := [_]) rfl ⟨⟨rfl, (rfl : _ = Value.bool _)⟩, trivial⟩ ?_)))))
  exact ⟨by simp [retV], hs⟩

def cmpI (a b : Int) : Int := if a < b then -1 else if b < a then 1 else 0
theorem c106 {w0 w : World} {F : List (Nat × Obj)} (a b : Int) (hs : St w0 w F) :
  Con Tryz.prog 106 [.int .i64 a, .int .i64 b] w fun v w' => v = .int .i64 (cmpI a b) ∧ St w0 w' F := by
  refine zAt (n := 20) func106 rfl rfl (zNl rfl) ?_
  refine zAe (fun K2 g5 => (zAa (zA5 rfl rfl (zAd (zAb (g5 _ _ (zAe (fun K4 g6 => (zAa (zAz rfl rfl (zAr zAc call116 rfl rfl rfl rfl (c116 _ hs) ?_)))))))))))
  rintro _ w6 ⟨rfl, g7⟩
  refine w_p (zAo (v := .bool _) rfl rfl) rfl (zAd (zAb (g6 _ _ (zAe (fun K9 g8 => (zAa (zAz rfl rfl (zAr zAc call116 rfl rfl rfl rfl (c116 _ g7) ?_))))))))
  rintro _ gm ⟨rfl, g0⟩
  refine w_p (zAo (v := .bool _) rfl rfl) rfl (zAd (zAb (g8 _ _ (zAe (fun gn g9 => (zAe (fun gq ga => (zAa (w_p (zAi (v := .bool _) rfl rfl) rfl ?_)))))))))
  refine zAd (zAb (ga _ _ (zBx rfl rfl ?_)))
  refine zAs (zAb (g9 _ _ (zAe (fun gr gb => (zAe (fun gt gc => (zAa (w_p (zAi (v := .bool _) rfl rfl) rfl (zAd (zAb (gc _ _ (zBx rfl rfl ?_))))))))))))
  refine zAs (zAb (gb _ _ (zAe (fun gu gd => (zAe (fun gv gf => (zAa (zAz rfl rfl (zAz rfl rfl (w_p (zBw rfl rfl rfl rfl) rfl (zAd (zAb (gf _ _ (zAu rfl rfl (fun g3 => ?_) (fun g3 => ?_)))))))))))))))
  ·
   try simp only [zS] at g3
   refine zAe (fun gw gg => (zAa (zA5 rfl rfl (zAd (zAb (gg _ _ (zAy (zAg (zA1 (l := [.tmp 4]) (vs := [_]) rfl ⟨⟨rfl, (rfl : _ = Value.int _ _)⟩, trivial⟩ ?_)))))))))
   exact ⟨congrArg (Value.int .i64) (by unfold cmpI; (repeat' split) <;> first | rfl | omega), g0⟩
  try simp only [zS] at g3
  refine zAs (zAb (gd _ _ (zAe (fun gx gh => (zAe (fun gy gi => (zAa (zAz rfl rfl (zAz rfl rfl (w_p (zD5 rfl rfl rfl rfl) rfl (zAd (zAb (gi _ _ (zAu rfl rfl (fun g4 => ?_) (fun g4 => ?_)))))))))))))))
  ·
   try simp only [zS] at g4
   refine zAe (fun gz gj => (zAa (zA5 rfl rfl (zAd (zAb (gj _ _ (zAy (zAg (zA1 (l := [.tmp 4]) (vs := [_]) rfl ⟨⟨rfl, (rfl : _ = Value.int _ _)⟩, trivial⟩ ?_)))))))))
   exact ⟨congrArg (Value.int .i64) (by unfold cmpI; (repeat' split) <;> first | rfl | omega), g0⟩
  try simp only [zS] at g4
  refine zAs (zAb (gh _ _ (zAe (fun gA gk => (zAa (zA5 rfl rfl (zAd (zAb (gk _ _ (zAy (zA1 (l := [.tmp 4]) (vs := [_]) rfl ⟨⟨rfl, (rfl : _ = Value.int _ _)⟩, trivial⟩ ?_)))))))))))
  exact ⟨congrArg (Value.int .i64) (by unfold cmpI; (repeat' split) <;> first | rfl | omega), g0⟩

theorem zE4 {a b : List Int} {i : Nat} (h : a.take i = b.take i) (ha : i < a.length) (hb : i < b.length) (hne : ¬ cmpI a[i] b[i] = 0) : decide (0 < cmpI a[i] b[i]) = less b a := by
  have hn : a[i] ≠ b[i] := fun e => hne (by unfold cmpI; rw [e]; simp)
  rw [zD1 h.symm hb ha (fun e => hn e.symm)]
  unfold cmpI
  rw [Bool.eq_iff_iff]
  simp only [decide_eq_true_eq]
  split
  · simp; omega
  · split <;> simp <;> omega
theorem cmp_zero {a b : Int} (h : cmpI a b = 0) : a = b := by
  unfold cmpI at h
  split at h
  · omega
  · split at h <;> omega
theorem c88 {w0 w : World} {F : List (Nat × Obj)} (aa ab : Option Addr) (a b : List Int) (ca cb : Nat) (hla : a.length ≤ 9223372036854775807) (hlb : b.length ≤ 9223372036854775807) (ha : Sl w0 F aa 1 (a.map fun x => [Value.int .i64 x])) (hb : Sl w0 F ab 1 (b.map fun x => [Value.int .i64 x])) (hs : St w0 w F) :
  Con Tryz.prog 88 [.slice aa a.length ca, .slice ab b.length cb] w fun v w' => (∃ z, v = .int .i64 z ∧ decide (0 < z) = less b a) ∧ St w0 w' F := by
  refine zAt (n := 36) func88 rfl rfl (zNl rfl) ?_
  refine zAe (fun K2 g7 => (zAa (zA5 rfl rfl (zAd (zAb (g7 _ _ (zAe (fun K4 g8 => (zAe (fun K6 g9 => (zAa (w_p (zAi (v := .slice _ _ _) rfl rfl) rfl ?_))))))))))))
  refine w_p (zA8 underlying43 rfl rfl) rfl (w_p (zAi (v := _) rfl rfl) rfl (zAd (zAb (g9 _ _ (zAw ?_)))))
  refine zBs [4,5,6,7,8,11,12,13,14,15,16,17,18,19,20,21,22,23,24,25,26,27,28,29,30] [11] (fun k vs w => ∃ i : Nat, vs = [.int .i64 i] ∧ i ≤ a.length ∧ i ≤ b.length ∧ k = a.length - i ∧ a.take i = b.take i ∧ St w0 w F) (a.length) ?_ ?_
  ·
   exact ⟨0, rfl, by omega, by omega, by omega, rfl, hs⟩
  intro k vs μ w9 hI K8 ga
  obtain ⟨i, rfl, hia, hib, rfl, hpre, hs⟩ := hI
  refine zAe (fun gv gb => (zAa (w_p (zBw rfl rfl rfl rfl) rfl (zAd (zAb (gb _ _ (zAe (fun gw gc => (zAu rfl rfl (fun g3 => ?_) (fun g3 => ?_))))))))))
  ·
   try simp only [zS] at g3
   refine zAs (zAb (gc _ _ (zAe (fun gx gd => (zAw ?_)))))
   refine zAe (fun gy gf => ?_)
   have hia2 : i < a.length := by omega
   obtain ⟨ba, oa, rfl, hxa⟩ := zC9 ha hia2
   refine zAa (zAz rfl rfl (w_p (zA3 underlying43 sizeOf3 rfl rfl rfl rfl (i := _) rfl (by omega)) rfl (w_p (zAj isAgg3 hs rfl rfl hxa) rfl (zBe rfl rfl (zBe rfl rfl (zAd (zAb (gf _ _ (zAe (fun gz gg => (zAe (fun gA gh => (zAa (zAz rfl rfl ?_))))))))))))))
   refine w_p (zAi (v := .slice _ _ _) rfl rfl) rfl (w_p (zA8 underlying43 rfl rfl) rfl (w_p (zKa rfl rfl rfl rfl) rfl (zAd (zAb (gh _ _ (zAu rfl rfl (fun g4 => ?_) (fun g4 => ?_)))))))
   ·
    try simp only [zS] at g4
    refine zAe (fun gB gi => (zAa (zA5 rfl rfl (zAd (zAb (gi _ _ (zAy (zAg (zAv (zAg (zAg (zAv (zAg (zA1 (l := [.tmp 4]) (vs := [_]) rfl ⟨⟨rfl, (rfl : _ = Value.int _ _)⟩, trivial⟩ ?_))))))))))))))
    first
      | exact ⟨⟨_, rfl, zE4 hpre hia2 hib2 (by assumption)⟩, hs⟩
      | exact ⟨⟨_, rfl, by rw [zCj hpre.symm (by omega) (by omega)]; rfl⟩, hs⟩
      | exact ⟨⟨_, rfl, by rw [zDi hpre.symm hib (by omega)]; rfl⟩, hs⟩
   try simp only [zS] at g4
   refine zAs (zAb (gg _ _ (zAe (fun gC gj => ?_))))
   have hib2 : i < b.length := by omega
   obtain ⟨bb, ob, rfl, hxb⟩ := zC9 hb hib2
   refine zAa (w_p (zAi (v := .slice _ _ _) rfl rfl) rfl (zAz rfl rfl (w_p (zA3 underlying43 sizeOf3 rfl rfl rfl rfl (i := _) rfl (by omega)) rfl (w_p (zAj isAgg3 hs rfl rfl hxb) rfl (zBe rfl rfl (zAd (zAb (gj _ _ (zAe (fun gE gk => (zAa (zAz rfl rfl ?_))))))))))))
   refine zAz rfl rfl (zAr zAc call106 rfl rfl rfl rfl (c106 _ _ hs) ?_)
   rintro _ gF ⟨rfl, g0⟩
   refine zBe rfl rfl (zAd (zAb (gk _ _ (zAe (fun gG gm => (zAa (zAz rfl rfl (w_p (zB2 rfl rfl rfl rfl) rfl (zAd (zAb (gm _ _ (zAu rfl rfl (fun g5 => ?_) (fun g5 => ?_)))))))))))))
   ·
    try simp only [zS] at g5
    refine zAe (fun gH gn => (zAa (zAz rfl rfl (zBe rfl rfl (zAd (zAb (gn _ _ (zAy (zAv (zAg (zAg (zAv (zAg (zA1 (l := [.tmp 4]) (vs := [_]) rfl ⟨⟨rfl, (rfl : _ = Value.int _ _)⟩, trivial⟩ ?_))))))))))))))
    first
      | exact ⟨⟨_, rfl, zE4 hpre hia2 hib2 (by assumption)⟩, g0⟩
      | exact ⟨⟨_, rfl, by rw [zCj hpre.symm (by omega) (by omega)]; rfl⟩, g0⟩
      | exact ⟨⟨_, rfl, by rw [zDi hpre.symm hib (by omega)]; rfl⟩, g0⟩
   try simp only [zS] at g5
   refine zAs (zAl (zAb (gd _ _ (zAa (w_p (zBg rfl rfl rfl rfl (by omega) (by omega)) rfl (zAz rfl rfl (zAd (zAb (ga _ _ (nxI (a.length - (i + 1)) (by omega) ?_))))))))))
   exact ⟨i + 1, rfl, by omega, by omega, rfl, zGu hpre (by omega) (by omega) (cmp_zero (by assumption)), g0⟩
  try simp only [zS] at g3
  refine zBl (zAm (zAm (zA0 (zAb (g8 _ _ (zAe (fun gI gq => (zAe (fun gJ gr => (zAa (w_p (zAi (v := .slice _ _ _) rfl rfl) rfl ?_)))))))))))
  refine w_p (zA8 underlying43 rfl rfl) rfl (w_p (zAi (v := .slice _ _ _) rfl rfl) rfl (w_p (zA8 underlying43 rfl rfl) rfl (w_p (zBw rfl rfl rfl rfl) rfl (zAd (zAb (gr _ _ (zAu rfl rfl (fun g6 => ?_) (fun g6 => ?_))))))))
  ·
   try simp only [zS] at g6
   refine zAe (fun gK gt => (zAa (zA5 rfl rfl (zAd (zAb (gt _ _ (zAy (zAg (zA1 (l := [.tmp 4]) (vs := [_]) rfl ⟨⟨rfl, (rfl : _ = Value.int _ _)⟩, trivial⟩ ?_)))))))))
   first
     | exact ⟨⟨_, rfl, zE4 hpre hia2 hib2 (by assumption)⟩, hs⟩
     | exact ⟨⟨_, rfl, by rw [zCj hpre.symm (by omega) (by omega)]; rfl⟩, hs⟩
     | exact ⟨⟨_, rfl, by rw [zDi hpre.symm hib (by omega)]; rfl⟩, hs⟩
  try simp only [zS] at g6
  refine zAs (zAb (gq _ _ (zAe (fun gL gu => (zAa (zA5 rfl rfl (zAd (zAb (gu _ _ (zAy (zA1 (l := [.tmp 4]) (vs := [_]) rfl ⟨⟨rfl, (rfl : _ = Value.int _ _)⟩, trivial⟩ ?_)))))))))))
  first
    | exact ⟨⟨_, rfl, zE4 hpre hia2 hib2 (by assumption)⟩, hs⟩
    | exact ⟨⟨_, rfl, by rw [zCj hpre.symm (by omega) (by omega)]; rfl⟩, hs⟩
    | exact ⟨⟨_, rfl, by rw [zDi hpre.symm hib (by omega)]; rfl⟩, hs⟩

def maxTo (l : List Int) : Nat → Int
  | 0 => l.getD 0 0
  | n + 1 => max (maxTo l n) (l.getD (n + 1) 0)
theorem c60 {w0 w : World} {F : List (Nat × Obj)} (aa : Option Addr) (l : List Int) (ca : Nat) (h0 : 0 < l.length) (hl : l.length ≤ 1000) (ha : Sl w0 F aa 1 (l.map fun x => [Value.int .i64 x])) (hs : St w0 w F) :
  Con Tryz.prog 60 [.slice aa l.length ca] w fun v w' => v = .int .i64 (maxTo l (l.length - 1)) ∧ St w0 w' F := by
  refine zAt (n := 25) func60 rfl rfl (zNl rfl) ?_
  have hg : ∀ i (h : i < l.length), l[i] = l.getD i 0 := fun i h => by simp [List.getD, h]
  obtain ⟨b0, o0, rfl, hx0⟩ := zC9 ha h0
  refine zAe (fun K2 g3 => (zAa (zA5 rfl rfl (zAd (zAb (g3 _ _ (zAe (fun K4 g4 => (zAe (fun K6 g5 => (zAa (w_p (zAi (v := .slice _ _ _) rfl rfl) rfl ?_))))))))))))
  refine w_p (zA8 underlying43 rfl rfl) rfl (w_p (zBw rfl rfl rfl rfl) rfl (zAd (zAb (g5 _ _ (zAu rfl rfl (fun h7 => ?_) (fun h7 => ?_))))))
  ·
   exfalso
   try simp only [zS] at h7
   omega
  try simp only [zS] at h7
  refine zAs (zAb (g4 _ _ (zAe (fun K9 g6 => (zAa (w_p (zAi (v := .slice _ _ _) rfl rfl) rfl (w_p (zA3 underlying43 sizeOf3 rfl rfl rfl rfl (i := 0) rfl (by omega)) rfl ?_)))))))
  refine w_p (zAj isAgg3 hs rfl rfl hx0) rfl (zBe rfl rfl (zAd (zAb (g6 _ _ (zAe (fun gf g7 => (zAe (fun gg g8 => (zAa (zA5 rfl rfl (zAd (zAb (g8 _ _ (zAw ?_))))))))))))))
  refine zBs [3,4,12,13,14,15,16,17,18,19,20,21,22,23] [3,4] (fun k vs w => ∃ i : Nat, vs = [.int .i64 (maxTo l i), .int .i64 ((i : Int) + 1)] ∧ i + 1 ≤ l.length ∧ k = l.length - i ∧ St w0 w F) (l.length) ?_ ?_
  ·
   exact ⟨0, iv2 (hg 0 h0) rfl, by omega, by omega, hs⟩
  intro k vs μ gh hI gi g9
  obtain ⟨i, rfl, hia, rfl, hs⟩ := hI
  refine zAe (fun gj ga => (zAe (fun gk gb => (zAa (zAz rfl rfl (w_p (zAi (v := .slice _ _ _) rfl rfl) rfl (w_p (zA8 underlying43 rfl rfl) rfl (w_p (zBw rfl rfl rfl rfl) rfl ?_))))))))
  refine zAd (zAb (gb _ _ (zAu rfl rfl (fun g0 => ?_) (fun g0 => ?_))))
  ·
   try simp only [zS] at g0
   refine zAs (zAb (ga _ _ (zAe (fun gm gc => (zAw ?_)))))
   have hi2 : i + 1 < l.length := by omega
   obtain ⟨b1, o1, hb1, hx1⟩ := zC9 ha hi2
   cases hb1
   refine zAa (zAz rfl rfl (w_p (zAi (v := .slice _ _ _) rfl rfl) rfl (zAz rfl rfl (w_p (zA3 underlying43 sizeOf3 rfl rfl rfl rfl (i := i + 1) (by omega) (by omega)) rfl (w_p (zAj isAgg3 hs rfl rfl hx1) rfl ?_)))))
   refine w_p (y_max2 rfl rfl rfl rfl) rfl (zBe rfl rfl (zAd (zAl (zAb (gc _ _ (zAa (zAz rfl rfl (w_p (zBg rfl rfl rfl rfl (by omega) (by omega)) rfl ?_))))))))
   refine zBe rfl rfl (zAd (zAb (g9 _ _ (nxI (l.length - (i + 1)) (by omega) ?_))))
   exact ⟨i + 1, iv2 (by rw [hg]; rfl) (by omega), by omega, rfl, hs⟩
  try simp only [zS] at g0
  refine zBl (zAm (zAm (zA0 (zAb (g7 _ _ (zAe (fun gn gd => (zAa (zAz rfl rfl (zBe rfl rfl (zAd (zAb (gd _ _ (zAy (zA1 (l := [.tmp 2]) (vs := [_]) rfl ⟨⟨rfl, (rfl : _ = Value.int _ _)⟩, trivial⟩ ?_)))))))))))))))
  have hil : i = l.length - 1 := by omega
  subst hil
  exact ⟨rfl, hs⟩

theorem zDs {d : Nat → Bool} {n s : Nat} (h1 : (fewTo d n s).2 = true) (h2 : before (fewTo d n s).1 (listL s n) = true) : fewTo d n (s + 1) = fewTo d n s := by simp only [fewTo, fewStep]; rw [h1, h2]; rfl
theorem zGy {d : Nat → Bool} {n s : Nat} (h1 : (fewTo d n s).2 = false ∨ before (fewTo d n s).1 (listL s n) = false) (h2 : d s = true) : fewTo d n (s + 1) = (listL s n, true) := by
  simp only [fewTo, fewStep]; rw [if_neg (by rcases h1 with h | h <;> simp [h]), if_pos h2]
theorem zJ4 {d : Nat → Bool} {n s : Nat} (h1 : (fewTo d n s).2 = false ∨ before (fewTo d n s).1 (listL s n) = false) (h2 : d s = false) : fewTo d n (s + 1) = fewTo d n s := by
  simp only [fewTo, fewStep]; rw [if_neg (by rcases h1 with h | h <;> simp [h]), if_neg (by simp [h2])]
theorem few_len (d : Nat → Bool) (n : Nat) : ∀ s, (fewTo d n s).1.length ≤ n
  | 0 => by simp [fewTo]
  | s + 1 => by have := few_len d n s; have := zDh s n; simp only [fewTo, fewStep]; split <;> (try split) <;> assumption
theorem zB0 {v1 v2 : Value} {b1 b2 : Bool} {z1 z2 : Int} (h1 : v1 = v2) (h2 : b1 = b2) (h3 : z1 = z2) : [v1, Value.bool b1, Value.int .i64 z1] = [v2, Value.bool b2, Value.int .i64 z2] := by rw [h1, h2, h3]
theorem zBu {a b : List Int} (h1 : a.length ≤ b.length → ¬ (b.length : Int) > a.length) (h2 : a.length = b.length → less a b = false) : before a b = false := by
  unfold before
  rw [Bool.or_eq_false_iff, Bool.and_eq_false_iff]
  refine ⟨by simp; omega, ?_⟩
  by_cases e : a.length = b.length
  · exact .inr (h2 e)
  · left; simpa using e
theorem shl_lt64 {n : Nat} (h : n ≤ 6) : 1 ≤ 1 <<< n ∧ 1 <<< n ≤ 64 := (pow_le n h).2
theorem c58 {w0 w : World} {F : List (Nat × Obj)} (n : Nat) (hn : n ≤ 6) (fv : Value) (d : Nat → Bool) (hd : ∀ (b : Nat) (X : List (Nat × Obj)) (w : World), b < 1 <<< n → St w0 w (X ++ F) → FCon Tryz.prog fv [.int .i64 (b : Int)] w fun v w' => v = .bool (d b) ∧ ∃ Y, St w0 w' (Y ++ (X ++ F))) (hs : St w0 w F) :
  Con Tryz.prog 58 [.int .i64 (n : Int), fv] w fun v w' => ∃ B a c, v = .tuple #[.slice a (fewest d n).1.length c, .bool (fewest d n).2] ∧ Sl w0 B a 1 ((fewest d n).1.map fun x => [Value.int .i64 x]) ∧ St w0 w' (B ++ F) := by
  refine zAt (n := 44) func58 rfl rfl (zNl rfl) ?_
  have hsh := shl_lt64 hn
  refine zAe (fun K2 gk => (zAa (zA5 rfl rfl (zA5 rfl rfl (zAd (zAb (gk _ _ (zAe (fun K4 gm => (zAe (fun K6 gn => (zAa (zAz rfl rfl (w_p (zI1 (x := 1) (y := n) rfl rfl rfl rfl rfl (by first | rfl | omega) (by first | omega | exact zBo (by omega)) (by first | omega | exact zBo (by omega))) rfl ?_))))))))))))))
  refine w_p (zAi (v := _) rfl rfl) rfl (zAd (zAb (gn _ _ (zAw ?_))))
  refine zBs [4,5,6,7,10,11,12,13,14,15,16,17,18,19,20,21,22,23,24,25,26,27,28,29,30,31,32,33,34,35,36,37,38,39,40,41] [4,5,10] (fun k vs w => ∃ (s : Nat) (av : Option Addr) (cv : Nat) (B : List (Nat × Obj)), vs = [.slice av (fewTo d n s).1.length cv, .bool (fewTo d n s).2, .int .i64 s] ∧ s ≤ 1 <<< n ∧ k = (1 <<< n) - s ∧ Sl w0 B av 1 ((fewTo d n s).1.map fun x => [Value.int .i64 x]) ∧ St w0 w (B ++ F)) (1 <<< n) ?_ ?_
  ·
   exact ⟨0, _,_, [], rfl, by omega, by omega, Sl.nil _ _, hs⟩
  intro k vs μ w9 hI K8 g6
  obtain ⟨s, av, cv, B, rfl, hba, rfl, hslv, hs⟩ := hI
  generalize hfd : (fewTo d n s).2 = fd
  refine zAe (fun gz gq => (zAa (w_p (zBw rfl rfl rfl rfl) rfl (zAd (zAb (gq _ _ (zAe (fun gA gr => (zAu rfl rfl (fun ga => ?_) (fun ga => ?_))))))))))
  ·
   try simp only [zS] at ga
   refine zAs (zAb (gr _ _ (zAe (fun gB g7 => (zAw ?_)))))
   refine zAe (fun gC gt => (zAa (zAz rfl rfl (zBe rfl rfl (zAd (zAb (gt _ _ (zAe (fun gE gu => (zAa (zAz rfl rfl (zAz rfl rfl (zAr zAc call54 rfl rfl rfl rfl (c54 _ _ (by omega) (by omega) hs) ?_)))))))))))))
   rintro _ gF ⟨B1, hown1, g5⟩
   replace g5 := (show St _ _ (B1 ++ (B ++ (F))) from g5)
   obtain ⟨a1, c1, rfl, hsl1, _, _⟩ := zGg (w0 := w0) hown1
   have hle1 := zDh s n
   have hle2 := few_len d n s
   refine w_p (zAo (v := .slice _ _ _) rfl rfl) rfl (zAd (zAb (gu _ _ (zAe (fun gG gb => (zAe (fun gH g9 => (zAa (w_p (zAi (v := .bool _) rfl rfl) rfl ?_)))))))))
   refine w_p (zAi (v := .bool _) rfl rfl) rfl (zBi (fun gc => ?_) (fun gc => ?_))
   ·
    subst gc
    refine w_y rfl rfl rfl (zAi (v := .slice _ _ _) rfl rfl) rfl ?_
    refine w_y rfl rfl rfl (zA8 underlying43 rfl rfl) rfl ?_
    refine w_y rfl rfl rfl (zAi (v := .slice _ _ _) rfl rfl) rfl ?_
    refine w_y rfl rfl rfl (zA8 underlying43 rfl rfl) rfl ?_
    refine w_y rfl rfl rfl (zD5 rfl rfl rfl rfl) rfl ?_
    refine w_y rfl rfl rfl (zAi (v := .bool _) rfl rfl) rfl ?_
    refine zBi (fun gd => ?_) (fun gd => ?_)
    ·
     try simp only [zS] at gd
     refine zAh rfl rfl rfl ?_
     refine zAh rfl rfl rfl ?_
     refine zAh rfl rfl rfl ?_
     refine zAh rfl rfl rfl ?_
     refine zAh rfl rfl rfl ?_
     refine zAh rfl rfl rfl ?_
     refine zBa rfl rfl rfl ?_
     refine zBa rfl rfl rfl ?_
     refine zBa rfl rfl rfl ?_
     refine zBa rfl rfl rfl ?_
     refine zAh rfl rfl rfl ?_
     refine w_y rfl rfl rfl (zAx (v := _) rfl rfl rfl rfl) rfl ?_
     refine w_p (zAx (v := .bool _) rfl rfl rfl rfl) rfl (zAd (zAb (g9 _ _ (zB1 rfl rfl ?_))))
     refine zBl (zAm (zA0 (zAb (g7 _ _ (zAa (w_p (zBg rfl rfl rfl rfl (by omega) (by omega)) rfl (zAz rfl rfl (zAd (zAb (g6 _ _ (nxI ((1 <<< n) - (s + 1)) (by omega) ?_)))))))))))
     first
       | (have hq := zDs hfd (by unfold before; simp; omega)
          exact ⟨s + 1, av, cv, B1 ++ B, zB0 (by rw [hq] <;> rfl) (by rw [hq, hfd] <;> rfl) rfl, by omega, rfl, by rw [hq]; exact hslv.app, (by rw [List.append_assoc]; exact g5)⟩)
       | (have hq := zDs hfd (by unfold before; rw [Bool.or_eq_true, Bool.and_eq_true]; exact .inr ⟨by simp; omega, by rw [← hz]; simp; omega⟩)
          exact ⟨s + 1, av, cv, B1 ++ B, zB0 (by rw [hq] <;> rfl) (by rw [hq, hfd] <;> rfl) rfl, by omega, rfl, by rw [hq]; exact hslv.app, (by rw [List.append_assoc]; exact g5)⟩)
       | (have hq := zGy (d := d) (n := n) (s := s) (by first | exact .inl hfd | exact .inr (zBu (by omega) (by omega)) | exact .inr (zBu (by omega) (fun e => by rw [← hz]; exact decide_eq_false (by omega)))) (by assumption)
          exact ⟨s + 1, a1, c1, B1 ++ B, zB0 (by rw [hq] <;> rfl) (by rw [hq] <;> rfl) rfl, by omega, rfl, by rw [hq]; exact hsl1.top, (by rw [List.append_assoc]; exact g5.drop)⟩)
       | (have hq := zJ4 (d := d) (n := n) (s := s) (by first | exact .inl hfd | exact .inr (zBu (by omega) (by omega)) | exact .inr (zBu (by omega) (fun e => by rw [← hz]; exact decide_eq_false (by omega)))) (by assumption)
          exact ⟨s + 1, av, cv, B1 ++ B, zB0 (by rw [hq] <;> rfl) (by rw [hq, hfd] <;> rfl) rfl, by omega, rfl, by rw [hq]; exact hslv.app, (by rw [List.append_assoc]; exact g5.drop)⟩)
    try simp only [zS] at gd
    refine w_y rfl rfl rfl (zAi (v := .slice _ _ _) rfl rfl) rfl ?_
    refine w_y rfl rfl rfl (zA8 underlying43 rfl rfl) rfl ?_
    refine w_y rfl rfl rfl (zAi (v := .slice _ _ _) rfl rfl) rfl ?_
    refine w_y rfl rfl rfl (zA8 underlying43 rfl rfl) rfl ?_
    refine w_y rfl rfl rfl (zB6 rfl rfl rfl rfl) rfl ?_
    refine w_y rfl rfl rfl (zAi (v := .bool _) rfl rfl) rfl ?_
    refine zBi (fun gf => ?_) (fun gf => ?_)
    ·
     try simp only [zS] at gf
     refine w_y rfl rfl rfl (zAi (v := .slice _ _ _) rfl rfl) rfl ?_
     refine w_y rfl rfl rfl (zAi (v := .slice _ _ _) rfl rfl) rfl ?_
     refine zAr (zAq rfl rfl rfl) call88 rfl rfl rfl rfl (c88 _ _ _ _ _ _ (by omega) (by omega) hsl1.top hslv.top.app g5) ?_
     rintro _ gI ⟨⟨z, rfl, hz⟩, g8⟩
     refine w_y rfl rfl rfl (zD5 rfl rfl rfl rfl) rfl ?_
     refine w_y rfl rfl rfl (zAx (v := .bool _) rfl rfl rfl rfl) rfl ?_
     refine w_y rfl rfl rfl (zA9 (v := .bool _) rfl rfl rfl rfl) rfl ?_
     refine w_p (zAx (v := .bool _) rfl rfl rfl rfl) rfl (zAd (zAb (g9 _ _ (zAu rfl rfl (fun gg => ?_) (fun gg => ?_)))))
     ·
      try simp only [zS] at gg
      refine zBl (zAm (zA0 (zAb (g7 _ _ (zAa (w_p (zBg rfl rfl rfl rfl (by omega) (by omega)) rfl (zAz rfl rfl (zAd (zAb (g6 _ _ (nxI ((1 <<< n) - (s + 1)) (by omega) ?_)))))))))))
      first
        | (have hq := zDs hfd (by unfold before; simp; omega)
           exact ⟨s + 1, av, cv, B1 ++ B, zB0 (by rw [hq] <;> rfl) (by rw [hq, hfd] <;> rfl) rfl, by omega, rfl, by rw [hq]; exact hslv.app, (by rw [List.append_assoc]; exact g8)⟩)
        | (have hq := zDs hfd (by unfold before; rw [Bool.or_eq_true, Bool.and_eq_true]; exact .inr ⟨by simp; omega, by rw [← hz]; simp; omega⟩)
           exact ⟨s + 1, av, cv, B1 ++ B, zB0 (by rw [hq] <;> rfl) (by rw [hq, hfd] <;> rfl) rfl, by omega, rfl, by rw [hq]; exact hslv.app, (by rw [List.append_assoc]; exact g8)⟩)
        | (have hq := zGy (d := d) (n := n) (s := s) (by first | exact .inl hfd | exact .inr (zBu (by omega) (by omega)) | exact .inr (zBu (by omega) (fun e => by rw [← hz]; exact decide_eq_false (by omega)))) (by assumption)
           exact ⟨s + 1, a1, c1, B1 ++ B, zB0 (by rw [hq] <;> rfl) (by rw [hq] <;> rfl) rfl, by omega, rfl, by rw [hq]; exact hsl1.top, (by rw [List.append_assoc]; exact g8.drop)⟩)
        | (have hq := zJ4 (d := d) (n := n) (s := s) (by first | exact .inl hfd | exact .inr (zBu (by omega) (by omega)) | exact .inr (zBu (by omega) (fun e => by rw [← hz]; exact decide_eq_false (by omega)))) (by assumption)
           exact ⟨s + 1, av, cv, B1 ++ B, zB0 (by rw [hq] <;> rfl) (by rw [hq, hfd] <;> rfl) rfl, by omega, rfl, by rw [hq]; exact hslv.app, (by rw [List.append_assoc]; exact g8.drop)⟩)
     try simp only [zS] at gg
     refine zAs (zAb (gb _ _ (zAe (fun gJ gv => (zAa (w_p (zAi (v := fv) rfl rfl) rfl (zAz rfl rfl (zD9 zAc rfl rfl rfl rfl (hd s (B1 ++ B) _ (by omega) (St.cast (by simp only [List.append_assoc]) g8)) ?_))))))))
     rintro _ gK ⟨rfl, Y, g0⟩
     replace g0 := (show St _ _ (Y ++ ((B1 ++ B) ++ F)) from g0)
     rw [List.append_assoc] at g0
     refine zAd (zAb (gv _ _ (zAu rfl rfl (fun gh => ?_) (fun gh => ?_))))
     ·
      try simp only [zS] at gh
      refine zAa (w_p (zAi (v := .slice _ _ _) rfl rfl) rfl (w_p (zAo (v := .slice _ _ _) rfl rfl) rfl (zA5 rfl rfl (zAd (zAl (zAb (g7 _ _ (zAa (w_p (zBg rfl rfl rfl rfl (by omega) (by omega)) rfl ?_)))))))))
      refine zAz rfl rfl (zAd (zAb (g6 _ _ (nxI ((1 <<< n) - (s + 1)) (by omega) ?_))))
      first
        | (have hq := zDs hfd (by unfold before; simp; omega)
           exact ⟨s + 1, av, cv, B1 ++ B, zB0 (by rw [hq] <;> rfl) (by rw [hq, hfd] <;> rfl) rfl, by omega, rfl, by rw [hq]; exact hslv.app, (by rw [List.append_assoc]; exact g0)⟩)
        | (have hq := zDs hfd (by unfold before; rw [Bool.or_eq_true, Bool.and_eq_true]; exact .inr ⟨by simp; omega, by rw [← hz]; simp; omega⟩)
           exact ⟨s + 1, av, cv, B1 ++ B, zB0 (by rw [hq] <;> rfl) (by rw [hq, hfd] <;> rfl) rfl, by omega, rfl, by rw [hq]; exact hslv.app, (by rw [List.append_assoc]; exact g0)⟩)
        | (have hq := zGy (d := d) (n := n) (s := s) (by first | exact .inl hfd | exact .inr (zBu (by omega) (by omega)) | exact .inr (zBu (by omega) (fun e => by rw [← hz]; exact decide_eq_false (by omega)))) (by assumption)
           exact ⟨s + 1, a1, c1, B1 ++ B, zB0 (by rw [hq] <;> rfl) (by rw [hq] <;> rfl) rfl, by omega, rfl, by rw [hq]; exact hsl1.top, (by rw [List.append_assoc]; exact g0.drop)⟩)
        | (have hq := zJ4 (d := d) (n := n) (s := s) (by first | exact .inl hfd | exact .inr (zBu (by omega) (by omega)) | exact .inr (zBu (by omega) (fun e => by rw [← hz]; exact decide_eq_false (by omega)))) (by assumption)
           exact ⟨s + 1, av, cv, B1 ++ B, zB0 (by rw [hq] <;> rfl) (by rw [hq, hfd] <;> rfl) rfl, by omega, rfl, by rw [hq]; exact hslv.app, (by rw [List.append_assoc]; exact g0.drop)⟩)
     try simp only [zS] at gh
     refine zAs (zAl (zAb (g7 _ _ (zAa (w_p (zBg rfl rfl rfl rfl (by omega) (by omega)) rfl (zAz rfl rfl (zAd (zAb (g6 _ _ (nxI ((1 <<< n) - (s + 1)) (by omega) ?_))))))))))
     first
       | (have hq := zDs hfd (by unfold before; simp; omega)
          exact ⟨s + 1, av, cv, B1 ++ B, zB0 (by rw [hq] <;> rfl) (by rw [hq, hfd] <;> rfl) rfl, by omega, rfl, by rw [hq]; exact hslv.app, (by rw [List.append_assoc]; exact g0)⟩)
       | (have hq := zDs hfd (by unfold before; rw [Bool.or_eq_true, Bool.and_eq_true]; exact .inr ⟨by simp; omega, by rw [← hz]; simp; omega⟩)
          exact ⟨s + 1, av, cv, B1 ++ B, zB0 (by rw [hq] <;> rfl) (by rw [hq, hfd] <;> rfl) rfl, by omega, rfl, by rw [hq]; exact hslv.app, (by rw [List.append_assoc]; exact g0)⟩)
       | (have hq := zGy (d := d) (n := n) (s := s) (by first | exact .inl hfd | exact .inr (zBu (by omega) (by omega)) | exact .inr (zBu (by omega) (fun e => by rw [← hz]; exact decide_eq_false (by omega)))) (by assumption)
          exact ⟨s + 1, a1, c1, B1 ++ B, zB0 (by rw [hq] <;> rfl) (by rw [hq] <;> rfl) rfl, by omega, rfl, by rw [hq]; exact hsl1.top, (by rw [List.append_assoc]; exact g0.drop)⟩)
       | (have hq := zJ4 (d := d) (n := n) (s := s) (by first | exact .inl hfd | exact .inr (zBu (by omega) (by omega)) | exact .inr (zBu (by omega) (fun e => by rw [← hz]; exact decide_eq_false (by omega)))) (by assumption)
          exact ⟨s + 1, av, cv, B1 ++ B, zB0 (by rw [hq] <;> rfl) (by rw [hq, hfd] <;> rfl) rfl, by omega, rfl, by rw [hq]; exact hslv.app, (by rw [List.append_assoc]; exact g0.drop)⟩)
    try simp only [zS] at gf
    refine zAh rfl rfl rfl ?_
    refine zAh rfl rfl rfl ?_
    refine zAh rfl rfl rfl ?_
    refine zAh rfl rfl rfl ?_
    refine w_y rfl rfl rfl (zA9 (v := _) rfl rfl rfl rfl) rfl ?_
    refine w_y rfl rfl rfl (zA9 (v := .bool _) rfl rfl rfl rfl) rfl ?_
    refine w_p (zAx (v := .bool _) rfl rfl rfl rfl) rfl (zAd (zAb (g9 _ _ (zBx rfl rfl ?_))))
    refine zAs (zAb (gb _ _ (zAe (fun gL gw => (zAa (w_p (zAi (v := fv) rfl rfl) rfl (zAz rfl rfl (zD9 zAc rfl rfl rfl rfl (hd s (B1 ++ B) _ (by omega) (St.cast (by simp only [List.append_assoc]) g5)) ?_))))))))
    rintro _ gM ⟨rfl, Y, g3⟩
    replace g3 := (show St _ _ (Y ++ ((B1 ++ B) ++ F)) from g3)
    rw [List.append_assoc] at g3
    refine zAd (zAb (gw _ _ (zAu rfl rfl (fun gi => ?_) (fun gi => ?_))))
    ·
     try simp only [zS] at gi
     refine zAa (w_p (zAi (v := .slice _ _ _) rfl rfl) rfl (w_p (zAo (v := .slice _ _ _) rfl rfl) rfl (zA5 rfl rfl (zAd (zAl (zAb (g7 _ _ (zAa (w_p (zBg rfl rfl rfl rfl (by omega) (by omega)) rfl ?_)))))))))
     refine zAz rfl rfl (zAd (zAb (g6 _ _ (nxI ((1 <<< n) - (s + 1)) (by omega) ?_))))
     first
       | (have hq := zDs hfd (by unfold before; simp; omega)
          exact ⟨s + 1, av, cv, B1 ++ B, zB0 (by rw [hq] <;> rfl) (by rw [hq, hfd] <;> rfl) rfl, by omega, rfl, by rw [hq]; exact hslv.app, (by rw [List.append_assoc]; exact g3)⟩)
       | (have hq := zDs hfd (by unfold before; rw [Bool.or_eq_true, Bool.and_eq_true]; exact .inr ⟨by simp; omega, by rw [← hz]; simp; omega⟩)
          exact ⟨s + 1, av, cv, B1 ++ B, zB0 (by rw [hq] <;> rfl) (by rw [hq, hfd] <;> rfl) rfl, by omega, rfl, by rw [hq]; exact hslv.app, (by rw [List.append_assoc]; exact g3)⟩)
       | (have hq := zGy (d := d) (n := n) (s := s) (by first | exact .inl hfd | exact .inr (zBu (by omega) (by omega)) | exact .inr (zBu (by omega) (fun e => by rw [← hz]; exact decide_eq_false (by omega)))) (by assumption)
          exact ⟨s + 1, a1, c1, B1 ++ B, zB0 (by rw [hq] <;> rfl) (by rw [hq] <;> rfl) rfl, by omega, rfl, by rw [hq]; exact hsl1.top, (by rw [List.append_assoc]; exact g3.drop)⟩)
       | (have hq := zJ4 (d := d) (n := n) (s := s) (by first | exact .inl hfd | exact .inr (zBu (by omega) (by omega)) | exact .inr (zBu (by omega) (fun e => by rw [← hz]; exact decide_eq_false (by omega)))) (by assumption)
          exact ⟨s + 1, av, cv, B1 ++ B, zB0 (by rw [hq] <;> rfl) (by rw [hq, hfd] <;> rfl) rfl, by omega, rfl, by rw [hq]; exact hslv.app, (by rw [List.append_assoc]; exact g3.drop)⟩)
    try simp only [zS] at gi
    refine zAs (zAl (zAb (g7 _ _ (zAa (w_p (zBg rfl rfl rfl rfl (by omega) (by omega)) rfl (zAz rfl rfl (zAd (zAb (g6 _ _ (nxI ((1 <<< n) - (s + 1)) (by omega) ?_))))))))))
    first
      | (have hq := zDs hfd (by unfold before; simp; omega)
         exact ⟨s + 1, av, cv, B1 ++ B, zB0 (by rw [hq] <;> rfl) (by rw [hq, hfd] <;> rfl) rfl, by omega, rfl, by rw [hq]; exact hslv.app, (by rw [List.append_assoc]; exact g3)⟩)
      | (have hq := zDs hfd (by unfold before; rw [Bool.or_eq_true, Bool.and_eq_true]; exact .inr ⟨by simp; omega, by rw [← hz]; simp; omega⟩)
         exact ⟨s + 1, av, cv, B1 ++ B, zB0 (by rw [hq] <;> rfl) (by rw [hq, hfd] <;> rfl) rfl, by omega, rfl, by rw [hq]; exact hslv.app, (by rw [List.append_assoc]; exact g3)⟩)
      | (have hq := zGy (d := d) (n := n) (s := s) (by first | exact .inl hfd | exact .inr (zBu (by omega) (by omega)) | exact .inr (zBu (by omega) (fun e => by rw [← hz]; exact decide_eq_false (by omega)))) (by assumption)
         exact ⟨s + 1, a1, c1, B1 ++ B, zB0 (by rw [hq] <;> rfl) (by rw [hq] <;> rfl) rfl, by omega, rfl, by rw [hq]; exact hsl1.top, (by rw [List.append_assoc]; exact g3.drop)⟩)
      | (have hq := zJ4 (d := d) (n := n) (s := s) (by first | exact .inl hfd | exact .inr (zBu (by omega) (by omega)) | exact .inr (zBu (by omega) (fun e => by rw [← hz]; exact decide_eq_false (by omega)))) (by assumption)
         exact ⟨s + 1, av, cv, B1 ++ B, zB0 (by rw [hq] <;> rfl) (by rw [hq, hfd] <;> rfl) rfl, by omega, rfl, by rw [hq]; exact hslv.app, (by rw [List.append_assoc]; exact g3.drop)⟩)
   subst gc
   refine zAh rfl rfl rfl ?_
   refine zAh rfl rfl rfl ?_
   refine zAh rfl rfl rfl ?_
   refine zAh rfl rfl rfl ?_
   refine zAh rfl rfl rfl ?_
   refine zAh rfl rfl rfl ?_
   refine zBa rfl rfl rfl ?_
   refine zBa rfl rfl rfl ?_
   refine zBa rfl rfl rfl ?_
   refine zBa rfl rfl rfl ?_
   refine zBa rfl rfl rfl ?_
   refine zBa rfl rfl rfl ?_
   refine zBa rfl rfl rfl ?_
   refine zBa rfl rfl rfl ?_
   refine zBa rfl rfl rfl ?_
   refine zBa rfl rfl rfl ?_
   refine zBa rfl rfl rfl ?_
   refine zAh rfl rfl rfl ?_
   refine w_p (zA9 (v := _) rfl rfl rfl rfl) rfl (zAd (zAb (g9 _ _ (zBx rfl rfl ?_))))
   refine zAs (zAb (gb _ _ (zAe (fun gN gx => (zAa (w_p (zAi (v := fv) rfl rfl) rfl (zAz rfl rfl (zD9 zAc rfl rfl rfl rfl (hd s (B1 ++ B) _ (by omega) (St.cast (by simp only [List.append_assoc]) g5)) ?_))))))))
   rintro _ gP ⟨rfl, Y, g4⟩
   replace g4 := (show St _ _ (Y ++ ((B1 ++ B) ++ F)) from g4)
   rw [List.append_assoc] at g4
   refine zAd (zAb (gx _ _ (zAu rfl rfl (fun gj => ?_) (fun gj => ?_))))
   ·
    try simp only [zS] at gj
    refine zAa (w_p (zAi (v := .slice _ _ _) rfl rfl) rfl (w_p (zAo (v := .slice _ _ _) rfl rfl) rfl (zA5 rfl rfl (zAd (zAl (zAb (g7 _ _ (zAa (w_p (zBg rfl rfl rfl rfl (by omega) (by omega)) rfl ?_)))))))))
    refine zAz rfl rfl (zAd (zAb (g6 _ _ (nxI ((1 <<< n) - (s + 1)) (by omega) ?_))))
    first
      | (have hq := zDs hfd (by unfold before; simp; omega)
         exact ⟨s + 1, av, cv, B1 ++ B, zB0 (by rw [hq] <;> rfl) (by rw [hq, hfd] <;> rfl) rfl, by omega, rfl, by rw [hq]; exact hslv.app, (by rw [List.append_assoc]; exact g4)⟩)
      | (have hq := zDs hfd (by unfold before; rw [Bool.or_eq_true, Bool.and_eq_true]; exact .inr ⟨by simp; omega, by rw [← hz]; simp; omega⟩)
         exact ⟨s + 1, av, cv, B1 ++ B, zB0 (by rw [hq] <;> rfl) (by rw [hq, hfd] <;> rfl) rfl, by omega, rfl, by rw [hq]; exact hslv.app, (by rw [List.append_assoc]; exact g4)⟩)
      | (have hq := zGy (d := d) (n := n) (s := s) (by first | exact .inl hfd | exact .inr (zBu (by omega) (by omega)) | exact .inr (zBu (by omega) (fun e => by rw [← hz]; exact decide_eq_false (by omega)))) (by assumption)
         exact ⟨s + 1, a1, c1, B1 ++ B, zB0 (by rw [hq] <;> rfl) (by rw [hq] <;> rfl) rfl, by omega, rfl, by rw [hq]; exact hsl1.top, (by rw [List.append_assoc]; exact g4.drop)⟩)
      | (have hq := zJ4 (d := d) (n := n) (s := s) (by first | exact .inl hfd | exact .inr (zBu (by omega) (by omega)) | exact .inr (zBu (by omega) (fun e => by rw [← hz]; exact decide_eq_false (by omega)))) (by assumption)
         exact ⟨s + 1, av, cv, B1 ++ B, zB0 (by rw [hq] <;> rfl) (by rw [hq, hfd] <;> rfl) rfl, by omega, rfl, by rw [hq]; exact hslv.app, (by rw [List.append_assoc]; exact g4.drop)⟩)
   try simp only [zS] at gj
   refine zAs (zAl (zAb (g7 _ _ (zAa (w_p (zBg rfl rfl rfl rfl (by omega) (by omega)) rfl (zAz rfl rfl (zAd (zAb (g6 _ _ (nxI ((1 <<< n) - (s + 1)) (by omega) ?_))))))))))
   first
     | (have hq := zDs hfd (by unfold before; simp; omega)
        exact ⟨s + 1, av, cv, B1 ++ B, zB0 (by rw [hq] <;> rfl) (by rw [hq, hfd] <;> rfl) rfl, by omega, rfl, by rw [hq]; exact hslv.app, (by rw [List.append_assoc]; exact g4)⟩)
     | (have hq := zDs hfd (by unfold before; rw [Bool.or_eq_true, Bool.and_eq_true]; exact .inr ⟨by simp; omega, by rw [← hz]; simp; omega⟩)
        exact ⟨s + 1, av, cv, B1 ++ B, zB0 (by rw [hq] <;> rfl) (by rw [hq, hfd] <;> rfl) rfl, by omega, rfl, by rw [hq]; exact hslv.app, (by rw [List.append_assoc]; exact g4)⟩)
     | (have hq := zGy (d := d) (n := n) (s := s) (by first | exact .inl hfd | exact .inr (zBu (by omega) (by omega)) | exact .inr (zBu (by omega) (fun e => by rw [← hz]; exact decide_eq_false (by omega)))) (by assumption)
        exact ⟨s + 1, a1, c1, B1 ++ B, zB0 (by rw [hq] <;> rfl) (by rw [hq] <;> rfl) rfl, by omega, rfl, by rw [hq]; exact hsl1.top, (by rw [List.append_assoc]; exact g4.drop)⟩)
     | (have hq := zJ4 (d := d) (n := n) (s := s) (by first | exact .inl hfd | exact .inr (zBu (by omega) (by omega)) | exact .inr (zBu (by omega) (fun e => by rw [← hz]; exact decide_eq_false (by omega)))) (by assumption)
        exact ⟨s + 1, av, cv, B1 ++ B, zB0 (by rw [hq] <;> rfl) (by rw [hq, hfd] <;> rfl) rfl, by omega, rfl, by rw [hq]; exact hslv.app, (by rw [List.append_assoc]; exact g4.drop)⟩)
  try simp only [zS] at ga
  refine zBl (zAm (zAm (zA0 (zAb (gm _ _ (zAe (fun gQ gy => (zAa (w_p (zAi (v := .slice _ _ _) rfl rfl) rfl (w_p (zAi (v := .bool _) rfl rfl) rfl ?_))))))))))
  refine w_p (zAo (v := .slice _ _ _) rfl rfl) rfl (w_p (zAo (v := .bool _) rfl rfl) rfl (zAd (zAb (gy _ _ (zAy (zA1 (l := [.tmp 4, .tmp 5]) (vs := [_,_]) rfl ⟨⟨rfl, show _ = (.slice _ _ _ : Value) from rfl⟩, ⟨rfl, (rfl : _ = Value.bool _)⟩, trivial⟩ ?_))))))
  have hin : s = 1 <<< n := by omega
  subst hin
  exact ⟨B, av, cv, by rw [← hfd]; rfl, hslv, hs⟩

end Go.Proofs.Hn
/- Plain words of the hand layer: sums of hands, step by step. No conditions. -/
namespace Go.Rt.Ha
theorem zH9 {l : Lot} {g : Nat} {h : List Int} {k : Nat} (e : gradesB l (bunchOf l k) (at_ h k) = 2 <<< g) : sumsTo l g h (k + 1) = ((sumsTo l g h k).1 + at_ h k, (sumsTo l g h k).2 + at_ h k) := by
  simp only [sumsTo]; rw [if_pos e]
theorem zH8 {l : Lot} {g : Nat} {h : List Int} {k : Nat} (e : ¬ gradesB l (bunchOf l k) (at_ h k) = 2 <<< g) (e2 : bit (gradesB l (bunchOf l k) (at_ h k)) (g + 1) = 1) : sumsTo l g h (k + 1) = ((sumsTo l g h k).1, (sumsTo l g h k).2 + at_ h k) := by
  simp only [sumsTo]; rw [if_neg e, if_pos e2]
theorem zH7 {l : Lot} {g : Nat} {h : List Int} {k : Nat} (e : ¬ gradesB l (bunchOf l k) (at_ h k) = 2 <<< g) (e2 : ¬ bit (gradesB l (bunchOf l k) (at_ h k)) (g + 1) = 1) : sumsTo l g h (k + 1) = sumsTo l g h k := by
  simp only [sumsTo]; rw [if_neg e, if_neg e2]
theorem sums_in {l : Lot} {g : Nat} {h : List Int} (hh : ∀ b, 0 ≤ at_ h b ∧ at_ h b ≤ 12) : ∀ k, 0 ≤ (sumsTo l g h k).1 ∧ (sumsTo l g h k).1 ≤ 12 * k ∧ 0 ≤ (sumsTo l g h k).2 ∧ (sumsTo l g h k).2 ≤ 12 * k
  | 0 => by simp [sumsTo]
  | k + 1 => by
    have ih := sums_in (l := l) (g := g) hh k
    have hx := hh k
    simp only [sumsTo]
    split
    · dsimp only; omega
    · split
      · (try dsimp only); omega
      · (try dsimp only); omega
theorem zE5 {l : Lot} {g : Nat} {ws : List (List Int)} {i : Nat} (h : i < ws.length) : totalW l g (ws.take (i + 1)) = (min (totalW l g (ws.take i)).1 (sums l g ws[i]).1, max (totalW l g (ws.take i)).2 (sums l g ws[i]).2) := fold_take _ _ h
theorem someOf_snoc (h : List Int) (b : Int) : ∀ l, someOf h (l ++ [b]) = someOf h l + at_ h b.toNat
  | [] => by simp [someOf]
  | x :: l => by simp only [List.cons_append, someOf, someOf_snoc h b l]; omega
theorem someOf_in {h : List Int} (hh : ∀ b, 0 ≤ at_ h b ∧ at_ h b ≤ 12) : ∀ l, 0 ≤ someOf h l ∧ someOf h l ≤ 12 * l.length
  | [] => by simp [someOf]
  | x :: l => by
    have ih := someOf_in hh l
    have hx := hh x.toNat
    simp only [someOf, List.length_cons]; omega
theorem zGi (b : Nat) : ∀ n, ∀ z ∈ listL b n, 0 ≤ z ∧ z < n
  | 0, z, hz => by simp [listL] at hz
  | n + 1, z, hz => by
    simp only [listL, List.mem_append] at hz
    rcases hz with hz | hz
    · have := zGi b n z hz; omega
    · split at hz <;> simp at hz
      omega
theorem all_take {ws : List (List Int)} {q : List Int → Bool} {i : Nat} (hi : i < ws.length) (h : (ws.take i).all q = true) (hq : q ws[i] = true) : (ws.take (i + 1)).all q = true := by
  rw [List.take_succ_eq_append_getElem hi, List.all_append, h]; simp [hq]
theorem all_not {ws : List (List Int)} {q : List Int → Bool} {i : Nat} (hi : i < ws.length) (hq : q ws[i] = false) : ws.all q = false := by
  rw [List.all_eq_false]; exact ⟨_, List.getElem_mem hi, by simp [hq]⟩
def oftL (b : Nat) (ws : List (List Int)) : List Int := (List.range 13).map fun n : Nat => often b (n : Int) ws
theorem zFu (b : Nat) (ws : List (List Int)) : (oftL b ws).length = 13 := by simp [oftL]
theorem often_in (b : Nat) (n : Int) (ws : List (List Int)) : 0 ≤ often b n ws ∧ often b n ws ≤ ws.length := by
  unfold often; have := List.length_filter_le (fun h => decide (at_ h b = n)) ws; omega
theorem oft_get {b : Nat} {ws : List (List Int)} {j : Nat} (hj : j < 13) : (oftL b ws).getD j 0 = often b (j : Int) ws := by simp [oftL, List.getD, hj]
theorem often_take {b : Nat} {n : Int} {ws : List (List Int)} {i : Nat} (h : i < ws.length) : often b n (ws.take (i + 1)) = often b n (ws.take i) + if at_ ws[i] b = n then 1 else 0 := by
  unfold often
  rw [List.take_succ_eq_append_getElem h, List.filter_append, List.length_append]
  by_cases e : at_ ws[i] b = n <;> simp [e]
theorem oft_take {b : Nat} {ws : List (List Int)} {i j : Nat} (h : i < ws.length) (hj : at_ ws[i] b = (j : Int)) (h13 : j < 13) : (oftL b (ws.take i)).set j ((oftL b (ws.take i)).getD j 0 + 1) = oftL b (ws.take (i + 1)) := by
  apply List.ext_getElem
  · simp [oftL]
  · intro q h1 h2
    rw [List.getElem_set]
    simp only [oftL, List.getElem_map, List.getElem_range]
    rw [often_take h, hj]
    by_cases e : j = q
    · subst e
      have := oft_get (b := b) (ws := ws.take i) h13
      unfold oftL at this
      simp only [if_true]; rw [this]
    · rw [if_neg e, if_neg (by omega)]; omega
theorem ways_max : (4 : Nat) ^ 6 = 4096 := by decide
theorem felt_len {bs : List Bunch} (h : ∀ b ∈ bs, b.hi + 1 - b.lo ≤ 4) : (felt bs).length ≤ 4 ^ bs.length := by
  induction bs with
  | nil => simp [felt]
  | cons b bs ih =>
    have ih := ih fun x hx => h x (.tail _ hx)
    have hb := h b (.head _)
    have hl : (spanL b.lo b.hi).length ≤ 4 := by
      have : ∀ n lo, (upto lo n).length = n := by intro n; induction n with
        | zero => intro lo; rfl
        | succ n ih => intro lo; simp [upto, ih]
      unfold spanL; rw [this]; omega
    have key : ∀ xs : List Int, (xs.flatMap fun n => (felt bs).map (n :: ·)).length = xs.length * (felt bs).length := by
      intro xs
      induction xs with
      | nil => simp
      | cons x xs ih => rw [List.flatMap_cons, List.length_append, ih, List.length_map, List.length_cons, Nat.succ_mul]; omega
    simp only [felt]
    rw [key, List.length_cons, Nat.pow_succ, Nat.mul_comm]
    exact Nat.mul_le_mul ih hl
theorem ways_len {l : Lot} (hok : l.Ok) (but : Nat) : (ways l but).length ≤ 4096 := by
  have h1 := List.length_filter_le (fun h => soFrom but h 0 l.counts) (felt l.bunches)
  have h2 := felt_len (bs := l.bunches) (fun b hb => by have := hok.bunch b hb; omega)
  have h3 : 4 ^ l.bunches.length ≤ 4 ^ 6 := Nat.pow_le_pow_right (by omega) hok.lb
  have h4 := ways_max
  unfold ways; omega
end Go.Rt.Ha
