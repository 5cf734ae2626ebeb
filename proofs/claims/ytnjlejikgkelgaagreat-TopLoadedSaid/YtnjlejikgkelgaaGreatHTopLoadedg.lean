/- Own texts of this claim, joined. No conditions. -/
import Derived.Test.YtnjlejikgkelgaaGreatHTopLoadeda
import Derived.Test.YtnjlejikgkelgaaGreatHTopLoadedb
import Derived.Test.YtnjlejikgkelgaaGreatHTopLoadedc
import Derived.Test.YtnjlejikgkelgaaGreatHTopLoadedd
import Derived.Test.YtnjlejikgkelgaaGreatHTopLoadede
import Derived.Test.YtnjlejikgkelgaaGreatHTopLoadedf
set_option linter.unusedVariables false
set_option linter.unusedSimpArgs false
set_option maxRecDepth 20000
namespace Go.Proofs.Kb
open Go.Proofs.Tryz
open Go.Rt Go.Rt.Ch
open Go.Rt.Ha (firstE zBv zBf zBo failE nameE felt spanL upto zCi listL fewest fewTo bit)
attribute [local irreducible] WL WC Con Yd At Ats Sl Agree DW
theorem Try_KD_fb1 (x0 : Int) (w : World) : (Instr.buildSlice 34 1 [(0, .int .i64 x0)].toArray).run Tryz.prog w = .ok (.slice (some ⟨w.heap.size, 0, none⟩) 1 1) (w.alloc (Go.Rt.blk 3 [.int .i64 x0])) := by kernel_rfl
theorem ats_of {w0 w : World} {L : List (Nat × Obj)} {i b : Nat} {t : TypeId} {cs vs : List Value} (hs : St w0 w L) (hi : L[i]? = some (b, blk t cs)) (h : (cs.drop 0).take vs.length = vs) : Ats w0 L b 0 vs := zAh hi h
theorem c66 {w0 w : World} {F : List (Nat × Obj)} (b : Board) (p : AtB) (hm : BIn w0 F b p)  (hs : St w0 w F) :
  Con Tryz.prog 66 [.agg (b.cells p).toArray] w fun v w' => v = .tuple #[.int .i64 (check b).1, .int .i64 (check b).2.1, .int .i64 (check b).2.2] ∧ St w0 w' F := by
  refine zAu (n := 45) func66 rfl rfl (zNl rfl) ?_
  have hlh := hm.lh
  have hlc := hm.lc
  refine zAf (fun K2 gd => (zAa (zCa (v := .agg #[.int _ _, .slice _ _ _, .slice _ _ _]) (cs := [_,_,_]) zAb rfl rfl rfl hs (fun b3 w4 gb => ?_))))
  refine zBg rfl rfl (zBg rfl rfl (zBg rfl rfl (zAe (zAc (gd _ _ (zAf (fun K7 ge => (zAa (w_p (zAd (o := 1) (i := 1) underlying41 rfl sizeOf38 rfl rfl rfl) rfl ?_)))))))))
  refine w_p (zAj isAgg38 gb rfl rfl (zAh (i := 0) (vs := [_]) rfl rfl)) rfl (w_p (zBm underlying38 rfl rfl) rfl (zBb (cs := [_]) zAb zeroValue3 rfl gb (fun b8 w9 gf => ?_)))
  refine zA4 (i := 0) (v := .int _ _) (vs := [_]) zAb sizeOf3 rfl rfl rfl rfl rfl (by simp [Value.oneCell']) gf rfl (zNl rfl) (fun gy ga => ?_)
  refine zAe (zAc (ge _ _ (zAf (fun gz gg => (zAz ?_)))))
  refine zAf (fun gA gh => ?_)
  have hbx := ats_of (i := 1) (vs := b.cells p) ga rfl rfl
  have hbn := ats_of (i := 0) (vs := [.int .i64 (b.hours.length : Int)]) ga rfl rfl
  refine zAa (w_p (zAd (o := 0) (i := 0) underlying41 rfl sizeOf3 rfl rfl rfl) rfl (w_p (zAj isAgg3 ga rfl rfl (show Ats _ _ _ _ [_] from Ats.part hbx 0 1)) rfl (zA0 (ps := [(0, _)]) (pv := [(0, .int _ _)]) (cs := [_]) zAb rfl rfl (fun w => Try_KD_fb1 _ w) ga (fun gB gC gi => ?_))))
  refine zAs zAb call73 rfl rfl rfl rfl (c73 _ _ _ [_] _ (by simp) (zBp (i := 0) (rows := [[_]]) rfl (by simp) rfl) gi) ?_
  rintro _ gD ⟨rfl, g8⟩
  refine w_p (zAm (v := .bool _) rfl rfl) rfl (zAe (zAc (gh _ _ (zAy rfl rfl (fun g0 => ?_) (fun g0 => ?_)))))
  ·
   try simp only [zS] at g0
   refine zAf (fun gE gj => (zAa (zBg rfl rfl (zBg rfl rfl (zBg rfl rfl (zAe (zAc (gj _ _ (zA2 (zAt (zAk (zA9 (l := [.tmp 2, .tmp 3, .tmp 4]) (vs := [_,_,_]) rfl ⟨⟨rfl, (rfl : _ = Value.int _ _)⟩, ⟨rfl, (rfl : _ = Value.int _ _)⟩, ⟨rfl, (rfl : _ = Value.int _ _)⟩, trivial⟩ ?_))))))))))))
   try simp only [List.any_cons, List.any_nil, Bool.or_false, Bool.or_eq_false_iff] at g0
   refine ⟨tup3 ?_, g8.tail.tail.tail⟩; unfold check failE
   try have e1 : ¬ ((4:Int) < (b.hours.length : Int)) := by omega
   try have e2 : ¬ ((2:Int) < (b.ctrs.length : Int)) := by omega
   first
     | (simp [zDm, g0, e1, e2]; done)
     | (simp [zDm, g0, e1]; done)
     | (simp [zDm, g0]; done)
  try simp only [zS] at g0
  refine zAf (fun gF gk => (zAa (w_p (zAj isAgg3 g8.tail rfl rfl hbn) rfl (w_p (zFa rfl rfl rfl rfl) rfl (w_p (zAm (v := .bool _) rfl rfl) rfl (zAe (zAc (gk _ _ (zAy rfl rfl (fun g4 => ?_) (fun g4 => ?_))))))))))
  ·
   try simp only [zS] at g4
   refine zAf (fun gG gl => (zAa (zBg rfl rfl (zBg rfl rfl (zBg rfl rfl (zAe (zAc (gl _ _ (zA2 (zAt (zAk (zA9 (l := [.tmp 2, .tmp 3, .tmp 4]) (vs := [_,_,_]) rfl ⟨⟨rfl, (rfl : _ = Value.int _ _)⟩, ⟨rfl, (rfl : _ = Value.int _ _)⟩, ⟨rfl, (rfl : _ = Value.int _ _)⟩, trivial⟩ ?_))))))))))))
   try simp only [List.any_cons, List.any_nil, Bool.or_false, Bool.or_eq_false_iff] at g0 g4
   refine ⟨tup3 ?_, g8.tail.tail.tail⟩; unfold check failE
   try have e1 : ¬ ((4:Int) < (b.hours.length : Int)) := by omega
   try have e2 : ¬ ((2:Int) < (b.ctrs.length : Int)) := by omega
   first
     | (simp [zDm, g0, g4, e1, e2]; done)
     | (simp [zDm, g0, g4, e1]; done)
     | (simp [zDm, g0, g4]; done)
  try simp only [zS] at g4
  refine zAv (zAl (zAc (gg _ _ (zAf (fun gH gm => ?_)))))
  have hho : 1 ≤ b.holds ∧ b.holds ≤ 3 := by
    have hq : [b.holds].any (out 1 3) = false := by assumption
    simp [out] at hq; omega
  refine zAa (w_p (zAd (o := 1) (i := 1) underlying41 rfl sizeOf38 rfl rfl rfl) rfl (w_p (zAj isAgg38 g8.tail rfl rfl (show Ats _ _ _ _ [_] from Ats.part hbx 1 1)) rfl (w_p (zCd (fv := []) (cv := [_]) rfl rfl rfl rfl) rfl (zAs zAb call88 rfl rfl rfl rfl (c88 _ _ b.hours hlh hm.h.cons.cons.cons (.func (.func 89) #[] #[.pointer (some ⟨b3,0, none⟩)]) (hourE b.holds) (fun i hi X w hs => zEl call89 (c89 b p hho i b.hours[i] _ b3 (Ats.app hbx.cons) hs)) g8) ?_))))
  rintro _ gI ⟨rfl, g9⟩
  refine w_p (zAi (v := .tuple _) rfl rfl) rfl (w_p (zAn (v := .int _ _) rfl rfl rfl) rfl (w_p (zAn (v := .int _ _) rfl rfl rfl) rfl (zBl rfl rfl (zBl rfl rfl (zAe (zAc (gm _ _ (zAf (fun gJ gn => (zAz ?_))))))))))
  refine zAf (fun gK go => (zAa (zBa rfl rfl (w_p (zCt rfl rfl rfl rfl) rfl (w_p (zAm (v := .bool _) rfl rfl) rfl (zAe (zAc (go _ _ (zAy rfl rfl (fun g5 => ?_) (fun g5 => ?_))))))))))
  ·
   try simp only [zS] at g5
   refine zAf (fun gL gp => (zAa (zBa rfl rfl (zBa rfl rfl (zBg rfl rfl (zBl rfl rfl (zBl rfl rfl (zAe (zAc (gp _ _ (zA2 (zAt (zAk (zA9 (l := [.tmp 2, .tmp 3, .tmp 4]) (vs := [_,_,_]) rfl ⟨⟨rfl, (rfl : _ = Value.int _ _)⟩, ⟨rfl, (rfl : _ = Value.int _ _)⟩, ⟨rfl, (rfl : _ = Value.int _ _)⟩, trivial⟩ ?_))))))))))))))
   try simp only [List.any_cons, List.any_nil, Bool.or_false, Bool.or_eq_false_iff] at g0 g4 g5
   refine ⟨tup3 ?_, g9.tail.tail.tail⟩; unfold check failE
   try have e1 : ¬ ((4:Int) < (b.hours.length : Int)) := by omega
   try have e2 : ¬ ((2:Int) < (b.ctrs.length : Int)) := by omega
   first
     | (simp [zDm, g0, g4, g5, e1, e2]; done)
     | (simp [zDm, g0, g4, g5, e1]; done)
     | (simp [zDm, g0, g4, g5]; done)
  try simp only [zS] at g5
  refine zAf (fun gM gq => (zAa (w_p (zAd (o := 2) (i := 2) underlying41 rfl sizeOf39 rfl rfl rfl) rfl (w_p (zAj isAgg39 g9.tail rfl rfl (show Ats _ _ _ _ [_] from Ats.part hbx 2 1)) rfl (w_p (zBm underlying39 rfl rfl) rfl (w_p (zFa rfl rfl rfl rfl) rfl ?_))))))
  refine w_p (zAm (v := .bool _) rfl rfl) rfl (zAe (zAc (gq _ _ (zAy rfl rfl (fun g6 => ?_) (fun g6 => ?_)))))
  ·
   try simp only [zS] at g6
   refine zAf (fun gN gr => (zAa (zBg rfl rfl (zBg rfl rfl (zBg rfl rfl (zAe (zAc (gr _ _ (zA2 (zAt (zAk (zA9 (l := [.tmp 2, .tmp 3, .tmp 4]) (vs := [_,_,_]) rfl ⟨⟨rfl, (rfl : _ = Value.int _ _)⟩, ⟨rfl, (rfl : _ = Value.int _ _)⟩, ⟨rfl, (rfl : _ = Value.int _ _)⟩, trivial⟩ ?_))))))))))))
   try simp only [List.any_cons, List.any_nil, Bool.or_false, Bool.or_eq_false_iff] at g0 g4 g5 g6
   refine ⟨tup3 ?_, g9.tail.tail.tail⟩; unfold check failE
   try have e1 : ¬ ((4:Int) < (b.hours.length : Int)) := by omega
   try have e2 : ¬ ((2:Int) < (b.ctrs.length : Int)) := by omega
   first
     | (simp [zDm, g0, g4, g5, g6, e1, e2]; done)
     | (simp [zDm, g0, g4, g5, g6, e1]; done)
     | (simp [zDm, g0, g4, g5, g6]; done)
  try simp only [zS] at g6
  refine zAv (zAl (zAc (gn _ _ (zAf (fun gO gt => (zAa (w_p (zAd (o := 2) (i := 2) underlying41 rfl sizeOf39 rfl rfl rfl) rfl (w_p (zAj isAgg39 g9.tail rfl rfl (show Ats _ _ _ _ [_] from Ats.part hbx 2 1)) rfl ?_))))))))
  refine w_p (zCd (fv := []) (cv := [_,_]) rfl rfl rfl rfl) rfl (zAs zAb call90 rfl rfl rfl rfl (c90 _ _ b.ctrs p.pc hlc hm.c.cons.cons.cons (.func (.func 91) #[] #[.pointer (some ⟨b3,0, none⟩), .pointer (some ⟨b8,0, none⟩)]) (ctrE b.hours.length) (fun i hi X w hs => zEl call91 (c91 b p (BIn.app hm.cons.cons.cons) i hi b3 b8 (Ats.app hbx.cons) (Ats.app hbn.cons) hs)) g9) ?_)
  rintro _ gP ⟨rfl, gc⟩
  refine w_p (zAi (v := .tuple _) rfl rfl) rfl (w_p (zAn (v := .int _ _) rfl rfl rfl) rfl (w_p (zAn (v := .int _ _) rfl rfl rfl) rfl (zBl rfl rfl (zBl rfl rfl (zAe (zAc (gt _ _ (zAf (fun gQ gu => (zAf (fun gR gv => (zAa (zBa rfl rfl ?_)))))))))))))
  refine w_p (zCt rfl rfl rfl rfl) rfl (zAe (zAc (gv _ _ (zAy rfl rfl (fun g7 => ?_) (fun g7 => ?_)))))
  ·
   try simp only [zS] at g7
   refine zAf (fun gT gw => (zAa (zBa rfl rfl (zBa rfl rfl (zBg rfl rfl (zBl rfl rfl (zBl rfl rfl (zAe (zAc (gw _ _ (zA2 (zAk (zA9 (l := [.tmp 2, .tmp 3, .tmp 4]) (vs := [_,_,_]) rfl ⟨⟨rfl, (rfl : _ = Value.int _ _)⟩, ⟨rfl, (rfl : _ = Value.int _ _)⟩, ⟨rfl, (rfl : _ = Value.int _ _)⟩, trivial⟩ ?_)))))))))))))
   try simp only [List.any_cons, List.any_nil, Bool.or_false, Bool.or_eq_false_iff] at g0 g4 g5 g6 g7
   refine ⟨tup3 ?_, gc.tail.tail.tail⟩; unfold check failE
   try have e1 : ¬ ((4:Int) < (b.hours.length : Int)) := by omega
   try have e2 : ¬ ((2:Int) < (b.ctrs.length : Int)) := by omega
   first
     | (simp [zDm, g0, g4, g5, g6, g7, e1, e2]; done)
     | (simp [zDm, g0, g4, g5, g6, g7, e1]; done)
     | (simp [zDm, g0, g4, g5, g6, g7]; done)
  try simp only [zS] at g7
  refine zAv (zAc (gu _ _ (zAf (fun gU gx => (zAa (zBg rfl rfl (zBg rfl rfl (zBg rfl rfl (zAe (zAc (gx _ _ (zA2 (zA9 (l := [.tmp 2, .tmp 3, .tmp 4]) (vs := [_,_,_]) rfl ⟨⟨rfl, (rfl : _ = Value.int _ _)⟩, ⟨rfl, (rfl : _ = Value.int _ _)⟩, ⟨rfl, (rfl : _ = Value.int _ _)⟩, trivial⟩ ?_)))))))))))))
  try simp only [List.any_cons, List.any_nil, Bool.or_false, Bool.or_eq_false_iff] at g0 g4 g5 g6 g7
  refine ⟨tup3 ?_, gc.tail.tail.tail⟩; unfold check failE
  try have e1 : ¬ ((4:Int) < (b.hours.length : Int)) := by omega
  try have e2 : ¬ ((2:Int) < (b.ctrs.length : Int)) := by omega
  first
    | (simp [zDm, g0, g4, g5, g6, g7, e1, e2]; done)
    | (simp [zDm, g0, g4, g5, g6, g7, e1]; done)
    | (simp [zDm, g0, g4, g5, g6, g7]; done)

end Go.Proofs.Kb
set_option maxRecDepth 20000
namespace Go.Proofs.Kb
open Go.Proofs.Tryz
open Go.Rt Go.Rt.Ch
open Go.Rt.Ha (firstE zBv zBf zBo failE nameE felt spanL upto zCi listL fewest fewTo bit)
attribute [local irreducible] WL WC Con Yd At Ats Sl Agree DW
theorem zD2 (x0 : Int) (x1 : Int) (x2 : Bool) (w : World) : (Instr.build 141 [(0, .int .i64 x0),(1, .int .i64 x1),(2, .bool x2)].toArray).run Tryz.prog w = .ok (.agg #[.int .i64 x0, .int .i64 x1, .bool x2]) w := by kernel_rfl
theorem zD1 (x0 : Int) (x1 : Int) (x2 : Bool) (w : World) : (Instr.buildSlice 160 1 [(0, .agg #[.int .i64 x0, .int .i64 x1, .bool x2])].toArray).run Tryz.prog w = .ok (.slice (some ⟨w.heap.size, 0, none⟩) 1 1) (w.alloc (Go.Rt.blk 141 [.int .i64 x0, .int .i64 x1, .bool x2])) := by kernel_rfl
theorem zDp : Tryz.prog.info? 141 = some Tryz.t141 := by kernel_rfl
structure BK (w0 : World) (F : List (Nat × Obj)) (b : Board) (p : AtB) (bb mm : Nat) : Prop where
  i : BIn w0 F b p
  l : Ats w0 F bb 0 [.int .i64 b.holds, .slice p.ah b.hours.length p.ch, .slice p.ac b.ctrs.length p.cc, .map (some mm)]
  ok : b.Ok
theorem BK.mono {w0 : World} {F F' : List (Nat × Obj)} {b : Board} {p : AtB} {bb mm : Nat} (h : BK w0 F b p bb mm) (hs : ∀ w, St w0 w F' → St w0 w F) : BK w0 F' b p bb mm := ⟨h.i.mono hs, h.l.mono hs, h.ok⟩
theorem BK.cons {w0 : World} {F : List (Nat × Obj)} {x : Nat × Obj} {b : Board} {p : AtB} {bb mm : Nat} (h : BK w0 F b p bb mm) : BK w0 (x :: F) b p bb mm := h.mono fun _ h => h.tail
theorem BK.app {w0 : World} {F B : List (Nat × Obj)} {b : Board} {p : AtB} {bb mm : Nat} (h : BK w0 F b p bb mm) : BK w0 (B ++ F) b p bb mm := h.mono fun _ h => h.drop
theorem key_zip {P : Program} {t k : Nat} {fs : Array Field} (ks : List Nat) (hu : P.underlying t = some (.struct fs)) (hp : P.stoodInHeld t = false) (h1 : fs.toList = (fs.toList.zip ks).map Prod.fst) (h2 : ∀ q ∈ fs.toList.zip ks, FF P q.1 q.2 ∧ q.1.offset + q.2 ≤ k)
    (h3 : ∀ q ∈ fs.toList.zip ks, P.underlying q.1.type = some (.int .i64) ∨ ∃ el, P.underlying q.1.type = some (.array q.2 el) ∧ P.underlying el = some (.int .i64) ∧ ∀ w, (sizeOf el).run P w = .ok 1 w)
    (h4 : ∀ l m : List Int, l.length = k → m.length = k → ((fs.toList.zip ks).all fun q => decide ((l.drop q.1.offset).take q.2 = (m.drop q.1.offset).take q.2)) = decide (l = m)) : KeyTy P t k := keyTy_struct _ hu hp h1 h2 h3 h4
theorem key154_cov : ∀ l m : List Int, l.length = 3 → m.length = 3 → (decide ((l.drop 0).take 1 = (m.drop 0).take 1) && (decide ((l.drop 1).take 1 = (m.drop 1).take 1) && (decide ((l.drop 2).take 1 = (m.drop 2).take 1) && true))) = decide (l = m) := by
  intro l m hl hm
  match l, hl with
  | [a, b, c], _ =>
    match m, hm with
    | [a', b', c'], _ => rw [Bool.eq_iff_iff]; simp
theorem key162 : KeyTy Tryz.prog 162 3 := by
  refine key_zip [1,1,1] underlying162 (by kernel_rfl) rfl ?_ ?_ ?_
  · intro q hq
    simp only [List.zip_cons_cons, List.zip_nil_right, List.mem_cons, List.not_mem_nil, or_false] at hq
    rcases hq with rfl | rfl | rfl
    · exact ⟨⟨by decide, .inl ⟨underlying3, rfl⟩⟩, by decide⟩
    · exact ⟨⟨by decide, .inl ⟨underlying3, rfl⟩⟩, by decide⟩
    · exact ⟨⟨by decide, .inl ⟨underlying3, rfl⟩⟩, by decide⟩
  · intro q hq
    simp only [List.zip_cons_cons, List.zip_nil_right, List.mem_cons, List.not_mem_nil, or_false] at hq
    rcases hq with rfl | rfl | rfl
    · exact .inl underlying3
    · exact .inl underlying3
    · exact .inl underlying3
  · exact key154_cov
def Ent (w0 : World) (b : Board) (MB : List (Nat × Obj)) (q : List Int × Value × Nat) : Prop :=
  ∃ (c a : Nat) (s : Int) (x : Option Addr) (cap : Nat), q.1 = [(c : Int), (a : Int), s] ∧ q.2.1 = .slice x (waysAt b c a s).length cap ∧ Sl w0 MB x 3 (wrows (waysAt b c a s))
theorem Ent.mono {w0 : World} {b : Board} {M M' : List (Nat × Obj)} {q : List Int × Value × Nat} (h : Ent w0 b M q) (hs : ∀ w, St w0 w M' → St w0 w M) : Ent w0 b M' q := by
  obtain ⟨c, a, s, x, cap, h1, h2, h3⟩ := h
  exact ⟨c, a, s, x, cap, h1, h2, h3.mono hs⟩
def Memo (w0 : World) (b : Board) (mm : Nat) (M : List (Nat × Obj)) : Prop :=
  ∃ (es : List (List Int × Value × Nat)) (ck : Nat) (MB : List (Nat × Obj)), M = (mm, .map (ents (fun l : List Int => ia l) es).toArray ck) :: MB ∧ MOk es ck ∧ (∀ q ∈ es, q.1.length = 3) ∧ ∀ q ∈ es, Ent w0 b MB q
theorem zEz (w0 : World) (b : Board) (mm : Nat) : Memo w0 b mm [(mm, .map #[] 0)] := ⟨[], 0, [], rfl, mok_nil, by simp, by simp⟩
theorem flat_wrows (l : List Ch.Way) (x : Ch.Way) : (wrows (l ++ [x])).flatten = (wrows l).flatten ++ [x.cells].flatten := by simp [wrows]
theorem zGd {v : Value} {l : List Ch.Way} {x : Ch.Way} {B : List (Nat × Obj)} (h : Rt.Own v 141 3 (l.length + 1) ((wrows l).flatten ++ [x.cells].flatten) B) : Rt.Own v 141 3 (l ++ [x]).length (wrows (l ++ [x])).flatten B := by
  rw [flat_wrows, List.length_append]; exact h
theorem wrows_row (l : List Ch.Way) : ∀ row ∈ wrows l, row.length = 3 := by intro row h; obtain ⟨q, _, rfl⟩ := List.mem_map.1 h; rfl
theorem c96f {w0 w : World} {F : List (Nat × Obj)} (b : Board) (p : AtB) (bb mm : Nat) (hk : BK w0 F b p bb mm) (c a : Nat) (hc : c < b.ctrs.length) (ha : a < b.hours.length) (s : Int) (hs1 : 0 ≤ s ∧ s < 100) (es : List (List Int × Value × Nat)) (ck : Nat) (hes : ∀ q ∈ es, q.1.length = 3) (u : Value) (a9 : Option Addr) (n9 c9 : Nat) (hu : u = .slice a9 n9 c9) (hf : getA [(c : Int), (a : Int), s] es = some u) (hs : St w0 w ((mm, .map (ents (fun l : List Int => ia l) es).toArray ck) :: F)) :
  Con Tryz.prog 96 [.pointer (some ⟨bb, 0, none⟩), .agg #[.int .i64 (c : Int), .int .i64 (a : Int), .int .i64 s]] w fun v w' => v = u ∧ St w0 w' ((mm, .map (ents (fun l : List Int => ia l) es).toArray ck) :: F) := by
  refine zAu (n := 128) func96 rfl rfl (zNl rfl) ?_
  subst hu
  have hb := hk.l
  refine zAf (fun K2 g5 => (zAa (zCa (v := .agg #[.int _ _, .int _ _, .int _ _]) (cs := [_,_,_]) zAb rfl rfl rfl hs (fun b3 w4 g6 => ?_))))
  refine zBg rfl rfl (zAe (zAc (g5 _ _ (zAf (fun K7 ga => (zAf (fun K9 g7 => (zCs [] [(0,0),(1,0),(2,0),(3,1),(4,1),(5,1),(6,0),(7,0),(8,0),(9,0),(10,0)] zCg (zC8 (by kernel_rfl)) g6 (fun gb g0 => ?_)))))))))
  refine d_w rfl (fun _ => zAi (v := .pointer _) rfl rfl) rfl ?_
  refine d_w rfl (fun _ => zBi rfl rfl) rfl ?_
  refine d_w rfl (fun _ => zAd (o := 3) (i := 1) underlying131 rfl sizeOf129 rfl rfl rfl) rfl ?_
  refine zBh rfl zAb rfl g0 (fun _ hq => (zAj isAgg129 hq.tail.tail rfl rfl (show Ats _ _ _ _ [_] from Ats.part hb 3 1))) ?_
  refine zBh rfl zAb rfl g0 (fun _ hq => (zA7 (vs := [_,_,_]) isAgg162 sizeOf162 hq rfl rfl (zAh (i := 0) (vs := [_,_,_]) rfl rfl))) ?_
  refine zBh rfl zAb rfl g0 (fun _ hq => (G_look2S (i := 1) (a := [(c : Int), (a : Int), s]) underlying129 (zIp key162) rfl hes hq rfl rfl rfl rfl rfl hf)) ?_
  refine d_w rfl (fun _ => zAi (v := .tuple _) rfl rfl) rfl ?_
  refine d_w rfl (fun _ => zAn (v := .slice _ _ _) rfl rfl rfl) rfl ?_
  refine d_w rfl (fun _ => zAn (v := .bool _) rfl rfl rfl) rfl ?_
  refine d_w rfl (fun _ => zAm (v := .slice _ _ _) rfl rfl) rfl ?_
  refine d_w rfl (fun _ => zAm (v := .bool _) rfl rfl) rfl ?_
  refine zB0 ?_
  refine zAc (g7 _ _ (zAf (fun gc g8 => (zAa (w_p (zAi (v := .bool _) rfl rfl) rfl (zAe (zAc (g8 _ _ (zAy rfl rfl (fun g4 => ?_) (fun g4 => ?_))))))))))
  ·
   try simp only [zS] at g4
   refine zAf (fun gd g9 => (zAa (w_p (zAi (v := .slice _ _ _) rfl rfl) rfl (w_p (zAm (v := .slice _ _ _) rfl rfl) rfl (zAe (zAc (g9 _ _ (zA2 (zAk (zA9 (l := [.tmp 4]) (vs := [_]) rfl ⟨⟨rfl, show _ = (.slice _ _ _ : Value) from rfl⟩, trivial⟩ ?_))))))))))
   exact ⟨rfl, g0.tail⟩
  exfalso; simp at g4

theorem c96n {w0 w : World} {F : List (Nat × Obj)} (b : Board) (p : AtB) (bb mm : Nat) (hk : BK w0 F b p bb mm) (c a : Nat) (hc : c < b.ctrs.length) (ha : a < b.hours.length) (s : Int) (hs1 : 0 ≤ s ∧ s < 100) (es : List (List Int × Value × Nat)) (ck : Nat) (hes : ∀ q ∈ es, q.1.length = 3) (hf : getA [(c : Int), (a : Int), s] es = none) (hs : St w0 w ((mm, .map (ents (fun l : List Int => ia l) es).toArray ck) :: F)) :
  Con Tryz.prog 96 [.pointer (some ⟨bb, 0, none⟩), .agg #[.int .i64 (c : Int), .int .i64 (a : Int), .int .i64 s]] w fun v w' => ∃ (x : Option Addr) (cap : Nat) (B : List (Nat × Obj)), v = .slice x (waysAt b c a s).length cap ∧ Sl w0 B x 3 (wrows (waysAt b c a s)) ∧ St w0 w' ((mm, .map (ents (fun l : List Int => ia l) (putA [(c : Int), (a : Int), s] v ck es)).toArray (if idxA [(c : Int), (a : Int), s] es 0 = none then ck + 1 else ck)) :: (B ++ F)) := by
  refine zAu (n := 128) func96 rfl rfl (zNl rfl) ?_
  have hb := hk.l
  have hcok := hk.ok.ctr _ (List.getElem_mem hc)
  have hhok := hk.ok.hour _ (List.getElem_mem ha)
  obtain ⟨bx, ox, hbx, hxc⟩ := zGt hk.i.c hc
  obtain ⟨by_, oy, hby, hxh⟩ := zHl hk.i.h ha
  have hz0 := hk.i.z c hc
  have gR := hk.i.s c hc
  rw [← ctr_at hc] at hcok hxc hz0 gR
  rw [← zDy ha] at hhok hxh
  have k1 := hcok.skip
  have k2 := hcok.twice
  have k3 := hhok.lo
  have k4 := hhok.le
  have k5 := hhok.hi
  have k6 := hhok.w
  have k7 := hcok.lz
  have k8 := hcok.ls
  have k9 := hk.ok.lh
  have haz : a < (ctrOf b c).zero.length := by omega
  have has : a < (ctrOf b c).shown.length := by omega
  obtain ⟨bz, oz, hbz, hxz⟩ := zDk hz0 haz
  obtain ⟨bv, ov, hbv, hxv⟩ := zDk gR has
  have hgz : (ctrOf b c).zero.getD a 0 = (ctrOf b c).zero[a] := by simp [List.getD, haz]
  have hgs : (ctrOf b c).shown.getD a 0 = (ctrOf b c).shown[a] := by simp [List.getD, has]
  have hsr := hcok.shown _ (List.getElem_mem has)
  refine zAf (fun K2 j3 => (zAa (zCa (v := .agg #[.int _ _, .int _ _, .int _ _]) (cs := [_,_,_]) zAb rfl rfl rfl hs (fun b3 w4 j4 => ?_))))
  refine zBg rfl rfl (zAe (zAc (j3 _ _ (zAf (fun K7 j5 => (zAf (fun K9 j6 => (zCs [] [(0,0),(1,0),(2,0),(3,1),(4,1),(5,1),(6,0),(7,0),(8,0),(9,0),(10,0)] zCg (zC8 (by kernel_rfl)) j4 (fun kD g7 => ?_)))))))))
  refine d_w rfl (fun _ => zAi (v := .pointer _) rfl rfl) rfl ?_
  refine d_w rfl (fun _ => zBi rfl rfl) rfl ?_
  refine d_w rfl (fun _ => zAd (o := 3) (i := 1) underlying131 rfl sizeOf129 rfl rfl rfl) rfl ?_
  refine zBh rfl zAb rfl g7 (fun _ hq => (zAj isAgg129 hq.tail.tail rfl rfl (show Ats _ _ _ _ [_] from Ats.part hb 3 1))) ?_
  refine zBh rfl zAb rfl g7 (fun _ hq => (zA7 (vs := [_,_,_]) isAgg162 sizeOf162 hq rfl rfl (zAh (i := 0) (vs := [_,_,_]) rfl rfl))) ?_
  refine zBh rfl zAb rfl g7 (fun _ hq => (G_look2N (i := 1) (a := [(c : Int), (a : Int), s]) underlying129 (zIp key162) rfl hes zeroValue160 hq rfl rfl rfl rfl rfl hf)) ?_
  refine d_w rfl (fun _ => zAi (v := .tuple _) rfl rfl) rfl ?_
  refine d_w rfl (fun _ => zAn (v := .slice _ _ _) rfl rfl rfl) rfl ?_
  refine d_w rfl (fun _ => zAn (v := .bool _) rfl rfl rfl) rfl ?_
  refine d_w rfl (fun _ => zAm (v := .slice _ _ _) rfl rfl) rfl ?_
  refine d_w rfl (fun _ => zAm (v := .bool _) rfl rfl) rfl ?_
  refine zB0 ?_
  refine zAc (j6 _ _ (zAf (fun kF j7 => (zAa (w_p (zAi (v := .bool _) rfl rfl) rfl (zAe (zAc (j7 _ _ (zAy rfl rfl (fun g8 => ?_) (fun g8 => ?_))))))))))
  ·
   exfalso
   try simp only [zS] at g8
   simp at g8
  try simp only [zS] at g8
  refine zAv (zAc (j5 _ _ (zAf (fun kG j8 => (zAa (zBg rfl rfl (zAe (zAc (j8 _ _ (zAf (fun kH j9 => (w_cut [8,9,26,27,28,29,30,31,32,33,34,35,36,37,38,39,40,41,42,43,44] [8,9] (fun vs w => ∃ b8 b9, vs = [.pointer (some ⟨b8,0, none⟩), .pointer (some ⟨b9,0, none⟩)] ∧ St w0 w ((b9, blk 23 [.int .i64 (hourOf b a).lo, .int .i64 (hourOf b a).hi]) :: (b8, blk 43 ((ctrOf b c).cells (p.pc c))) :: (b3, blk 162 [.int .i64 (c : Int), .int .i64 (a : Int), .int .i64 s]) :: (mm, .map (ents (fun l : List Int => ia l) es).toArray ck) :: F)) (fun kI gT => ?_) ?_))))))))))))
  ·
   refine w_drawT (C := fun w => St w0 w _) [] (.two [(0,0),(1,0),(2,0),(3,0),(4,1),(5,0),(6,1),(7,0),(8,1),(9,0),(10,0),(11,0),(12,0),(13,1),(14,0),(15,1),(16,0),(17,0),(18,1)] 19 20 (.done [(20,2),(21,2),(22,2)]) (.done [(19,2),(21,2),(22,2)])) zCg (by kernel_rfl) g7 (fun _ h => h.drew) (fun kJ g0 => ?_)
   refine dt_two ?_
   refine d_w rfl (fun _ => zAi (v := .pointer _) rfl rfl) rfl ?_
   refine d_w rfl (fun _ => zBi rfl rfl) rfl ?_
   refine d_w rfl (fun _ => zAd (o := 0) (i := 0) underlying131 rfl sizeOf41 rfl rfl rfl) rfl ?_
   refine d_w rfl (fun _ => zAd (o := 2) (i := 2) underlying41 rfl sizeOf39 rfl rfl rfl) rfl ?_
   refine zBh rfl zAb rfl g0 (fun _ hq => (zC0 hbx (zAj isAgg39 hq.tail.tail rfl rfl (show Ats _ _ _ _ [_] from Ats.part hb 2 1)))) ?_
   refine d_w rfl (fun _ => zAd (o := 0) (i := 0) underlying162 rfl sizeOf3 rfl rfl rfl) rfl ?_
   refine zBh rfl zAb rfl g0 (fun _ hq => (zAj isAgg3 hq rfl rfl (zAh (i := 0) (vs := [_]) rfl rfl))) ?_
   refine d_w rfl (fun _ => zBc underlying39 sizeOf43 rfl rfl rfl rfl (i := c) rfl hc) rfl ?_
   refine zBh rfl zAb rfl g0 (fun _ hq => (zA7 (vs := [_,_,_,_,_,_]) isAgg43 sizeOf43 hq.tail.tail rfl rfl hxc)) ?_
   refine d_w rfl (fun _ => zAi (v := .pointer _) rfl rfl) rfl ?_
   refine d_w rfl (fun _ => zBi rfl rfl) rfl ?_
   refine d_w rfl (fun _ => zAd (o := 0) (i := 0) underlying131 rfl sizeOf41 rfl rfl rfl) rfl ?_
   refine d_w rfl (fun _ => zAd (o := 1) (i := 1) underlying41 rfl sizeOf38 rfl rfl rfl) rfl ?_
   refine zBh rfl zAb rfl g0 (fun _ hq => (zC0 hby (zAj isAgg38 hq.tail.tail rfl rfl (show Ats _ _ _ _ [_] from Ats.part hb 1 1)))) ?_
   refine d_w rfl (fun _ => zAd (o := 1) (i := 1) underlying162 rfl sizeOf3 rfl rfl rfl) rfl ?_
   refine zBh rfl zAb rfl g0 (fun _ hq => (zAj isAgg3 hq rfl rfl (zAh (i := 0) (vs := [_]) rfl rfl))) ?_
   refine d_w rfl (fun _ => zBc underlying38 sizeOf48 rfl rfl rfl rfl (i := a) rfl ha) rfl ?_
   refine d_w rfl (fun _ => zAd (o := 1) (i := 1) underlying48 rfl sizeOf23 rfl rfl rfl) rfl ?_
   refine zBh rfl zAb rfl g0 (fun _ hq => (zA7 (vs := [_,_]) isAgg23 sizeOf23 hq.tail.tail rfl rfl (show Ats _ _ _ _ [_,_] from Ats.part hxh 1 2))) ?_
   refine d_two rfl rfl ?_ ?_
   ·
    refine zBb (cs := [_,_,_,_,_,_]) zAb zeroValue43 rfl g0 (fun kK kL gU => ?_)
    refine zAe (qn ⟨gU.tail, ?_⟩)
    refine dt_done ?_
    refine zC9 rfl ?_
    refine zBb (cs := [_,_]) zAb zeroValue23 rfl gU (fun kM kN gV => ?_)
    refine zAe (qn ⟨gV.tail.tail, ?_⟩)
    refine zC9 rfl ?_
    refine zA4 (i := 1) (v := .agg #[.string _, .int _ _, .int _ _, .int _ _, .slice _ _ _, .slice _ _ _]) (vs := [_,_,_,_,_,_]) zAb sizeOf43 rfl rfl rfl rfl rfl (by simp [Value.oneCell']) gV rfl (zNl rfl) (fun kO gW => ?_)
    refine zAe (qn ⟨gW.tail.tail, ?_⟩)
    refine zC9 rfl ?_
    refine zA4 (i := 0) (v := .agg #[.int _ _, .int _ _]) (vs := [_,_]) zAb sizeOf23 rfl rfl rfl rfl rfl (by simp [Value.oneCell']) gW rfl (zNl rfl) (fun kP ga => ?_)
    refine zAe (qn ⟨ga.tail.tail, ?_⟩)
    refine zB0 ?_
    refine zAc (gT _ _ (Md.intro (by repeat (first | exact zA3 | exact zA6 | refine zA5 rfl ?_ | refine zAw rfl ?_ _ | refine zAr rfl ?_)) ?_))
    first
      | exact ⟨_, _, rfl, ga⟩
      | exact ⟨_, _, rfl, swp2 (show St _ _ (_ :: _ :: _) from ga)⟩
   refine zBb (cs := [_,_]) zAb zeroValue23 rfl g0 (fun kQ kR gX => ?_)
   refine zAe (qn ⟨gX.tail, ?_⟩)
   refine dt_done ?_
   refine zC9 rfl ?_
   refine zBb (cs := [_,_,_,_,_,_]) zAb zeroValue43 rfl gX (fun kS kT gY => ?_)
   refine zAe (qn ⟨gY.tail.tail, ?_⟩)
   refine zC9 rfl ?_
   refine zA4 (i := 0) (v := .agg #[.string _, .int _ _, .int _ _, .int _ _, .slice _ _ _, .slice _ _ _]) (vs := [_,_,_,_,_,_]) zAb sizeOf43 rfl rfl rfl rfl rfl (by simp [Value.oneCell']) gY rfl (zNl rfl) (fun kU gZ => ?_)
   refine zAe (qn ⟨gZ.tail.tail, ?_⟩)
   refine zC9 rfl ?_
   refine zA4 (i := 1) (v := .agg #[.int _ _, .int _ _]) (vs := [_,_]) zAb sizeOf23 rfl rfl rfl rfl rfl (by simp [Value.oneCell']) gZ rfl (zNl rfl) (fun kV gb => ?_)
   refine zAe (qn ⟨gb.tail.tail, ?_⟩)
   refine zB0 ?_
   refine zAc (gT _ _ (Md.intro (by repeat (first | exact zA3 | exact zA6 | refine zA5 rfl ?_ | refine zAw rfl ?_ _ | refine zAr rfl ?_)) ?_))
   first
     | exact ⟨_, _, rfl, gb⟩
     | exact ⟨_, _, rfl, swp2 (show St _ _ (_ :: _ :: _) from gb)⟩
  intro vs μ kW hM
  obtain ⟨b8, b9, rfl, hs⟩ := hM
  refine zAc (j9 _ _ (zAf (fun kX ja => (zAf (fun kY jb => (zAa (w_p (zAi (v := _) rfl rfl) rfl (zAe (zAc (jb _ _ (zAz ?_)))))))))))
  refine zB3 [7,10,11,12,13,14,45,46,47,48,49,50,51,52,53,54,55,56,57,58,59,60,61,62,63,64,65,66,67,68,69,70,71,72,73,74,75,76,77,78,79,80,81,82,83,84,85,86,87,88,89,90,91,92,93,94,95,96,97,98,99,100,101,102,103,104,105,106,107,108,109,110,111,112,113,114,115,116,117,118,119,120] [7,45] (fun kk vs w => ∃ (z : Nat) (v : Value) (B : List (Nat × Obj)), vs = [v, .int .i64 z] ∧ z ≤ 2 ∧ kk = 2 - z ∧ Rt.Own v 141 3 (wTo (ctrOf b c) (hourOf b a) a s z).length (wrows (wTo (ctrOf b c) (hourOf b a) a s z)).flatten B ∧ St w0 w ((b9, blk 23 [.int .i64 (hourOf b a).lo, .int .i64 (hourOf b a).hi]) :: (b8, blk 43 ((ctrOf b c).cells (p.pc c))) :: (b3, blk 162 [.int .i64 (c : Int), .int .i64 (a : Int), .int .i64 s]) :: (mm, .map (ents (fun l : List Int => ia l) es).toArray ck) :: (B ++ F))) (2) ?_ ?_
  ·
   exact ⟨0, _, [], rfl, by omega, by omega, zD4 141 3, hs⟩
  intro k vs μ kZ hI m0 g4
  obtain ⟨z, v, B, rfl, hza, rfl, hown, hs⟩ := hI
  have hzb : decide ((z : Int) = 1) = decide (z = 1) := by rw [Bool.eq_iff_iff]; simp; omega
  have hwl := wTo_len (a := a) (s := s) hcok hhok z
  refine zAf (fun m1 jc => (zAa (w_p (zCl rfl rfl rfl rfl) rfl (zAe (zAc (jc _ _ (zAf (fun m2 jd => (zAy rfl rfl (fun gc => ?_) (fun gc => ?_))))))))))
  ·
   try simp only [zS] at gc
   refine zAv (zAc (jd _ _ (zAf (fun m3 g5 => (zAz ?_)))))
   refine zAf (fun m4 je => (zAa (zBa rfl rfl (zBl rfl rfl (zAe (zAc (je _ _ (zAf (fun m5 g9 => (zAf (fun m6 g6 => (zAa (zBa rfl rfl (w_p (zBw rfl rfl rfl rfl) rfl ?_))))))))))))))
   refine w_p (zAi (v := .bool _) rfl rfl) rfl (zBk (fun gd => ?_) (fun gd => ?_))
   ·
    try simp only [zS] at gd
    refine w_y rfl rfl rfl (zAd (o := 4) (i := 4) underlying43 rfl sizeOf34 rfl rfl rfl) rfl ?_
    refine w_y rfl rfl rfl (zC0 hbz (zAj isAgg34 hs rfl rfl (zAh (i := 1) (vs := [_]) rfl rfl))) rfl ?_
    refine w_y rfl rfl rfl (zAd (o := 1) (i := 1) underlying162 rfl sizeOf3 rfl rfl rfl) rfl ?_
    refine w_y rfl rfl rfl (zAj isAgg3 hs rfl rfl (zAh (i := 2) (vs := [_]) rfl rfl)) rfl ?_
    refine w_y rfl rfl rfl (zBc underlying34 sizeOf3 rfl rfl rfl rfl (i := a) rfl haz) rfl ?_
    refine w_y rfl rfl rfl (zAj isAgg3 hs.tail.tail.tail.tail.drop rfl rfl hxz) rfl ?_
    refine w_y rfl rfl rfl (zBw rfl rfl rfl rfl) rfl ?_
    refine w_p (zAx (v := .bool _) rfl rfl rfl rfl) rfl (w_p (zAi (v := .bool _) rfl rfl) rfl (zBk (fun ge => ?_) (fun ge => ?_)))
    ·
     try simp only [zS] at ge
     refine zAg rfl rfl rfl ?_
     refine zAg rfl rfl rfl ?_
     refine zAg rfl rfl rfl ?_
     refine zBe rfl rfl rfl ?_
     refine zBe rfl rfl rfl ?_
     refine zBe rfl rfl rfl ?_
     refine zBe rfl rfl rfl ?_
     refine zBe rfl rfl rfl ?_
     refine zBe rfl rfl rfl ?_
     refine zBe rfl rfl rfl ?_
     refine zAg rfl rfl rfl ?_
     refine w_p (zAx (v := _) rfl rfl rfl rfl) rfl (zAe (zAc (g6 _ _ (zCh rfl rfl ?_))))
     refine zBq (zAo (zA8 (zAc (g5 _ _ (zAa (w_p (zBj rfl rfl rfl rfl (by omega) (by omega)) rfl (zBa rfl rfl (zAe (zAc (g4 _ _ (nxI (2 - (z + 1)) (by omega) ?_)))))))))))
     first
       | exact ⟨z + 1, v, B, rfl, by omega, rfl, by rw [wTo_no (canZ_n (by omega) (by omega))]; exact hown, hs⟩
       | exact ⟨z + 1, v, B, rfl, by omega, rfl, by rw [zEu (canZ_y (by omega) (by omega)) (q := q) (by omega)]; exact hown2, hs.tail⟩
    try simp only [zS] at ge
    refine w_y rfl rfl rfl (zA1 rfl rfl) rfl ?_
    refine w_y rfl rfl rfl (zBw rfl rfl rfl rfl) rfl ?_
    refine w_y rfl rfl rfl (zAi (v := .bool _) rfl rfl) rfl ?_
    refine zBk (fun gf => ?_) (fun gf => ?_)
    ·
     try simp only [zS] at gf
     refine w_y rfl rfl rfl (zAd (o := 4) (i := 4) underlying43 rfl sizeOf34 rfl rfl rfl) rfl ?_
     refine w_y rfl rfl rfl (zC0 hbz (zAj isAgg34 hs rfl rfl (zAh (i := 1) (vs := [_]) rfl rfl))) rfl ?_
     refine w_y rfl rfl rfl (zAd (o := 1) (i := 1) underlying162 rfl sizeOf3 rfl rfl rfl) rfl ?_
     refine w_y rfl rfl rfl (zAj isAgg3 hs rfl rfl (zAh (i := 2) (vs := [_]) rfl rfl)) rfl ?_
     refine w_y rfl rfl rfl (zBc underlying34 sizeOf3 rfl rfl rfl rfl (i := a) rfl haz) rfl ?_
     refine w_y rfl rfl rfl (zAj isAgg3 hs.tail.tail.tail.tail.drop rfl rfl hxz) rfl ?_
     refine w_y rfl rfl rfl (zBw rfl rfl rfl rfl) rfl ?_
     refine w_y rfl rfl rfl (zAx (v := .bool _) rfl rfl rfl rfl) rfl ?_
     refine w_p (zBd (v := .bool _) rfl rfl rfl rfl) rfl (zAe (zAc (g6 _ _ (zAy rfl rfl (fun gg => ?_) (fun gg => ?_)))))
     ·
      try simp only [zS] at gg
      refine zBq (zAo (zA8 (zAc (g5 _ _ (zAa (w_p (zBj rfl rfl rfl rfl (by omega) (by omega)) rfl (zBa rfl rfl (zAe (zAc (g4 _ _ (nxI (2 - (z + 1)) (by omega) ?_)))))))))))
      first
        | exact ⟨z + 1, v, B, rfl, by omega, rfl, by rw [wTo_no (canZ_n (by omega) (by omega))]; exact hown, hs⟩
        | exact ⟨z + 1, v, B, rfl, by omega, rfl, by rw [zEu (canZ_y (by omega) (by omega)) (q := q) (by omega)]; exact hown2, hs.tail⟩
     try simp only [zS] at gg
     refine zAv (zAc (g9 _ _ (zAf (fun m7 jf => (zAa (w_p (zA7 (vs := [_,_,_]) isAgg162 sizeOf162 hs rfl rfl (zAh (i := 2) (vs := [_,_,_]) rfl rfl)) rfl (zBb (cs := [_,_,_]) zAb zeroValue162 rfl hs (fun jg m8 jh => ?_))))))))
     refine zA4 (i := 0) (v := .agg #[.int _ _, .int _ _, .int _ _]) (vs := [_,_,_]) zAb sizeOf162 rfl rfl rfl rfl rfl (by simp [Value.oneCell']) jh rfl (zNl rfl) (fun m9 hD => ?_)
     refine zAe (zAc (jf _ _ (zAf (fun ma ji => ?_))))
     have hmi := mul_in (s := s) (show z < 2 by omega) hs1
     refine zAa (w_p (zAd (o := 2) (i := 2) underlying162 rfl sizeOf3 rfl rfl rfl) rfl (w_p (zAj isAgg3 hD rfl rfl (zAh (i := 0) (vs := [_]) rfl rfl)) rfl (zBa rfl rfl (w_p (zEi rfl rfl rfl rfl (by omega) (by omega)) rfl ?_))))
     refine w_p (y_mul rfl rfl rfl rfl (by omega) (by omega)) rfl (w_p (zAd (o := 2) (i := 2) underlying162 rfl sizeOf3 rfl rfl rfl) rfl (zA4 (i := 0) (v := .int _ _) (vs := [_]) zAb sizeOf3 rfl rfl rfl rfl rfl (by simp [Value.oneCell']) hD rfl (zNl rfl) (fun mb gh => ?_)))
     refine zAe (zAc (ji _ _ (zAf (fun mc jj => (zAa (w_p (zAd (o := 0) (i := 0) underlying23 rfl sizeOf3 rfl rfl rfl) rfl (w_p (zAj isAgg3 gh rfl rfl (zAh (i := 1) (vs := [_]) rfl rfl)) rfl ?_)))))))
     refine w_p (zAd (o := 1) (i := 1) underlying43 rfl sizeOf3 rfl rfl rfl) rfl (w_p (zAj isAgg3 gh rfl rfl (zAh (i := 2) (vs := [_]) rfl rfl)) rfl (w_p (zEi rfl rfl rfl rfl (by omega) (by omega)) rfl ?_))
     refine w_p (zF4 rfl rfl rfl rfl) rfl (zBl rfl rfl (zAe (zAc (jj _ _ (zAz ?_)))))
     refine zB3 [7,12,13,14,85,86,87,88,89,90,91,92,93,94,95,96,97,98,99,100,101,102,103,104,105,106,107,108,109,110,111,112,113,114,115,116,117,118,119] [7,12] (fun kk vs w => ∃ (q : Nat) (v : Value) (B : List (Nat × Obj)), vs = [v, .int .i64 ((max 0 ((hourOf b a).lo - (ctrOf b c).skip)) + q)] ∧ q ≤ ((hourOf b a).hi + (ctrOf b c).twice + 1 - (max 0 ((hourOf b a).lo - (ctrOf b c).skip))).toNat ∧ kk = ((hourOf b a).hi + (ctrOf b c).twice + 1 - (max 0 ((hourOf b a).lo - (ctrOf b c).skip))).toNat - q ∧ Rt.Own v 141 3 ((wTo (ctrOf b c) (hourOf b a) a s z) ++ wPart (ctrOf b c) a s (decide (z = 1)) (max 0 ((hourOf b a).lo - (ctrOf b c).skip)) q).length (wrows ((wTo (ctrOf b c) (hourOf b a) a s z) ++ wPart (ctrOf b c) a s (decide (z = 1)) (max 0 ((hourOf b a).lo - (ctrOf b c).skip)) q)).flatten B ∧ St w0 w ((jg, blk 162 [.int .i64 (c : Int), .int .i64 (a : Int), .int .i64 (s * (1 - (z : Int)))]) :: (b9, blk 23 [.int .i64 (hourOf b a).lo, .int .i64 (hourOf b a).hi]) :: (b8, blk 43 ((ctrOf b c).cells (p.pc c))) :: (b3, blk 162 [.int .i64 (c : Int), .int .i64 (a : Int), .int .i64 s]) :: (mm, .map (ents (fun l : List Int => ia l) es).toArray ck) :: (B ++ F))) (((hourOf b a).hi + (ctrOf b c).twice + 1 - (max 0 ((hourOf b a).lo - (ctrOf b c).skip))).toNat) ?_ ?_
     ·
      exact ⟨0, v, B, vi (by omega), by omega, by omega, by rw [show wPart (ctrOf b c) a s (decide (z = 1)) (max 0 ((hourOf b a).lo - (ctrOf b c).skip)) 0 = [] from rfl, List.append_nil]; exact hown, gh⟩
     intro k vs μ md hI me gi
     obtain ⟨q, v, B, rfl, hqa, rfl, hown2, hs⟩ := hI
     have hpl := zFb (ctrOf b c) a s (max 0 ((hourOf b a).lo - (ctrOf b c).skip)) (decide (z = 1)) q
     have hpa : ((wTo (ctrOf b c) (hourOf b a) a s z) ++ wPart (ctrOf b c) a s (decide (z = 1)) (max 0 ((hourOf b a).lo - (ctrOf b c).skip)) q).length = (wTo (ctrOf b c) (hourOf b a) a s z).length + (wPart (ctrOf b c) a s (decide (z = 1)) (max 0 ((hourOf b a).lo - (ctrOf b c).skip)) q).length := List.length_append
     refine zAf (fun mf jk => (zAf (fun mg jl => (zAa (zBa rfl rfl (w_p (zAd (o := 1) (i := 1) underlying23 rfl sizeOf3 rfl rfl rfl) rfl (w_p (zAj isAgg3 hs rfl rfl (zAh (i := 1) (vs := [_]) rfl rfl)) rfl ?_)))))))
     refine w_p (zAd (o := 2) (i := 2) underlying43 rfl sizeOf3 rfl rfl rfl) rfl (w_p (zAj isAgg3 hs rfl rfl (zAh (i := 2) (vs := [_]) rfl rfl)) rfl (w_p (zBj rfl rfl rfl rfl (by omega) (by omega)) rfl ?_))
     refine w_p (y_leq rfl rfl rfl rfl) rfl (zAe (zAc (jl _ _ (zAy rfl rfl (fun gj => ?_) (fun gj => ?_)))))
     ·
      try simp only [zS] at gj
      refine zAv (zAc (jk _ _ (zAf (fun mh gk => (zAz ?_)))))
      refine zAf (fun mi jm => (zAa (w_p (zAd (o := 2) (i := 2) underlying162 rfl sizeOf3 rfl rfl rfl) rfl (w_p (zAj isAgg3 hs rfl rfl (zAh (i := 0) (vs := [_]) rfl rfl)) rfl (zBa rfl rfl (w_p (zBj rfl rfl rfl rfl (by omega) (by omega)) rfl ?_))))))
      refine w_p (y_rem rfl rfl rfl rfl (by omega) (by omega)) rfl (zBl rfl rfl (zAe (zAc (jm _ _ (zAf (fun mj jn => (zAa (w_p (zAd (o := 5) (i := 5) underlying43 rfl sizeOf34 rfl rfl rfl) rfl ?_))))))))
      refine w_p (zC0 hbv (zAj isAgg34 hs rfl rfl (zAh (i := 2) (vs := [_]) rfl rfl))) rfl (w_p (zAd (o := 1) (i := 1) underlying162 rfl sizeOf3 rfl rfl rfl) rfl (w_p (zAj isAgg3 hs rfl rfl (zAh (i := 3) (vs := [_]) rfl rfl)) rfl ?_))
      refine w_p (zBc underlying34 sizeOf3 rfl rfl rfl rfl (i := a) rfl has) rfl (w_p (zAj isAgg3 hs.tail.tail.tail.tail.tail.drop rfl rfl hxv) rfl (zBl rfl rfl (zAe (zAc (jn _ _ (zAf (fun ml hO => ?_)))))))
      rw [sh_mul (by omega)]
      refine zAa (zBa rfl rfl (w_p (zBw rfl rfl rfl rfl) rfl (w_p (zAi (v := .bool _) rfl rfl) rfl (zBk (fun gl => ?_) (fun gl => ?_)))))
      ·
       try simp only [zS] at gl
       refine zAg rfl rfl rfl ?_
       refine zAg rfl rfl rfl ?_
       refine zAg rfl rfl rfl ?_
       refine w_p (zAx (v := _) rfl rfl rfl rfl) rfl (zAe (zAc (hO _ _ (zCh rfl rfl ?_))))
       refine zAa (w_p (zAi (v := v) rfl rfl) rfl (zBa rfl rfl (zBa rfl rfl (zBa rfl rfl (w_p (zBw rfl rfl rfl rfl) rfl (w_p (zBy (ps := [(0, _),(1, _),(2, _)]) (pv := [(0, .int _ _),(1, .int _ _),(2, .bool _)]) rfl rfl (fun w => zD2 _ _ _ w)) rfl ?_))))))
       refine zA0 (ps := [(0, _)]) (pv := [(0, .agg #[.int _ _, .int _ _, .bool _])]) (cs := [_,_,_]) zAb rfl rfl (fun w => zD1 _ _ _ w) hs (fun mn mo jo => ?_)
       refine zBu (X := (_ :: _ :: _ :: _ :: _ :: _ :: [])) (B := B) (rows := [[_,_,_]]) (sz := 3) (bytes := 24) zAb underlying160 zDp rfl rfl rfl rfl rfl rfl rfl rfl rfl jo hown2 (zBp (i := 0) rfl (by simp) rfl) rfl (by simp) (by simp [Value.oneCell']) (by simp only [maxLen]; omega) (by omega) (fun jp mq jq jr gm => ?_)
       replace gm := (show St _ _ (_ :: _ :: _ :: _ :: _ :: _ :: jq ++ (F)) from gm)
       refine w_p (zAm (v := jp) rfl rfl) rfl (zAe (zAl (zAc (gk _ _ (zAa (zBa rfl rfl (w_p (zBj rfl rfl rfl rfl (by omega) (by omega)) rfl ?_)))))))
       refine zBl rfl rfl (zAe (zAc (gi _ _ (nxI (((hourOf b a).hi + (ctrOf b c).twice + 1 - (max 0 ((hourOf b a).lo - (ctrOf b c).skip))).toNat - (q + 1)) (by omega) ?_))))
       exact ⟨q + 1, _,_, vi (by omega), by omega, rfl, by rw [zFm (by rw [hgs]; omega), ← List.append_assoc]; exact zGd (by have h9 := jr; rw [hzb] at h9; exact h9), gm.tail⟩
      try simp only [zS] at gl
      refine w_y rfl rfl rfl (zA1 rfl rfl) rfl ?_
      refine w_y rfl rfl rfl (zA1 rfl rfl) rfl ?_
      refine w_y rfl rfl rfl (zBw rfl rfl rfl rfl) rfl ?_
      refine w_p (zBd (v := .bool _) rfl rfl rfl rfl) rfl (zAe (zAc (hO _ _ (zAy rfl rfl (fun gn => ?_) (fun gn => ?_)))))
      ·
       try simp only [zS] at gn
       refine zAa (w_p (zAi (v := v) rfl rfl) rfl (zBa rfl rfl (zBa rfl rfl (zBa rfl rfl (w_p (zBw rfl rfl rfl rfl) rfl (w_p (zBy (ps := [(0, _),(1, _),(2, _)]) (pv := [(0, .int _ _),(1, .int _ _),(2, .bool _)]) rfl rfl (fun w => zD2 _ _ _ w)) rfl ?_))))))
       refine zA0 (ps := [(0, _)]) (pv := [(0, .agg #[.int _ _, .int _ _, .bool _])]) (cs := [_,_,_]) zAb rfl rfl (fun w => zD1 _ _ _ w) hs (fun mr ms js => ?_)
       refine zBu (X := (_ :: _ :: _ :: _ :: _ :: _ :: [])) (B := B) (rows := [[_,_,_]]) (sz := 3) (bytes := 24) zAb underlying160 zDp rfl rfl rfl rfl rfl rfl rfl rfl rfl js hown2 (zBp (i := 0) rfl (by simp) rfl) rfl (by simp) (by simp [Value.oneCell']) (by simp only [maxLen]; omega) (by omega) (fun jt mu ju jv go => ?_)
       replace go := (show St _ _ (_ :: _ :: _ :: _ :: _ :: _ :: ju ++ (F)) from go)
       refine w_p (zAm (v := jt) rfl rfl) rfl (zAe (zAl (zAc (gk _ _ (zAa (zBa rfl rfl (w_p (zBj rfl rfl rfl rfl (by omega) (by omega)) rfl ?_)))))))
       refine zBl rfl rfl (zAe (zAc (gi _ _ (nxI (((hourOf b a).hi + (ctrOf b c).twice + 1 - (max 0 ((hourOf b a).lo - (ctrOf b c).skip))).toNat - (q + 1)) (by omega) ?_))))
       exact ⟨q + 1, _,_, vi (by omega), by omega, rfl, by rw [zFm (by rw [hgs]; omega), ← List.append_assoc]; exact zGd (by have h9 := jv; rw [hzb] at h9; exact h9), go.tail⟩
      try simp only [zS] at gn
      refine zAv (zAl (zAc (gk _ _ (zAa (zBa rfl rfl (w_p (zBj rfl rfl rfl rfl (by omega) (by omega)) rfl (zBl rfl rfl (zAe (zAc (gi _ _ (nxI (((hourOf b a).hi + (ctrOf b c).twice + 1 - (max 0 ((hourOf b a).lo - (ctrOf b c).skip))).toNat - (q + 1)) (by omega) ?_)))))))))))
      exact ⟨q + 1, v, B, vi (by omega), by omega, rfl, by rw [wPart_n (by rw [hgs]; omega)]; exact hown2, hs⟩
     try simp only [zS] at gj
     refine zBq (zAo (zAo (zA8 (zAl (zAc (g5 _ _ (zAa (w_p (zBj rfl rfl rfl rfl (by omega) (by omega)) rfl (zBa rfl rfl (zAe (zAc (g4 _ _ (nxI (2 - (z + 1)) (by omega) ?_)))))))))))))
     first
       | exact ⟨z + 1, v, B, rfl, by omega, rfl, by rw [wTo_no (canZ_n (by omega) (by omega))]; exact hown, hs⟩
       | exact ⟨z + 1, v, B, rfl, by omega, rfl, by rw [zEu (canZ_y (by omega) (by omega)) (q := q) (by omega)]; exact hown2, hs.tail⟩
    try simp only [zS] at gf
    refine zAg rfl rfl rfl ?_
    refine zAg rfl rfl rfl ?_
    refine zAg rfl rfl rfl ?_
    refine zAg rfl rfl rfl ?_
    refine zAg rfl rfl rfl ?_
    refine zAg rfl rfl rfl ?_
    refine zAg rfl rfl rfl ?_
    refine w_y rfl rfl rfl (zBd (v := _) rfl rfl rfl rfl) rfl ?_
    refine w_p (zBd (v := .bool _) rfl rfl rfl rfl) rfl (zAe (zAc (g6 _ _ (zCc rfl rfl ?_))))
    refine zAv (zAc (g9 _ _ (zAf (fun mv jw => (zAa (w_p (zA7 (vs := [_,_,_]) isAgg162 sizeOf162 hs rfl rfl (zAh (i := 2) (vs := [_,_,_]) rfl rfl)) rfl (zBb (cs := [_,_,_]) zAb zeroValue162 rfl hs (fun jx mw jy => ?_))))))))
    refine zA4 (i := 0) (v := .agg #[.int _ _, .int _ _, .int _ _]) (vs := [_,_,_]) zAb sizeOf162 rfl rfl rfl rfl rfl (by simp [Value.oneCell']) jy rfl (zNl rfl) (fun mx hP => ?_)
    refine zAe (zAc (jw _ _ (zAf (fun my jz => ?_))))
    have hmi := mul_in (s := s) (show z < 2 by omega) hs1
    refine zAa (w_p (zAd (o := 2) (i := 2) underlying162 rfl sizeOf3 rfl rfl rfl) rfl (w_p (zAj isAgg3 hP rfl rfl (zAh (i := 0) (vs := [_]) rfl rfl)) rfl (zBa rfl rfl (w_p (zEi rfl rfl rfl rfl (by omega) (by omega)) rfl ?_))))
    refine w_p (y_mul rfl rfl rfl rfl (by omega) (by omega)) rfl (w_p (zAd (o := 2) (i := 2) underlying162 rfl sizeOf3 rfl rfl rfl) rfl (zA4 (i := 0) (v := .int _ _) (vs := [_]) zAb sizeOf3 rfl rfl rfl rfl rfl (by simp [Value.oneCell']) hP rfl (zNl rfl) (fun mz gp => ?_)))
    refine zAe (zAc (jz _ _ (zAf (fun mA jA => (zAa (w_p (zAd (o := 0) (i := 0) underlying23 rfl sizeOf3 rfl rfl rfl) rfl (w_p (zAj isAgg3 gp rfl rfl (zAh (i := 1) (vs := [_]) rfl rfl)) rfl ?_)))))))
    refine w_p (zAd (o := 1) (i := 1) underlying43 rfl sizeOf3 rfl rfl rfl) rfl (w_p (zAj isAgg3 gp rfl rfl (zAh (i := 2) (vs := [_]) rfl rfl)) rfl (w_p (zEi rfl rfl rfl rfl (by omega) (by omega)) rfl ?_))
    refine w_p (zF4 rfl rfl rfl rfl) rfl (zBl rfl rfl (zAe (zAc (jA _ _ (zAz ?_)))))
    refine zB3 [7,12,13,14,85,86,87,88,89,90,91,92,93,94,95,96,97,98,99,100,101,102,103,104,105,106,107,108,109,110,111,112,113,114,115,116,117,118,119] [7,12] (fun kk vs w => ∃ (q : Nat) (v : Value) (B : List (Nat × Obj)), vs = [v, .int .i64 ((max 0 ((hourOf b a).lo - (ctrOf b c).skip)) + q)] ∧ q ≤ ((hourOf b a).hi + (ctrOf b c).twice + 1 - (max 0 ((hourOf b a).lo - (ctrOf b c).skip))).toNat ∧ kk = ((hourOf b a).hi + (ctrOf b c).twice + 1 - (max 0 ((hourOf b a).lo - (ctrOf b c).skip))).toNat - q ∧ Rt.Own v 141 3 ((wTo (ctrOf b c) (hourOf b a) a s z) ++ wPart (ctrOf b c) a s (decide (z = 1)) (max 0 ((hourOf b a).lo - (ctrOf b c).skip)) q).length (wrows ((wTo (ctrOf b c) (hourOf b a) a s z) ++ wPart (ctrOf b c) a s (decide (z = 1)) (max 0 ((hourOf b a).lo - (ctrOf b c).skip)) q)).flatten B ∧ St w0 w ((jx, blk 162 [.int .i64 (c : Int), .int .i64 (a : Int), .int .i64 (s * (1 - (z : Int)))]) :: (b9, blk 23 [.int .i64 (hourOf b a).lo, .int .i64 (hourOf b a).hi]) :: (b8, blk 43 ((ctrOf b c).cells (p.pc c))) :: (b3, blk 162 [.int .i64 (c : Int), .int .i64 (a : Int), .int .i64 s]) :: (mm, .map (ents (fun l : List Int => ia l) es).toArray ck) :: (B ++ F))) (((hourOf b a).hi + (ctrOf b c).twice + 1 - (max 0 ((hourOf b a).lo - (ctrOf b c).skip))).toNat) ?_ ?_
    ·
     exact ⟨0, v, B, vi (by omega), by omega, by omega, by rw [show wPart (ctrOf b c) a s (decide (z = 1)) (max 0 ((hourOf b a).lo - (ctrOf b c).skip)) 0 = [] from rfl, List.append_nil]; exact hown, gp⟩
    intro k vs μ mB hI mC gq
    obtain ⟨q, v, B, rfl, hqa, rfl, hown2, hs⟩ := hI
    have hpl := zFb (ctrOf b c) a s (max 0 ((hourOf b a).lo - (ctrOf b c).skip)) (decide (z = 1)) q
    have hpa : ((wTo (ctrOf b c) (hourOf b a) a s z) ++ wPart (ctrOf b c) a s (decide (z = 1)) (max 0 ((hourOf b a).lo - (ctrOf b c).skip)) q).length = (wTo (ctrOf b c) (hourOf b a) a s z).length + (wPart (ctrOf b c) a s (decide (z = 1)) (max 0 ((hourOf b a).lo - (ctrOf b c).skip)) q).length := List.length_append
    refine zAf (fun mD jB => (zAf (fun mE jC => (zAa (zBa rfl rfl (w_p (zAd (o := 1) (i := 1) underlying23 rfl sizeOf3 rfl rfl rfl) rfl (w_p (zAj isAgg3 hs rfl rfl (zAh (i := 1) (vs := [_]) rfl rfl)) rfl ?_)))))))
    refine w_p (zAd (o := 2) (i := 2) underlying43 rfl sizeOf3 rfl rfl rfl) rfl (w_p (zAj isAgg3 hs rfl rfl (zAh (i := 2) (vs := [_]) rfl rfl)) rfl (w_p (zBj rfl rfl rfl rfl (by omega) (by omega)) rfl ?_))
    refine w_p (y_leq rfl rfl rfl rfl) rfl (zAe (zAc (jC _ _ (zAy rfl rfl (fun gr => ?_) (fun gr => ?_)))))
    ·
     try simp only [zS] at gr
     refine zAv (zAc (jB _ _ (zAf (fun mF gt => (zAz ?_)))))
     refine zAf (fun mG jD => (zAa (w_p (zAd (o := 2) (i := 2) underlying162 rfl sizeOf3 rfl rfl rfl) rfl (w_p (zAj isAgg3 hs rfl rfl (zAh (i := 0) (vs := [_]) rfl rfl)) rfl (zBa rfl rfl (w_p (zBj rfl rfl rfl rfl (by omega) (by omega)) rfl ?_))))))
     refine w_p (y_rem rfl rfl rfl rfl (by omega) (by omega)) rfl (zBl rfl rfl (zAe (zAc (jD _ _ (zAf (fun mH jE => (zAa (w_p (zAd (o := 5) (i := 5) underlying43 rfl sizeOf34 rfl rfl rfl) rfl ?_))))))))
     refine w_p (zC0 hbv (zAj isAgg34 hs rfl rfl (zAh (i := 2) (vs := [_]) rfl rfl))) rfl (w_p (zAd (o := 1) (i := 1) underlying162 rfl sizeOf3 rfl rfl rfl) rfl (w_p (zAj isAgg3 hs rfl rfl (zAh (i := 3) (vs := [_]) rfl rfl)) rfl ?_))
     refine w_p (zBc underlying34 sizeOf3 rfl rfl rfl rfl (i := a) rfl has) rfl (w_p (zAj isAgg3 hs.tail.tail.tail.tail.tail.drop rfl rfl hxv) rfl (zBl rfl rfl (zAe (zAc (jE _ _ (zAf (fun mI hX => ?_)))))))
     rw [sh_mul (by omega)]
     refine zAa (zBa rfl rfl (w_p (zBw rfl rfl rfl rfl) rfl (w_p (zAi (v := .bool _) rfl rfl) rfl (zBk (fun gu => ?_) (fun gu => ?_)))))
     ·
      try simp only [zS] at gu
      refine zAg rfl rfl rfl ?_
      refine zAg rfl rfl rfl ?_
      refine zAg rfl rfl rfl ?_
      refine w_p (zAx (v := _) rfl rfl rfl rfl) rfl (zAe (zAc (hX _ _ (zCh rfl rfl ?_))))
      refine zAa (w_p (zAi (v := v) rfl rfl) rfl (zBa rfl rfl (zBa rfl rfl (zBa rfl rfl (w_p (zBw rfl rfl rfl rfl) rfl (w_p (zBy (ps := [(0, _),(1, _),(2, _)]) (pv := [(0, .int _ _),(1, .int _ _),(2, .bool _)]) rfl rfl (fun w => zD2 _ _ _ w)) rfl ?_))))))
      refine zA0 (ps := [(0, _)]) (pv := [(0, .agg #[.int _ _, .int _ _, .bool _])]) (cs := [_,_,_]) zAb rfl rfl (fun w => zD1 _ _ _ w) hs (fun mJ mK jF => ?_)
      refine zBu (X := (_ :: _ :: _ :: _ :: _ :: _ :: [])) (B := B) (rows := [[_,_,_]]) (sz := 3) (bytes := 24) zAb underlying160 zDp rfl rfl rfl rfl rfl rfl rfl rfl rfl jF hown2 (zBp (i := 0) rfl (by simp) rfl) rfl (by simp) (by simp [Value.oneCell']) (by simp only [maxLen]; omega) (by omega) (fun jG mL jH jI gv => ?_)
      replace gv := (show St _ _ (_ :: _ :: _ :: _ :: _ :: _ :: jH ++ (F)) from gv)
      refine w_p (zAm (v := jG) rfl rfl) rfl (zAe (zAl (zAc (gt _ _ (zAa (zBa rfl rfl (w_p (zBj rfl rfl rfl rfl (by omega) (by omega)) rfl ?_)))))))
      refine zBl rfl rfl (zAe (zAc (gq _ _ (nxI (((hourOf b a).hi + (ctrOf b c).twice + 1 - (max 0 ((hourOf b a).lo - (ctrOf b c).skip))).toNat - (q + 1)) (by omega) ?_))))
      exact ⟨q + 1, _,_, vi (by omega), by omega, rfl, by rw [zFm (by rw [hgs]; omega), ← List.append_assoc]; exact zGd (by have h9 := jI; rw [hzb] at h9; exact h9), gv.tail⟩
     try simp only [zS] at gu
     refine w_y rfl rfl rfl (zA1 rfl rfl) rfl ?_
     refine w_y rfl rfl rfl (zA1 rfl rfl) rfl ?_
     refine w_y rfl rfl rfl (zBw rfl rfl rfl rfl) rfl ?_
     refine w_p (zBd (v := .bool _) rfl rfl rfl rfl) rfl (zAe (zAc (hX _ _ (zAy rfl rfl (fun gw => ?_) (fun gw => ?_)))))
     ·
      try simp only [zS] at gw
      refine zAa (w_p (zAi (v := v) rfl rfl) rfl (zBa rfl rfl (zBa rfl rfl (zBa rfl rfl (w_p (zBw rfl rfl rfl rfl) rfl (w_p (zBy (ps := [(0, _),(1, _),(2, _)]) (pv := [(0, .int _ _),(1, .int _ _),(2, .bool _)]) rfl rfl (fun w => zD2 _ _ _ w)) rfl ?_))))))
      refine zA0 (ps := [(0, _)]) (pv := [(0, .agg #[.int _ _, .int _ _, .bool _])]) (cs := [_,_,_]) zAb rfl rfl (fun w => zD1 _ _ _ w) hs (fun mM mO jJ => ?_)
      refine zBu (X := (_ :: _ :: _ :: _ :: _ :: _ :: [])) (B := B) (rows := [[_,_,_]]) (sz := 3) (bytes := 24) zAb underlying160 zDp rfl rfl rfl rfl rfl rfl rfl rfl rfl jJ hown2 (zBp (i := 0) rfl (by simp) rfl) rfl (by simp) (by simp [Value.oneCell']) (by simp only [maxLen]; omega) (by omega) (fun jK mP jL jM gx => ?_)
      replace gx := (show St _ _ (_ :: _ :: _ :: _ :: _ :: _ :: jL ++ (F)) from gx)
      refine w_p (zAm (v := jK) rfl rfl) rfl (zAe (zAl (zAc (gt _ _ (zAa (zBa rfl rfl (w_p (zBj rfl rfl rfl rfl (by omega) (by omega)) rfl ?_)))))))
      refine zBl rfl rfl (zAe (zAc (gq _ _ (nxI (((hourOf b a).hi + (ctrOf b c).twice + 1 - (max 0 ((hourOf b a).lo - (ctrOf b c).skip))).toNat - (q + 1)) (by omega) ?_))))
      exact ⟨q + 1, _,_, vi (by omega), by omega, rfl, by rw [zFm (by rw [hgs]; omega), ← List.append_assoc]; exact zGd (by have h9 := jM; rw [hzb] at h9; exact h9), gx.tail⟩
     try simp only [zS] at gw
     refine zAv (zAl (zAc (gt _ _ (zAa (zBa rfl rfl (w_p (zBj rfl rfl rfl rfl (by omega) (by omega)) rfl (zBl rfl rfl (zAe (zAc (gq _ _ (nxI (((hourOf b a).hi + (ctrOf b c).twice + 1 - (max 0 ((hourOf b a).lo - (ctrOf b c).skip))).toNat - (q + 1)) (by omega) ?_)))))))))))
     exact ⟨q + 1, v, B, vi (by omega), by omega, rfl, by rw [wPart_n (by rw [hgs]; omega)]; exact hown2, hs⟩
    try simp only [zS] at gr
    refine zBq (zAo (zAo (zA8 (zAl (zAc (g5 _ _ (zAa (w_p (zBj rfl rfl rfl rfl (by omega) (by omega)) rfl (zBa rfl rfl (zAe (zAc (g4 _ _ (nxI (2 - (z + 1)) (by omega) ?_)))))))))))))
    first
      | exact ⟨z + 1, v, B, rfl, by omega, rfl, by rw [wTo_no (canZ_n (by omega) (by omega))]; exact hown, hs⟩
      | exact ⟨z + 1, v, B, rfl, by omega, rfl, by rw [zEu (canZ_y (by omega) (by omega)) (q := q) (by omega)]; exact hown2, hs.tail⟩
   try simp only [zS] at gd
   refine zAg rfl rfl rfl ?_
   refine zAg rfl rfl rfl ?_
   refine zAg rfl rfl rfl ?_
   refine zAg rfl rfl rfl ?_
   refine zAg rfl rfl rfl ?_
   refine zAg rfl rfl rfl ?_
   refine zAg rfl rfl rfl ?_
   refine w_p (zBd (v := _) rfl rfl rfl rfl) rfl (w_p (zAi (v := .bool _) rfl rfl) rfl (w_y rfl rfl rfl (zA1 rfl rfl) rfl (w_y rfl rfl rfl (zBw rfl rfl rfl rfl) rfl (w_y rfl rfl rfl (zAi (v := .bool _) rfl rfl) rfl ?_))))
   refine zBk (fun gy => ?_) (fun gy => ?_)
   ·
    try simp only [zS] at gy
    refine w_y rfl rfl rfl (zAd (o := 4) (i := 4) underlying43 rfl sizeOf34 rfl rfl rfl) rfl ?_
    refine w_y rfl rfl rfl (zC0 hbz (zAj isAgg34 hs rfl rfl (zAh (i := 1) (vs := [_]) rfl rfl))) rfl ?_
    refine w_y rfl rfl rfl (zAd (o := 1) (i := 1) underlying162 rfl sizeOf3 rfl rfl rfl) rfl ?_
    refine w_y rfl rfl rfl (zAj isAgg3 hs rfl rfl (zAh (i := 2) (vs := [_]) rfl rfl)) rfl ?_
    refine w_y rfl rfl rfl (zBc underlying34 sizeOf3 rfl rfl rfl rfl (i := a) rfl haz) rfl ?_
    refine w_y rfl rfl rfl (zAj isAgg3 hs.tail.tail.tail.tail.drop rfl rfl hxz) rfl ?_
    refine w_y rfl rfl rfl (zBw rfl rfl rfl rfl) rfl ?_
    refine w_y rfl rfl rfl (zAx (v := .bool _) rfl rfl rfl rfl) rfl ?_
    refine w_p (zBd (v := .bool _) rfl rfl rfl rfl) rfl (zAe (zAc (g6 _ _ (zAy rfl rfl (fun gz => ?_) (fun gz => ?_)))))
    ·
     try simp only [zS] at gz
     refine zBq (zAo (zA8 (zAc (g5 _ _ (zAa (w_p (zBj rfl rfl rfl rfl (by omega) (by omega)) rfl (zBa rfl rfl (zAe (zAc (g4 _ _ (nxI (2 - (z + 1)) (by omega) ?_)))))))))))
     first
       | exact ⟨z + 1, v, B, rfl, by omega, rfl, by rw [wTo_no (canZ_n (by omega) (by omega))]; exact hown, hs⟩
       | exact ⟨z + 1, v, B, rfl, by omega, rfl, by rw [zEu (canZ_y (by omega) (by omega)) (q := q) (by omega)]; exact hown2, hs.tail⟩
    try simp only [zS] at gz
    refine zAv (zAc (g9 _ _ (zAf (fun mQ jN => (zAa (w_p (zA7 (vs := [_,_,_]) isAgg162 sizeOf162 hs rfl rfl (zAh (i := 2) (vs := [_,_,_]) rfl rfl)) rfl (zBb (cs := [_,_,_]) zAb zeroValue162 rfl hs (fun jO mR jP => ?_))))))))
    refine zA4 (i := 0) (v := .agg #[.int _ _, .int _ _, .int _ _]) (vs := [_,_,_]) zAb sizeOf162 rfl rfl rfl rfl rfl (by simp [Value.oneCell']) jP rfl (zNl rfl) (fun mS hY => ?_)
    refine zAe (zAc (jN _ _ (zAf (fun mT jQ => ?_))))
    have hmi := mul_in (s := s) (show z < 2 by omega) hs1
    refine zAa (w_p (zAd (o := 2) (i := 2) underlying162 rfl sizeOf3 rfl rfl rfl) rfl (w_p (zAj isAgg3 hY rfl rfl (zAh (i := 0) (vs := [_]) rfl rfl)) rfl (zBa rfl rfl (w_p (zEi rfl rfl rfl rfl (by omega) (by omega)) rfl ?_))))
    refine w_p (y_mul rfl rfl rfl rfl (by omega) (by omega)) rfl (w_p (zAd (o := 2) (i := 2) underlying162 rfl sizeOf3 rfl rfl rfl) rfl (zA4 (i := 0) (v := .int _ _) (vs := [_]) zAb sizeOf3 rfl rfl rfl rfl rfl (by simp [Value.oneCell']) hY rfl (zNl rfl) (fun mU gA => ?_)))
    refine zAe (zAc (jQ _ _ (zAf (fun mV jR => (zAa (w_p (zAd (o := 0) (i := 0) underlying23 rfl sizeOf3 rfl rfl rfl) rfl (w_p (zAj isAgg3 gA rfl rfl (zAh (i := 1) (vs := [_]) rfl rfl)) rfl ?_)))))))
    refine w_p (zAd (o := 1) (i := 1) underlying43 rfl sizeOf3 rfl rfl rfl) rfl (w_p (zAj isAgg3 gA rfl rfl (zAh (i := 2) (vs := [_]) rfl rfl)) rfl (w_p (zEi rfl rfl rfl rfl (by omega) (by omega)) rfl ?_))
    refine w_p (zF4 rfl rfl rfl rfl) rfl (zBl rfl rfl (zAe (zAc (jR _ _ (zAz ?_)))))
    refine zB3 [7,12,13,14,85,86,87,88,89,90,91,92,93,94,95,96,97,98,99,100,101,102,103,104,105,106,107,108,109,110,111,112,113,114,115,116,117,118,119] [7,12] (fun kk vs w => ∃ (q : Nat) (v : Value) (B : List (Nat × Obj)), vs = [v, .int .i64 ((max 0 ((hourOf b a).lo - (ctrOf b c).skip)) + q)] ∧ q ≤ ((hourOf b a).hi + (ctrOf b c).twice + 1 - (max 0 ((hourOf b a).lo - (ctrOf b c).skip))).toNat ∧ kk = ((hourOf b a).hi + (ctrOf b c).twice + 1 - (max 0 ((hourOf b a).lo - (ctrOf b c).skip))).toNat - q ∧ Rt.Own v 141 3 ((wTo (ctrOf b c) (hourOf b a) a s z) ++ wPart (ctrOf b c) a s (decide (z = 1)) (max 0 ((hourOf b a).lo - (ctrOf b c).skip)) q).length (wrows ((wTo (ctrOf b c) (hourOf b a) a s z) ++ wPart (ctrOf b c) a s (decide (z = 1)) (max 0 ((hourOf b a).lo - (ctrOf b c).skip)) q)).flatten B ∧ St w0 w ((jO, blk 162 [.int .i64 (c : Int), .int .i64 (a : Int), .int .i64 (s * (1 - (z : Int)))]) :: (b9, blk 23 [.int .i64 (hourOf b a).lo, .int .i64 (hourOf b a).hi]) :: (b8, blk 43 ((ctrOf b c).cells (p.pc c))) :: (b3, blk 162 [.int .i64 (c : Int), .int .i64 (a : Int), .int .i64 s]) :: (mm, .map (ents (fun l : List Int => ia l) es).toArray ck) :: (B ++ F))) (((hourOf b a).hi + (ctrOf b c).twice + 1 - (max 0 ((hourOf b a).lo - (ctrOf b c).skip))).toNat) ?_ ?_
    ·
     exact ⟨0, v, B, vi (by omega), by omega, by omega, by rw [show wPart (ctrOf b c) a s (decide (z = 1)) (max 0 ((hourOf b a).lo - (ctrOf b c).skip)) 0 = [] from rfl, List.append_nil]; exact hown, gA⟩
    intro k vs μ mW hI mX gB
    obtain ⟨q, v, B, rfl, hqa, rfl, hown2, hs⟩ := hI
    have hpl := zFb (ctrOf b c) a s (max 0 ((hourOf b a).lo - (ctrOf b c).skip)) (decide (z = 1)) q
    have hpa : ((wTo (ctrOf b c) (hourOf b a) a s z) ++ wPart (ctrOf b c) a s (decide (z = 1)) (max 0 ((hourOf b a).lo - (ctrOf b c).skip)) q).length = (wTo (ctrOf b c) (hourOf b a) a s z).length + (wPart (ctrOf b c) a s (decide (z = 1)) (max 0 ((hourOf b a).lo - (ctrOf b c).skip)) q).length := List.length_append
    refine zAf (fun mY jS => (zAf (fun mZ jT => (zAa (zBa rfl rfl (w_p (zAd (o := 1) (i := 1) underlying23 rfl sizeOf3 rfl rfl rfl) rfl (w_p (zAj isAgg3 hs rfl rfl (zAh (i := 1) (vs := [_]) rfl rfl)) rfl ?_)))))))
    refine w_p (zAd (o := 2) (i := 2) underlying43 rfl sizeOf3 rfl rfl rfl) rfl (w_p (zAj isAgg3 hs rfl rfl (zAh (i := 2) (vs := [_]) rfl rfl)) rfl (w_p (zBj rfl rfl rfl rfl (by omega) (by omega)) rfl ?_))
    refine w_p (y_leq rfl rfl rfl rfl) rfl (zAe (zAc (jT _ _ (zAy rfl rfl (fun gC => ?_) (fun gC => ?_)))))
    ·
     try simp only [zS] at gC
     refine zAv (zAc (jS _ _ (zAf (fun q0 gD => (zAz ?_)))))
     refine zAf (fun q1 jU => (zAa (w_p (zAd (o := 2) (i := 2) underlying162 rfl sizeOf3 rfl rfl rfl) rfl (w_p (zAj isAgg3 hs rfl rfl (zAh (i := 0) (vs := [_]) rfl rfl)) rfl (zBa rfl rfl (w_p (zBj rfl rfl rfl rfl (by omega) (by omega)) rfl ?_))))))
     refine w_p (y_rem rfl rfl rfl rfl (by omega) (by omega)) rfl (zBl rfl rfl (zAe (zAc (jU _ _ (zAf (fun q2 jV => (zAa (w_p (zAd (o := 5) (i := 5) underlying43 rfl sizeOf34 rfl rfl rfl) rfl ?_))))))))
     refine w_p (zC0 hbv (zAj isAgg34 hs rfl rfl (zAh (i := 2) (vs := [_]) rfl rfl))) rfl (w_p (zAd (o := 1) (i := 1) underlying162 rfl sizeOf3 rfl rfl rfl) rfl (w_p (zAj isAgg3 hs rfl rfl (zAh (i := 3) (vs := [_]) rfl rfl)) rfl ?_))
     refine w_p (zBc underlying34 sizeOf3 rfl rfl rfl rfl (i := a) rfl has) rfl (w_p (zAj isAgg3 hs.tail.tail.tail.tail.tail.drop rfl rfl hxv) rfl (zBl rfl rfl (zAe (zAc (jV _ _ (zAf (fun q3 j0 => ?_)))))))
     rw [sh_mul (by omega)]
     refine zAa (zBa rfl rfl (w_p (zBw rfl rfl rfl rfl) rfl (w_p (zAi (v := .bool _) rfl rfl) rfl (zBk (fun gE => ?_) (fun gE => ?_)))))
     ·
      try simp only [zS] at gE
      refine zAg rfl rfl rfl ?_
      refine zAg rfl rfl rfl ?_
      refine zAg rfl rfl rfl ?_
      refine w_p (zAx (v := _) rfl rfl rfl rfl) rfl (zAe (zAc (j0 _ _ (zCh rfl rfl ?_))))
      refine zAa (w_p (zAi (v := v) rfl rfl) rfl (zBa rfl rfl (zBa rfl rfl (zBa rfl rfl (w_p (zBw rfl rfl rfl rfl) rfl (w_p (zBy (ps := [(0, _),(1, _),(2, _)]) (pv := [(0, .int _ _),(1, .int _ _),(2, .bool _)]) rfl rfl (fun w => zD2 _ _ _ w)) rfl ?_))))))
      refine zA0 (ps := [(0, _)]) (pv := [(0, .agg #[.int _ _, .int _ _, .bool _])]) (cs := [_,_,_]) zAb rfl rfl (fun w => zD1 _ _ _ w) hs (fun q4 q5 jW => ?_)
      refine zBu (X := (_ :: _ :: _ :: _ :: _ :: _ :: [])) (B := B) (rows := [[_,_,_]]) (sz := 3) (bytes := 24) zAb underlying160 zDp rfl rfl rfl rfl rfl rfl rfl rfl rfl jW hown2 (zBp (i := 0) rfl (by simp) rfl) rfl (by simp) (by simp [Value.oneCell']) (by simp only [maxLen]; omega) (by omega) (fun jX q6 jY jZ gF => ?_)
      replace gF := (show St _ _ (_ :: _ :: _ :: _ :: _ :: _ :: jY ++ (F)) from gF)
      refine w_p (zAm (v := jX) rfl rfl) rfl (zAe (zAl (zAc (gD _ _ (zAa (zBa rfl rfl (w_p (zBj rfl rfl rfl rfl (by omega) (by omega)) rfl ?_)))))))
      refine zBl rfl rfl (zAe (zAc (gB _ _ (nxI (((hourOf b a).hi + (ctrOf b c).twice + 1 - (max 0 ((hourOf b a).lo - (ctrOf b c).skip))).toNat - (q + 1)) (by omega) ?_))))
      exact ⟨q + 1, _,_, vi (by omega), by omega, rfl, by rw [zFm (by rw [hgs]; omega), ← List.append_assoc]; exact zGd (by have h9 := jZ; rw [hzb] at h9; exact h9), gF.tail⟩
     try simp only [zS] at gE
     refine w_y rfl rfl rfl (zA1 rfl rfl) rfl ?_
     refine w_y rfl rfl rfl (zA1 rfl rfl) rfl ?_
     refine w_y rfl rfl rfl (zBw rfl rfl rfl rfl) rfl ?_
     refine w_p (zBd (v := .bool _) rfl rfl rfl rfl) rfl (zAe (zAc (j0 _ _ (zAy rfl rfl (fun gG => ?_) (fun gG => ?_)))))
     ·
      try simp only [zS] at gG
      refine zAa (w_p (zAi (v := v) rfl rfl) rfl (zBa rfl rfl (zBa rfl rfl (zBa rfl rfl (w_p (zBw rfl rfl rfl rfl) rfl (w_p (zBy (ps := [(0, _),(1, _),(2, _)]) (pv := [(0, .int _ _),(1, .int _ _),(2, .bool _)]) rfl rfl (fun w => zD2 _ _ _ w)) rfl ?_))))))
      refine zA0 (ps := [(0, _)]) (pv := [(0, .agg #[.int _ _, .int _ _, .bool _])]) (cs := [_,_,_]) zAb rfl rfl (fun w => zD1 _ _ _ w) hs (fun q7 q8 ka => ?_)
      refine zBu (X := (_ :: _ :: _ :: _ :: _ :: _ :: [])) (B := B) (rows := [[_,_,_]]) (sz := 3) (bytes := 24) zAb underlying160 zDp rfl rfl rfl rfl rfl rfl rfl rfl rfl ka hown2 (zBp (i := 0) rfl (by simp) rfl) rfl (by simp) (by simp [Value.oneCell']) (by simp only [maxLen]; omega) (by omega) (fun kb q9 kc kd gH => ?_)
      replace gH := (show St _ _ (_ :: _ :: _ :: _ :: _ :: _ :: kc ++ (F)) from gH)
      refine w_p (zAm (v := kb) rfl rfl) rfl (zAe (zAl (zAc (gD _ _ (zAa (zBa rfl rfl (w_p (zBj rfl rfl rfl rfl (by omega) (by omega)) rfl ?_)))))))
      refine zBl rfl rfl (zAe (zAc (gB _ _ (nxI (((hourOf b a).hi + (ctrOf b c).twice + 1 - (max 0 ((hourOf b a).lo - (ctrOf b c).skip))).toNat - (q + 1)) (by omega) ?_))))
      exact ⟨q + 1, _,_, vi (by omega), by omega, rfl, by rw [zFm (by rw [hgs]; omega), ← List.append_assoc]; exact zGd (by have h9 := kd; rw [hzb] at h9; exact h9), gH.tail⟩
     try simp only [zS] at gG
     refine zAv (zAl (zAc (gD _ _ (zAa (zBa rfl rfl (w_p (zBj rfl rfl rfl rfl (by omega) (by omega)) rfl (zBl rfl rfl (zAe (zAc (gB _ _ (nxI (((hourOf b a).hi + (ctrOf b c).twice + 1 - (max 0 ((hourOf b a).lo - (ctrOf b c).skip))).toNat - (q + 1)) (by omega) ?_)))))))))))
     exact ⟨q + 1, v, B, vi (by omega), by omega, rfl, by rw [wPart_n (by rw [hgs]; omega)]; exact hown2, hs⟩
    try simp only [zS] at gC
    refine zBq (zAo (zAo (zA8 (zAl (zAc (g5 _ _ (zAa (w_p (zBj rfl rfl rfl rfl (by omega) (by omega)) rfl (zBa rfl rfl (zAe (zAc (g4 _ _ (nxI (2 - (z + 1)) (by omega) ?_)))))))))))))
    first
      | exact ⟨z + 1, v, B, rfl, by omega, rfl, by rw [wTo_no (canZ_n (by omega) (by omega))]; exact hown, hs⟩
      | exact ⟨z + 1, v, B, rfl, by omega, rfl, by rw [zEu (canZ_y (by omega) (by omega)) (q := q) (by omega)]; exact hown2, hs.tail⟩
   try simp only [zS] at gy
   refine zAg rfl rfl rfl ?_
   refine zAg rfl rfl rfl ?_
   refine zAg rfl rfl rfl ?_
   refine zAg rfl rfl rfl ?_
   refine zAg rfl rfl rfl ?_
   refine zAg rfl rfl rfl ?_
   refine zAg rfl rfl rfl ?_
   refine w_y rfl rfl rfl (zBd (v := _) rfl rfl rfl rfl) rfl ?_
   refine w_p (zBd (v := .bool _) rfl rfl rfl rfl) rfl (zAe (zAc (g6 _ _ (zCc rfl rfl ?_))))
   refine zAv (zAc (g9 _ _ (zAf (fun qa ke => (zAa (w_p (zA7 (vs := [_,_,_]) isAgg162 sizeOf162 hs rfl rfl (zAh (i := 2) (vs := [_,_,_]) rfl rfl)) rfl (zBb (cs := [_,_,_]) zAb zeroValue162 rfl hs (fun kf qb kg => ?_))))))))
   refine zA4 (i := 0) (v := .agg #[.int _ _, .int _ _, .int _ _]) (vs := [_,_,_]) zAb sizeOf162 rfl rfl rfl rfl rfl (by simp [Value.oneCell']) kg rfl (zNl rfl) (fun qd j1 => ?_)
   refine zAe (zAc (ke _ _ (zAf (fun qe kh => ?_))))
   have hmi := mul_in (s := s) (show z < 2 by omega) hs1
   refine zAa (w_p (zAd (o := 2) (i := 2) underlying162 rfl sizeOf3 rfl rfl rfl) rfl (w_p (zAj isAgg3 j1 rfl rfl (zAh (i := 0) (vs := [_]) rfl rfl)) rfl (zBa rfl rfl (w_p (zEi rfl rfl rfl rfl (by omega) (by omega)) rfl ?_))))
   refine w_p (y_mul rfl rfl rfl rfl (by omega) (by omega)) rfl (w_p (zAd (o := 2) (i := 2) underlying162 rfl sizeOf3 rfl rfl rfl) rfl (zA4 (i := 0) (v := .int _ _) (vs := [_]) zAb sizeOf3 rfl rfl rfl rfl rfl (by simp [Value.oneCell']) j1 rfl (zNl rfl) (fun qf gI => ?_)))
   refine zAe (zAc (kh _ _ (zAf (fun qg ki => (zAa (w_p (zAd (o := 0) (i := 0) underlying23 rfl sizeOf3 rfl rfl rfl) rfl (w_p (zAj isAgg3 gI rfl rfl (zAh (i := 1) (vs := [_]) rfl rfl)) rfl ?_)))))))
   refine w_p (zAd (o := 1) (i := 1) underlying43 rfl sizeOf3 rfl rfl rfl) rfl (w_p (zAj isAgg3 gI rfl rfl (zAh (i := 2) (vs := [_]) rfl rfl)) rfl (w_p (zEi rfl rfl rfl rfl (by omega) (by omega)) rfl ?_))
   refine w_p (zF4 rfl rfl rfl rfl) rfl (zBl rfl rfl (zAe (zAc (ki _ _ (zAz ?_)))))
   refine zB3 [7,12,13,14,85,86,87,88,89,90,91,92,93,94,95,96,97,98,99,100,101,102,103,104,105,106,107,108,109,110,111,112,113,114,115,116,117,118,119] [7,12] (fun kk vs w => ∃ (q : Nat) (v : Value) (B : List (Nat × Obj)), vs = [v, .int .i64 ((max 0 ((hourOf b a).lo - (ctrOf b c).skip)) + q)] ∧ q ≤ ((hourOf b a).hi + (ctrOf b c).twice + 1 - (max 0 ((hourOf b a).lo - (ctrOf b c).skip))).toNat ∧ kk = ((hourOf b a).hi + (ctrOf b c).twice + 1 - (max 0 ((hourOf b a).lo - (ctrOf b c).skip))).toNat - q ∧ Rt.Own v 141 3 ((wTo (ctrOf b c) (hourOf b a) a s z) ++ wPart (ctrOf b c) a s (decide (z = 1)) (max 0 ((hourOf b a).lo - (ctrOf b c).skip)) q).length (wrows ((wTo (ctrOf b c) (hourOf b a) a s z) ++ wPart (ctrOf b c) a s (decide (z = 1)) (max 0 ((hourOf b a).lo - (ctrOf b c).skip)) q)).flatten B ∧ St w0 w ((kf, blk 162 [.int .i64 (c : Int), .int .i64 (a : Int), .int .i64 (s * (1 - (z : Int)))]) :: (b9, blk 23 [.int .i64 (hourOf b a).lo, .int .i64 (hourOf b a).hi]) :: (b8, blk 43 ((ctrOf b c).cells (p.pc c))) :: (b3, blk 162 [.int .i64 (c : Int), .int .i64 (a : Int), .int .i64 s]) :: (mm, .map (ents (fun l : List Int => ia l) es).toArray ck) :: (B ++ F))) (((hourOf b a).hi + (ctrOf b c).twice + 1 - (max 0 ((hourOf b a).lo - (ctrOf b c).skip))).toNat) ?_ ?_
   ·
    exact ⟨0, v, B, vi (by omega), by omega, by omega, by rw [show wPart (ctrOf b c) a s (decide (z = 1)) (max 0 ((hourOf b a).lo - (ctrOf b c).skip)) 0 = [] from rfl, List.append_nil]; exact hown, gI⟩
   intro k vs μ qh hI qi gJ
   obtain ⟨q, v, B, rfl, hqa, rfl, hown2, hs⟩ := hI
   have hpl := zFb (ctrOf b c) a s (max 0 ((hourOf b a).lo - (ctrOf b c).skip)) (decide (z = 1)) q
   have hpa : ((wTo (ctrOf b c) (hourOf b a) a s z) ++ wPart (ctrOf b c) a s (decide (z = 1)) (max 0 ((hourOf b a).lo - (ctrOf b c).skip)) q).length = (wTo (ctrOf b c) (hourOf b a) a s z).length + (wPart (ctrOf b c) a s (decide (z = 1)) (max 0 ((hourOf b a).lo - (ctrOf b c).skip)) q).length := List.length_append
   refine zAf (fun qj kj => (zAf (fun qk km => (zAa (zBa rfl rfl (w_p (zAd (o := 1) (i := 1) underlying23 rfl sizeOf3 rfl rfl rfl) rfl (w_p (zAj isAgg3 hs rfl rfl (zAh (i := 1) (vs := [_]) rfl rfl)) rfl ?_)))))))
   refine w_p (zAd (o := 2) (i := 2) underlying43 rfl sizeOf3 rfl rfl rfl) rfl (w_p (zAj isAgg3 hs rfl rfl (zAh (i := 2) (vs := [_]) rfl rfl)) rfl (w_p (zBj rfl rfl rfl rfl (by omega) (by omega)) rfl ?_))
   refine w_p (y_leq rfl rfl rfl rfl) rfl (zAe (zAc (km _ _ (zAy rfl rfl (fun gK => ?_) (fun gK => ?_)))))
   ·
    try simp only [zS] at gK
    refine zAv (zAc (kj _ _ (zAf (fun ql gL => (zAz ?_)))))
    refine zAf (fun qm kn => (zAa (w_p (zAd (o := 2) (i := 2) underlying162 rfl sizeOf3 rfl rfl rfl) rfl (w_p (zAj isAgg3 hs rfl rfl (zAh (i := 0) (vs := [_]) rfl rfl)) rfl (zBa rfl rfl (w_p (zBj rfl rfl rfl rfl (by omega) (by omega)) rfl ?_))))))
    refine w_p (y_rem rfl rfl rfl rfl (by omega) (by omega)) rfl (zBl rfl rfl (zAe (zAc (kn _ _ (zAf (fun qo ko => (zAa (w_p (zAd (o := 5) (i := 5) underlying43 rfl sizeOf34 rfl rfl rfl) rfl ?_))))))))
    refine w_p (zC0 hbv (zAj isAgg34 hs rfl rfl (zAh (i := 2) (vs := [_]) rfl rfl))) rfl (w_p (zAd (o := 1) (i := 1) underlying162 rfl sizeOf3 rfl rfl rfl) rfl (w_p (zAj isAgg3 hs rfl rfl (zAh (i := 3) (vs := [_]) rfl rfl)) rfl ?_))
    refine w_p (zBc underlying34 sizeOf3 rfl rfl rfl rfl (i := a) rfl has) rfl (w_p (zAj isAgg3 hs.tail.tail.tail.tail.tail.drop rfl rfl hxv) rfl (zBl rfl rfl (zAe (zAc (ko _ _ (zAf (fun qp j2 => ?_)))))))
    rw [sh_mul (by omega)]
    refine zAa (zBa rfl rfl (w_p (zBw rfl rfl rfl rfl) rfl (w_p (zAi (v := .bool _) rfl rfl) rfl (zBk (fun gM => ?_) (fun gM => ?_)))))
    ·
     try simp only [zS] at gM
     refine zAg rfl rfl rfl ?_
     refine zAg rfl rfl rfl ?_
     refine zAg rfl rfl rfl ?_
     refine w_p (zAx (v := _) rfl rfl rfl rfl) rfl (zAe (zAc (j2 _ _ (zCh rfl rfl ?_))))
     refine zAa (w_p (zAi (v := v) rfl rfl) rfl (zBa rfl rfl (zBa rfl rfl (zBa rfl rfl (w_p (zBw rfl rfl rfl rfl) rfl (w_p (zBy (ps := [(0, _),(1, _),(2, _)]) (pv := [(0, .int _ _),(1, .int _ _),(2, .bool _)]) rfl rfl (fun w => zD2 _ _ _ w)) rfl ?_))))))
     refine zA0 (ps := [(0, _)]) (pv := [(0, .agg #[.int _ _, .int _ _, .bool _])]) (cs := [_,_,_]) zAb rfl rfl (fun w => zD1 _ _ _ w) hs (fun qq qr kp => ?_)
     refine zBu (X := (_ :: _ :: _ :: _ :: _ :: _ :: [])) (B := B) (rows := [[_,_,_]]) (sz := 3) (bytes := 24) zAb underlying160 zDp rfl rfl rfl rfl rfl rfl rfl rfl rfl kp hown2 (zBp (i := 0) rfl (by simp) rfl) rfl (by simp) (by simp [Value.oneCell']) (by simp only [maxLen]; omega) (by omega) (fun kq qs kr ku gN => ?_)
     replace gN := (show St _ _ (_ :: _ :: _ :: _ :: _ :: _ :: kr ++ (F)) from gN)
     refine w_p (zAm (v := kq) rfl rfl) rfl (zAe (zAl (zAc (gL _ _ (zAa (zBa rfl rfl (w_p (zBj rfl rfl rfl rfl (by omega) (by omega)) rfl ?_)))))))
     refine zBl rfl rfl (zAe (zAc (gJ _ _ (nxI (((hourOf b a).hi + (ctrOf b c).twice + 1 - (max 0 ((hourOf b a).lo - (ctrOf b c).skip))).toNat - (q + 1)) (by omega) ?_))))
     exact ⟨q + 1, _,_, vi (by omega), by omega, rfl, by rw [zFm (by rw [hgs]; omega), ← List.append_assoc]; exact zGd (by have h9 := ku; rw [hzb] at h9; exact h9), gN.tail⟩
    try simp only [zS] at gM
    refine w_y rfl rfl rfl (zA1 rfl rfl) rfl ?_
    refine w_y rfl rfl rfl (zA1 rfl rfl) rfl ?_
    refine w_y rfl rfl rfl (zBw rfl rfl rfl rfl) rfl ?_
    refine w_p (zBd (v := .bool _) rfl rfl rfl rfl) rfl (zAe (zAc (j2 _ _ (zAy rfl rfl (fun gO => ?_) (fun gO => ?_)))))
    ·
     try simp only [zS] at gO
     refine zAa (w_p (zAi (v := v) rfl rfl) rfl (zBa rfl rfl (zBa rfl rfl (zBa rfl rfl (w_p (zBw rfl rfl rfl rfl) rfl (w_p (zBy (ps := [(0, _),(1, _),(2, _)]) (pv := [(0, .int _ _),(1, .int _ _),(2, .bool _)]) rfl rfl (fun w => zD2 _ _ _ w)) rfl ?_))))))
     refine zA0 (ps := [(0, _)]) (pv := [(0, .agg #[.int _ _, .int _ _, .bool _])]) (cs := [_,_,_]) zAb rfl rfl (fun w => zD1 _ _ _ w) hs (fun qt qu kw => ?_)
     refine zBu (X := (_ :: _ :: _ :: _ :: _ :: _ :: [])) (B := B) (rows := [[_,_,_]]) (sz := 3) (bytes := 24) zAb underlying160 zDp rfl rfl rfl rfl rfl rfl rfl rfl rfl kw hown2 (zBp (i := 0) rfl (by simp) rfl) rfl (by simp) (by simp [Value.oneCell']) (by simp only [maxLen]; omega) (by omega) (fun kx qv ky kz gP => ?_)
     replace gP := (show St _ _ (_ :: _ :: _ :: _ :: _ :: _ :: ky ++ (F)) from gP)
     refine w_p (zAm (v := kx) rfl rfl) rfl (zAe (zAl (zAc (gL _ _ (zAa (zBa rfl rfl (w_p (zBj rfl rfl rfl rfl (by omega) (by omega)) rfl ?_)))))))
     refine zBl rfl rfl (zAe (zAc (gJ _ _ (nxI (((hourOf b a).hi + (ctrOf b c).twice + 1 - (max 0 ((hourOf b a).lo - (ctrOf b c).skip))).toNat - (q + 1)) (by omega) ?_))))
     exact ⟨q + 1, _,_, vi (by omega), by omega, rfl, by rw [zFm (by rw [hgs]; omega), ← List.append_assoc]; exact zGd (by have h9 := kz; rw [hzb] at h9; exact h9), gP.tail⟩
    try simp only [zS] at gO
    refine zAv (zAl (zAc (gL _ _ (zAa (zBa rfl rfl (w_p (zBj rfl rfl rfl rfl (by omega) (by omega)) rfl (zBl rfl rfl (zAe (zAc (gJ _ _ (nxI (((hourOf b a).hi + (ctrOf b c).twice + 1 - (max 0 ((hourOf b a).lo - (ctrOf b c).skip))).toNat - (q + 1)) (by omega) ?_)))))))))))
    exact ⟨q + 1, v, B, vi (by omega), by omega, rfl, by rw [wPart_n (by rw [hgs]; omega)]; exact hown2, hs⟩
   try simp only [zS] at gK
   refine zBq (zAo (zAo (zA8 (zAl (zAc (g5 _ _ (zAa (w_p (zBj rfl rfl rfl rfl (by omega) (by omega)) rfl (zBa rfl rfl (zAe (zAc (g4 _ _ (nxI (2 - (z + 1)) (by omega) ?_)))))))))))))
   first
     | exact ⟨z + 1, v, B, rfl, by omega, rfl, by rw [wTo_no (canZ_n (by omega) (by omega))]; exact hown, hs⟩
     | exact ⟨z + 1, v, B, rfl, by omega, rfl, by rw [zEu (canZ_y (by omega) (by omega)) (q := q) (by omega)]; exact hown2, hs.tail⟩
  try simp only [zS] at gc
  refine zBq (zAo (zAo (zA8 (zAc (ja _ _ (zAf (fun qw kA => (zCs [6] [(0,0),(1,0),(2,0),(3,1),(4,1),(5,0),(6,3)] zCg (zC8 (by kernel_rfl)) hs (fun qx gQ => ?_)))))))))
  refine d_w rfl (fun _ => zAi (v := .pointer _) rfl rfl) rfl ?_
  refine d_w rfl (fun _ => zBi rfl rfl) rfl ?_
  refine d_w rfl (fun _ => zAd (o := 3) (i := 1) underlying131 rfl sizeOf129 rfl rfl rfl) rfl ?_
  refine zBh rfl zAb rfl gQ (fun _ hq => (zAj isAgg129 hq.tail.tail.tail.tail.drop rfl rfl (show Ats _ _ _ _ [_] from Ats.part hb 3 1))) ?_
  refine zBh rfl zAb rfl gQ (fun _ hq => (zA7 (vs := [_,_,_]) isAgg162 sizeOf162 hq rfl rfl (zAh (i := 2) (vs := [_,_,_]) rfl rfl))) ?_
  refine d_w rfl (fun _ => zAi (v := v) rfl rfl) rfl ?_
  refine zDt rfl ?_
  refine G_put (i := 3) (a := [(c : Int), (a : Int), s]) zAb underlying129 (zIp key162) rfl hes rfl rfl rfl rfl rfl rfl gQ rfl (fun qy kB => ?_)
  refine zAe (qn ?_)
  refine zB0 ?_
  refine zAc (kA _ _ (zAf (fun qz kC => (zAa (w_p (zAi (v := v) rfl rfl) rfl (w_p (zAm (v := v) rfl rfl) rfl (zAe (zAc (kC _ _ (zA2 (zA9 (l := [.tmp 4]) (vs := [_]) rfl ⟨⟨rfl, show _ = (v : Value) from rfl⟩, trivial⟩ ?_)))))))))))
  have hz2 : z = 2 := by omega
  subst hz2
  rw [wTo_two] at hown
  obtain ⟨x, cap, rfl, hsl, _, _⟩ := zFg (w0 := w0) hown (wrows_row _) (by simp [wrows]) rfl
  exact ⟨x, cap, B, rfl, hsl, kB.tail.tail.tail⟩

theorem getA_mem {α : Type} [DecidableEq α] {a : α} {u : Value} : ∀ {l : List (α × Value × Nat)}, getA a l = some u → ∃ q ∈ l, q.1 = a ∧ q.2.1 = u
  | [], h => by simp [getA] at h
  | q :: l, h => by
    by_cases e : q.1 = a
    · simp only [getA, if_pos e] at h
      exact ⟨q, .head _, e, by simpa using h⟩
    · simp only [getA, if_neg e] at h
      obtain ⟨x, hx, h1, h2⟩ := getA_mem h
      exact ⟨x, .tail _ hx, h1, h2⟩
theorem ways_con {w0 w : World} {X M F : List (Nat × Obj)} (b : Board) (p : AtB) (bb mm : Nat) (hk : BK w0 F b p bb mm) (c a : Nat) (hc : c < b.ctrs.length) (ha : a < b.hours.length) (s : Int) (hs1 : 0 ≤ s ∧ s < 100) (hM : Memo w0 b mm M) (hs : St w0 w (X ++ (M ++ F))) :
    Con Tryz.prog 96 [.pointer (some ⟨bb, 0, none⟩), .agg #[.int .i64 (c : Int), .int .i64 (a : Int), .int .i64 s]] w fun v w' => ∃ (M' : List (Nat × Obj)) (x : Option Addr) (cap : Nat), v = .slice x (waysAt b c a s).length cap ∧ Sl w0 M' x 3 (wrows (waysAt b c a s)) ∧ Memo w0 b mm M' ∧ St w0 w' (X ++ (M' ++ F)) := by
  obtain ⟨es, ck, MB, rfl, hok, hlen, hes⟩ := hM
  have g4 : St w0 w ((mm, .map (ents (fun l : List Int => ia l) es).toArray ck) :: (X ++ (MB ++ F))) := hs.perm (zAq X [_] (MB ++ F))
  cases hf : getA [(c : Int), (a : Int), s] es with
  | none =>
    refine (c96n b p bb mm hk.app.app c a hc ha s hs1 es ck hlen hf g4).mono ?_
    rintro v w' ⟨x, cap, B, rfl, hsl, g0⟩
    refine ⟨(mm, .map (ents (fun l : List Int => ia l) (putA [(c : Int), (a : Int), s] (.slice x (waysAt b c a s).length cap) ck es)).toArray (if idxA [(c : Int), (a : Int), s] es 0 = none then ck + 1 else ck)) :: (B ++ MB), x, cap, rfl, hsl.top.cons, ⟨_, _, B ++ MB, rfl, hok.put _ _, fun q hq => ?_, fun q hq => ?_⟩, ?_⟩
    · rcases zJf hq with ⟨h1, _⟩ | h
      · rw [h1]; rfl
      · exact hlen q h
    · rcases zJf hq with ⟨h1, h2⟩ | h
      · exact ⟨c, a, s, x, cap, h1, h2, hsl.top⟩
      · exact (hes q h).mono fun _ h => h.drop
    · have h4 := g0.perm (zAq (_ :: B) X (MB ++ F))
      simpa only [List.append_assoc, List.cons_append] using h4
  | some u =>
    obtain ⟨q, hq, h1, h2⟩ := getA_mem hf
    obtain ⟨c', a', s', x, cap, h3, h4, h5⟩ := hes q hq
    rw [h1] at h3
    injection h3 with e1 h3
    injection h3 with e2 h3
    injection h3 with e3 _
    have e4 : c' = c := by omega
    have e5 : a' = a := by omega
    subst e4 e5 e3
    rw [h2] at h4
    refine (c96f b p bb mm hk.app.app c' a' hc ha s hs1 es ck hlen u x _ cap h4 hf g4).mono ?_
    rintro v w' ⟨rfl, g0⟩
    refine ⟨(mm, .map (ents (fun l : List Int => ia l) es).toArray ck) :: MB, x, cap, h4, h5.cons, ⟨es, ck, MB, rfl, hok, hlen, hes⟩, ?_⟩
    exact g0.perm (zAq [_] X (MB ++ F))
end Go.Proofs.Kb
/- Plain laws of maps as lists: what is left of a range, values that are ints. No conditions. -/
set_option linter.unusedSectionVars false
namespace Go.Rt
open Go.RowKit
section
variable {α : Type} [DecidableEq α]
def remN (es : List (α × Value × Nat)) (seen : Array Nat) : Nat := (es.filter fun r => !decide (r.2.2 ∈ seen.toList)).length
theorem rem_zero (es : List (α × Value × Nat)) : remN es #[] = es.length := by
  unfold remN
  rw [List.filter_eq_self.2 (by intro a _; simp)]
theorem rem_le (es : List (α × Value × Nat)) (seen : Array Nat) : remN es seen ≤ es.length := List.length_filter_le _ _
theorem zFs : ∀ {es : List (α × Value × Nat)} {seen : Array Nat} {q : α × Value × Nat}, (es.map (·.2.2)).Nodup → q ∈ es → q.2.2 ∉ seen.toList → remN es (seen.push q.2.2) + 1 = remN es seen
  | [], _,_,_, h, _ => by cases h
  | x :: es, seen, q, hn, hq, hs => by
    rw [List.map_cons, List.nodup_cons] at hn
    have hnot : ∀ r ∈ es, r.2.2 ≠ x.2.2 := fun r hr e => hn.1 (by rw [← e]; exact List.mem_map_of_mem (f := fun r : α × Value × Nat => r.2.2) hr)
    unfold remN
    by_cases e : q.2.2 = x.2.2
    · have h1 : (es.filter fun r => !decide (r.2.2 ∈ (seen.push q.2.2).toList)) = es.filter fun r => !decide (r.2.2 ∈ seen.toList) := by
        refine List.filter_congr fun r hr => ?_
        have := hnot r hr
        rw [← e] at this
        simp [this]
      rw [List.filter_cons, List.filter_cons, if_neg (by simp [e]), if_pos (by rw [← e]; simpa using hs), h1, List.length_cons]
    · have hq2 : q ∈ es := by
        rcases List.mem_cons.1 hq with rfl | h
        · exact absurd rfl e
        · exact h
      have ih := zFs hn.2 hq2 hs
      unfold remN at ih
      have hx : (!decide (x.2.2 ∈ (seen.push q.2.2).toList)) = !decide (x.2.2 ∈ seen.toList) := by
        have : x.2.2 ≠ q.2.2 := fun h => e h.symm
        simp [this]
      rw [List.filter_cons, List.filter_cons, hx]
      split
      · rw [List.length_cons, List.length_cons]; omega
      · exact ih
theorem seen_push {es : List (α × Value × Nat)} {seen : Array Nat} {q : α × Value × Nat} (hn : (es.map (·.2.2)).Nodup) (hq : q ∈ es) (G : α → Prop) :
    (∃ r ∈ es, r.2.2 ∈ (seen.push q.2.2).toList ∧ G r.1) ↔ (∃ r ∈ es, r.2.2 ∈ seen.toList ∧ G r.1) ∨ G q.1 := by
  have inj : ∀ {es : List (α × Value × Nat)}, (es.map (·.2.2)).Nodup → ∀ a ∈ es, ∀ b ∈ es, a.2.2 = b.2.2 → a = b := by
    intro es
    induction es with
    | nil => intro _ a h; cases h
    | cons x es ih =>
      intro hn a ha b hb e
      rw [List.map_cons, List.nodup_cons] at hn
      have hnot : ∀ r ∈ es, r.2.2 ≠ x.2.2 := fun r hr e => hn.1 (by rw [← e]; exact List.mem_map_of_mem (f := fun r : α × Value × Nat => r.2.2) hr)
      rcases List.mem_cons.1 ha with ea | ha2
      · rcases List.mem_cons.1 hb with eb | hb2
        · rw [ea, eb]
        · exact absurd (by rw [← ea]; exact e.symm) (hnot b hb2)
      · rcases List.mem_cons.1 hb with eb | hb2
        · exact absurd (by rw [← eb]; exact e) (hnot a ha2)
        · exact ih hn.2 a ha2 b hb2 e
  constructor
  · rintro ⟨r, hr, hs, hG⟩
    rw [Array.toList_push, List.mem_append, List.mem_singleton] at hs
    rcases hs with hs | hs
    · exact .inl ⟨r, hr, hs, hG⟩
    · right
      have := inj hn r hr q hq hs
      subst this; exact hG
  · rintro (⟨r, hr, hs, hG⟩ | hG)
    · exact ⟨r, hr, by rw [Array.toList_push]; exact List.mem_append_left _ hs, hG⟩
    · exact ⟨q, hq, by simp, hG⟩
def valA (a : α) (l : List (α × Value × Nat)) : Int := match getA a l with | some (.int _ z) => z | _ => 0
def IntsTo (B : Int) (l : List (α × Value × Nat)) : Prop := ∀ q ∈ l, ∃ z : Int, q.2.1 = .int .i64 z ∧ 0 ≤ z ∧ z ≤ B
theorem getA_in {a : α} {u : Value} : ∀ {l : List (α × Value × Nat)}, getA a l = some u → ∃ q ∈ l, q.1 = a ∧ q.2.1 = u
  | [], h => by simp [getA] at h
  | q :: l, h => by
    by_cases e : q.1 = a
    · simp only [getA, if_pos e] at h
      exact ⟨q, .head _, e, by simpa using h⟩
    · simp only [getA, if_neg e] at h
      obtain ⟨x, hx, h1, h2⟩ := getA_in h
      exact ⟨x, .tail _ hx, h1, h2⟩
theorem valA_in {B : Int} {l : List (α × Value × Nat)} (h : IntsTo B l) (hB : 0 ≤ B) (a : α) : 0 ≤ valA a l ∧ valA a l ≤ B := by
  unfold valA
  cases hg : getA a l with
  | none => exact ⟨Int.le_refl _, hB⟩
  | some u =>
    obtain ⟨q, hq, _, h2⟩ := getA_in hg
    obtain ⟨z, h3, h4⟩ := h q hq
    rw [← h2, h3]; exact h4
theorem IntsTo.put {B B' : Int} {l : List (α × Value × Nat)} (h : IntsTo B l) (hB : B ≤ B') {a : α} {z : Int} (hz : 0 ≤ z ∧ z ≤ B') (ck : Nat) : IntsTo B' (putA a (.int .i64 z) ck l) := by
  intro q hq
  rcases zJf hq with ⟨_, h2⟩ | h2
  · exact ⟨z, h2, hz⟩
  · obtain ⟨y, h3, h4⟩ := h q h2
    exact ⟨y, h3, by omega⟩
theorem IntsTo.le {B B' : Int} {l : List (α × Value × Nat)} (h : IntsTo B l) (hB : B ≤ B') : IntsTo B' l := fun q hq => by
  obtain ⟨y, h3, h4⟩ := h q hq
  exact ⟨y, h3, by omega⟩
end
theorem zG9 : ∀ (n : Nat) (l : List Int), l.Nodup → (∀ z ∈ l, 0 ≤ z ∧ z < (n : Int)) → l.length ≤ n
  | 0, l, _, h => by
    cases l with
    | nil => simp
    | cons z l => have := h z (.head _); omega
  | n + 1, l, hn, h => by
    by_cases hm : (n : Int) ∈ l
    · have h1 := zG9 n (l.erase n) (hn.erase _) fun z hz => by
        have h2 := List.mem_of_mem_erase hz
        have h3 := h z h2
        have h4 : z ≠ (n : Int) := fun e => by
          subst e
          exact (List.Nodup.not_mem_erase hn) hz
        omega
      have h2 := List.length_erase_of_mem hm
      have h3 : 0 < l.length := List.length_pos_of_mem hm
      omega
    · have := zG9 n l hn fun z hz => by
        have h3 := h z hz
        have : z ≠ (n : Int) := fun e => hm (e ▸ hz)
        omega
      omega
section
variable {P : Program} {n : Nat} {ρ : Nat → Value} {ds : List Deferred} {w w0 : World} {L : List (Nat × Obj)} {d : Option Tmp} {ty : TypeId} {p : String} {e : Array Edge} {g : Option (Nat × Bool)} {α : Type} [DecidableEq α] {kv : α → Value} {ok : α → Prop}
theorem G_lookI {mt kt el : TypeId} {x y : Operand} {a : α} {l : List (α × Value × Nat)} {m i ck : Nat} {B : Int} (hU : P.underlying mt = some (.map kt el)) (hK : KeyG P kt kv ok) (hok : ok a) (hall : ∀ q ∈ l, ok q.1) (hB : IntsTo B l)
    (hz : ∀ w, (zeroValue el).run P w = .ok (.int .i64 0) w) (hst : St w0 w L) (ho : okO n x = true) (ho1 : okO n y = true) (hx : ev ρ x = .map (some m)) (hy : ev ρ y = kv a) (hi : L[i]? = some (m, .map (ents kv l).toArray ck)) :
    Yd P (A n ρ ds) ⟨d, .lookup mt x y false, ty, p, e, g⟩ w (.int .i64 (valA a l)) := by
  cases hg : getA a l with
  | none =>
    have := G_look1N (d := d) (ty := ty) (p := p) (e := e) (g := g) (ds := ds) hU hK hok hall hz hst ho ho1 hx hy hi hg
    unfold valA; rw [hg]; exact this
  | some u =>
    have := G_look1S (d := d) (ty := ty) (p := p) (e := e) (g := g) (ds := ds) hU hK hok hall hst ho ho1 hx hy hi hg
    obtain ⟨q, hq, _, h2⟩ := getA_in hg
    obtain ⟨z, h3, _⟩ := hB q hq
    unfold valA; rw [hg, ← h2, h3]
    rw [← h2, h3] at this
    exact this
end
end Go.Rt
/- Plain words of the chain layer: keys of what comes next, one way more. No conditions. -/
namespace Go.Rt.Ch
open Go.Rt.Ha
abbrev kvI : Int → Value := fun z => Value.int .i64 z
theorem fit_of {l : List Int} {c : Ctr} {k : Nat} {w : Way} (h : [w.counts - l.getD k 0].any (out (-c.skip) c.twice) = false) : kFit c l k w := by
  simp only [List.any_cons, List.any_nil, Bool.or_false] at h
  have := zD9.1 h
  unfold kFit ld; omega
theorem fit_not {l : List Int} {c : Ctr} {k : Nat} {w : Way} (h : [w.counts - l.getD k 0].any (out (-c.skip) c.twice) = true) : ¬ kFit c l k w := by
  simp only [List.any_cons, List.any_nil, Bool.or_false] at h
  intro hk
  rw [zD9.2 (by unfold kFit ld at hk; omega)] at h; cases h
theorem zJg {c : Ctr} {l : List Int} {q : Quest} {k : Nat} {t : Int} {ws : List Way} {j : Nat} {ks ks' : List Int} {A : Int → Prop} {y : Int} (h : ∀ z, z ∈ ks ↔ A z ∨ GoodL c l q k t (ws.take j) z) (hj : j < ws.length) (hf : kFit c l k ws[j]) (hy : y = kOne l q k t ws[j]) (hk : ∀ z, z ∈ ks' ↔ z = y ∨ z ∈ ks) : ∀ z, z ∈ ks' ↔ A z ∨ GoodL c l q k t (ws.take (j + 1)) z := by
  intro z
  rw [hk, h, good_yes hj hf, hy]
  constructor
  · rintro (h | h | h)
    · exact .inr (.inr h)
    · exact .inl h
    · exact .inr (.inl h)
  · rintro (h | h | h)
    · exact .inr (.inl h)
    · exact .inr (.inr h)
    · exact .inl h
theorem keys_no {c : Ctr} {l : List Int} {q : Quest} {k : Nat} {t : Int} {ws : List Way} {j : Nat} {ks : List Int} {A : Int → Prop} (h : ∀ z, z ∈ ks ↔ A z ∨ GoodL c l q k t (ws.take j) z) (hj : j < ws.length) (hf : ¬ kFit c l k ws[j]) : ∀ z, z ∈ ks ↔ A z ∨ GoodL c l q k t (ws.take (j + 1)) z := by
  intro z; rw [h, good_no hj hf]
theorem kone_a {l : List Int} {q : Quest} {k : Nat} {t : Int} {w : Way} (h : 100 ≤ t) : w.shows + 100 = kOne l q k t w := by unfold kOne; rw [decide_eq_true h]; rfl
theorem kone_b {l : List Int} {q : Quest} {k : Nat} {t : Int} {w : Way} (h : q k (ld l k) w = true) : w.shows + 100 = kOne l q k t w := by unfold kOne; rw [h, Bool.or_true]; rfl
theorem kone_c {l : List Int} {q : Quest} {k : Nat} {t : Int} {w : Way} (h1 : t < 100) (h : q k (ld l k) w = false) : w.shows = kOne l q k t w := by unfold kOne; rw [h, decide_eq_false (by omega)]; simp
theorem keys_start {c : Ctr} {l : List Int} {q : Quest} {k : Nat} {t : Int} {ws : List Way} {ks : List Int} {A : Int → Prop} (h : ∀ z, z ∈ ks ↔ A z) : ∀ z, z ∈ ks ↔ A z ∨ GoodL c l q k t (ws.take 0) z := by
  intro z; rw [h]
  exact ⟨.inl, fun h => h.resolve_right (good_zero c l q k t ws z)⟩
theorem keys_round {c : Ctr} {h : Hour} {l : List Int} {q : Quest} {k : Nat} {es : List (Int × Value × Nat)} {seen : Array Nat} {r : Int × Value × Nat} {ks : List Int} {j : Nat} (hn : (es.map (·.2.2)).Nodup) (hr : r ∈ es) (hj : (waysC c h k (r.1 % 100)).length ≤ j)
    (hk : ∀ z, z ∈ ks ↔ (∃ x ∈ es, x.2.2 ∈ seen.toList ∧ Good c h l q k z x.1) ∨ GoodL c l q k r.1 ((waysC c h k (r.1 % 100)).take j) z) : ∀ z, z ∈ ks ↔ ∃ x ∈ es, x.2.2 ∈ (seen.push r.2.2).toList ∧ Good c h l q k z x.1 := by
  intro z
  rw [hk, seen_push hn hr (fun t => Good c h l q k z t), good_all _ _ _ _ _ _ _ hj]; rfl
theorem keys_end {c : Ctr} {n : Nat} (hc : c.Ok n) {h : Hour} {l : List Int} {q : Quest} {k : Nat} (hl : h.lo ≤ ld l k ∧ ld l k ≤ h.hi) (h0 : 0 ≤ h.lo) {es : List (Int × Value × Nat)} {seen : Array Nat} {nx : List Int} (hk : KeysOf (es.map (·.1)) (fareTo c l q k)) (hall : ∀ x ∈ es, x.2.2 ∈ seen.toList)
    (hn : ∀ z, z ∈ nx ↔ ∃ x ∈ es, x.2.2 ∈ seen.toList ∧ Good c h l q k z x.1) : KeysOf nx (fareTo c l q (k + 1)) := by
  refine keys_next hc hl h0 hk fun z => ?_
  rw [hn]
  constructor
  · rintro ⟨x, hx, _, hg⟩; exact ⟨x.1, List.mem_map_of_mem (f := fun x : Int × Value × Nat => x.1) hx, hg⟩
  · rintro ⟨t, ht, hg⟩
    obtain ⟨x, hx, rfl⟩ := List.mem_map.1 ht
    exact ⟨x, hx, hall x hx, hg⟩
theorem keys_many {c : Ctr} {n : Nat} (hc : c.Ok n) {l : List Int} {q : Quest} {k : Nat} {es : List (Int × Value × Nat)} (hn : (es.map (·.1)).Nodup) (hk : KeysOf (es.map (·.1)) (fareTo c l q k)) : es.length ≤ 200 := by
  have := zG9 200 (es.map (·.1)) hn fun z hz => keys_in hc hk hz
  rwa [List.length_map] at this
theorem key_in {c : Ctr} {n : Nat} (hc : c.Ok n) {l : List Int} {q : Quest} {k : Nat} {es : List (Int × Value × Nat)} (hk : KeysOf (es.map (·.1)) (fareTo c l q k)) {r : Int × Value × Nat} (hr : r ∈ es) : 0 ≤ r.1 ∧ r.1 < 200 := keys_in hc hk (List.mem_map_of_mem (f := fun x : Int × Value × Nat => x.1) hr)
theorem not_end {c : Ctr} {n : Nat} (hc : c.Ok n) {l : List Int} {q : Quest} {k : Nat} {es : List (Int × Value × Nat)} {seen : Array Nat} (hk : KeysOf (es.map (·.1)) (fareTo c l q k)) (hall : ∀ x ∈ es, x.2.2 ∈ seen.toList) {x : Bool} (hx : x = true ↔ ∃ r ∈ es, r.2.2 ∈ seen.toList ∧ r.1 < 100) : x = notF c l q k := by
  rw [← keys_not hc hk, Bool.eq_iff_iff, hx, List.any_eq_true]
  constructor
  · rintro ⟨r, hr, _, h⟩; exact ⟨r.1, List.mem_map_of_mem (f := fun x : Int × Value × Nat => x.1) hr, by simpa using h⟩
  · rintro ⟨t, ht, h⟩
    obtain ⟨r, hr, rfl⟩ := List.mem_map.1 ht
    exact ⟨r, hr, hall r hr, by simpa using h⟩
theorem met_end {c : Ctr} {n : Nat} (hc : c.Ok n) {l : List Int} {q : Quest} {k : Nat} {es : List (Int × Value × Nat)} {seen : Array Nat} (hk : KeysOf (es.map (·.1)) (fareTo c l q k)) (hall : ∀ x ∈ es, x.2.2 ∈ seen.toList) {x : Bool} (hx : x = true ↔ ∃ r ∈ es, r.2.2 ∈ seen.toList ∧ 100 ≤ r.1) : x = metF c l q k := by
  rw [← keys_met hc hk, Bool.eq_iff_iff, hx, List.any_eq_true]
  constructor
  · rintro ⟨r, hr, _, h⟩; exact ⟨r.1, List.mem_map_of_mem (f := fun x : Int × Value × Nat => x.1) hr, by simpa using h⟩
  · rintro ⟨t, ht, h⟩
    obtain ⟨r, hr, rfl⟩ := List.mem_map.1 ht
    exact ⟨r, hr, hall r hr, by simpa using h⟩
theorem zGb {es : List (Int × Value × Nat)} {seen : Array Nat} {r : Int × Value × Nat} (hn : (es.map (·.2.2)).Nodup) (hr : r ∈ es) (G : Int → Prop) {x y : Bool} (hx : x = true ↔ ∃ r ∈ es, r.2.2 ∈ seen.toList ∧ G r.1) (hy : y = true ↔ x = true ∨ G r.1) : y = true ↔ ∃ x ∈ es, x.2.2 ∈ (seen.push r.2.2).toList ∧ G x.1 := by
  rw [seen_push hn hr G, hy, hx]
theorem seen_none {es : List (Int × Value × Nat)} (G : Int → Prop) : (false = true) ↔ ∃ r ∈ es, r.2.2 ∈ (#[] : Array Nat).toList ∧ G r.1 := by simp
theorem keys_none {es : List (Int × Value × Nat)} (G : Int → Int → Prop) : ∀ z, z ∈ ([] : List (Int × Value × Nat)).map (·.1) ↔ ∃ x ∈ es, x.2.2 ∈ (#[] : Array Nat).toList ∧ G z x.1 := by intro z; simp
theorem mok_one {v : Value} {a : Int} : MOk (putA a v 0 []) (if idxA a ([] : List (Int × Value × Nat)) 0 = none then 0 + 1 else 0) := mok_nil.put a v
theorem ints_nil {B : Int} : IntsTo B ([] : List (Int × Value × Nat)) := by intro q h; cases h
end Go.Rt.Ch
set_option maxRecDepth 20000
namespace Go.Proofs.Kb
open Go.Proofs.Tryz
open Go.Rt Go.Rt.Ch
open Go.Rt.Ha (firstE zBv zBf zBo failE nameE felt spanL upto zCi listL fewest fewTo bit)
attribute [local irreducible] WL WC Con Yd At Ats Sl Agree DW
theorem Try_KF_fb2 (x0 : Int) (x1 : Int) (x2 : Bool) (w : World) : (Instr.build 141 [(0, .int .i64 x0),(1, .int .i64 x1),(2, .bool x2)].toArray).run Tryz.prog w = .ok (.agg #[.int .i64 x0, .int .i64 x1, .bool x2]) w := by kernel_rfl
theorem Try_KF_fb3 (x0 : Go.Fn) (a0 c0 : Array Value) (w : World) : (Instr.build 100 [(0, .func x0 a0 c0)].toArray).run Tryz.prog w = .ok (.agg #[.func x0 a0 c0]) w := by kernel_rfl
def QIs (w0 : World) (F : List (Nat × Obj)) (fq : Value) (q : Quest) : Prop := ∀ (k : Nat) (load : Int) (x : Ch.Way) (X : List (Nat × Obj)) (w : World), St w0 w (X ++ F) → FCon Tryz.prog fq [.int .i64 (k : Int), .int .i64 load, .agg x.cells.toArray] w fun v w' => v = .bool (q k load x) ∧ St w0 w' (X ++ F)
theorem QIs.at {w0 w : World} {P X M F : List (Nat × Obj)} {fq : Value} {q : Quest} (h : QIs w0 F fq q) (k : Nat) (load : Int) (x : Ch.Way) (hs : St w0 w (P ++ (X ++ (M ++ F)))) : FCon Tryz.prog fq [.int .i64 (k : Int), .int .i64 load, .agg x.cells.toArray] w fun v w' => v = .bool (q k load x) ∧ St w0 w' (P ++ (X ++ (M ++ F))) :=
  (h k load x _ w (st_in hs)).mono fun _ _ h => ⟨h.1, st_out h.2⟩
theorem QIs.app {w0 : World} {B F : List (Nat × Obj)} {fq : Value} {q : Quest} (h : QIs w0 F fq q) : QIs w0 (B ++ F) fq q := fun k load x X w hs => by
  have h1 := h k load x (X ++ B) w (by rw [List.append_assoc]; exact hs)
  exact h1.mono fun _ _ h => ⟨h.1, by have h2 := h.2; rw [List.append_assoc] at h2; exact h2⟩
theorem iib140 : ∃ f0 f1 f2, IIB Tryz.prog 141 f0 f1 f2 := ⟨_, _,_, ⟨underlying141, by kernel_rfl, by kernel_rfl, ⟨by decide, rfl, underlying3⟩, ⟨by decide, rfl, underlying3⟩, ⟨by decide, rfl, underlying4⟩⟩⟩
theorem dec_slip {a b : Int} : (!decide (a = b)) = decide (a ≠ b) := by rw [Bool.eq_iff_iff]; simp
theorem c75 {w0 w : World} {F : List (Nat × Obj)} (k : Nat) (load : Int) (x : Ch.Way) (hs : St w0 w F) :
  Con Tryz.prog 75 [.int .i64 (k : Int), .int .i64 load, .agg x.cells.toArray] w fun v w' => v = .bool (slips k load x) ∧ St w0 w' F := by
  refine zAu (n := 11) func75 rfl rfl (zNl rfl) ?_
  refine zAf (fun K2 g4 => (zAa (zCa (v := .agg #[.int _ _, .int _ _, .bool _]) (cs := [_,_,_]) zAb rfl rfl rfl hs (fun b3 w4 g0 => ?_))))
  refine zBg rfl rfl (zAe (zAc (g4 _ _ (zAf (fun K7 g5 => (zAa (w_p (zAd (o := 0) (i := 0) underlying141 rfl sizeOf3 rfl rfl rfl) rfl (w_p (zAj isAgg3 g0 rfl rfl (zAh (i := 0) (vs := [_]) rfl rfl)) rfl ?_))))))))
  refine zBa rfl rfl (w_p (zCt rfl rfl rfl rfl) rfl (w_p (zAm (v := .bool _) rfl rfl) rfl (zAe (zAc (g5 _ _ (zA2 (zA9 (l := [.tmp 6]) (vs := [_]) rfl ⟨⟨rfl, (rfl : _ = Value.bool _)⟩, trivial⟩ ?_)))))))
  exact ⟨congrArg Value.bool dec_slip, g0.tail⟩

theorem c84 {w0 w : World} {F : List (Nat × Obj)} (k a : Nat) (load : Int) (x : Ch.Way) (ba : Nat) (hb : Ats w0 F ba 0 [.int .i64 (a : Int)]) (hs : St w0 w F) :
  Con Tryz.prog 84 [.int .i64 (k : Int), .int .i64 load, .agg x.cells.toArray, .pointer (some ⟨ba, 0, none⟩)] w fun v w' => v = .bool (zeroed a k load x) ∧ St w0 w' F := by
  refine zAu (n := 20) func84 rfl rfl (zNl rfl) ?_
  obtain ⟨f0, f1, f2, hT⟩ := iib140
  refine zAf (fun K2 g5 => (zAa (zCa (v := .agg #[.int _ _, .int _ _, .bool _]) (cs := [_,_,_]) zAb rfl rfl rfl hs (fun b3 w4 g0 => ?_))))
  refine zBg rfl rfl (zAe (zAc (g5 _ _ (zAf (fun K7 g4 => (zAa (zBa rfl rfl (w_p (zAj isAgg3 g0.tail rfl rfl hb) rfl (w_p (zBw rfl rfl rfl rfl) rfl (w_p (zAi (v := .bool _) rfl rfl) rfl ?_))))))))))
  refine zBk (fun h8 => ?_) (fun h8 => ?_)
  ·
   try simp only [zS] at h8
   refine w_y rfl rfl rfl (zA7 (vs := [_,_,_]) isAgg141 sizeOf141 g0 rfl rfl (zAh (i := 0) (vs := [_,_,_]) rfl rfl)) rfl ?_
   refine w_y rfl rfl rfl (zAd (o := 0) (i := 0) underlying141 rfl sizeOf3 rfl rfl rfl) rfl ?_
   refine w_y rfl rfl rfl (zAj isAgg3 g0 rfl rfl (zAh (i := 0) (vs := [_]) rfl rfl)) rfl ?_
   refine w_y rfl rfl rfl (zAd (o := 1) (i := 1) underlying141 rfl sizeOf3 rfl rfl rfl) rfl ?_
   refine w_y rfl rfl rfl (zAj isAgg3 g0 rfl rfl (zAh (i := 0) (vs := [_]) rfl rfl)) rfl ?_
   refine w_y rfl rfl rfl (zBy (ps := [(0, _),(1, _),(2, _)]) (pv := [(0, .int _ _),(1, .int _ _),(2, .bool _)]) rfl rfl (fun w => Try_KF_fb2 _ _ _ w)) rfl ?_
   refine w_y rfl rfl rfl (y_eqIIB hT rfl rfl rfl rfl) rfl ?_
   refine w_p (zAx (v := .bool _) rfl rfl rfl rfl) rfl (w_p (zAm (v := .bool _) rfl rfl) rfl (zAe (zAc (g4 _ _ (zA2 (zA9 (l := [.tmp 7]) (vs := [_]) rfl ⟨⟨rfl, (rfl : _ = Value.bool _)⟩, trivial⟩ ?_))))))
   first
     | (have hka : k = a := by omega
        subst hka
        exact ⟨congrArg Value.bool (by unfold zeroed; rw [Bool.eq_iff_iff]; simp), g0.tail⟩)
     | (have hka : ¬ k = a := by omega
        exact ⟨congrArg Value.bool (by unfold zeroed; rw [Bool.eq_iff_iff]; simp [hka]), g0.tail⟩)
  try simp only [zS] at h8
  refine zAg rfl rfl rfl ?_
  refine zAg rfl rfl rfl ?_
  refine zAg rfl rfl rfl ?_
  refine zAg rfl rfl rfl ?_
  refine zAg rfl rfl rfl ?_
  refine zAg rfl rfl rfl ?_
  refine zAg rfl rfl rfl ?_
  refine w_p (zBd (v := _) rfl rfl rfl rfl) rfl (w_p (zAm (v := .bool _) rfl rfl) rfl (zAe (zAc (g4 _ _ (zA2 (zA9 (l := [.tmp 7]) (vs := [_]) rfl ⟨⟨rfl, (rfl : _ = Value.bool _)⟩, trivial⟩ ?_))))))
  first
    | (have hka : k = a := by omega
       subst hka
       exact ⟨congrArg Value.bool (by unfold zeroed; rw [Bool.eq_iff_iff]; simp), g0.tail⟩)
    | (have hka : ¬ k = a := by omega
       exact ⟨congrArg Value.bool (by unfold zeroed; rw [Bool.eq_iff_iff]; simp [hka]), g0.tail⟩)

theorem c44 {w0 w : World} {F : List (Nat × Obj)}  (hs : St w0 w F) :
  Con Tryz.prog 44 [] w fun v w' => v = .agg #[.func (.func 75) #[] #[]] ∧ St w0 w' F := by
  refine zAu (n := 2) func44 rfl rfl (zNl rfl) ?_
  refine zAf (fun K2 g4 => (zAa (zBb (cs := [_]) zAb zeroValue100 rfl hs (fun b3 w4 g5 => ?_))))
  refine zAe (zAc (g4 _ _ (zAf (fun K7 g6 => (zAa (w_p (zBy (ps := [(0, _)]) (pv := [(0, .func _ _ _)]) rfl rfl (fun w => Try_KF_fb3 _ _ _ w)) rfl ?_))))))
  refine zA4 (i := 0) (v := .agg #[.func _ _ _]) (vs := [_]) zAb sizeOf100 rfl rfl rfl rfl rfl (by simp [Value.oneCell']) g5 rfl (zNl rfl) (fun w8 g0 => ?_)
  refine zAe (zAc (g6 _ _ (zA2 (zA9 (l := [.cell 0 100]) (vs := [_]) rfl ⟨⟨rfl, _, rfl, zCe (vs := [_]) isAgg100 sizeOf100 g0 (zAh (i := 0) (vs := [_]) rfl rfl)⟩, trivial⟩ ?_))))
  exact ⟨rfl, g0.tail⟩

theorem c62 {w0 w : World} {F : List (Nat × Obj)} (a : Nat) (hs : St w0 w F) :
  Con Tryz.prog 62 [.int .i64 (a : Int)] w fun v w' => ∃ ba, v = .agg #[.func (.func 84) #[] #[.pointer (some ⟨ba, 0, none⟩)]] ∧ St w0 w' ((ba, blk 3 [.int .i64 (a : Int)]) :: F) := by
  refine zAu (n := 5) func62 rfl rfl (zNl rfl) ?_
  refine zAf (fun K2 g4 => (zAa (zCa (v := .int _ _) (cs := [_]) zAb rfl rfl rfl hs (fun b3 w4 g5 => ?_))))
  refine zBb (cs := [_]) zAb zeroValue100 rfl g5 (fun b6 w7 g6 => ?_)
  refine zAe (zAc (g4 _ _ (zAf (fun g8 g7 => (zAa (w_p (zCd (fv := []) (cv := [_]) rfl rfl rfl rfl) rfl (w_p (zBy (ps := [(0, _)]) (pv := [(0, .func _ _ _)]) rfl rfl (fun w => Try_KF_fb3 _ _ _ w)) rfl ?_)))))))
  refine zA4 (i := 0) (v := .agg #[.func _ _ _]) (vs := [_]) zAb sizeOf100 rfl rfl rfl rfl rfl (by simp [Value.oneCell']) g6 rfl (zNl rfl) (fun g9 g0 => ?_)
  refine zAe (zAc (g7 _ _ (zA2 (zA9 (l := [.cell 2 100]) (vs := [_]) rfl ⟨⟨rfl, _, rfl, zCe (vs := [_]) isAgg100 sizeOf100 g0 (zAh (i := 0) (vs := [_]) rfl rfl)⟩, trivial⟩ ?_))))
  exact ⟨_, rfl, g0.tail⟩

theorem qis_slips {w0 : World} {F : List (Nat × Obj)} : QIs w0 F (.func (.func 75) #[] #[]) slips := fun k load x X w hs => zEl call75 (c75 k load x hs)
theorem qis_zeroed {w0 : World} {F : List (Nat × Obj)} {a ba : Nat} (hb : Ats w0 F ba 0 [.int .i64 (a : Int)]) : QIs w0 F (.func (.func 84) #[] #[.pointer (some ⟨ba, 0, none⟩)]) (zeroed a) := fun k load x X w hs => zEl call84 (c84 k a load x ba hb.app hs)
end Go.Proofs.Kb
set_option maxRecDepth 20000
namespace Go.Proofs.Kb
open Go.Proofs.Tryz
open Go.Rt Go.Rt.Ch
open Go.Rt.Ha (firstE zBv zBf zBo failE nameE felt spanL upto zCi listL fewest fewTo bit)
attribute [local irreducible] WL WC Con Yd At Ats Sl Agree DW
theorem Try_KG_fb2 (x0 : Int) (x1 : Int) (x2 : Int) (w : World) : (Instr.build 162 [(0, .int .i64 x0),(1, .int .i64 x1),(2, .int .i64 x2)].toArray).run Tryz.prog w = .ok (.agg #[.int .i64 x0, .int .i64 x1, .int .i64 x2]) w := by kernel_rfl
theorem Try_KG_fb3 (x0 : Int) (w : World) : (Instr.buildSlice 34 1 [(0, .int .i64 x0)].toArray).run Tryz.prog w = .ok (.slice (some ⟨w.heap.size, 0, none⟩) 1 1) (w.alloc (Go.Rt.blk 3 [.int .i64 x0])) := by kernel_rfl
theorem sl_wrows {w0 : World} {F : List (Nat × Obj)} {a : Option Addr} {l : List Ch.Way} {i : Nat} (h : Sl w0 F a 3 (wrows l)) (hi : i < l.length) : ∃ b off, a = some ⟨b, off, none⟩ ∧ Ats w0 F b (off + i * 3) l[i].cells := by
  obtain ⟨b, off, ha, _, hat⟩ := h.at (i := i) (row := l[i].cells) (by simp [wrows, hi])
  exact ⟨b, off, ha, hat⟩
theorem c74 {w0 w : World} {X M F : List (Nat × Obj)} (b : Board) (p : AtB) (bb mm : Nat) (hk : BK w0 F b p bb mm) (c : Nat) (hc : c < b.ctrs.length) (l : List Int) (hl4 : l.length = 4) (hld : ∀ i (hi : i < b.hours.length), b.hours[i].lo ≤ ld l i ∧ ld l i ≤ b.hours[i].hi) (fk : FuncId) (f1 cp : Array Value) (q : Quest) (hq : QIs w0 F (.func (.func fk) f1 cp) q) (hM : Memo w0 b mm M) (hs : St w0 w (X ++ (M ++ F))) :
  Con Tryz.prog 74 [.pointer (some ⟨bb, 0, none⟩), .int .i64 (c : Int), ia l, .agg #[.func (.func fk) f1 cp]] w fun v w' => ∃ M', v = .tuple #[.bool (notF (ctrOf b c) l q b.hours.length), .bool (metF (ctrOf b c) l q b.hours.length)] ∧ Memo w0 b mm M' ∧ St w0 w' (X ++ (M' ++ F)) := by
  refine zAu (n := 123) func74 rfl rfl (zNl rfl) ?_
  have hb := hk.l
  have hcok := hk.ok.ctr _ (List.getElem_mem hc)
  obtain ⟨bx, ox, hbx, hxc⟩ := zGt hk.i.c hc
  rw [← ctr_at hc] at hcok hxc
  have hnh := hk.ok.lh
  have hsk := hcok.skip
  have htw := hcok.twice
  refine zAf (fun K2 gA => (zAa (zF7 (l := _) zAb rfl rfl rfl hs (fun b3 w4 gB => ?_))))
  refine zCa (v := .agg #[.func _ _ _]) (cs := [_]) zAb rfl rfl rfl gB (fun b6 w7 gC => ?_)
  refine zBg rfl rfl (zBg rfl rfl (zAe (zAc (gA _ _ (zAf (fun j9 gD => (zAa (zF6 zAb gC (fun ja jb gb => ?_)))))))))
  refine w_p (zAi (v := .pointer _) rfl rfl) rfl (w_p (zBi rfl rfl) rfl (w_p (zAd (o := 0) (i := 0) underlying131 rfl sizeOf41 rfl rfl rfl) rfl (w_p (zAd (o := 2) (i := 2) underlying41 rfl sizeOf39 rfl rfl rfl) rfl ?_)))
  refine w_p (zC0 hbx (zAj isAgg39 gb.tail.tail.tail.drop.drop rfl rfl (show Ats _ _ _ _ [_] from Ats.part hb 2 1))) rfl (zBa rfl rfl (w_p (zBc underlying39 sizeOf43 rfl rfl rfl rfl (i := c) rfl hc) rfl (w_p (zAd (o := 3) (i := 3) underlying43 rfl sizeOf3 rfl rfl rfl) rfl (w_p (zAj isAgg3 gb.tail.tail.tail.drop.drop rfl rfl (show Ats _ _ _ _ [_] from Ats.part hxc 3 1)) rfl ?_))))
  refine G_insert (i := 0) (a := (ctrOf b c).start) (l := []) zAb underlying158 (zFx underlying3) trivial (by simp) rfl rfl rfl rfl rfl rfl gb rfl (fun jc gn => ?_)
  refine w_p (zAi (v := .map _) rfl rfl) rfl (w_p (zAm (v := .map _) rfl rfl) rfl (zAe (zAc (gD _ _ (zAf (fun jd gE => (zAa (w_p (zAi (v := .pointer _) rfl rfl) rfl ?_))))))))
  refine w_p (zCd (fv := [_]) (cv := []) rfl rfl rfl rfl) rfl (w_p (zAm (v := .func _ _ _) rfl rfl) rfl (zAe (zAc (gE _ _ (zAf (fun je gF => (zAf (fun jf gG => (zAa (w_p (zAi (v := .pointer _) rfl rfl) rfl ?_))))))))))
  refine w_p (zBi rfl rfl) rfl (w_p (zAd (o := 0) (i := 0) underlying131 rfl sizeOf41 rfl rfl rfl) rfl (w_p (zAd (o := 1) (i := 1) underlying41 rfl sizeOf38 rfl rfl rfl) rfl (w_p (zAj isAgg38 gn.tail.tail.tail.drop.drop rfl rfl (show Ats _ _ _ _ [_] from Ats.part hb 1 1)) rfl ?_)))
  refine w_p (zBm underlying38 rfl rfl) rfl (w_p (zAi (v := _) rfl rfl) rfl (zAe (zAc (gG _ _ (zAz ?_)))))
  refine zB3 [10,12,13,14,15,17,18,39,40,41,42,43,44,45,46,47,48,49,50,51,52,53,54,55,56,57,58,59,60,61,62,63,64,65,66,67,68,69,70,71,72,73,74,75,76,77,78,79,80,81,82,83,84,85,86,87,88,89,90,91,92,93,94,95,96,97,98,99,100,101,102,103,104] [10,39] (fun kk vs w => ∃ (k mp : Nat) (es : List (Int × Value × Nat)) (ck : Nat) (M : List (Nat × Obj)), vs = [.map (some mp), .int .i64 k] ∧ k ≤ b.hours.length ∧ kk = b.hours.length - k ∧ MOk es ck ∧ KeysOf (es.map (·.1)) (fareTo (ctrOf b c) l q k) ∧ Memo w0 b mm M ∧ St w0 w ((mp, .map (ents kvI es).toArray (ck)) :: (b6, blk 100 [.func (.func fk) f1 cp]) :: (b3, blk 93 (iv l)) :: (X ++ (M ++ F)))) (b.hours.length) ?_ ?_
  ·
   exact ⟨0, _,_,_, M, rfl, by omega, by omega, mok_one, keys_zero (ctrOf b c) l q, hM, gn⟩
  intro k vs μ jg hI jh gH
  clear hs hM
  obtain ⟨k, mp, es, ck, M, rfl, hka, rfl, hok, hky, hM, hs⟩ := hI
  refine zAf (fun ji gI => (zAa (w_p (zCl rfl rfl rfl rfl) rfl (zAe (zAc (gI _ _ (zAf (fun jj gJ => (zAy rfl rfl (fun gc => ?_) (fun gc => ?_))))))))))
  ·
   try simp only [zS] at gc
   refine zAv (zAc (gJ _ _ (zAf (fun jk gK => (zAz ?_)))))
   refine zAf (fun jl gL => (zAa (zBa rfl rfl (zBl rfl rfl (zAe (zAc (gL _ _ (zAf (fun jm gM => ?_)))))))))
   have hk2 : k < b.hours.length := by omega
   have hmany := keys_many hcok hok.key hky
   have hhok := hk.ok.hour _ (List.getElem_mem hk2)
   have hldk := hld k hk2
   have hldv : ld l k = l.getD k 0 := rfl
   rw [← zDy hk2] at hhok hldk
   have hh1 := hhok.lo
   have hh2 := hhok.hi
   have hh3 := hhok.le
   refine zAa (w_p (zAi (v := .pointer _) rfl rfl) rfl (w_p (zBi rfl rfl) rfl (w_p (zAd (o := 0) (i := 0) underlying131 rfl sizeOf41 rfl rfl rfl) rfl (w_p (zAd (o := 2) (i := 2) underlying41 rfl sizeOf39 rfl rfl rfl) rfl ?_))))
   refine w_p (zC0 hbx (zAj isAgg39 hs.tail.tail.tail.drop.drop rfl rfl (show Ats _ _ _ _ [_] from Ats.part hb 2 1))) rfl (zBa rfl rfl (w_p (zBc underlying39 sizeOf43 rfl rfl rfl rfl (i := c) rfl hc) rfl (w_p (zA7 (vs := [_,_,_,_,_,_]) isAgg43 sizeOf43 hs.tail.tail.tail.drop.drop rfl rfl hxc) rfl (zF6 zAb hs (fun gd jn gN => ?_)))))
   refine zBb (cs := [_,_,_,_,_,_]) zAb zeroValue43 rfl gN (fun go jo gO => ?_)
   refine zA4 (i := 0) (v := .agg #[.string _, .int _ _, .int _ _, .int _ _, .slice _ _ _, .slice _ _ _]) (vs := [_,_,_,_,_,_]) zAb sizeOf43 rfl rfl rfl rfl rfl (by simp [Value.oneCell']) gO rfl (zNl rfl) (fun jp gP => ?_)
   refine w_p (zAm (v := .map _) rfl rfl) rfl (zAe (zAc (gM _ _ (zAf (fun jq gQ => (zAf (fun jr gR => (zAa (w_p (zAi (v := .map (some mp)) rfl rfl) rfl ?_)))))))))
   refine zIe (i := 2) zAb underlying158 rfl rfl gP rfl (fun gp js gT => ?_)
   refine zAe (zAc (gR _ _ (zAz ?_)))
   refine zB3 [15,17,18,53,54,55,56,57,58,59,60,61,62,63,64,65,66,67,68,69,70,71,72,73,74,75,76,77,78,79,80,81,82,83,84,85,86,87,88,89,90,91,92,93,94,95,96,97,98,99,100,101,102] [] (fun kk vs w => ∃ (seen : Array Nat) (nes : List (Int × Value × Nat)) (nck : Nat) (M : List (Nat × Obj)), vs = [] ∧ kk = remN es seen ∧ MOk nes nck ∧ IntsTo (20 * ((es.length : Int) - (remN es seen : Int))) nes ∧ (∀ z, z ∈ (nes : List (Int × Value × Nat)).map (·.1) ↔ ∃ x ∈ es, x.2.2 ∈ (seen).toList ∧ Ch.Good (ctrOf b c) (hourOf b k) l q k z x.1) ∧ Memo w0 b mm M ∧ St w0 w ((gp, .mapIter (some mp) ck seen ck) :: (go, blk 43 ((ctrOf b c).cells (p.pc c))) :: (gd, .map (ents kvI nes).toArray (nck)) :: (mp, .map (ents kvI es).toArray (ck)) :: (b6, blk 100 [.func (.func fk) f1 cp]) :: (b3, blk 93 (iv l)) :: (X ++ (M ++ F)))) (es.length) ?_ ?_
   ·
    exact ⟨#[], [], 0, M, rfl, (rem_zero es).symm, mok_nil, ints_nil, keys_none _, hM, gT⟩
   intro k vs μ jt hI ju gU
   clear hs hM
   obtain ⟨seen, nes, nck, M, rfl, rfl, hok2, hIn, hky2, hM, hs⟩ := hI
   refine zAf (fun jv gq => (zAa (w_nextMap (i := 0) (j := 3) zAb rfl rfl hs rfl rfl hok.born (Nat.le_refl _) (fun r hr hnr jw gr => ?_) (fun hall => ?_))))
   ·
    refine w_p (zAn (v := .bool _) rfl rfl rfl) rfl (zAe (zAc (gq _ _ (zAf (fun jx gV => (zCh rfl rfl ?_))))))
    refine zAv (zAc (gV _ _ (zAz ?_)))
    refine zAf (fun jy gW => (zAa (w_p (y_entryG (i := 0) (j := 3) rfl rfl gr rfl rfl hr hok.bnd) rfl (w_p (zAn (v := .int _ _) rfl rfl rfl) rfl (zBl rfl rfl (zAe (zAc (gW _ _ (zAf (fun jz gX => ?_))))))))))
    have hr2 := key_in hcok hky hr
    have hrm := zFs hok.bnd hr hnr
    have hrl := rem_le es seen
    have hwl : (waysAt b c k (r.1 % 100)).length ≤ 20 := ways_len hcok hhok
    refine zAa (w_p (zAi (v := .func _ _ _) rfl rfl) rfl (zBa rfl rfl (zBa rfl rfl (zBa rfl rfl (w_p (y_rem rfl rfl rfl rfl (by omega) (by omega)) rfl (w_p (zBy (ps := [(0, _),(1, _),(2, _)]) (pv := [(0, .int _ _),(1, .int _ _),(2, .int _ _)]) rfl rfl (fun w => Try_KG_fb2 _ _ _ w)) rfl ?_))))))
    refine zAs zAb call96 rfl rfl rfl rfl (ways_con b p bb mm hk (X := [_,_,_,_,_,_] ++ X) (M := M) c k hc hk2 (r.1 % 100) (by omega) hM (show St _ _ (([_,_,_,_,_,_] ++ X) ++ (M ++ F)) from gr)) ?_
    rintro _ jA ⟨M2, x, cap, rfl, hsl, gY, ge⟩
    replace ge := (show St _ _ (_ :: _ :: _ :: _ :: _ :: _ :: X ++ (M2 ++ (F))) from ge)
    refine w_p (zBm underlying160 rfl rfl) rfl (w_p (zAi (v := _) rfl rfl) rfl (zAe (zAc (gX _ _ (zAz ?_)))))
    refine zB3 [17,18,65,66,67,68,69,70,71,72,73,74,75,76,77,78,79,80,81,82,83,84,85,86,87,88,89,90,91,92,93,94,95,96,97,98,99,100,101,102] [65] (fun kk vs w => ∃ (j : Nat) (nes : List (Int × Value × Nat)) (nck : Nat), vs = [.int .i64 j] ∧ j ≤ (waysAt b c k (r.1 % 100)).length ∧ kk = (waysAt b c k (r.1 % 100)).length - j ∧ MOk nes nck ∧ IntsTo (20 * ((es.length : Int) - (remN es seen : Int)) + (j : Int)) nes ∧ (∀ z, z ∈ (nes : List (Int × Value × Nat)).map (·.1) ↔ (∃ x ∈ es, x.2.2 ∈ seen.toList ∧ Ch.Good (ctrOf b c) (hourOf b k) l q k z x.1) ∨ GoodL (ctrOf b c) l q k r.1 ((waysAt b c k (r.1 % 100)).take j) z) ∧ St w0 w ((gp, .mapIter (some mp) ck (seen.push r.2.2) ck) :: (go, blk 43 ((ctrOf b c).cells (p.pc c))) :: (gd, .map (ents kvI nes).toArray (nck)) :: (mp, .map (ents kvI es).toArray (ck)) :: (b6, blk 100 [.func (.func fk) f1 cp]) :: (b3, blk 93 (iv l)) :: (X ++ (M2 ++ F)))) ((waysAt b c k (r.1 % 100)).length) ?_ ?_
    ·
     exact ⟨0, nes, nck, rfl, by omega, by omega, hok2, hIn.le (by omega), keys_start hky2, ge⟩
    intro k vs μ jB hI jC g8
    clear hs hky2 hIn hok2
    obtain ⟨j, nes, nck, rfl, hja, rfl, hok2, hIn2, hky2, hs⟩ := hI
    refine zAf (fun jD gZ => (zAa (w_p (zCl rfl rfl rfl rfl) rfl (zAe (zAc (gZ _ _ (zAf (fun jE hD => (zAy rfl rfl (fun gf => ?_) (fun gf => ?_))))))))))
    ·
     try simp only [zS] at gf
     refine zAv (zAc (hD _ _ (zAf (fun jF g9 => (zAz ?_)))))
     refine zAf (fun jG hO => ?_)
     have hj2 : j < (waysAt b c k (r.1 % 100)).length := by omega
     obtain ⟨bw, ow, rfl, hw⟩ := sl_wrows hsl hj2
     have hwin := ways_in hcok.twice ⟨hhok.lo, hhok.hi⟩ (List.getElem_mem hj2)
     refine zAa (w_p (zBc underlying160 sizeOf141 rfl rfl rfl rfl (i := j) rfl hj2) rfl (w_p (zA7 (vs := [_,_,_]) isAgg141 sizeOf141 hs.tail.tail.tail.tail.tail.tail.drop rfl rfl hw.top) rfl (zBb (cs := [_,_,_]) zAb zeroValue141 rfl hs (fun jH jI hP => ?_))))
     refine zA4 (i := 0) (v := .agg #[.int _ _, .int _ _, .bool _]) (vs := [_,_,_]) zAb sizeOf141 rfl rfl rfl rfl rfl (by simp [Value.oneCell']) hP rfl (zNl rfl) (fun jJ hX => ?_)
     refine zAe (zAc (hO _ _ (zAf (fun jK hY => (zAf (fun jL j0 => (zCs [] [(0,0),(1,1),(2,0),(3,0),(4,1),(5,0),(6,1),(7,0),(8,0),(9,1),(10,0),(11,2),(12,2)] zCg (zC8 (by kernel_rfl)) hX (fun jM g5 => ?_))))))))
     refine d_w rfl (fun _ => zAd (o := 1) (i := 1) underlying43 rfl sizeOf3 rfl rfl rfl) rfl ?_
     refine zBh rfl zAb rfl g5 (fun _ hq => (zAj isAgg3 hq rfl rfl (zAh (i := 2) (vs := [_]) rfl rfl))) ?_
     refine d_w rfl (fun _ => y_neg rfl rfl (by omega) (by omega)) rfl ?_
     refine d_w rfl (fun _ => zAd (o := 2) (i := 2) underlying43 rfl sizeOf3 rfl rfl rfl) rfl ?_
     refine zBh rfl zAb rfl g5 (fun _ hq => (zAj isAgg3 hq rfl rfl (zAh (i := 2) (vs := [_]) rfl rfl))) ?_
     refine d_w rfl (fun _ => zAd (o := 0) (i := 0) underlying141 rfl sizeOf3 rfl rfl rfl) rfl ?_
     refine zBh rfl zAb rfl g5 (fun _ hq => (zAj isAgg3 hq rfl rfl (zAh (i := 0) (vs := [_]) rfl rfl))) ?_
     refine d_w rfl (fun _ => zA1 rfl rfl) rfl ?_
     refine d_w rfl (fun _ => zC3 underlying93 sizeOf3 rfl rfl rfl rfl (i := k) (by first | rfl | omega) (by omega)) rfl ?_
     refine zBh rfl zAb rfl g5 (fun _ hq => (zAj isAgg3 hq rfl rfl (zD8 (i := 6) (j := k) rfl (by first | omega | rfl | (simp only [hl4, zL] <;> omega))))) ?_
     refine d_w rfl (fun _ => zEi rfl rfl rfl rfl (by omega) (by omega)) rfl ?_
     refine zC9 rfl ?_
     refine zA0 (ps := [(0, _)]) (pv := [(0, .int _ _)]) (cs := [_]) zAb rfl rfl (fun w => Try_KG_fb3 _ w) g5 (fun jN jO gt => ?_)
     refine zAe (qn ⟨gt.tail, ?_⟩)
     refine zC9 rfl ?_
     refine zAs zAb call73 rfl rfl rfl rfl (c73 _ _ _ [_] _ (by simp) (zBp (i := 0) (rows := [[_]]) rfl (by simp) rfl) gt) ?_
     rintro _ jP ⟨rfl, g6⟩
     refine zAe (qn ⟨g6.tail, ?_⟩)
     refine zB0 ?_
     refine zAc (j0 _ _ (zAy rfl rfl (fun gg => ?_) (fun gg => ?_)))
     ·
      try simp only [zS] at gg
      refine zBq (zAo (zA8 (zAc (g9 _ _ (zAa (w_p (zBj rfl rfl rfl rfl (by omega) (by omega)) rfl (zBa rfl rfl (zAe (zAc (g8 _ _ (nxI ((waysAt b c k (r.1 % 100)).length - (j + 1)) (by omega) ?_)))))))))))
      first
        | exact ⟨j + 1, nes, nck, rfl, by omega, rfl, hok2, hIn2.le (by omega), keys_no hky2 hj2 (fit_not (by assumption)), g6.tail.tail⟩
        | exact ⟨j + 1, _,_, rfl, by omega, rfl, hok2.put _ _, hIn2.put (by omega) (by omega) _, zJg hky2 hj2 (fit_of (by assumption)) (by first | exact kone_a (by omega) | exact kone_b (by assumption) | exact kone_c (by omega) (by assumption)) (fun z => zFi), g6.tail.tail⟩
     try simp only [zS] at gg
     refine zAv (zAc (hY _ _ (zAf (fun jQ j1 => (zAa (w_p (zAd (o := 1) (i := 1) underlying141 rfl sizeOf3 rfl rfl rfl) rfl (w_p (zAj isAgg3 g6 rfl rfl (zAh (i := 1) (vs := [_]) rfl rfl)) rfl ?_)))))))
     refine zBl rfl rfl (zAe (zAc (j1 _ _ (zAf (fun jR gh => (zAf (fun jS gu => (zCs [] [(0,0),(1,0),(2,0),(3,0),(4,1),(5,0),(6,0),(7,0),(8,1),(9,1),(10,2),(11,0)] zCg (zC8 (by kernel_rfl)) g6 (fun jT g0 => ?_)))))))))
     refine d_w rfl (fun _ => zA1 rfl rfl) rfl ?_
     refine d_w rfl (fun _ => zF5 rfl rfl rfl rfl) rfl ?_
     refine d_w rfl (fun _ => zAi (v := .bool _) rfl rfl) rfl ?_
     refine zDu (fun gi => ?_) (fun gi => ?_)
     ·
      try simp only [zS] at gi
      refine zB8 rfl rfl rfl rfl ?_
      refine zDv rfl rfl rfl rfl g0 ?_
      refine zB8 rfl rfl rfl rfl ?_
      refine zB8 rfl rfl rfl rfl ?_
      refine zB8 rfl rfl rfl rfl ?_
      refine zDv rfl rfl rfl rfl g0 ?_
      refine zDv rfl rfl rfl rfl g0 ?_
      refine zC9 rfl ?_
      refine zAg rfl rfl rfl ?_
      refine zAe (qn ⟨g0, ?_⟩)
      refine d_w rfl (fun _ => zAx (v := _) rfl rfl rfl rfl) rfl ?_
      refine zB0 ?_
      refine zAc (gu _ _ (zCh rfl rfl ?_))
      refine zAa (zBa rfl rfl (w_p (zBj rfl rfl rfl rfl (by omega) (by omega)) rfl (zBl rfl rfl (zAe (zAc (gh _ _ (zAa (w_p (zAi (v := .map _) rfl rfl) rfl ?_))))))))
      refine zBa rfl rfl ?_
      have hva := valA_in hIn2 (by omega) (((waysAt b c k (r.1 % 100))[j]'hj2).shows + 100)
      refine w_p (G_lookI (i := 4) (a := ((waysAt b c k (r.1 % 100))[j]'hj2).shows + 100) (l := nes) (B := (20 * ((es.length : Int) - (remN es seen : Int)) + (j : Int))) underlying158 (zFx underlying3) trivial (by simp) hIn2 zeroValue3 g0 rfl rfl rfl rfl rfl) rfl ?_
      refine w_p (zBj rfl rfl rfl rfl (by omega) (by omega)) rfl (G_put (i := 4) (a := ((waysAt b c k (r.1 % 100))[j]'hj2).shows + 100) (l := nes) zAb underlying158 (zFx underlying3) trivial (by simp) rfl rfl rfl rfl rfl rfl g0 rfl (fun jU gv => ?_))
      refine zAe (zAl (zAc (g9 _ _ (zAa (w_p (zBj rfl rfl rfl rfl (by omega) (by omega)) rfl (zBa rfl rfl (zAe (zAc (g8 _ _ (nxI ((waysAt b c k (r.1 % 100)).length - (j + 1)) (by omega) ?_))))))))))
      first
        | exact ⟨j + 1, nes, nck, rfl, by omega, rfl, hok2, hIn2.le (by omega), keys_no hky2 hj2 (fit_not (by assumption)), gv.tail.tail⟩
        | exact ⟨j + 1, _,_, rfl, by omega, rfl, hok2.put _ _, hIn2.put (by omega) (by omega) _, zJg hky2 hj2 (fit_of (by assumption)) (by first | exact kone_a (by omega) | exact kone_b (by assumption) | exact kone_c (by omega) (by assumption)) (fun z => zFi), gv.tail.tail⟩
     try simp only [zS] at gi
     refine zBx rfl (zAp rfl rfl rfl) rfl (fun _ => (zAd (o := 0) (i := 0) underlying100 rfl sizeOf98 rfl rfl rfl)) ?_
     refine zBh rfl (zAp rfl rfl rfl) rfl g0 (fun _ hq => (zAj isAgg98 hq rfl rfl (zAh (i := 6) (vs := [_]) rfl rfl))) ?_
     refine zBx rfl (zAp rfl rfl rfl) rfl (fun _ => (zA1 rfl rfl)) ?_
     refine zBx rfl (zAp rfl rfl rfl) rfl (fun _ => (zA1 rfl rfl)) ?_
     refine zBx rfl (zAp rfl rfl rfl) rfl (fun _ => (zC3 underlying93 sizeOf3 rfl rfl rfl rfl (i := k) (by first | rfl | omega) (by omega))) ?_
     refine zBh rfl (zAp rfl rfl rfl) rfl g0 (fun _ hq => (zAj isAgg3 hq rfl rfl (zD8 (i := 7) (j := k) rfl (by first | omega | rfl | (simp only [hl4, zL] <;> omega))))) ?_
     refine zBh rfl (zAp rfl rfl rfl) rfl g0 (fun _ hq => (zA7 (vs := [_,_,_]) isAgg141 sizeOf141 hq rfl rfl (zAh (i := 1) (vs := [_,_,_]) rfl rfl))) ?_
     refine zC9 rfl ?_
     refine zEt (zAp rfl rfl rfl) rfl rfl rfl rfl (hq.at (P := [_,_,_,_,_,_,_,_]) (X := X) (M := M2) k _ ((waysAt b c k (r.1 % 100))[j]'hj2) g0) ?_
     rintro _ jV ⟨rfl, g4⟩
     replace g4 := (show St _ _ (_ :: _ :: _ :: _ :: _ :: _ :: _ :: _ :: X ++ (M2 ++ (F))) from g4)
     refine zAe (qn ⟨g4, ?_⟩)
     refine d_w rfl (fun _ => zBd (v := .bool _) rfl rfl rfl rfl) rfl ?_
     refine zB0 ?_
     refine zAc (gu _ _ (zAy rfl rfl (fun gj => ?_) (fun gj => ?_)))
     ·
      try simp only [zS] at gj
      refine zAa (zBa rfl rfl (w_p (zBj rfl rfl rfl rfl (by omega) (by omega)) rfl (zBl rfl rfl (zAe (zAc (gh _ _ (zAa (w_p (zAi (v := .map _) rfl rfl) rfl ?_))))))))
      refine zBa rfl rfl ?_
      have hva := valA_in hIn2 (by omega) (((waysAt b c k (r.1 % 100))[j]'hj2).shows + 100)
      refine w_p (G_lookI (i := 4) (a := ((waysAt b c k (r.1 % 100))[j]'hj2).shows + 100) (l := nes) (B := (20 * ((es.length : Int) - (remN es seen : Int)) + (j : Int))) underlying158 (zFx underlying3) trivial (by simp) hIn2 zeroValue3 g4 rfl rfl rfl rfl rfl) rfl ?_
      refine w_p (zBj rfl rfl rfl rfl (by omega) (by omega)) rfl (G_put (i := 4) (a := ((waysAt b c k (r.1 % 100))[j]'hj2).shows + 100) (l := nes) zAb underlying158 (zFx underlying3) trivial (by simp) rfl rfl rfl rfl rfl rfl g4 rfl (fun jW gw => ?_))
      refine zAe (zAl (zAc (g9 _ _ (zAa (w_p (zBj rfl rfl rfl rfl (by omega) (by omega)) rfl (zBa rfl rfl (zAe (zAc (g8 _ _ (nxI ((waysAt b c k (r.1 % 100)).length - (j + 1)) (by omega) ?_))))))))))
      first
        | exact ⟨j + 1, nes, nck, rfl, by omega, rfl, hok2, hIn2.le (by omega), keys_no hky2 hj2 (fit_not (by assumption)), gw.tail.tail⟩
        | exact ⟨j + 1, _,_, rfl, by omega, rfl, hok2.put _ _, hIn2.put (by omega) (by omega) _, zJg hky2 hj2 (fit_of (by assumption)) (by first | exact kone_a (by omega) | exact kone_b (by assumption) | exact kone_c (by omega) (by assumption)) (fun z => zFi), gw.tail.tail⟩
     try simp only [zS] at gj
     refine zAv (zAc (gh _ _ (zAa (w_p (zAi (v := .map _) rfl rfl) rfl (zBa rfl rfl ?_)))))
     have hva := valA_in hIn2 (by omega) (((waysAt b c k (r.1 % 100))[j]'hj2).shows)
     refine w_p (G_lookI (i := 4) (a := ((waysAt b c k (r.1 % 100))[j]'hj2).shows) (l := nes) (B := (20 * ((es.length : Int) - (remN es seen : Int)) + (j : Int))) underlying158 (zFx underlying3) trivial (by simp) hIn2 zeroValue3 g4 rfl rfl rfl rfl rfl) rfl ?_
     refine w_p (zBj rfl rfl rfl rfl (by omega) (by omega)) rfl (G_put (i := 4) (a := ((waysAt b c k (r.1 % 100))[j]'hj2).shows) (l := nes) zAb underlying158 (zFx underlying3) trivial (by simp) rfl rfl rfl rfl rfl rfl g4 rfl (fun jX gx => ?_))
     refine zAe (zAl (zAc (g9 _ _ (zAa (w_p (zBj rfl rfl rfl rfl (by omega) (by omega)) rfl (zBa rfl rfl (zAe (zAc (g8 _ _ (nxI ((waysAt b c k (r.1 % 100)).length - (j + 1)) (by omega) ?_))))))))))
     first
       | exact ⟨j + 1, nes, nck, rfl, by omega, rfl, hok2, hIn2.le (by omega), keys_no hky2 hj2 (fit_not (by assumption)), gx.tail.tail⟩
       | exact ⟨j + 1, _,_, rfl, by omega, rfl, hok2.put _ _, hIn2.put (by omega) (by omega) _, zJg hky2 hj2 (fit_of (by assumption)) (by first | exact kone_a (by omega) | exact kone_b (by assumption) | exact kone_c (by omega) (by assumption)) (fun z => zFi), gx.tail.tail⟩
    try simp only [zS] at gf
    refine zBq (zAo (zAo (zA8 (zAl (zAc (gU _ _ (nxI (remN es (seen.push r.2.2)) (by omega) ?_)))))))
    exact ⟨seen.push r.2.2, nes, nck, M2, rfl, rfl, hok2, hIn2.le (by omega), keys_round hok.bnd hr (by unfold waysAt at *; omega) hky2, gY, hs⟩
   refine w_p (zAn (v := .bool _) rfl rfl rfl) rfl (zAe (zAc (gq _ _ (zAf (fun jY jZ => (zCc rfl rfl ?_))))))
   refine zBq (zAo (zAo (zA8 (zAc (gQ _ _ (zAa (w_p (zAi (v := .map _) rfl rfl) rfl (w_p (zAm (v := .map _) rfl rfl) rfl ?_))))))))
   refine zAe (zAl (zAc (gK _ _ (zAa (w_p (zBj rfl rfl rfl rfl (by omega) (by omega)) rfl (zBa rfl rfl (zAe (zAc (gH _ _ (nxI (b.hours.length - (k + 1)) (by omega) ?_))))))))))
   exact ⟨k + 1, gd, nes, nck, M, rfl, by omega, rfl, hok2, keys_end hcok hldk hhok.lo hky hall hky2, hM, (swp2 (show St _ _ (_ :: _ :: _) from hs.tail.tail)).tail⟩
  try simp only [zS] at gc
  refine zBq (zAo (zAo (zA8 (zAc (gF _ _ (zAf (fun ka j2 => (zAf (fun kb j3 => (zAa (w_p (zAi (v := .map (some mp)) rfl rfl) rfl ?_)))))))))))
  refine zIe (i := 0) zAb underlying158 rfl rfl hs rfl (fun j4 kc j5 => ?_)
  refine zAe (zAc (j3 _ _ (zAz ?_)))
  refine zB3 [8,9,19,107,108,109,110,111,112,113,114,115,116,117,118,119,120] [8,9] (fun kk vs w => ∃ (seen : Array Nat) (x y : Bool), vs = [.bool x, .bool y] ∧ kk = remN es seen ∧ (x = true ↔ ∃ r ∈ es, r.2.2 ∈ seen.toList ∧ r.1 < 100) ∧ (y = true ↔ ∃ r ∈ es, r.2.2 ∈ seen.toList ∧ 100 ≤ r.1) ∧ St w0 w ((j4, .mapIter (some mp) ck seen ck) :: (mp, .map (ents kvI es).toArray (ck)) :: (b6, blk 100 [.func (.func fk) f1 cp]) :: (b3, blk 93 (iv l)) :: (X ++ (M ++ F)))) (es.length) ?_ ?_
  ·
   exact ⟨#[], false, false, rfl, (rem_zero es).symm, seen_none (fun t => t < 100), seen_none (fun t => 100 ≤ t), j5⟩
  intro k vs μ kd hI ke ga
  clear hs
  obtain ⟨seen, x, y, rfl, rfl, hx, hy, hs⟩ := hI
  refine zAf (fun kf gy => (zAa (w_nextMap (i := 0) (j := 1) zAb rfl rfl hs rfl rfl hok.born (Nat.le_refl _) (fun r hr hnr kg g7 => ?_) (fun hall => ?_))))
  ·
   refine w_p (zAn (v := .bool _) rfl rfl rfl) rfl (zAe (zAc (gy _ _ (zAf (fun kh j6 => (zCh rfl rfl ?_))))))
   refine zAv (zAc (j6 _ _ (zAz ?_)))
   refine zAf (fun ki j7 => (zAa (w_p (y_entryG (i := 0) (j := 1) rfl rfl g7 rfl rfl hr hok.bnd) rfl (w_p (zAn (v := .int _ _) rfl rfl rfl) rfl (zBl rfl rfl (zAe (zAc (j7 _ _ (zAf (fun kj gz => (zAa (w_p (zAi (v := .bool _) rfl rfl) rfl ?_))))))))))))
   refine w_p (zAi (v := .bool _) rfl rfl) rfl (zBk (fun gk => ?_) (fun gk => ?_))
   ·
    try simp only [zS] at gk
    refine zAg rfl rfl rfl ?_
    refine zAg rfl rfl rfl ?_
    refine w_p (zAx (v := _) rfl rfl rfl rfl) rfl (w_p (zAm (v := .bool _) rfl rfl) rfl (zAe (zAc (gz _ _ (zAa (w_p (zAi (v := .bool _) rfl rfl) rfl ?_))))))
    refine w_p (zAi (v := .bool _) rfl rfl) rfl (zBk (fun gl => ?_) (fun gl => ?_))
    ·
     try simp only [zS] at gl
     refine zAg rfl rfl rfl ?_
     refine zAg rfl rfl rfl ?_
     refine w_p (zAx (v := _) rfl rfl rfl rfl) rfl (w_p (zAm (v := .bool _) rfl rfl) rfl (zAe (zAl (zAc (ga _ _ (Nx.intro (remN es (seen.push r.2.2)) (by have := zFs hok.bnd hr hnr; omega) (by repeat (first | exact zA6 | refine zA5 rfl ?_ | refine zAw rfl ?_ _ | refine zAr rfl ?_)) ?_))))))
     exact ⟨seen.push r.2.2, _,_, rfl, rfl, zGb hok.bnd hr (fun t => t < 100) hx (by simp [*]), zGb hok.bnd hr (fun t => 100 ≤ t) hy (by simp [*]), g7⟩
    try simp only [zS] at gl
    refine w_y rfl rfl rfl (zA1 rfl rfl) rfl ?_
    refine w_y rfl rfl rfl (zF5 rfl rfl rfl rfl) rfl ?_
    refine w_p (zBd (v := .bool _) rfl rfl rfl rfl) rfl (w_p (zAm (v := .bool _) rfl rfl) rfl (zAe (zAl (zAc (ga _ _ (Nx.intro (remN es (seen.push r.2.2)) (by have := zFs hok.bnd hr hnr; omega) (by repeat (first | exact zA6 | refine zA5 rfl ?_ | refine zAw rfl ?_ _ | refine zAr rfl ?_)) ?_))))))
    exact ⟨seen.push r.2.2, _,_, rfl, rfl, zGb hok.bnd hr (fun t => t < 100) hx (by simp [*]), zGb hok.bnd hr (fun t => 100 ≤ t) hy (by simp [*]), g7⟩
   try simp only [zS] at gk
   refine w_y rfl rfl rfl (zA1 rfl rfl) rfl ?_
   refine w_y rfl rfl rfl (zCl rfl rfl rfl rfl) rfl ?_
   refine w_p (zBd (v := .bool _) rfl rfl rfl rfl) rfl (w_p (zAm (v := .bool _) rfl rfl) rfl (zAe (zAc (gz _ _ (zAa (w_p (zAi (v := .bool _) rfl rfl) rfl ?_))))))
   refine w_p (zAi (v := .bool _) rfl rfl) rfl (zBk (fun gm => ?_) (fun gm => ?_))
   ·
    try simp only [zS] at gm
    refine zAg rfl rfl rfl ?_
    refine zAg rfl rfl rfl ?_
    refine w_p (zAx (v := _) rfl rfl rfl rfl) rfl (w_p (zAm (v := .bool _) rfl rfl) rfl (zAe (zAl (zAc (ga _ _ (Nx.intro (remN es (seen.push r.2.2)) (by have := zFs hok.bnd hr hnr; omega) (by repeat (first | exact zA6 | refine zA5 rfl ?_ | refine zAw rfl ?_ _ | refine zAr rfl ?_)) ?_))))))
    exact ⟨seen.push r.2.2, _,_, rfl, rfl, zGb hok.bnd hr (fun t => t < 100) hx (by simp [*]), zGb hok.bnd hr (fun t => 100 ≤ t) hy (by simp [*]), g7⟩
   try simp only [zS] at gm
   refine w_y rfl rfl rfl (zA1 rfl rfl) rfl ?_
   refine w_y rfl rfl rfl (zF5 rfl rfl rfl rfl) rfl ?_
   refine w_p (zBd (v := .bool _) rfl rfl rfl rfl) rfl (w_p (zAm (v := .bool _) rfl rfl) rfl (zAe (zAl (zAc (ga _ _ (Nx.intro (remN es (seen.push r.2.2)) (by have := zFs hok.bnd hr hnr; omega) (by repeat (first | exact zA6 | refine zA5 rfl ?_ | refine zAw rfl ?_ _ | refine zAr rfl ?_)) ?_))))))
   exact ⟨seen.push r.2.2, _,_, rfl, rfl, zGb hok.bnd hr (fun t => t < 100) hx (by simp [*]), zGb hok.bnd hr (fun t => 100 ≤ t) hy (by simp [*]), g7⟩
  refine w_p (zAn (v := .bool _) rfl rfl rfl) rfl (zAe (zAc (gy _ _ (zAf (fun km kn => (zCc rfl rfl ?_))))))
  refine zBq (zAo (zAo (zA8 (zAc (j2 _ _ (zAf (fun ko j8 => (zAa (w_p (zAi (v := .bool _) rfl rfl) rfl (w_p (zAi (v := .bool _) rfl rfl) rfl ?_))))))))))
  refine w_p (zAm (v := .bool _) rfl rfl) rfl (w_p (zAm (v := .bool _) rfl rfl) rfl (zAe (zAc (j8 _ _ (zA2 (zA9 (l := [.tmp 8, .tmp 9]) (vs := [_,_]) rfl ⟨⟨rfl, (rfl : _ = Value.bool _)⟩, ⟨rfl, (rfl : _ = Value.bool _)⟩, trivial⟩ ?_))))))
  have hkn : k = b.hours.length := by omega
  subst hkn
  exact ⟨M, by rw [not_end hcok hky hall hx, met_end hcok hky hall hy]; rfl, hM, hs.tail.tail.tail.tail⟩

end Go.Proofs.Kb
/- Plain words of the chain layer: truths, one after the other, as lists of four numbers. No conditions. -/
namespace Go.Rt.Ch
open Go.Rt.Ha
def pad4 (h : List Int) : List Int := h ++ List.replicate (4 - h.length) 0
theorem pad4_len {h : List Int} (hl : h.length ≤ 4) : (pad4 h).length = 4 := by simp [pad4]; omega
theorem pad4_inj {a b : List Int} (h : a.length = b.length) (e : pad4 a = pad4 b) : a = b := by
  unfold pad4 at e
  exact (List.append_inj e h).1
theorem zIk (h : List Int) (b : Nat) : (pad4 h).getD b 0 = h.getD b 0 := by
  unfold pad4
  by_cases hb : b < h.length
  · simp [List.getD, List.getElem?_append_left hb]
  · rw [List.getD, List.getD, List.getElem?_append_right (by omega), List.getElem?_eq_none (by omega : h.length ≤ b)]
    by_cases h2 : b - h.length < 4 - h.length
    · simp [List.getElem?_replicate, h2]
    · simp [List.getElem?_replicate, h2]
theorem zI2 (h : List Int) (b : Nat) : ld (pad4 h) b = ld h b := zIk h b
theorem fare_pad (c : Ctr) (l : List Int) (q : Quest) : ∀ k, fareTo c (pad4 l) q k = fareTo c l q k
  | 0 => rfl
  | k + 1 => by simp only [fareTo, fare_pad c l q k, zI2]
theorem not_pad (c : Ctr) (l : List Int) (q : Quest) (n : Nat) : notF c (pad4 l) q n = notF c l q n := by unfold notF; rw [fare_pad]
theorem met_pad (c : Ctr) (l : List Int) (q : Quest) (n : Nat) : metF c (pad4 l) q n = metF c l q n := by unfold metF; rw [fare_pad]
theorem can_pad (b : Board) (l : List Int) : canL b (pad4 l) = canL b l := by unfold canL; simp only [not_pad, met_pad]
def segF (b : Board) (d : Nat) (pre : List Int) : List (List Int) := ((felt ((bun b).drop d)).map (pre ++ ·)).map pad4
def segK (b : Board) (d : Nat) (pre : List Int) : List (List Int) := (((felt ((bun b).drop d)).map (pre ++ ·)).filter (canL b)).map pad4
theorem segK_all (b : Board) : segK b 0 [] = (truths b).map pad4 := by simp [segK, truths]
theorem segF_all (b : Board) : segF b 0 [] = (felt (bun b)).map pad4 := by simp [segF]
theorem segF_leaf {b : Board} {d : Nat} {pre : List Int} (hd : b.hours.length ≤ d) : segF b d pre = [pad4 pre] := by
  unfold segF; rw [List.drop_of_length_le (by rw [show (bun b).length = b.hours.length from by simp [bun]]; exact hd)]; simp [felt]
theorem segK_leaf {b : Board} {d : Nat} {pre : List Int} (hd : b.hours.length ≤ d) : segK b d pre = if canL b pre then [pad4 pre] else [] := by
  unfold segK; rw [List.drop_of_length_le (by rw [show (bun b).length = b.hours.length from by simp [bun]]; exact hd)]
  simp only [felt, List.map_cons, List.map_nil, List.append_nil, List.filter_cons, List.filter_nil]
  split <;> rfl
def restF (b : Board) (d : Nat) (pre : List Int) (xs : List Int) : List (List Int) := xs.flatMap fun x => segF b (d + 1) (pre ++ [x])
def restK (b : Board) (d : Nat) (pre : List Int) (xs : List Int) : List (List Int) := xs.flatMap fun x => segK b (d + 1) (pre ++ [x])
theorem felt_node {b : Board} {d : Nat} (hd : d < b.hours.length) (pre : List Int) : (felt ((bun b).drop d)).map (pre ++ ·) = (spanL b.hours[d].lo b.hours[d].hi).flatMap fun x => (felt ((bun b).drop (d + 1))).map ((pre ++ [x]) ++ ·) := by
  have hl : d < (bun b).length := by simpa [bun] using hd
  rw [List.drop_eq_getElem_cons hl]
  have e : (bun b)[d] = ⟨b.hours[d].lo, b.hours[d].hi, 0,0⟩ := by simp [bun]
  rw [e]
  simp only [felt, List.map_flatMap, List.map_map]
  refine congrArg (List.flatMap · _) ?_
  funext x
  refine List.map_congr_left fun y _ => ?_
  simp
theorem segF_node {b : Board} {d : Nat} {pre : List Int} (hd : d < b.hours.length) : segF b d pre = restF b d pre (spanL b.hours[d].lo b.hours[d].hi) := by
  unfold segF restF; rw [felt_node hd, List.map_flatMap]; rfl
theorem filter_flat {α β : Type} (p : β → Bool) (f : α → List β) : ∀ l : List α, (l.flatMap f).filter p = l.flatMap fun x => (f x).filter p
  | [] => rfl
  | a :: l => by simp only [List.flatMap_cons, List.filter_append, filter_flat p f l]
theorem segK_node {b : Board} {d : Nat} {pre : List Int} (hd : d < b.hours.length) : segK b d pre = restK b d pre (spanL b.hours[d].lo b.hours[d].hi) := by
  unfold segK restK; rw [felt_node hd, filter_flat, List.map_flatMap]; rfl
theorem zIj {b : Board} {d : Nat} {pre : List Int} {lo : Int} {q n : Nat} (h : q < n) : restF b d pre (upto (lo + q) (n - q)) = segF b (d + 1) (pre ++ [lo + q]) ++ restF b d pre (upto (lo + (q + 1 : Nat)) (n - (q + 1))) := by rw [upto_step h]; rfl
theorem zFe {b : Board} {d : Nat} {pre : List Int} {lo : Int} {q n : Nat} (h : n ≤ q) : restF b d pre (upto (lo + q) (n - q)) = [] := by rw [show n - q = 0 by omega]; rfl
theorem restK_next {b : Board} {d : Nat} {pre : List Int} {lo : Int} {q n : Nat} (h : q < n) : restK b d pre (upto (lo + q) (n - q)) = segK b (d + 1) (pre ++ [lo + q]) ++ restK b d pre (upto (lo + (q + 1 : Nat)) (n - (q + 1))) := by rw [upto_step h]; rfl
theorem zFd {b : Board} {d : Nat} {pre : List Int} {lo : Int} {q n : Nat} (h : n ≤ q) : restK b d pre (upto (lo + q) (n - q)) = [] := by rw [show n - q = 0 by omega]; rfl
theorem pads_nodup (b : Board) : ((felt (bun b)).map pad4).Nodup := by
  have h1 := felt_nodup (bun b)
  have h2 : ∀ h ∈ felt (bun b), h.length = (bun b).length := fun h hh => ((zIr _ _).1 hh).1
  revert h1 h2
  generalize felt (bun b) = L
  induction L with
  | nil => intro _ _; simp
  | cons x L ih =>
    intro hn hl
    rw [List.nodup_cons] at hn
    rw [List.map_cons, List.nodup_cons]
    refine ⟨fun hm => ?_, ih hn.2 fun h hh => hl h (.tail _ hh)⟩
    obtain ⟨y, hy, e⟩ := List.mem_map.1 hm
    have := pad4_inj (by rw [hl y (.tail _ hy), hl x (.head _)]) e
    subst this; exact hn.1 hy
theorem truth_felt {b : Board} {l : List Int} (h : l ∈ truths b) : l ∈ felt (bun b) := (List.mem_filter.1 h).1
theorem zFo {b : Board} {l : List Int} (h : l ∈ truths b) : l.length = b.hours.length ∧ ∀ i (hi : i < b.hours.length), b.hours[i].lo ≤ ld l i ∧ ld l i ≤ b.hours[i].hi := by
  obtain ⟨h1, h2⟩ := (zIr _ _).1 (truth_felt h)
  have hl : (bun b).length = b.hours.length := by simp [bun]
  refine ⟨by rw [h1, hl], fun i hi => ?_⟩
  have := h2 i (by rw [hl]; exact hi)
  have e : (bun b)[i]'(by rw [hl]; exact hi) = ⟨b.hours[i].lo, b.hours[i].hi, 0,0⟩ := by simp [bun]
  rw [e] at this; exact this
theorem start_last4 {b : Board} (hok : b.Ok) : [-1,0,0,0] ∉ (felt (bun b)).map pad4 := by
  intro hm
  obtain ⟨l, hl, e⟩ := List.mem_map.1 hm
  have h0 : ld (pad4 l) 0 = -1 := by rw [e]; rfl
  rw [zI2] at h0
  obtain ⟨h1, h2⟩ := (zIr _ _).1 hl
  have hll : (bun b).length = b.hours.length := by simp [bun]
  by_cases hn : 0 < b.hours.length
  · have := h2 0 (by omega)
    have e2 : (bun b)[0]'(by omega) = ⟨b.hours[0].lo, b.hours[0].hi, 0,0⟩ := by simp [bun]
    rw [e2] at this
    have hlo := (hok.hour _ (List.getElem_mem hn)).lo
    have h3 : at_ l 0 = ld l 0 := rfl
    rw [h3, h0] at this
    simp only at this; omega
  · have : l = [] := List.eq_nil_of_length_eq_zero (by omega)
    subst this; simp [ld] at h0
theorem cur_pad4 {cur pre : List Int} {d : Nat} (hl : cur.length = 4) (hp : pre.length = d) (hd : d ≤ 4) (hk : cur.take d = pre) (hz : ∀ j, d ≤ j → cur.getD j 0 = 0) : cur = pad4 pre := by
  apply List.ext_getElem?
  intro i
  by_cases hi : i < 4
  · have e1 : cur[i]? = some (cur.getD i 0) := by rw [List.getD, List.getElem?_eq_getElem (by omega)]; rfl
    have e2 : (pad4 pre)[i]? = some ((pad4 pre).getD i 0) := by rw [List.getD, List.getElem?_eq_getElem (by rw [pad4_len (by omega)]; exact hi)]; rfl
    rw [e1, e2, zIk]
    by_cases h : i < d
    · subst hk
      rw [List.getD, List.getD, List.getElem?_take, if_pos h]
    · rw [hz i (by omega), List.getD, List.getElem?_eq_none (by omega)]; rfl
  · rw [List.getElem?_eq_none (by omega), List.getElem?_eq_none (by rw [pad4_len (by omega)]; omega)]
def canTo (b : Board) (l : List Int) (n : Nat) : Bool := (b.ctrs.take n).all fun c => notF c l slips b.hours.length || metF c l slips b.hours.length
theorem canTo_y {b : Board} {l : List Int} {i : Nat} (hi : i < b.ctrs.length) (h : canTo b l i = true) (h2 : notF (ctrOf b i) l slips b.hours.length = true ∨ metF (ctrOf b i) l slips b.hours.length = true) : canTo b l (i + 1) = true := by
  unfold canTo at *
  rw [List.take_succ_eq_append_getElem hi, List.all_append, h]
  rw [ctr_at hi] at h2
  simpa using h2
theorem canTo_all {b : Board} {l : List Int} {i : Nat} (hi : b.ctrs.length ≤ i) (h : canTo b l i = true) : canL b l = true := by
  unfold canTo at h; rw [List.take_of_length_le hi] at h; exact h
theorem can_n {b : Board} {l : List Int} {i : Nat} (hi : i < b.ctrs.length) (h1 : notF (ctrOf b i) l slips b.hours.length = false) (h2 : metF (ctrOf b i) l slips b.hours.length = false) : canL b l = false := by
  cases hc : canL b l with
  | false => rfl
  | true =>
    unfold canL at hc
    have := List.all_eq_true.1 hc _ (List.getElem_mem hi)
    rw [ctr_at hi] at h1 h2
    rw [h1, h2] at this; cases this
theorem pre_next {b : Board} {d : Nat} {pre : List Int} {x : Int} (hd : d < b.hours.length) (hp : pre.length = d) (h : ∀ j (hj : j < b.hours.length), j < d → b.hours[j].lo ≤ ld pre j ∧ ld pre j ≤ b.hours[j].hi) (hx : b.hours[d].lo ≤ x ∧ x ≤ b.hours[d].hi) : ∀ j (hj : j < b.hours.length), j < d + 1 → b.hours[j].lo ≤ ld (pre ++ [x]) j ∧ ld (pre ++ [x]) j ≤ b.hours[j].hi := by
  intro j hj h1
  by_cases e : j < d
  · have := h j hj e
    have e2 : ld (pre ++ [x]) j = ld pre j := by simp [ld, List.getD, List.getElem?_append_left (by omega : j < pre.length)]
    rw [e2]; exact this
  · have : j = d := by omega
    subst this
    have e2 : ld (pre ++ [x]) j = x := by simp [ld, List.getD, ← hp]
    rw [e2]; exact hx
end Go.Rt.Ch
