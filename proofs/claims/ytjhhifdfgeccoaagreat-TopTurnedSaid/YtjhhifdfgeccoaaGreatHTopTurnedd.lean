/- Own texts of this claim, joined. No conditions. -/
import Derived.Test.YtjhhifdfgeccoaaGreatHTopTurneda
import Derived.Test.YtjhhifdfgeccoaaGreatHTopTurnedb
import Derived.Test.YtjhhifdfgeccoaaGreatHTopTurnedc
set_option linter.unusedVariables false
set_option linter.unusedSimpArgs false
set_option maxRecDepth 20000
namespace Go.Proofs.Ut
open Go.Proofs.Tryz
open Go.Rt Go.Rt.Tu
open Go.Rt.Ha (firstE zB3 zAp zBn failE felt spanL upto zBv listL fewest fewTo bit Bunch before fewStep zB8 zCi zBx zB2 zCg zCf zBu)
attribute [local irreducible] WL WC Con Yd At Ats Sl Agree DW

theorem st_in {w0 w : World} {P X B R : List (Nat × Obj)} (h : St w0 w (P ++ (X ++ (B ++ R)))) : St w0 w ((P ++ (X ++ B)) ++ R) := by simpa only [List.append_assoc] using h
theorem st_out {w0 w : World} {P X B R : List (Nat × Obj)} (h : St w0 w ((P ++ (X ++ B)) ++ R)) : St w0 w (P ++ (X ++ (B ++ R))) := by simpa only [List.append_assoc] using h
theorem times_in {w0 w : World} {P X B M F : List (Nat × Obj)} (c : Cargo) (p : AtT) (but cb mm : Nat) (hk : CK w0 F c p but cb mm) (s : List Int) (hso : SOk s) (hM : Memo c mm M) (hs : St w0 w (P ++ (X ++ (B ++ (M ++ F))))) :
    Con Tryz.prog 53 [.pointer (some ⟨cb, 0, none⟩), ia s] w fun v w' => ∃ M', v = ia (times c s) ∧ Memo c mm M' ∧ St w0 w' (P ++ (X ++ (B ++ (M' ++ F)))) :=
  (zF5 c p but cb mm hk s hso hM (st_in hs)).mono fun _ _ ⟨M', h1, h2, h3⟩ => ⟨M', h1, h2, st_out h3⟩
def NextC (c : Cargo) (but cb mm hold bp bh bs bla bsn bY bn : Nat) (Ls : List (List Int)) (J : Nat → List (Nat × Obj) → Prop) (Js : List (Nat × Obj) → Prop) (yv : Value) (w0 : World) (F : List (Nat × Obj)) (rem : Nat) : Prop :=
  ∀ (wm : Int) (d : Nat) (pre g last : List Int) (i : Nat) (R RF : List (List Int)) (B M X : List (Nat × Obj)) (w : World),(0 ≤ wm ∧ wm ≤ 6) → d + rem = c.lots.length → pre.length = d → (∀ j, 0 ≤ pre.getD j 0 ∧ pre.getD j 0 ≤ 40) → g.length = 5 → g.take d = pre → (∀ j, c.lots.length ≤ j → g.getD j 0 = 0) → i ≤ Ls.length →
    Ls.drop i = segK c but hold wm d pre ++ R → last.length = 8 → (segF c hold wm d pre ++ RF).Nodup → last ∉ segF c hold wm d pre ++ RF → J i B → Memo c mm M → St w0 w ((bn, blk 111 [.func (.func 114) #[] #[.pointer (some ⟨bp, 0, none⟩), .pointer (some ⟨bs, 0, none⟩), .pointer (some ⟨bla, 0, none⟩), .pointer (some ⟨bsn, 0, none⟩), .pointer (some ⟨bh, 0, none⟩), .pointer (some ⟨bY, 0, none⟩), .pointer (some ⟨bn, 0, none⟩)]]) :: (bla, blk 94 (iv last)) :: (bs, blk 94 (iv (mkG (hold : Int) wm g (ofH c (hold : Int))))) :: (bsn, blk 173 [.func (.func 113) #[.pointer (some ⟨cb, 0, none⟩)] #[]]) :: (bY, blk 172 [yv]) :: (X ++ (B ++ (M ++ F)))) →
    Con Tryz.prog 114 [.int .i64 (d : Int), .pointer (some ⟨bp, 0, none⟩), .pointer (some ⟨bs, 0, none⟩), .pointer (some ⟨bla, 0, none⟩), .pointer (some ⟨bsn, 0, none⟩), .pointer (some ⟨bh, 0, none⟩), .pointer (some ⟨bY, 0, none⟩), .pointer (some ⟨bn, 0, none⟩)] w fun v w' => ∃ (g' last' : List Int) (B' M' : List (Nat × Obj)), g'.length = 5 ∧ last'.length = 8 ∧ g'.take d = pre ∧ (∀ j, c.lots.length ≤ j → g'.getD j 0 = 0) ∧ Memo c mm M' ∧ St w0 w' ((bn, blk 111 [.func (.func 114) #[] #[.pointer (some ⟨bp, 0, none⟩), .pointer (some ⟨bs, 0, none⟩), .pointer (some ⟨bla, 0, none⟩), .pointer (some ⟨bsn, 0, none⟩), .pointer (some ⟨bh, 0, none⟩), .pointer (some ⟨bY, 0, none⟩), .pointer (some ⟨bn, 0, none⟩)]]) :: (bla, blk 94 (iv last')) :: (bs, blk 94 (iv (mkG (hold : Int) wm g' (ofH c (hold : Int))))) :: (bsn, blk 173 [.func (.func 113) #[.pointer (some ⟨cb, 0, none⟩)] #[]]) :: (bY, blk 172 [yv]) :: (X ++ (B' ++ (M' ++ F)))) ∧
      ((v = .bool true ∧ ∃ i', i' ≤ Ls.length ∧ Ls.drop i' = R ∧ last' ∉ RF ∧ J i' B') ∨ (v = .bool false ∧ Js B'))
theorem zD3 {Ls R : List (List Int)} {cur : List Int} {i : Nat} {b : Bool} (hpos : Ls.drop i = (if b = true then [cur] else []) ++ R) (h : b = false) : Ls.drop i = R := by rw [hpos, h]; rfl
theorem leaf_some {Ls R : List (List Int)} {cur : List Int} {i : Nat} {b : Bool} (hpos : Ls.drop i = (if b = true then [cur] else []) ++ R) (h : b = true) : Ls.drop i = cur :: R := by rw [hpos, h]; rfl
theorem fr6 {w0 w : World} {R : List (Nat × Obj)} {a b c e f g : Nat × Obj} (hs : St w0 w (a :: b :: c :: e :: f :: g :: R)) : St w0 w (b :: c :: e :: f :: g :: a :: R) := hs.perm (zBp [a] [b, c, e, f, g] R)
theorem bk6 {w0 w : World} {R : List (Nat × Obj)} {a b c e f g : Nat × Obj} (hs : St w0 w (b :: c :: e :: f :: g :: a :: R)) : St w0 w (a :: b :: c :: e :: f :: g :: R) := hs.perm (zBp [b, c, e, f, g] [a] R)
theorem bun_hi0 {c : Cargo} {m d : Nat} (h : bit m d = 0) : (bunAt c m d).hi = (lotAt c d).lo := by unfold bunAt; rw [if_pos h]
theorem bun_hi1 {c : Cargo} {m d : Nat} (h : ¬ bit m d = 0) : (bunAt c m d).hi = (lotAt c d).hi := by unfold bunAt; rw [if_neg h]
theorem c114 {w0 : World} {F : List (Nat × Obj)} (c : Cargo) (p : AtT) (but cb mm : Nat) (hk : CK w0 F c p but cb mm)  (hco : c.Ok) (hold : Nat) (hh : hold < c.holds.length) (bp bh bs bla bsn bY bn : Nat) (h1 : Ats w0 F bp 0 [.pointer (some ⟨cb, 0, none⟩)]) (h2 : Ats w0 F bh 0 [.int .i64 (hold : Int)]) (Ls : List (List Int)) (J : Nat → List (Nat × Obj) → Prop) (Js : List (Nat × Obj) → Prop) (yv : Value) (hy : ∀ (i : Nat) (x : List Int) (R : List (List Int)) (B M X : List (Nat × Obj)) (w : World), Ls.drop i = x :: R → J i B → Memo c mm M → St w0 w (X ++ (B ++ (M ++ F))) → FCon Tryz.prog yv [ia x] w fun v w' => ∃ B' M', Memo c mm M' ∧ St w0 w' (X ++ (B' ++ (M' ++ F))) ∧ (v = .bool true ∧ J (i + 1) B' ∨ v = .bool false ∧ Js B')) (rem : Nat) (ih : ∀ r, rem = r + 1 → NextC c but cb mm hold bp bh bs bla bsn bY bn Ls J Js yv w0 F r) : NextC c but cb mm hold bp bh bs bla bsn bY bn Ls J Js yv w0 F rem := by
  intro wm d pre g last i R RF B M X w hwm hdr hpl hpr hgl hkt hz hi hpos hll hnd hlast hJ hM hs
  have hb := hk.l
  have hlh := hco.lh
  have hlo := hco.ll
  have hcl : (mkG (hold : Int) wm g (ofH c (hold : Int))).length = 8 := zG4 hgl
  refine zAo (n := 71) func114 rfl rfl (zNl rfl) ?_
  refine zAf (fun K2 go => (zAb (zBi rfl rfl (zAd (zAc (go _ _ (zAf (fun K4 gp => (zAf (fun K6 gq => (zAb (zA6 rfl rfl (w_p (zAg isAgg84 hs.tail.tail.tail.tail.tail.drop.drop.drop rfl rfl h1) rfl ?_)))))))))))))
  refine w_p (zB0 rfl rfl) rfl (w_p (zAe (o := 0) (i := 0) underlying138 rfl sizeOf27 rfl rfl rfl) rfl (w_p (zAe (o := 3) (i := 3) underlying27 rfl sizeOf24 rfl rfl rfl) rfl (w_p (zAg isAgg24 hs.tail.tail.tail.tail.tail.drop.drop.drop rfl rfl (show Ats _ _ _ _ [_] from Ats.part hb 3 1)) rfl ?_)))
  refine w_p (zBc underlying24 rfl rfl) rfl (w_p (zCa rfl rfl rfl rfl) rfl (zAd (zAc (gq _ _ (zAr rfl rfl (fun h7 => ?_) (fun h7 => ?_))))))
  ·
   try simp only [zS] at h7
   refine zAf (fun K9 gt => (zAf (fun gK gu => ?_)))
   have hr0 : rem = 0 := by omega
   subst hr0
   have hgp := cur_pad5 hgl hpl (by omega) hkt (by have hdn : d = c.lots.length := (by omega); subst hdn; exact hz)
   have hcur : mkS (hold : Int) wm (ofH c (hold : Int)) pre = (mkG (hold : Int) wm g (ofH c (hold : Int))) := by rw [hgp]; rfl
   have hso := sok_mk hco (hold := hold) hwm hgl (fun j => by rw [hgp, pad5_at]; exact hpr j)
   rw [segK_leaf (by omega), hcur] at hpos
   rw [zF7 (by omega), hcur] at hlast hnd
   have hne : ¬ (mkG (hold : Int) wm g (ofH c (hold : Int))) = last := fun e => hlast (by rw [← e]; exact .head _)
   have hnc : (mkG (hold : Int) wm g (ofH c (hold : Int))) ∉ RF := (List.nodup_cons.1 hnd).1
   have hln : last ∉ RF := fun h => hlast (.tail _ h)
   refine zG1 (C := fun w => ∃ M, Memo c mm M ∧ St w0 w ((bn, blk 111 [.func (.func 114) #[] #[.pointer (some ⟨bp, 0, none⟩), .pointer (some ⟨bs, 0, none⟩), .pointer (some ⟨bla, 0, none⟩), .pointer (some ⟨bsn, 0, none⟩), .pointer (some ⟨bh, 0, none⟩), .pointer (some ⟨bY, 0, none⟩), .pointer (some ⟨bn, 0, none⟩)]]) :: (bla, blk 94 (iv last)) :: (bs, blk 94 (iv (mkG (hold : Int) wm g (ofH c (hold : Int))))) :: (bsn, blk 173 [.func (.func 113) #[.pointer (some ⟨cb, 0, none⟩)] #[]]) :: (bY, blk 172 [yv]) :: (X ++ (B ++ (M ++ F))))) [] [(0,1),(1,1),(2,0),(3,0),(4,1),(5,1),(6,1),(7,1),(8,2),(9,2),(10,0),(11,0)] zB4 (zBk (by kernel_rfl)) ⟨_, hM, hs⟩ (fun _ ⟨M, h1, h2⟩ => ⟨M, h1, h2.drew⟩) (fun gL ⟨M, hM, g7⟩ => ?_)
   refine zCe rfl zAa rfl ⟨_, hM, g7⟩ (fun _ ⟨M, hM, hq⟩ => (zCt (i := 2) isAgg94 sizeOf94 (by first | omega | rfl | (simp only [hcl, hll, zL] <;> omega)) hq rfl rfl rfl)) ?_
   refine zCe rfl zAa rfl ⟨_, hM, g7⟩ (fun _ ⟨M, hM, hq⟩ => (zCt (i := 1) isAgg94 sizeOf94 (by first | omega | rfl | (simp only [hcl, hll, zL] <;> omega)) hq rfl rfl rfl)) ?_
   refine d_w rfl (fun _ => y_eqKey (l := _) (m := _) eqGuardType94 key94 (by first | omega | rfl | (simp only [hcl, hll, zL] <;> omega)) (by first | omega | rfl | (simp only [hcl, hll, zL] <;> omega)) rfl rfl rfl rfl rfl rfl) rfl ?_
   refine d_w rfl (fun _ => zAt rfl rfl) rfl ?_
   refine zC6 (fun ga => ?_) (fun ga => ?_)
   ·
    exfalso
    try simp only [zS] at ga
    exact hne ga
   try simp only [zS] at ga
   refine zCe rfl (zAh rfl rfl rfl) rfl ⟨_, hM, g7⟩ (fun _ ⟨M, hM, hq⟩ => (zAg isAgg173 hq rfl rfl (aow 3 [_]))) ?_
   refine zCe rfl (zAh rfl rfl rfl) rfl ⟨_, hM, g7⟩ (fun _ ⟨M, hM, hq⟩ => (zAg isAgg3 hq.tail.tail.tail.tail.tail.drop.drop.drop rfl rfl h2)) ?_
   refine zCe rfl (zAh rfl rfl rfl) rfl ⟨_, hM, g7⟩ (fun _ ⟨M, hM, hq⟩ => (zAg isAgg84 hq.tail.tail.tail.tail.tail.drop.drop.drop rfl rfl h1)) ?_
   refine zCe rfl (zAh rfl rfl rfl) rfl ⟨_, hM, g7⟩ (fun _ ⟨M, hM, hq⟩ => (zCt (i := 2) isAgg94 sizeOf94 (by first | omega | rfl | (simp only [hcl, hll, zL] <;> omega)) hq rfl rfl rfl)) ?_
   refine zBh rfl ?_
   refine zA4 (zAh rfl rfl rfl) call53 rfl rfl rfl rfl (times_in c p but cb mm hk (P := [_,_,_,_,_]) (X := X) (B := B) _ hso hM g7) ?_
   rintro _ gM ⟨M2, rfl, g5, gc⟩
   replace gc := (show St _ _ (_ :: _ :: _ :: _ :: _ :: X ++ (B ++ (M2 ++ (F)))) from gc)
   refine zAd (qn ⟨⟨_, g5, gc⟩, ?_⟩)
   refine zBh rfl ?_
   refine zA4 (zAh rfl rfl rfl) call113 rfl rfl rfl rfl (c113 c p but cb mm hk.app.app.app.cons.cons.cons.cons.cons hco (hold : Int) _ (zBf c _) gc) ?_
   rintro _ gN ⟨rfl, g6⟩
   refine zAd (qn ⟨⟨_, g5, g6⟩, ?_⟩)
   refine zBe rfl (zAh rfl rfl rfl) rfl (fun _ => (zDo rfl rfl)) ?_
   refine d_w rfl (fun _ => zBg (v := .bool _) rfl rfl rfl rfl) rfl ?_
   refine zBm ?_
   refine zAc (gu _ _ (zAr rfl rfl (fun gd => ?_) (fun gd => ?_)))
   ·
    try simp only [zS] at gd
    refine zAf (fun gO gv => (zAb (zBi rfl rfl (zAd (zAc (gv _ _ (zA8 (zAl (zAl (zBa (l := [.tmp 9]) (vs := [_]) rfl ⟨⟨rfl, (rfl : _ = Value.bool _)⟩, trivial⟩ ?_))))))))))
    first
      | exact ⟨g, last, B, M2, hgl, hll, hkt, hz, g5, g6, .inl ⟨rfl, i, hi, zD3 hpos (by unfold okS; assumption), hln, hJ⟩⟩
      | exact ⟨g, _, B1, M1, hgl, hcl, hkt, hz, g3, g6, .inl ⟨rfl, i + 1, zB8 hpos2, zBx hpos2, hnc, hJ1⟩⟩
      | exact ⟨g, _, B1, M1, hgl, hcl, hkt, hz, g3, g6, .inr ⟨rfl, hJ1⟩⟩
      | exact ⟨g2, last2, B2, M3, hg2, hl2, zBu hk2 hpl, hz2, g8, g6, .inr ⟨rfl, hJ2⟩⟩
      | (rw [zDq (by omega), List.nil_append] at hpos
         rw [zDr (by omega), List.nil_append] at hlast
         exact ⟨g, last, B, M, hgl, hll, hkt, hz, hM, g6, .inl ⟨rfl, i, hi, hpos, hlast, hJ⟩⟩)
   try simp only [zS] at gd
   refine zAn (zAc (gt _ _ (zAf (fun gP gw => ?_))))
   have hpos2 := leaf_some hpos (by unfold okS; assumption)
   refine zAb (w_p (zCt (i := 2) isAgg94 sizeOf94 (by first | omega | rfl | (simp only [hcl, hll, zL] <;> omega)) g6 rfl rfl rfl) rfl ?_)
   refine zDg (i := 1) (l := _) zAa sizeOf94 (by first | omega | rfl | (simp only [hcl, hll, zL] <;> omega)) rfl rfl rfl rfl rfl g6 rfl (by first | omega | rfl | (simp only [hcl, hll, zL] <;> omega)) (fun gQ ge => ?_)
   refine zAd (zAc (gw _ _ (zAf (fun gR gi => (zAb (w_p (zAg isAgg172 ge rfl rfl (aow 4 [_])) rfl (w_p (zCt (i := 2) isAgg94 sizeOf94 (by first | omega | rfl | (simp only [hcl, hll, zL] <;> omega)) ge rfl rfl rfl) rfl ?_)))))))
   refine zD0 zAa rfl rfl rfl rfl (hy i _ R B M2 (_ :: _ :: _ :: _ :: _ :: X) _ hpos2 hJ g5 ge) ?_
   rintro _ gS ⟨B1, M1, g3, g0, (⟨rfl, hJ1⟩ | ⟨rfl, hJ1⟩)⟩
   ·
    replace g0 := (show St _ _ (_ :: _ :: _ :: _ :: _ :: X ++ (B1 ++ (M1 ++ (F)))) from g0)
    refine w_p (zAs rfl rfl) rfl (zAd (zAc (gi _ _ (zA8 (zAl (zBa (l := [.tmp 9]) (vs := [_]) rfl ⟨⟨rfl, (rfl : _ = Value.bool _)⟩, trivial⟩ ?_))))))
    first
      | exact ⟨g, last, B, M2, hgl, hll, hkt, hz, g5, g0, .inl ⟨rfl, i, hi, zD3 hpos (by unfold okS; assumption), hln, hJ⟩⟩
      | exact ⟨g, _, B1, M1, hgl, hcl, hkt, hz, g3, g0, .inl ⟨rfl, i + 1, zB8 hpos2, zBx hpos2, hnc, hJ1⟩⟩
      | exact ⟨g, _, B1, M1, hgl, hcl, hkt, hz, g3, g0, .inr ⟨rfl, hJ1⟩⟩
      | exact ⟨g2, last2, B2, M3, hg2, hl2, zBu hk2 hpl, hz2, g8, g0, .inr ⟨rfl, hJ2⟩⟩
      | (rw [zDq (by omega), List.nil_append] at hpos
         rw [zDr (by omega), List.nil_append] at hlast
         exact ⟨g, last, B, M, hgl, hll, hkt, hz, hM, g0, .inl ⟨rfl, i, hi, hpos, hlast, hJ⟩⟩)
   replace g0 := (show St _ _ (_ :: _ :: _ :: _ :: _ :: X ++ (B1 ++ (M1 ++ (F)))) from g0)
   refine w_p (zAs rfl rfl) rfl (zAd (zAc (gi _ _ (zA8 (zAl (zBa (l := [.tmp 9]) (vs := [_]) rfl ⟨⟨rfl, (rfl : _ = Value.bool _)⟩, trivial⟩ ?_))))))
   first
     | exact ⟨g, last, B, M2, hgl, hll, hkt, hz, g5, g0, .inl ⟨rfl, i, hi, zD3 hpos (by unfold okS; assumption), hln, hJ⟩⟩
     | exact ⟨g, _, B1, M1, hgl, hcl, hkt, hz, g3, g0, .inl ⟨rfl, i + 1, zB8 hpos2, zBx hpos2, hnc, hJ1⟩⟩
     | exact ⟨g, _, B1, M1, hgl, hcl, hkt, hz, g3, g0, .inr ⟨rfl, hJ1⟩⟩
     | exact ⟨g2, last2, B2, M3, hg2, hl2, zBu hk2 hpl, hz2, g8, g0, .inr ⟨rfl, hJ2⟩⟩
     | (rw [zDq (by omega), List.nil_append] at hpos
        rw [zDr (by omega), List.nil_append] at hlast
        exact ⟨g, last, B, M, hgl, hll, hkt, hz, hM, g0, .inl ⟨rfl, i, hi, hpos, hlast, hJ⟩⟩)
  try simp only [zS] at h7
  refine zAn (zAc (gp _ _ (zAf (fun gT gx => ?_))))
  obtain ⟨r, rfl⟩ : ∃ r, rem = r + 1 := ⟨rem - 1, by omega⟩
  have ih2 := ih r rfl
  have hd2 : d < c.lots.length := by omega
  rw [segK_node hd2] at hpos
  rw [zF6 hd2] at hlast hnd
  have hbi := bun_in hco (m := (ofH c (hold : Int))) hd2
  have hla := zC5 hd2
  obtain ⟨bx, ox, hbx, hx⟩ := sl_lrows hk.i.l hd2
  refine zAb (w_p (zAg isAgg84 hs.tail.tail.tail.tail.tail.drop.drop.drop rfl rfl h1) rfl (w_p (zB0 rfl rfl) rfl (w_p (zAe (o := 0) (i := 0) underlying138 rfl sizeOf27 rfl rfl rfl) rfl (w_p (zAe (o := 3) (i := 3) underlying27 rfl sizeOf24 rfl rfl rfl) rfl ?_))))
  refine w_p (zCl hbx (zAg isAgg24 hs.tail.tail.tail.tail.tail.drop.drop.drop rfl rfl (show Ats _ _ _ _ [_] from Ats.part hb 3 1))) rfl (zA6 rfl rfl (w_p (zA7 underlying24 sizeOf38 rfl rfl rfl rfl (i := d) rfl hd2) rfl (w_p (zAe (o := 2) (i := 2) underlying38 rfl sizeOf36 rfl rfl rfl) rfl (w_p (zA2 (vs := [_,_]) isAgg36 sizeOf36 hs.tail.tail.tail.tail.tail.drop.drop.drop rfl rfl (show Ats _ _ _ _ [_,_] from Ats.part hx 2 2)) rfl ?_))))
  refine zA1 (cs := [_,_]) zAa zeroValue36 rfl hs (fun gj gU gy => ?_)
  refine zBj 0 (.agg #[.int _ _, .int _ _]) [_,_] sizeOf36 gy (fun gV g9 => ?_)
  refine zAd (zAc (gx _ _ (zAf (fun gW gz => ?_))))
  have hMm := hM
  refine w_cut [45,46,47,48,49,50,51,52,53] [] (fun vs w => vs = [] ∧ St w0 w ((gj, blk 36 [.int .i64 (bunAt c (ofH c (hold : Int)) d).lo, .int .i64 (bunAt c (ofH c (hold : Int)) d).hi]) :: (bn, blk 111 [.func (.func 114) #[] #[.pointer (some ⟨bp, 0, none⟩), .pointer (some ⟨bs, 0, none⟩), .pointer (some ⟨bla, 0, none⟩), .pointer (some ⟨bsn, 0, none⟩), .pointer (some ⟨bh, 0, none⟩), .pointer (some ⟨bY, 0, none⟩), .pointer (some ⟨bn, 0, none⟩)]]) :: (bla, blk 94 (iv last)) :: (bs, blk 94 (iv (mkG (hold : Int) wm g (ofH c (hold : Int))))) :: (bsn, blk 173 [.func (.func 113) #[.pointer (some ⟨cb, 0, none⟩)] #[]]) :: (bY, blk 172 [yv]) :: (X ++ (B ++ (M ++ F))))) (fun gX gk => ?_) ?_
  ·
   refine zAf (fun gY gA => ?_)
   have hgt := mkG_t (hold := (hold : Int)) (w := wm) (m := (ofH c (hold : Int))) hgl
   have hofs : (ofH c (hold : Int)) < 32 := zI7 c (hold : Int) (i := c.lots.length) (by omega)
   refine zAb (w_p (zAe (o := 7) (i := 3) underlying94 rfl sizeOf3 rfl rfl rfl) rfl (w_p (zAg isAgg3 g9 rfl rfl (zEr (i := 3) (o := 7) rfl (by first | omega | rfl | (simp only [hcl, hll, zL] <;> omega)))) rfl ?_))
   refine zA6 rfl rfl (w_p (y_shr (x := (ofH c (hold : Int))) (y := d) rfl rfl rfl rfl (by first | rfl | omega) (by first | rfl | omega) (by first | omega | exact zCr (by omega))) rfl ?_)
   refine w_p (show Yd _ _ _ _ (.int .i64 ((bit (ofH c (hold : Int)) d : Nat) : Int)) from (y_and (x := _) (y := 1) rfl rfl rfl rfl rfl rfl (by first | omega | exact zCr (by omega)) (by first | omega | exact zCr (by omega)))) rfl ?_
   refine w_p (zCa rfl rfl rfl rfl) rfl (zAd (zAc (gA _ _ (zAr rfl rfl (fun gf => ?_) (fun gf => ?_)))))
   ·
    try simp only [zS] at gf
    refine zAb (w_p (zAe (o := 0) (i := 0) underlying36 rfl sizeOf3 rfl rfl rfl) rfl (w_p (zAg isAgg3 g9 rfl rfl (aow 0 [_])) rfl (w_p (zAe (o := 1) (i := 1) underlying36 rfl sizeOf3 rfl rfl rfl) rfl ?_)))
    refine zBj 0 (.int _ _) [_] sizeOf3 g9 (fun gZ gm => ?_)
    refine zAd (zAc (gk _ _ (mdI ?_)))
    first
      | exact ⟨rfl, by rw [bun_hi0 (c := c) (m := ofH c (hold : Int)) (d := d) (bit0 (by assumption)), hbi.2.2.2, hla]; exact gm⟩
      | exact ⟨rfl, by rw [bun_hi1 (c := c) (m := ofH c (hold : Int)) (d := d) (bit0n (by assumption)), hbi.2.2.2, hla]; exact gm⟩
   try simp only [zS] at gf
   refine zAn (zAc (gk _ _ (mdI ?_)))
   first
     | exact ⟨rfl, by rw [bun_hi0 (c := c) (m := ofH c (hold : Int)) (d := d) (bit0 (by assumption)), hbi.2.2.2, hla]; exact g9⟩
     | exact ⟨rfl, by rw [bun_hi1 (c := c) (m := ofH c (hold : Int)) (d := d) (bit0n (by assumption)), hbi.2.2.2, hla]; exact g9⟩
  intro vs μ hD hM
  clear hs
  obtain ⟨rfl, hs⟩ := hM
  have hM := hMm
  refine zAc (gz _ _ (zAf (fun hN gB => (zAf (fun hP gC => (zAb (w_p (zAe (o := 0) (i := 0) underlying36 rfl sizeOf3 rfl rfl rfl) rfl (w_p (zAg isAgg3 hs rfl rfl (aow 0 [_])) rfl ?_))))))))
  refine zBw rfl rfl (zAd (zAc (gC _ _ (zAq ?_))))
  refine zB6 [9,11,56,57,58,59,60,61,62,63,64,65,66,67,68,69,70] [11] (fun k vs w => ∃ (q : Nat) (g last : List Int) (i : Nat) (B M : List (Nat × Obj)), vs = [.int .i64 ((bunAt c (ofH c (hold : Int)) d).lo + q)] ∧ (q : Int) ≤ (bunAt c (ofH c (hold : Int)) d).hi + 1 - (bunAt c (ofH c (hold : Int)) d).lo ∧ k = ((bunAt c (ofH c (hold : Int)) d).hi + 1 - (bunAt c (ofH c (hold : Int)) d).lo).toNat - q ∧ g.length = 5 ∧ last.length = 8 ∧ g.take d = pre ∧ (∀ j, c.lots.length ≤ j → g.getD j 0 = 0) ∧ i ≤ Ls.length ∧ Ls.drop i = restK c but hold wm d pre (upto ((bunAt c (ofH c (hold : Int)) d).lo + q) (((bunAt c (ofH c (hold : Int)) d).hi + 1 - (bunAt c (ofH c (hold : Int)) d).lo).toNat - q)) ++ R ∧ (restF c hold wm d pre (upto ((bunAt c (ofH c (hold : Int)) d).lo + q) (((bunAt c (ofH c (hold : Int)) d).hi + 1 - (bunAt c (ofH c (hold : Int)) d).lo).toNat - q)) ++ RF).Nodup ∧ last ∉ restF c hold wm d pre (upto ((bunAt c (ofH c (hold : Int)) d).lo + q) (((bunAt c (ofH c (hold : Int)) d).hi + 1 - (bunAt c (ofH c (hold : Int)) d).lo).toNat - q)) ++ RF ∧ J i B ∧ Memo c mm M ∧ St w0 w ((gj, blk 36 [.int .i64 (bunAt c (ofH c (hold : Int)) d).lo, .int .i64 (bunAt c (ofH c (hold : Int)) d).hi]) :: (bn, blk 111 [.func (.func 114) #[] #[.pointer (some ⟨bp, 0, none⟩), .pointer (some ⟨bs, 0, none⟩), .pointer (some ⟨bla, 0, none⟩), .pointer (some ⟨bsn, 0, none⟩), .pointer (some ⟨bh, 0, none⟩), .pointer (some ⟨bY, 0, none⟩), .pointer (some ⟨bn, 0, none⟩)]]) :: (bla, blk 94 (iv last)) :: (bs, blk 94 (iv (mkG (hold : Int) wm g (ofH c (hold : Int))))) :: (bsn, blk 173 [.func (.func 113) #[.pointer (some ⟨cb, 0, none⟩)] #[]]) :: (bY, blk 172 [yv]) :: (X ++ (B ++ (M ++ F))))) (((bunAt c (ofH c (hold : Int)) d).hi + 1 - (bunAt c (ofH c (hold : Int)) d).lo).toNat) ?_ ?_
  ·
   exact ⟨0, g, last, i, B, M, iv1 (by omega), by omega, by omega, hgl, hll, hkt, hz, hi, by rw [show (bunAt c (ofH c (hold : Int)) d).lo + ((0 : Nat) : Int) = (bunAt c (ofH c (hold : Int)) d).lo by omega, Nat.sub_zero]; exact hpos, by rw [show (bunAt c (ofH c (hold : Int)) d).lo + ((0 : Nat) : Int) = (bunAt c (ofH c (hold : Int)) d).lo by omega, Nat.sub_zero]; exact hnd, by rw [show (bunAt c (ofH c (hold : Int)) d).lo + ((0 : Nat) : Int) = (bunAt c (ofH c (hold : Int)) d).lo by omega, Nat.sub_zero]; exact hlast, hJ, hM, hs⟩
  intro k vs μ hX hI hY gD
  clear hcl hkt hz hi hpos hll hlast hnd hJ hs hgl hM
  obtain ⟨q, g, last, i, B, M, rfl, hq, rfl, hgl, hll, hkt, hz, hi, hpos, hnd, hlast, hJ, hM, hs⟩ := hI
  have hcl : (mkG (hold : Int) wm g (ofH c (hold : Int))).length = 8 := zG4 hgl
  refine zAf (fun j0 gE => (zAf (fun j1 gF => (zAb (zA6 rfl rfl (w_p (zAe (o := 1) (i := 1) underlying36 rfl sizeOf3 rfl rfl rfl) rfl (w_p (zAg isAgg3 hs rfl rfl (aow 0 [_])) rfl ?_)))))))
  refine w_p (zFc rfl rfl rfl rfl) rfl (zAd (zAc (gF _ _ (zAr rfl rfl (fun gg => ?_) (fun gg => ?_)))))
  ·
   try simp only [zS] at gg
   refine zAn (zAc (gE _ _ (zAf (fun j3 gG => (zAq ?_)))))
   refine zAf (fun j4 gH => (zAb (zA6 rfl rfl (zA6 rfl rfl (w_p (zAe (o := 2) (i := 2) underlying94 rfl sizeOf92 rfl rfl rfl) rfl (w_p (zCw underlying92 sizeOf3 rfl rfl rfl rfl (i := d) (by first | rfl | omega) (by omega)) rfl ?_))))))
   refine w_storeAtIO (i := 3) (o := 2) (j := d) zAa sizeOf3 rfl rfl rfl rfl hs rfl (by first | omega | rfl | (simp only [hcl, hll, zL] <;> omega)) (fun j5 gh => ?_)
   refine zAd (zAc (gH _ _ (zAf (fun j6 gn => (zAb ?_)))))
   rw [mkG_set (show d < g.length by omega)] at gh
   refine w_p (zAg isAgg111 gh rfl rfl (aow 1 [_])) rfl (zA6 rfl rfl (w_p (zBo rfl rfl rfl rfl (by omega) (by omega)) rfl ?_))
   refine zA4 zAa call114 rfl rfl rfl rfl (ih2 wm (d + 1) (pre ++ [(bunAt c (ofH c (hold : Int)) d).lo + (q : Int)]) _ last i _ _ B M (_ :: X) _ hwm (by omega) (by simp; omega) (pre_next5 hpl hpr (by omega)) (by rw [List.length_set]; exact hgl) (zCg hkt (by omega)) (zCf (by omega) hz) hi (by rw [zIa (by omega), List.append_assoc] at hpos; exact hpos) hll (by rw [zEu (by omega), List.append_assoc] at hnd; exact hnd) (by rw [zEu (by omega), List.append_assoc] at hlast; exact hlast) hJ hM (fr6 gh)) ?_
   rintro _ j7 ⟨g2, last2, B2, M3, hg2, hl2, hk2, hz2, g8, g4, (⟨rfl, i2, hi2, hp2, hn2, hJ2⟩ | ⟨rfl, hJ2⟩)⟩
   ·
    replace g4 := bk6 (show St _ _ (_ :: _ :: _ :: _ :: _ :: _ :: (X ++ (B2 ++ (M3 ++ F)))) from g4)
    refine w_p (zDo rfl rfl) rfl (zAd (zAc (gn _ _ (zBs rfl rfl ?_))))
    refine zAn (zAi (zAc (gG _ _ (zAb (zA6 rfl rfl (w_p (zBo rfl rfl rfl rfl (by omega) (by omega)) rfl (zBw rfl rfl (zAd (zAc (gD _ _ (nxI (((bunAt c (ofH c (hold : Int)) d).hi + 1 - (bunAt c (ofH c (hold : Int)) d).lo).toNat - (q + 1)) (by omega) ?_)))))))))))
    exact ⟨q + 1, g2, last2, i2, B2, M3, iv1 (by omega), by omega, rfl, hg2, hl2, zBu hk2 hpl, hz2, hi2, hp2, (by rw [zEu (by omega), List.append_assoc] at hnd; exact (List.nodup_append.1 hnd).2.1), hn2, hJ2, g8, g4⟩
   replace g4 := bk6 (show St _ _ (_ :: _ :: _ :: _ :: _ :: _ :: (X ++ (B2 ++ (M3 ++ F)))) from g4)
   refine w_p (zDo rfl rfl) rfl (zAd (zAc (gn _ _ (zDb rfl rfl ?_))))
   refine zAf (fun j8 gI => (zAb (zBi rfl rfl (zAd (zAc (gI _ _ (zA8 (zA9 (zAl (zAl (zA9 (zAl (zBa (l := [.tmp 9]) (vs := [_]) rfl ⟨⟨rfl, (rfl : _ = Value.bool _)⟩, trivial⟩ ?_)))))))))))))
   first
     | exact ⟨g, last, B, M2, hgl, hll, hkt, hz, g5, g4.tail, .inl ⟨rfl, i, hi, zD3 hpos (by unfold okS; assumption), hln, hJ⟩⟩
     | exact ⟨g, _, B1, M1, hgl, hcl, hkt, hz, g3, g4.tail, .inl ⟨rfl, i + 1, zB8 hpos2, zBx hpos2, hnc, hJ1⟩⟩
     | exact ⟨g, _, B1, M1, hgl, hcl, hkt, hz, g3, g4.tail, .inr ⟨rfl, hJ1⟩⟩
     | exact ⟨g2, last2, B2, M3, hg2, hl2, zBu hk2 hpl, hz2, g8, g4.tail, .inr ⟨rfl, hJ2⟩⟩
     | (rw [zDq (by omega), List.nil_append] at hpos
        rw [zDr (by omega), List.nil_append] at hlast
        exact ⟨g, last, B, M, hgl, hll, hkt, hz, hM, g4.tail, .inl ⟨rfl, i, hi, hpos, hlast, hJ⟩⟩)
  try simp only [zS] at gg
  refine zBt (zAj (zAj (zAv (zAc (gB _ _ (zAf (fun j9 gJ => (zAb (zBi rfl rfl (zAd (zAc (gJ _ _ (zA8 (zBa (l := [.tmp 9]) (vs := [_]) rfl ⟨⟨rfl, (rfl : _ = Value.bool _)⟩, trivial⟩ ?_))))))))))))))
  first
    | exact ⟨g, last, B, M2, hgl, hll, hkt, hz, g5, hs.tail, .inl ⟨rfl, i, hi, zD3 hpos (by unfold okS; assumption), hln, hJ⟩⟩
    | exact ⟨g, _, B1, M1, hgl, hcl, hkt, hz, g3, hs.tail, .inl ⟨rfl, i + 1, zB8 hpos2, zBx hpos2, hnc, hJ1⟩⟩
    | exact ⟨g, _, B1, M1, hgl, hcl, hkt, hz, g3, hs.tail, .inr ⟨rfl, hJ1⟩⟩
    | exact ⟨g2, last2, B2, M3, hg2, hl2, zBu hk2 hpl, hz2, g8, hs.tail, .inr ⟨rfl, hJ2⟩⟩
    | (rw [zDq (by omega), List.nil_append] at hpos
       rw [zDr (by omega), List.nil_append] at hlast
       exact ⟨g, last, B, M, hgl, hll, hkt, hz, hM, hs.tail, .inl ⟨rfl, i, hi, hpos, hlast, hJ⟩⟩)

end Go.Proofs.Ut
/- Plain facts of the turn layer: how many truths there are; questions, asked one after the other. No conditions. -/
namespace Go.Rt.Tu
open Go.Rt.Ha (firstE failE felt spanL upto bit listL fewest Bunch zC8 zD4 zC4 at_ zBv zDu upto_nodup zC2)
theorem zFm : ∀ (n : Nat) (lo : Int), (upto lo n).length = n
  | 0, _ => rfl
  | n + 1, lo => by simp [upto, zFm n]
theorem felt_len4 {bs : List Bunch} (h : ∀ b ∈ bs, b.hi + 1 - b.lo ≤ 4) : (felt bs).length ≤ 4 ^ bs.length := by
  induction bs with
  | nil => simp [felt]
  | cons b bs ih =>
    have ih := ih fun x hx => h x (.tail _ hx)
    have hb := h b (.head _)
    have hl : (spanL b.lo b.hi).length ≤ 4 := by unfold spanL; rw [zFm]; omega
    have key : ∀ xs : List Int, (xs.flatMap fun n => (felt bs).map (n :: ·)).length = xs.length * (felt bs).length := by
      intro xs
      induction xs with
      | nil => simp
      | cons x xs ih => rw [List.flatMap_cons, List.length_append, ih, List.length_map, List.length_cons, Nat.succ_mul]; omega
    simp only [felt]
    rw [key, List.length_cons, Nat.pow_succ, Nat.mul_comm]
    exact Nat.mul_le_mul ih hl
theorem zI9 {α β : Type} {f : α → List β} {k : Nat} : ∀ {l : List α}, (∀ x ∈ l, (f x).length ≤ k) → (l.flatMap f).length ≤ l.length * k
  | [], _ => by simp
  | a :: l, h => by
    have h1 := h a (.head _)
    have h2 := zI9 (f := f) (l := l) fun x hx => h x (.tail _ hx)
    rw [List.flatMap_cons, List.length_append, List.length_cons, Nat.succ_mul]; omega
theorem zH3 {c : Cargo} (hc : c.Ok) (but : Nat) {hold : Nat} (hh : hold < c.holds.length) : (truths c but hold).length ≤ 1024 := by
  have hho := hc.hold _ (List.getElem_mem hh)
  unfold truths
  have h1 : ∀ w ∈ spanL (holdAt c hold).1 (holdAt c hold).2, ((allW c hold w).filter (okS c but hold)).length ≤ 256 := by
    intro w _
    have h2 := List.length_filter_le (okS c but hold) (allW c hold w)
    have h3 : (allW c hold w).length = (felt (bun c (ofH c hold))).length := by unfold allW; rw [List.length_map]
    have h4 := felt_len4 (bs := bun c (ofH c hold)) (by
      intro b hb
      obtain ⟨i, hi, rfl⟩ := List.getElem_of_mem hb
      rw [zFa] at hi
      rw [bun_get hi]
      have h5 := hc.lot _ (List.getElem_mem hi)
      have h6 := h5.w
      have h7 := h5.le
      unfold bunAt
      rw [zC5 hi]
      dsimp only
      split <;> omega)
    rw [zFa] at h4
    have h5 : 4 ^ c.lots.length ≤ 4 ^ 4 := Nat.pow_le_pow_right (by omega) hc.ll
    have h6 : (4 : Nat) ^ 4 = 256 := by decide
    omega
  have h2 := zI9 h1
  have h3 : (spanL (holdAt c hold).1 (holdAt c hold).2).length ≤ 4 := by unfold spanL; rw [zFm, zIj hh]; omega
  have h4 := Nat.mul_le_mul_right 256 h3
  omega
theorem fold_snoc {α β : Type} (f : β → α → β) (b : β) {l : List α} {i : Nat} (h : i < l.length) : (l.take (i + 1)).foldl f b = f ((l.take i).foldl f b) l[i] := by
  rw [List.take_succ_eq_append_getElem h, List.foldl_append]; rfl
theorem turns_step {c : Cargo} {lot : Nat} {l : List (List Int)} {i : Nat} (h : i < l.length) : turnsA c lot (l.take (i + 1)) = turnsSt c lot (turnsA c lot (l.take i)) l[i] := fold_snoc _ _ h
theorem cnt_step {α : Type} {q : α → Bool} {l : List α} {i : Nat} (h : i < l.length) : ((l.take (i + 1)).filter q).length = ((l.take i).filter q).length + if q l[i] then 1 else 0 := by
  rw [List.take_succ_eq_append_getElem h, List.filter_append, List.length_append]
  cases hq : q l[i] <;> simp [hq]
theorem cnt_le {α : Type} (q : α → Bool) (l : List α) (i : Nat) : ((l.take i).filter q).length ≤ l.length :=
  Nat.le_trans (List.length_filter_le _ _) (by rw [List.length_take]; omega)
def arows (l : List (Bool × Int)) : List (List Value) := l.map fun x => [.bool x.1, .int .i64 x.2]
theorem ask_no {l : List (Bool × Int)} {j : Nat} (hj : j < l.length) (h : anyAsk (l.take j) = false) (h2 : l[j].1 = false) : anyAsk (l.take (j + 1)) = false := by
  unfold anyAsk at h ⊢; rw [List.take_succ_eq_append_getElem hj, List.any_append, h]; simp [h2]
theorem zHy : ∀ {l : List (Bool × Int)} {j : Nat} (hj : j < l.length), anyAsk (l.take j) = false → l[j].1 = true → anyAsk l = true ∧ firstAsk l = l[j].2
  | x :: l, 0, _,_, h2 => by
    have h3 : x.1 = true := h2
    refine ⟨by simp [anyAsk, h3], by simp [firstAsk, h3]⟩
  | x :: l, j + 1, hj, h, h2 => by
    have h3 : x.1 = false := by
      unfold anyAsk at h; simp only [List.take_succ_cons, List.any_cons, Bool.or_eq_false_iff] at h; exact h.1
    have h4 : anyAsk (l.take j) = false := by
      unfold anyAsk at h ⊢; simp only [List.take_succ_cons, List.any_cons, Bool.or_eq_false_iff] at h; exact h.2
    have ih := zHy (l := l) (j := j) (by simpa using hj) h4 h2
    refine ⟨?_, ?_⟩
    · have := ih.1; unfold anyAsk at this ⊢; rw [List.any_cons, this, Bool.or_true]
    · rw [firstAsk, h3]; exact ih.2
theorem zE4 {c : Cargo} {l : List (Bool × Int)} (h : (check c).2.2 ≠ 0) : enterE c l = (check c).2.2 := by unfold enterE; rw [if_pos h]
theorem zE3 {c : Cargo} {l : List (Bool × Int)} (h : (check c).2.2 = 0) (ha : anyAsk l = true) : enterE c l = firstAsk l := by unfold enterE; rw [if_neg (by simp [h]), if_pos ha]
theorem zE2 {c : Cargo} {l : List (Bool × Int)} (h : (check c).2.2 = 0) (ha : anyAsk l = false) (hs : someB c 0 = false) : enterE c l = 8 := by unfold enterE; rw [if_neg (by simp [h]), if_neg (by simp [ha]), if_neg (by simp [hs])]
theorem zHw {c : Cargo} {l : List (Bool × Int)} (h : (check c).2.2 = 0) (ha : anyAsk l = false) (hs : someB c 0 = true) : enterE c l = 0 := by unfold enterE; rw [if_neg (by simp [h]), if_neg (by simp [ha]), if_pos hs]
theorem zFp {c : Cargo} {l : List (Bool × Int)} (hne : ∀ x ∈ l, x.1 = true → x.2 ≠ 0) (h : enterE c l = 0) : (check c).2.2 = 0 ∧ anyAsk l = false ∧ someB c 0 = true := by
  by_cases h1 : (check c).2.2 = 0
  · cases h2 : anyAsk l with
    | true =>
      exfalso
      rw [zE3 h1 h2] at h
      have key : ∀ l : List (Bool × Int), (∀ x ∈ l, x.1 = true → x.2 ≠ 0) → anyAsk l = true → firstAsk l ≠ 0 := by
        intro l
        induction l with
        | nil => intro _ h; cases h
        | cons x l ih =>
          intro hl ha
          cases hx : x.1 with
          | true => rw [firstAsk, hx]; exact hl x (.head _) hx
          | false =>
            rw [firstAsk, hx]
            refine ih (fun y hy => hl y (.tail _ hy)) ?_
            unfold anyAsk at ha ⊢
            rw [List.any_cons, hx, Bool.false_or] at ha; exact ha
      exact key l hne h2 h
    | false =>
      cases h3 : someB c 0 with
      | true => exact ⟨h1, rfl, rfl⟩
      | false => rw [zE2 h1 h2 h3] at h; cases h
  · rw [zE4 h1] at h; exact absurd h h1
theorem some_step {c : Cargo} {but k : Nat} (h : someTo c but k = true) (h2 : 0 < (truths c but k).length) : someTo c but (k + 1) = true := by
  rw [someTo, h]
  cases hd : truths c but k with
  | nil => rw [hd] at h2; simp at h2
  | cons _ _ => rfl
theorem some_no {c : Cargo} {but k : Nat} (h2 : (truths c but k).length = 0) : ∀ n, k < n → someTo c but n = false
  | 0, h => by omega
  | n + 1, h => by
    rw [someTo]
    by_cases e : k = n
    · subst e; rw [List.length_eq_zero_iff.1 h2]; simp
    · rw [some_no h2 n (by omega)]; rfl
theorem some_at {c : Cargo} {but : Nat} : ∀ {n k : Nat}, k < n → someTo c but n = true → 0 < (truths c but k).length
  | n + 1, k, hk, h => by
    rw [someTo, Bool.and_eq_true] at h
    by_cases e : k = n
    · subst e
      cases hd : truths c but k with
      | nil => rw [hd] at h; simp at h
      | cons _ _ => simp
    · exact some_at (by omega) h.1
theorem sok_set7 {s : List Int} (h : SOk s) {z : Int} (hz : 0 ≤ z ∧ z < 64) : SOk (s.set 7 z) := by
  have h8 := h.len
  match s, h8 with
  | [a, b, c, d, e, f, g, t], _ =>
    exact ⟨rfl, h.w, fun i hi => by
      have := h.g i hi
      match i, hi with
      | 0, _ => exact this
      | 1, _ => exact this
      | 2, _ => exact this
      | 3, _ => exact this
      | 4, _ => exact this, hz⟩
theorem sok_setg {s : List Int} (h : SOk s) {j : Nat} (hj : j < 5) {z : Int} (hz : -1000 ≤ z ∧ z ≤ 1000) : SOk (s.set (2 + j) z) := by
  have h8 := h.len
  refine ⟨by rw [List.length_set]; exact h8, ?_, fun i hi => ?_, ?_⟩
  · have e : (s.set (2 + j) z).getD 1 0 = s.getD 1 0 := by simp [List.getD, List.getElem?_set, show 2 + j ≠ 1 by omega]
    rw [e]; exact h.w
  · by_cases e : j = i
    · subst e
      have e : (s.set (2 + j) z).getD (2 + j) 0 = z := by simp [List.getD, List.getElem?_set, show 2 + j < s.length by omega]
      rw [e]; exact hz
    · have e : (s.set (2 + j) z).getD (2 + i) 0 = s.getD (2 + i) 0 := by simp [List.getD, List.getElem?_set, e]
      rw [e]; exact h.g i hi
  · have e : (s.set (2 + j) z).getD 7 0 = s.getD 7 0 := by simp [List.getD, List.getElem?_set, show ¬ 2 + j = 7 by omega]
    rw [e]; exact h.t
end Go.Rt.Tu
set_option maxRecDepth 20000
namespace Go.Proofs.Ut
open Go.Proofs.Tryz
open Go.Rt Go.Rt.Tu
open Go.Rt.Ha (firstE zB3 zAp zBn failE felt spanL upto zBv listL fewest fewTo bit Bunch before fewStep zB8 zCi zBx zB2 zCg zCf zBu)
attribute [local irreducible] WL WC Con Yd At Ats Sl Agree DW
theorem Try_UG_fb0 (x0 : Int) (x1 : Int) (w : World) : (Instr.build 94 [(0, .int .i64 x0),(3, .int .i64 x1)].toArray).run Tryz.prog w = .ok (.agg #[.int .i64 x0, .int .i64 0, .int .i64 0, .int .i64 0, .int .i64 0, .int .i64 0, .int .i64 0, .int .i64 x1]) w := by kernel_rfl
theorem Try_UG_fb1 (x0 : Int) (w : World) : (Instr.build 94 [(0, .int .i64 x0)].toArray).run Tryz.prog w = .ok (.agg #[.int .i64 x0, .int .i64 0, .int .i64 0, .int .i64 0, .int .i64 0, .int .i64 0, .int .i64 0, .int .i64 0]) w := by kernel_rfl
theorem Try_UG_fb2 (x0 : Option Addr) (l0 c0 : Nat) (x1 : Int) (x2 : Option Addr) (l2 c2 : Nat) (x3 : Option Addr) (l3 c3 : Nat) (x4 : Option Addr) (l4 c4 : Nat) (x5 : Int) (x6 : Option Nat) (w : World) : (Instr.build 138 [(0, .agg #[.slice x0 l0 c0, .int .i64 x1, .slice x2 l2 c2, .slice x3 l3 c3, .slice x4 l4 c4]),(1, .int .i64 x5),(2, .map x6)].toArray).run Tryz.prog w = .ok (.agg #[.slice x0 l0 c0, .int .i64 x1, .slice x2 l2 c2, .slice x3 l3 c3, .slice x4 l4 c4, .int .i64 x5, .map x6]) w := by kernel_rfl
theorem next_all {w0 : World} {F : List (Nat × Obj)} (c : Cargo) (p : AtT) (but cb mm : Nat) (hk : CK w0 F c p but cb mm)  (hco : c.Ok) (hold : Nat) (hh : hold < c.holds.length) (bp bh bs bla bsn bY bn : Nat) (h1 : Ats w0 F bp 0 [.pointer (some ⟨cb, 0, none⟩)]) (h2 : Ats w0 F bh 0 [.int .i64 (hold : Int)]) (Ls : List (List Int)) (J : Nat → List (Nat × Obj) → Prop) (Js : List (Nat × Obj) → Prop) (yv : Value) (hy : ∀ (i : Nat) (x : List Int) (R : List (List Int)) (B M X : List (Nat × Obj)) (w : World), Ls.drop i = x :: R → J i B → Memo c mm M → St w0 w (X ++ (B ++ (M ++ F))) → FCon Tryz.prog yv [ia x] w fun v w' => ∃ B' M', Memo c mm M' ∧ St w0 w' (X ++ (B' ++ (M' ++ F))) ∧ (v = .bool true ∧ J (i + 1) B' ∨ v = .bool false ∧ Js B')) (rem : Nat) : NextC c but cb mm hold bp bh bs bla bsn bY bn Ls J Js yv w0 F rem := by
  induction rem with
  | zero => exact c114 c p but cb mm hk hco hold hh bp bh bs bla bsn bY bn h1 h2 Ls J Js yv hy 0 (fun r h => by omega)
  | succ r ih => exact c114 c p but cb mm hk hco hold hh bp bh bs bla bsn bY bn h1 h2 Ls J Js yv hy (r + 1) (fun q h => by have : q = r := (by omega); subst this; exact ih)
theorem iter_memo {w0 : World} {F : List (Nat × Obj)} {c : Cargo} {mm : Nat} {Ls : List (List Int)} {J : Nat → List (Nat × Obj) → Prop} {Js : List (Nat × Obj) → Prop} {J0 : Nat → List (Nat × Obj) → Prop} {Js0 : List (Nat × Obj) → Prop} (hJi : ∀ i Bx, J i Bx ↔ ∃ B M, Bx = B ++ M ∧ Memo c mm M ∧ J0 i B) (hJs : ∀ Bx, Js Bx ↔ ∃ B M, Bx = B ++ M ∧ Memo c mm M ∧ Js0 B) {yv : Value}
    (hy : ∀ i (hi : i < (Ls.map ia).length) B X w, J i B → St w0 w (X ++ (B ++ F)) → FCon Tryz.prog yv [(Ls.map ia)[i]] w fun v w' => ∃ B', St w0 w' (X ++ (B' ++ F)) ∧ (v = .bool true ∧ J (i + 1) B' ∨ v = .bool false ∧ Js B')) :
    ∀ (i : Nat) (x : List Int) (R : List (List Int)) (B M X : List (Nat × Obj)) (w : World), Ls.drop i = x :: R → J0 i B → Memo c mm M → St w0 w (X ++ (B ++ (M ++ F))) → FCon Tryz.prog yv [ia x] w fun v w' => ∃ B' M', Memo c mm M' ∧ St w0 w' (X ++ (B' ++ (M' ++ F))) ∧ (v = .bool true ∧ J0 (i + 1) B' ∨ v = .bool false ∧ Js0 B') := by
  intro i x R B M X w hd hJ hM hs
  have h := hy i (by simpa using zB8 hd) (B ++ M) X w ((hJi _ _).2 ⟨B, M, rfl, hM, hJ⟩) (by rw [List.append_assoc]; exact hs)
  rw [List.getElem_map, zCi hd] at h
  refine h.mono ?_
  rintro v w' ⟨Bx, hs', (⟨rfl, hj⟩ | ⟨rfl, hj⟩)⟩
  · obtain ⟨B', M', rfl, hM', hJ'⟩ := (hJi _ _).1 hj
    exact ⟨B', M', hM', by rw [List.append_assoc] at hs'; exact hs', .inl ⟨rfl, hJ'⟩⟩
  · obtain ⟨B', M', rfl, hM', hJ'⟩ := (hJs _).1 hj
    exact ⟨B', M', hM', by rw [List.append_assoc] at hs'; exact hs', .inr ⟨rfl, hJ'⟩⟩
theorem mkG_at1 {hold w : Int} {g : List Int} {m : Nat} : (mkG hold w g m).getD 1 0 = w := rfl
theorem zDv {w0 : World} {F : List (Nat × Obj)} (c : Cargo) (p : AtT) (but cb mm : Nat) (hk : CK w0 F c p but cb mm) (hco : c.Ok) (hold : Nat) (hh : hold < c.holds.length) (bp bh : Nat) (h1 : Ats w0 F bp 0 [.pointer (some ⟨cb, 0, none⟩)]) (h2 : Ats w0 F bh 0 [.int .i64 (hold : Int)]) : IterC Tryz.prog 112 [] [.pointer (some ⟨bp, 0, none⟩), .pointer (some ⟨bh, 0, none⟩)] ((truths c but hold).map ia) w0 F (ClsM (Memo c mm)) := by
  intro J Js hcl yv B X w hyv hy hJ hs
  obtain ⟨J0, Js0, hJi, hJs⟩ := hcl
  obtain ⟨yf, ya, yb, rfl⟩ := hyv
  obtain ⟨B0, M, rfl, hM, hJ0⟩ := (hJi 0 B).1 hJ
  replace hs : St w0 w (X ++ (B0 ++ (M ++ F))) := by rw [List.append_assoc] at hs; exact hs
  have hb := hk.l
  have hlo := hco.ll
  have hlh := hco.lh
  have hho := hco.hold _ (List.getElem_mem hh)
  show Con Tryz.prog 112 [.func yf ya yb, .pointer (some ⟨bp, 0, none⟩), .pointer (some ⟨bh, 0, none⟩)] w _
  refine zAo (n := 46) func112 rfl rfl (zNl rfl) ?_
  refine zAf (fun K2 gi => (zAb (zCj (v := .func _ _ _) (cs := [_]) zAa rfl rfl rfl hs (fun b3 w4 ga => ?_))))
  refine zAd (zAc (gi _ _ (zAf (fun K7 gj => (zAb (w_p (zAg isAgg84 ga.tail.drop.drop.drop rfl rfl h1) rfl (w_p (zCc (fv := [_]) (cv := []) rfl rfl rfl rfl) rfl (zA1 (cs := [_]) zAa zeroValue173 rfl ga (fun b8 w9 gk => ?_)))))))))
  refine zBj 0 (.func _ _ _) [_] sizeOf173 gk (fun gG gm => ?_)
  refine zAd (zAc (gj _ _ (zAf (fun gH gn => ?_))))
  have hMm := hM
  refine w_cut [5,10,11,12,13,14] [5] (fun vs w => ∃ bs, vs = [.pointer (some ⟨bs, 0, none⟩)] ∧ St w0 w ((bs, blk 94 (iv (mkG (hold : Int) 0 [0,0,0,0,0] (ofH c (hold : Int))))) :: (b8, blk 173 [.func (.func 113) #[.pointer (some ⟨cb, 0, none⟩)] #[]]) :: (b3, blk 172 [.func yf ya yb]) :: (X ++ (B0 ++ (M ++ F))))) (fun gI gc => ?_) ?_
  ·
   refine w_drawT (C := fun w => St w0 w _) [6] (.two [(0,1),(1,1),(2,1)] 3 5 (.done [(4,0),(5,2),(6,3)]) (.done [(3,2),(4,0),(6,3)])) zB4 (by kernel_rfl) gm (fun _ h => h.drew) (fun gJ g4 => ?_)
   refine zFq ?_
   refine zAz rfl zAa rfl g4 (fun _ hq => (zAg isAgg3 hq.tail.tail.drop.drop.drop rfl rfl h2)) ?_
   refine zAz rfl zAa rfl g4 (fun _ hq => (zAg isAgg84 hq.tail.tail.drop.drop.drop rfl rfl h1)) ?_
   refine zAz rfl zAa rfl g4 (fun _ hq => (zAg isAgg3 hq.tail.tail.drop.drop.drop rfl rfl h2)) ?_
   refine zIk rfl rfl ?_ ?_
   ·
    refine zCo zAa call57 rfl rfl rfl rfl (c57 c p but cb mm hk.app.app.app.cons.cons _ g4) (fun gK gd => ?_)
    refine zAd (qn ⟨gd, ?_⟩)
    refine zDs ?_
    refine d_w rfl (fun _ => show Yd _ _ _ _ (ia [(hold : Int), 0,0,0,0,0,0, ((ofH c (hold : Int) : Nat) : Int)]) from (zB1 (ps := [(0, _),(3, _)]) (pv := [(0, .int _ _),(3, .int _ _)]) rfl rfl (fun w => Try_UG_fb0 _ _ w))) rfl ?_
    refine zBh rfl ?_
    refine zA1 (cs := iv [0,0,0,0,0,0,0,0]) zAa zeroValue94 rfl gd (fun gL gM ge => ?_)
    refine zAd (qn ⟨ge.tail, ?_⟩)
    refine zBr rfl ?_
    refine zDg (i := 0) (l := _) zAa sizeOf94 (by first | omega | rfl | (simp only [zL] <;> omega)) rfl rfl rfl rfl rfl ge rfl (by first | omega | rfl | (simp only [zL] <;> omega)) (fun gN go => ?_)
    refine zAd (qn ?_)
    refine zBm ?_
    refine zAc (gc _ _ (mdI ?_))
    exact ⟨_, rfl, go⟩
   refine zA1 (cs := iv [0,0,0,0,0,0,0,0]) zAa zeroValue94 rfl g4 (fun gO gP gf => ?_)
   refine zAd (qn ⟨gf.tail, ?_⟩)
   refine zDs ?_
   refine zBh rfl ?_
   refine zCo zAa call57 rfl rfl rfl rfl (c57 c p but cb mm hk.app.app.app.cons.cons.cons _ gf) (fun gQ gg => ?_)
   refine zAd (qn ⟨gg.tail, ?_⟩)
   refine d_w rfl (fun _ => show Yd _ _ _ _ (ia [(hold : Int), 0,0,0,0,0,0, ((ofH c (hold : Int) : Nat) : Int)]) from (zB1 (ps := [(0, _),(3, _)]) (pv := [(0, .int _ _),(3, .int _ _)]) rfl rfl (fun w => Try_UG_fb0 _ _ w))) rfl ?_
   refine zBr rfl ?_
   refine zDg (i := 0) (l := _) zAa sizeOf94 (by first | omega | rfl | (simp only [zL] <;> omega)) rfl rfl rfl rfl rfl gg rfl (by first | omega | rfl | (simp only [zL] <;> omega)) (fun gR gp => ?_)
   refine zAd (qn ?_)
   refine zBm ?_
   refine zAc (gc _ _ (mdI ?_))
   exact ⟨_, rfl, gp⟩
  intro vs μ gS hM
  clear hs
  obtain ⟨bs, rfl, hs⟩ := hM
  have hM := hMm
  refine zAc (gn _ _ (zAf (fun gT gq => (zAb (w_p (show Yd _ _ _ _ (ia [-1,0,0,0,0,0,0,0]) from (zB1 (ps := [(0, _)]) (pv := [(0, .int _ _)]) rfl rfl (fun w => Try_UG_fb1 _ w))) rfl ?_)))))
  refine zA1 (cs := iv [0,0,0,0,0,0,0,0]) zAa zeroValue94 rfl hs (fun g6 gU gt => ?_)
  refine zDg (i := 0) (l := _) zAa sizeOf94 (by first | omega | rfl | (simp only [zL] <;> omega)) rfl rfl rfl rfl rfl gt rfl (by first | omega | rfl | (simp only [zL] <;> omega)) (fun gV gu => ?_)
  refine zAd (zAc (gq _ _ (zAf (fun gW gv => (zAb (zA1 (cs := [_]) zAa zeroValue111 rfl gu (fun g7 gX gw => ?_)))))))
  refine zAd (zAc (gv _ _ (zAf (fun gY gx => (zAb (w_p (zCc (fv := []) (cv := [_,_,_,_,_,_,_]) rfl rfl rfl rfl) rfl (zBj 0 (.func _ _ _) [_] sizeOf111 gw (fun gZ gy => ?_))))))))
  refine zAd (zAc (gx _ _ (zAf (fun hD gz => ?_))))
  obtain ⟨bx, ox, hbx, hx⟩ := zI1 hk.i.h hh
  have hgm0 := zG4 (hold := (hold : Int)) (w := 0) (g := [0,0,0,0,0]) (m := (ofH c (hold : Int))) rfl
  refine zCq [10] [(0,1),(1,0),(2,0),(3,0),(4,1),(5,1),(6,0),(7,0),(8,1),(9,0),(10,3)] zB4 (zBk (by kernel_rfl)) gy (fun hN g5 => ?_)
  refine zAz rfl zAa rfl g5 (fun _ hq => (zAg isAgg84 hq.tail.tail.tail.tail.tail.drop.drop.drop rfl rfl h1)) ?_
  refine d_w rfl (fun _ => zB0 rfl rfl) rfl (d_w rfl (fun _ => zAe (o := 0) (i := 0) underlying138 rfl sizeOf27 rfl rfl rfl) rfl (d_w rfl (fun _ => zAe (o := 2) (i := 2) underlying27 rfl sizeOf23 rfl rfl rfl) rfl ?_))
  refine zAz rfl zAa rfl g5 (fun _ hq => (zCl hbx (zAg isAgg23 hq.tail.tail.tail.tail.tail.drop.drop.drop rfl rfl (show Ats _ _ _ _ [_] from Ats.part hb 2 1)))) ?_
  refine zAz rfl zAa rfl g5 (fun _ hq => (zAg isAgg3 hq.tail.tail.tail.tail.tail.drop.drop.drop rfl rfl h2)) ?_
  refine d_w rfl (fun _ => zA7 underlying23 sizeOf36 rfl rfl rfl rfl (i := hold) rfl hh) rfl (d_w rfl (fun _ => zAe (o := 0) (i := 0) underlying36 rfl sizeOf3 rfl rfl rfl) rfl ?_)
  refine zAz rfl zAa rfl g5 (fun _ hq => (zAg isAgg3 hq.tail.tail.tail.tail.tail.drop.drop.drop rfl rfl (show Ats _ _ _ _ [_] from Ats.part hx 0 1))) ?_
  refine d_w rfl (fun _ => zAe (o := 1) (i := 1) underlying94 rfl sizeOf3 rfl rfl rfl) rfl ?_
  refine zBr rfl ?_
  refine zE8 (i := 2) (o := 1) zAa sizeOf3 rfl rfl rfl rfl g5 rfl (by first | omega | rfl | (simp only [zL] <;> omega)) (fun hP gA => ?_)
  refine zAd (qn ?_)
  refine zBm ?_
  refine zAc (gz _ _ (zAq ?_))
  refine zB6 [27,28,29,30,31,32,33,34,35,36,37,38,39,40,41,42,43,44,45] [] (fun k vs w => ∃ (q : Nat) (g last : List Int) (i : Nat) (B M : List (Nat × Obj)), vs = [] ∧ (q : Int) ≤ (c.holds[hold]'hh).2 + 1 - (c.holds[hold]'hh).1 ∧ k = ((c.holds[hold]'hh).2 + 1 - (c.holds[hold]'hh).1).toNat - q ∧ g.length = 5 ∧ last.length = 8 ∧ (∀ j, c.lots.length ≤ j → g.getD j 0 = 0) ∧ i ≤ (truths c but hold).length ∧ (truths c but hold).drop i = warmK c but hold (upto ((c.holds[hold]'hh).1 + q) (((c.holds[hold]'hh).2 + 1 - (c.holds[hold]'hh).1).toNat - q)) ∧ (warmF c hold (upto ((c.holds[hold]'hh).1 + q) (((c.holds[hold]'hh).2 + 1 - (c.holds[hold]'hh).1).toNat - q))).Nodup ∧ last ∉ warmF c hold (upto ((c.holds[hold]'hh).1 + q) (((c.holds[hold]'hh).2 + 1 - (c.holds[hold]'hh).1).toNat - q)) ∧ J0 i B ∧ Memo c mm M ∧ St w0 w ((g7, blk 111 [.func (.func 114) #[] #[.pointer (some ⟨bp, 0, none⟩), .pointer (some ⟨bs, 0, none⟩), .pointer (some ⟨g6,0, none⟩), .pointer (some ⟨b8,0, none⟩), .pointer (some ⟨bh, 0, none⟩), .pointer (some ⟨b3,0, none⟩), .pointer (some ⟨g7,0, none⟩)]]) :: (g6, blk 94 (iv last)) :: (bs, blk 94 (iv (mkG (hold : Int) ((c.holds[hold]'hh).1 + (q : Int)) g (ofH c (hold : Int))))) :: (b8, blk 173 [.func (.func 113) #[.pointer (some ⟨cb, 0, none⟩)] #[]]) :: (b3, blk 172 [.func yf ya yb]) :: (X ++ (B ++ (M ++ F))))) (((c.holds[hold]'hh).2 + 1 - (c.holds[hold]'hh).1).toNat) ?_ ?_
  ·
   exact ⟨0, [0,0,0,0,0], [-1,0,0,0,0,0,0,0], 0, B0, M, rfl, by omega, by omega, rfl, rfl, (fun j _ => by match j with | 0 => rfl | 1 => rfl | 2 => rfl | 3 => rfl | 4 => rfl | _ + 5 => rfl), by omega, by rw [show (c.holds[hold]'hh).1 + ((0 : Nat) : Int) = (c.holds[hold]'hh).1 by omega]; have h := warmK_all c but hold; rw [zIj hh] at h; exact h.symm, warm_nodup hco hold _ (Go.Rt.Ha.upto_nodup _ _), zH5 hco hold _, hJ0, hM, by rw [show (c.holds[hold]'hh).1 + ((0 : Nat) : Int) = (c.holds[hold]'hh).1 by omega]; exact gA⟩
  intro k vs μ hX hI hY gB
  clear hs hM hMm
  obtain ⟨q, g, last, i, B, M, rfl, hq, rfl, hgl, hll, hz, hi, hpos, hnd, hlast, hJ, hM, hs⟩ := hI
  refine zAf (fun j0 gC => (zAf (fun j1 gD => ?_)))
  have hw1 := mkG_at1 (hold := (hold : Int)) (w := (c.holds[hold]'hh).1 + (q : Int)) (g := g) (m := (ofH c (hold : Int)))
  have hgm := zG4 (hold := (hold : Int)) (w := (c.holds[hold]'hh).1 + (q : Int)) (m := (ofH c (hold : Int))) hgl
  refine zCq [] [(0,0),(1,1),(2,1),(3,0),(4,0),(5,0),(6,1),(7,1),(8,0),(9,0),(10,1),(11,0)] zB4 (zBk (by kernel_rfl)) hs (fun j3 g0 => ?_)
  refine d_w rfl (fun _ => zAe (o := 1) (i := 1) underlying94 rfl sizeOf3 rfl rfl rfl) rfl ?_
  refine zAz rfl zAa rfl g0 (fun _ hq => (zAg isAgg3 hq rfl rfl (zEr (i := 2) (o := 1) rfl (by first | omega | rfl | (simp only [zL] <;> omega))))) ?_
  refine zAz rfl zAa rfl g0 (fun _ hq => (zAg isAgg84 hq.tail.tail.tail.tail.tail.drop.drop.drop rfl rfl h1)) ?_
  refine d_w rfl (fun _ => zB0 rfl rfl) rfl (d_w rfl (fun _ => zAe (o := 0) (i := 0) underlying138 rfl sizeOf27 rfl rfl rfl) rfl (d_w rfl (fun _ => zAe (o := 2) (i := 2) underlying27 rfl sizeOf23 rfl rfl rfl) rfl ?_))
  refine zAz rfl zAa rfl g0 (fun _ hq => (zCl hbx (zAg isAgg23 hq.tail.tail.tail.tail.tail.drop.drop.drop rfl rfl (show Ats _ _ _ _ [_] from Ats.part hb 2 1)))) ?_
  refine zAz rfl zAa rfl g0 (fun _ hq => (zAg isAgg3 hq.tail.tail.tail.tail.tail.drop.drop.drop rfl rfl h2)) ?_
  refine d_w rfl (fun _ => zA7 underlying23 sizeOf36 rfl rfl rfl rfl (i := hold) rfl hh) rfl (d_w rfl (fun _ => zAe (o := 1) (i := 1) underlying36 rfl sizeOf3 rfl rfl rfl) rfl ?_)
  refine zAz rfl zAa rfl g0 (fun _ hq => (zAg isAgg3 hq.tail.tail.tail.tail.tail.drop.drop.drop rfl rfl (show Ats _ _ _ _ [_] from Ats.part hx 1 1))) ?_
  refine d_w rfl (fun _ => zFc rfl rfl rfl rfl) rfl ?_
  refine zBm ?_
  refine zAc (gD _ _ (zAr rfl rfl (fun g8 => ?_) (fun g8 => ?_)))
  ·
   try simp only [zS] at g8
   refine zAn (zAc (gC _ _ (zAf (fun j4 gE => (zAq ?_)))))
   refine zAf (fun j5 gh => (zAb (w_p (zAg isAgg111 g0 rfl rfl (aow 0 [_])) rfl ?_)))
   refine zA4 zAa call114 rfl rfl rfl rfl (next_all c p but cb mm hk hco hold hh bp bh bs g6 b8 b3 g7 h1 h2 (truths c but hold) J0 Js0 (.func yf ya yb) (iter_memo hJi hJs hy) c.lots.length ((c.holds[hold]'hh).1 + (q : Int)) 0 [] g last i (warmK c but hold (upto ((c.holds[hold]'hh).1 + (q + 1 : Nat)) (((c.holds[hold]'hh).2 + 1 - (c.holds[hold]'hh).1).toNat - (q + 1)))) (warmF c hold (upto ((c.holds[hold]'hh).1 + (q + 1 : Nat)) (((c.holds[hold]'hh).2 + 1 - (c.holds[hold]'hh).1).toNat - (q + 1)))) B M X _ (by omega) (by omega) rfl (fun j => by simp) hgl rfl hz hi (by rw [warmK_next (by omega)] at hpos; exact hpos) hll (by rw [zH0 (by omega)] at hnd; exact hnd) (by rw [zH0 (by omega)] at hlast; exact hlast) hJ hM g0) ?_
   rintro _ j6 ⟨g2, last2, B2, M3, hg2, hl2, hk2, hz2, g9, g3, (⟨rfl, i2, hi2, hp2, hn2, hJ2⟩ | ⟨rfl, hJ2⟩)⟩
   ·
    replace g3 := (show St _ _ (_ :: _ :: _ :: _ :: _ :: X ++ (B2 ++ (M3 ++ (F)))) from g3)
    refine w_p (zDo rfl rfl) rfl (zAd (zAc (gh _ _ (zBs rfl rfl ?_))))
    refine zAn (zAi (zAc (gE _ _ (zAb ?_))))
    have hw2 := mkG_at1 (hold := (hold : Int)) (w := (c.holds[hold]'hh).1 + (q : Int)) (g := g2) (m := (ofH c (hold : Int)))
    have hgm2 := zG4 (hold := (hold : Int)) (w := (c.holds[hold]'hh).1 + (q : Int)) (m := (ofH c (hold : Int))) hg2
    refine w_p (zAe (o := 1) (i := 1) underlying94 rfl sizeOf3 rfl rfl rfl) rfl (w_p (zAg isAgg3 g3 rfl rfl (zEr (i := 2) (o := 1) rfl (by first | omega | rfl | (simp only [zL] <;> omega)))) rfl ?_)
    refine w_p (zBo rfl rfl rfl rfl (by omega) (by omega)) rfl (w_p (zAe (o := 1) (i := 1) underlying94 rfl sizeOf3 rfl rfl rfl) rfl (zE8 (i := 2) (o := 1) zAa sizeOf3 rfl rfl rfl rfl g3 rfl (by first | omega | rfl | (simp only [zL] <;> omega)) (fun j7 gF => ?_)))
    refine zAd (zAc (gB _ _ (nxI (((c.holds[hold]'hh).2 + 1 - (c.holds[hold]'hh).1).toNat - (q + 1)) (by omega) ?_)))
    exact ⟨q + 1, g2, last2, i2, B2, M3, rfl, by omega, by omega, hg2, hl2, hz2, hi2, hp2, (by rw [zH0 (by omega)] at hnd; exact (List.nodup_append.1 hnd).2.1), hn2, hJ2, g9, by rw [show (c.holds[hold]'hh).1 + ((q + 1 : Nat) : Int) = (c.holds[hold]'hh).1 + (q : Int) + 1 by omega]; exact gF⟩
   replace g3 := (show St _ _ (_ :: _ :: _ :: _ :: _ :: X ++ (B2 ++ (M3 ++ (F)))) from g3)
   refine w_p (zDo rfl rfl) rfl (zAd (zAc (gh _ _ (zDb rfl rfl ?_))))
   refine zA8 (zA9 (zAl (zAl (zA9 (zBa (l := []) (vs := []) rfl trivial ?_)))))
   first
     | exact ⟨B2 ++ M3, by rw [List.append_assoc]; exact g3.tail.tail.tail.tail.tail, .inr ((hJs _).2 ⟨B2, M3, rfl, g9, hJ2⟩)⟩
     | (rw [warmK_done (by omega)] at hpos
        exact ⟨B ++ M, by rw [List.append_assoc]; exact g3.tail.tail.tail.tail.tail, .inl (by rw [List.length_map, ← zB2 hi hpos]; exact (hJi _ _).2 ⟨B, M, rfl, hM, hJ⟩)⟩)
  try simp only [zS] at g8
  refine zBt (zAj (zAj (zAv (q_end (l := []) (vs := []) rfl trivial ?_))))
  first
    | exact ⟨B2 ++ M3, by rw [List.append_assoc]; exact g0.tail.tail.tail.tail.tail, .inr ((hJs _).2 ⟨B2, M3, rfl, g9, hJ2⟩)⟩
    | (rw [warmK_done (by omega)] at hpos
       exact ⟨B ++ M, by rw [List.append_assoc]; exact g0.tail.tail.tail.tail.tail, .inl (by rw [List.length_map, ← zB2 hi hpos]; exact (hJi _ _).2 ⟨B, M, rfl, hM, hJ⟩)⟩)

theorem c79 {w0 w : World} {F : List (Nat × Obj)} (cb : Nat) (hold : Int) (hs : St w0 w F) :
  Con Tryz.prog 79 [.pointer (some ⟨cb, 0, none⟩), .int .i64 hold] w fun v w' => ∃ bp bh, v = .func (.func 112) #[] #[.pointer (some ⟨bp, 0, none⟩), .pointer (some ⟨bh, 0, none⟩)] ∧ St w0 w' ((bh, blk 3 [.int .i64 hold]) :: (bp, blk 84 [.pointer (some ⟨cb, 0, none⟩)]) :: F) := by
  refine zAo (n := 6) func79 rfl rfl (zNl rfl) ?_
  refine zAf (fun K2 g0 => (zAb (zCj (v := .pointer _) (cs := [_]) zAa rfl rfl rfl hs (fun b3 w4 g3 => ?_))))
  refine zCj (v := .int _ _) (cs := [_]) zAa rfl rfl rfl g3 (fun b6 w7 g4 => ?_)
  refine zBi rfl rfl (zAd (zAc (g0 _ _ (zAf (fun g6 g5 => (zAb (w_p (zCc (fv := []) (cv := [_,_]) rfl rfl rfl rfl) rfl (w_p (zCu (v := .func _ _ _) rfl rfl) rfl ?_))))))))
  refine zAd (zAc (g5 _ _ (zA8 (zBa (l := [.tmp 4]) (vs := [_]) rfl ⟨⟨rfl, show _ = (.func _ _ _ : Value) from rfl⟩, trivial⟩ ?_))))
  exact ⟨_, _, rfl, g4⟩

theorem c55 {w0 w : World} {F : List (Nat × Obj)} (c : Cargo) (p : AtT) (but : Nat) (hs : St w0 w F) :
  Con Tryz.prog 55 [.agg (c.cells p).toArray, .int .i64 (but : Int)] w fun v w' => ∃ cb mm, v = .pointer (some ⟨cb, 0, none⟩) ∧ St w0 w' ((cb, blk 138 [.slice p.ae c.heat.length p.ce, .int .i64 c.gas, .slice p.ah c.holds.length p.ch, .slice p.al c.lots.length p.cl, .slice p.an c.seen.length p.cn, .int .i64 (but : Int), .map (some mm)]) :: (mm, .map #[] 0) :: F) := by
  refine zAo (n := 10) func55 rfl rfl (zNl rfl) ?_
  refine zAf (fun K2 g3 => (zAb (zCj (v := .agg #[.slice _ _ _, .int _ _, .slice _ _ _, .slice _ _ _, .slice _ _ _]) (cs := [_,_,_,_,_]) zAa rfl rfl rfl hs (fun b3 w4 g0 => ?_))))
  refine zBi rfl rfl (zAd (zAc (g3 _ _ (zAf (fun K7 g4 => (zAb (w_p (zA2 (vs := [_,_,_,_,_]) isAgg27 sizeOf27 g0 rfl rfl (aow 0 [_,_,_,_,_])) rfl (zA6 rfl rfl ?_))))))))
  refine w_makeMap zAa g0 (fun b8 w9 g5 => ?_)
  refine w_p (zB1 (ps := [(0, _),(1, _),(2, _)]) (pv := [(0, .agg #[.slice _ _ _, .int _ _, .slice _ _ _, .slice _ _ _, .slice _ _ _]),(1, .int _ _),(2, .map _)]) rfl rfl (fun w => Try_UG_fb2 _ _ _ _ _ _ _ _ _ _ _ _ _ _ _ w)) rfl (zCj (v := .agg #[.slice _ _ _, .int _ _, .slice _ _ _, .slice _ _ _, .slice _ _ _, .int _ _, .map _]) (cs := [_,_,_,_,_,_,_]) zAa rfl rfl rfl g5 (fun g7 g8 g6 => ?_))
  refine w_p (zDf rfl rfl) rfl (zAd (zAc (g4 _ _ (zA8 (zBa (l := [.tmp 4]) (vs := [_]) rfl ⟨⟨rfl, show _ = (.pointer _ : Value) from rfl⟩, trivial⟩ ?_)))))
  exact ⟨_, _, rfl, (St.perm (L := [_,_,_] ++ F) g6 (zBp [_,_] [_] F)).tail⟩

end Go.Proofs.Ut
set_option maxRecDepth 20000
namespace Go.Proofs.Ut
open Go.Proofs.Tryz
open Go.Rt Go.Rt.Tu
open Go.Rt.Ha (firstE zB3 zAp zBn failE felt spanL upto zBv listL fewest fewTo bit Bunch before fewStep zB8 zCi zBx zB2 zCg zCf zBu)
attribute [local irreducible] WL WC Con Yd At Ats Sl Agree DW

theorem arow2 (l : List (Bool × Int)) : ∀ row ∈ arows l, row.length = 2 := by intro row h; obtain ⟨x, _, rfl⟩ := List.mem_map.1 h; rfl
theorem kp_own {w0 w : World} {F : List (Nat × Obj)} {x a : Nat × Obj} (h : St w0 w (x :: (a :: F))) : St w0 w (x :: F) := (h.perm (zBp [x] [a] F)).tail
theorem kq_opq {w0 w : World} {B Y F : List (Nat × Obj)} (h : St w0 w (B ++ (Y ++ F))) : St w0 w (B ++ F) := (h.perm (zBp B Y F)).drop
theorem some_perm (a b : Nat × Obj) (D X M F : List (Nat × Obj)) : (a :: b :: (D ++ (X ++ (M ++ F)))).Perm (M ++ (a :: b :: (D ++ (X ++ F)))) :=
  ((List.Perm.append_left [a, b] ((List.Perm.append_left D (zBp X M F)).trans (zBp D M (X ++ F)))).trans (zBp [a, b] M (D ++ (X ++ F))))
theorem some_back {w0 w : World} {bd : Nat} {bs : List Nat} {a b : Nat × Obj} {M X F : List (Nat × Obj)} (h : St w0 w ((bd, .deferred (some [])) :: (M ++ (a :: b :: (dfs bs ++ (X ++ F)))))) : St w0 w (dfs (bd :: bs) ++ (X ++ (M ++ F))) := by
  have h1 := h.perm (List.Perm.cons _ (zBp M [a, b] (dfs bs ++ (X ++ F))))
  have h2 := kp_own (kp_own h1)
  exact h2.perm (List.Perm.cons _ ((zBp M (dfs bs) (X ++ F)).trans (List.Perm.append_left _ (zBp M X F))))
theorem zJa {w0 w : World} {x y : Nat × Obj} {M F : List (Nat × Obj)} (h : St w0 w (M ++ (x :: y :: F))) : St w0 w (M ++ (x :: F)) := by
  have h1 := h.perm (zBp M [x, y] F)
  exact (kp_own h1).perm (zBp [x] M F)
theorem swp2 {w0 w : World} {a b : Nat × Obj} {F : List (Nat × Obj)} (h : St w0 w (a :: b :: F)) : St w0 w (b :: a :: F) := h.perm (List.Perm.swap _ _ _)
theorem sl_arows {w0 : World} {F : List (Nat × Obj)} {a : Option Addr} {l : List (Bool × Int)} {i : Nat} (h : Sl w0 F a 2 (arows l)) (hi : i < l.length) : ∃ b off, a = some ⟨b, off, none⟩ ∧ Ats w0 F b (off + i * 2) [.bool l[i].1, .int .i64 l[i].2] := by
  obtain ⟨b, off, ha, _, hat⟩ := h.at (i := i) (row := [.bool l[i].1, .int .i64 l[i].2]) (by simp [arows, hi])
  exact ⟨b, off, ha, hat⟩
theorem zEs {w0 : World} {L : List (Nat × Obj)} {c : Cargo} {p : AtT} {but cb mm : Nat} (hm : TIn w0 L c p) (hok : c.Ok) (hb : but < 1000) : CK w0 ((cb, blk 138 [.slice p.ae c.heat.length p.ce, .int .i64 c.gas, .slice p.ah c.holds.length p.ch, .slice p.al c.lots.length p.cl, .slice p.an c.seen.length p.cn, .int .i64 (but : Int), .map (some mm)]) :: L) c p but cb mm := ⟨hm.cons, zB9 (i := 0) rfl rfl, hok.t, hb⟩
theorem c64 {w0 w : World} {X M F : List (Nat × Obj)} (c : Cargo) (p : AtT) (but cb mm : Nat) (hk : CK w0 F c p but cb mm) (hco : c.Ok) (hM : Memo c mm M) (hs : St w0 w (X ++ (M ++ F))) :
  Con Tryz.prog 64 [.pointer (some ⟨cb, 0, none⟩)] w fun v w' => v = .bool (someB c but) ∧ ∃ M', Memo c mm M' ∧ St w0 w' (X ++ (M' ++ F)) := by
  refine zEa (n := 18) func64 rfl rfl (zNl rfl) ?_
  have hb := hk.l
  have hlh := hco.lh
  refine zAf (fun K2 g7 => (zAb (zBi rfl rfl (zAd (zAc (g7 _ _ (w_scope ?_)))))))
  refine zAf (fun K4 g8 => (w_label ?_))
  refine zAc (g8 _ _ (zAf (fun K6 g9 => (zAf (fun K8 ga => (zAb (w_p (zCn rfl rfl) rfl (w_p (zB0 rfl rfl) rfl (w_p (zAe (o := 0) (i := 0) underlying138 rfl sizeOf27 rfl rfl rfl) rfl ?_)))))))))
  refine w_p (zAe (o := 2) (i := 2) underlying27 rfl sizeOf23 rfl rfl rfl) rfl (w_p (zAg isAgg23 hs.drop.drop rfl rfl (show Ats _ _ _ _ [_] from Ats.part hb 2 1)) rfl (w_p (zBc underlying23 rfl rfl) rfl (w_p (zBy (v := _) rfl rfl) rfl (zAd (zAc (ga _ _ (zAq ?_)))))))
  refine w_loopD [2,3,10,11,12,13,14,15,17] [10] (fun k vs bs w => ∃ (hold : Nat) (M : List (Nat × Obj)), vs = [.int .i64 (hold : Int)] ∧ hold ≤ c.holds.length ∧ k = c.holds.length - hold ∧ someTo c but hold = true ∧ Memo c mm M ∧ St w0 w (dfs bs ++ (X ++ (M ++ F)))) (c.holds.length) [] ?_ ?_
  ·
   exact ⟨0, M, rfl, by omega, by omega, rfl, hM, hs⟩
  intro k vs μ bs gp hI gq gc
  clear hs hM
  obtain ⟨hold, M, rfl, hha, rfl, hsm, hM, hs⟩ := hI
  refine zAf (fun gt gd => (zAb (w_p (zCp rfl rfl rfl rfl) rfl (zAd (zAc (gd _ _ (zAf (fun gu ge => (zAr rfl rfl (fun g3 => ?_) (fun g3 => ?_))))))))))
  ·
   try simp only [zS] at g3
   refine zAn (zAc (ge _ _ (zAf (fun gv gf => (zAq ?_)))))
   refine zAf (fun gw gg => (zAb (zA6 rfl rfl (zBw rfl rfl (zAd (zAc (gg _ _ (zAf (fun gx gh => (zAf (fun gy gi => ?_)))))))))))
   have hh : hold < c.holds.length := by omega
   refine zAb (w_p (zCn rfl rfl) rfl (zA6 rfl rfl (zA4 zAa call79 rfl rfl rfl rfl (c79 _ _ hs) ?_)))
   rintro _ gz ⟨bp, bh, rfl, gj⟩
   refine zAd (zAc (gi _ _ (zAq ?_)))
   refine w_rangeC (M) (fun i Bx => ∃ B M, Bx = B ++ M ∧ Memo c mm M ∧ (i = 0 ∧ B = [])) (fun cd Bx => ∃ B M, Bx = B ++ M ∧ Memo c mm M ∧ ((cd = .exit 1 ∧ 0 < (truths c but hold).length) ∧ B = [])) rfl rfl rfl call112 (zDv c p but cb mm hk.app.app.cons.cons hco hold hh bp bh (aow 1 [_]) (aow 0 [_])) (clsM_range (fun i B => (i = 0 ∧ B = [])) (fun cd B => ((cd = .exit 1 ∧ 0 < (truths c but hold).length) ∧ B = [])) (fun i Bx => Iff.rfl) (fun cd Bx => Iff.rfl)) gj (some_perm _ _ _ _ _ _) ⟨[], M, rfl, hM, rfl, rfl⟩ ?_ ?_ ?_
   ·
    intro lp i hi Bx Xr Xr2 gA hJ hs K gk
    obtain ⟨BB, M3, rfl, g0, rfl, rfl⟩ := hJ
    have hi0 : 0 < (truths c but hold).length := by simpa using hi
    replace hs := (show St _ _ (M3 ++ (Xr ++ (_ :: _ :: (dfs bs ++ (X ++ F))))) from hs)
    refine zAn (zAc (gk _ _ (M3) hs (fun gB g4 => ?_)))
    replace g4 := (show St _ _ (M3 ++ (Xr2 ++ (_ :: _ :: (dfs bs) ++ (X ++ (F))))) from g4)
    refine zAq ?_
    refine zBt (zDw rfl ?_)
    refine rd_exit (M3) g4 ?_
    exact ⟨[], M3, rfl, g0, ⟨rfl, hi0⟩, rfl⟩
   ·
    intro bd Bx gC hJ hs
    obtain ⟨BB, M3, rfl, g0, h0, rfl⟩ := hJ
    rw [List.length_map] at h0
    replace hs := (show St _ _ (_ :: (M3 ++ (_ :: _ :: (dfs bs ++ (X ++ F))))) from hs)
    refine zAi (zAc (gh _ _ (zAf (fun gD gm => (zAb ?_)))))
    have gn := some_back hs
    refine zBi rfl rfl (zAd (zAc (gm _ _ (zA8 (zA9 (zAl (zAl (zA9 (zAl (zHi ?_))))))))))
    refine q_retMM (bs := (bd :: bs)) (l := [.tmp 2]) (vs := [_]) gn rfl (fun gE g5 => ⟨⟨⟨rfl, (rfl : _ = Value.bool _)⟩, trivial⟩, ?_⟩)
    first
      | exact ⟨congrArg Value.bool (some_no h0 _ hh).symm, M3, g0, g5⟩
      | (have hin : hold = c.holds.length := by omega
         subst hin
         exact ⟨congrArg Value.bool hsm.symm, M, hM, g5⟩)
   intro bd c Bx gF hJ hs
   obtain ⟨BB, M3, rfl, g0, ⟨rfl, h0⟩, rfl⟩ := hJ
   replace hs := (show St _ _ (_ :: (M3 ++ (_ :: _ :: (dfs bs ++ (X ++ F))))) from hs)
   refine zBt (zDw rfl ?_)
   refine zAj (zAv (zAc (gf _ _ (zAb (w_p (zBo rfl rfl rfl rfl (by omega) (by omega)) rfl (zA6 rfl rfl (zAd (zAc (gc _ _ (NxD.intro (bd :: bs) (c.holds.length - (hold + 1)) (by omega) (by repeat (first | exact zD6 | refine zD5 rfl ?_ | refine zDz rfl ?_ _ | refine agree_mixin rfl ?_)) ?_))))))))))
   exact ⟨hold + 1, M3, rfl, by omega, by omega, some_step hsm h0, g0, some_back hs⟩
  try simp only [zS] at g3
  refine zBt (zAj (zAj (zAv (zAc (g9 _ _ (zAf (fun gG go => (zAb (zBi rfl rfl (zAd (zAc (go _ _ (zA8 (zHi ?_))))))))))))))
  refine q_retMM (l := [.tmp 2]) (vs := [_]) hs rfl (fun gH g6 => ⟨⟨⟨rfl, (rfl : _ = Value.bool _)⟩, trivial⟩, ?_⟩)
  first
    | exact ⟨congrArg Value.bool (some_no h0 _ hh).symm, M3, g0, g6⟩
    | (have hin : hold = c.holds.length := by omega
       subst hin
       exact ⟨congrArg Value.bool hsm.symm, M, hM, g6⟩)

theorem c42 {w0 w : World} {F : List (Nat × Obj)} (c : Cargo) (p : AtT) (hm : TIn w0 F c p) (aa : Option Addr) (ca : Nat) (l : List (Bool × Int)) (hll : l.length ≤ 1000) (hne : ∀ x ∈ l, x.1 = true → x.2 ≠ 0) (ha : Sl w0 F aa 2 (arows l)) (hs : St w0 w F) :
  Con Tryz.prog 42 [.agg (c.cells p).toArray, .slice aa l.length ca] w fun v w' => (¬ enterE c l = 0 ∧ v = .tuple #[.pointer none, .int .i64 (enterE c l)] ∧ St w0 w' F) ∨ (enterE c l = 0 ∧ ∃ cb mm M, v = .tuple #[.pointer (some ⟨cb, 0, none⟩), .int .i64 0] ∧ Memo c mm M ∧ St w0 w' (M ++ ((cb, blk 138 [.slice p.ae c.heat.length p.ce, .int .i64 c.gas, .slice p.ah c.holds.length p.ch, .slice p.al c.lots.length p.cl, .slice p.an c.seen.length p.cn, .int .i64 ((0 : Nat) : Int), .map (some mm)]) :: F))) := by
  refine zAo (n := 38) func42 rfl rfl (zNl rfl) ?_
  refine zAf (fun K2 ge => (zAb (zCj (v := .agg #[.slice _ _ _, .int _ _, .slice _ _ _, .slice _ _ _, .slice _ _ _]) (cs := [_,_,_,_,_]) zAa rfl rfl rfl hs (fun b3 w4 gd => ?_))))
  refine zBi rfl rfl (zBi rfl rfl (zAd (zAc (ge _ _ (zAf (fun K7 gf => (zAf (fun K9 gg => (zAb (w_p (zA2 (vs := [_,_,_,_,_]) isAgg27 sizeOf27 gd rfl rfl (aow 0 [_,_,_,_,_])) rfl ?_))))))))))
  refine zCo zAa call62 rfl rfl rfl rfl (c62 c _ hm.cons gd) (fun gC g3 => ?_)
  refine w_p (zA3 rfl rfl) rfl (w_p (zAk rfl rfl rfl) rfl (w_p (zAk rfl rfl rfl) rfl (w_p (zAk rfl rfl rfl) rfl (zBw rfl rfl (zBw rfl rfl (zBw rfl rfl (zAd (zAc (gg _ _ (zAf (fun gD gh => (zAb (zA6 rfl rfl ?_)))))))))))))
  refine w_p (zCs rfl rfl rfl rfl) rfl (zAd (zAc (gh _ _ (zAr rfl rfl (fun g6 => ?_) (fun g6 => ?_)))))
  ·
   try simp only [zS] at g6
   refine zAf (fun gE gi => (zAb (zA6 rfl rfl (zBi rfl rfl (zBw rfl rfl (zAd (zAc (gi _ _ (zA8 (zAl (zBa (l := [.tmp 4, .tmp 5]) (vs := [_,_]) rfl ⟨⟨rfl, show _ = (.pointer _ : Value) from rfl⟩, ⟨rfl, (rfl : _ = Value.int _ _)⟩, trivial⟩ ?_)))))))))))
   first
     | exact .inl ⟨by rw [zE4 (by assumption)]; assumption, by rw [zE4 (by assumption)]; rfl, g3.tail⟩
     | (obtain ⟨ha1, ha2⟩ := zHy hj2 hany (by assumption)
        exact .inl ⟨by rw [zE3 hck ha1, ha2]; exact hne _ (List.getElem_mem hj2) (by assumption), by rw [zE3 hck ha1, ha2]; rfl, g3.tail⟩)
     | exact .inl ⟨by rw [zE2 hck haz (by assumption)]; decide, by rw [zE2 hck haz (by assumption)]; rfl, g3.tail⟩
     | exact .inr ⟨by rw [zHw hck haz (by assumption)], _,_, M2, rfl, g5, zJa g3⟩
  try simp only [zS] at g6
  refine zAn (zAc (gf _ _ (zAf (fun gF gj => (zAf (fun gG gk => ?_))))))
  have hck : (check c).2.2 = 0 := by assumption
  have hok := zEe hck
  refine zAb (w_p (zAx rfl rfl) rfl (w_p (zBc underlying132 rfl rfl) rfl (w_p (zBy (v := _) rfl rfl) rfl (zAd (zAc (gk _ _ (zAq ?_)))))))
  refine zB6 [4,5,10,23,24,25,26,27,28,29,30,31] [23] (fun k vs w => ∃ j : Nat, vs = [.int .i64 (j : Int)] ∧ j ≤ l.length ∧ k = l.length - j ∧ anyAsk (l.take j) = false ∧ St w0 w ((b3, blk 27 (c.cells p)) :: F)) (l.length) ?_ ?_
  ·
   exact ⟨0, rfl, by omega, by omega, rfl, g3⟩
  intro k vs μ gH hI gI gm
  clear hs
  obtain ⟨j, rfl, hja, rfl, hany, hs⟩ := hI
  refine zAf (fun gJ gn => (zAb (w_p (zCp rfl rfl rfl rfl) rfl (zAd (zAc (gn _ _ (zAf (fun gK go => (zAr rfl rfl (fun g7 => ?_) (fun g7 => ?_))))))))))
  ·
   try simp only [zS] at g7
   refine zAn (zAc (go _ _ (zAf (fun gL gp => (zAq ?_)))))
   refine zAf (fun gM gq => ?_)
   have hj2 : j < l.length := by omega
   obtain ⟨bx, ox, rfl, hx⟩ := sl_arows ha hj2
   refine zAb (w_p (zA7 underlying132 sizeOf88 rfl rfl rfl rfl (i := _) rfl (by omega)) rfl (w_p (zA2 (vs := [_,_]) isAgg88 sizeOf88 hs.tail rfl rfl hx) rfl (zA1 (cs := [_,_]) zAa zeroValue88 rfl hs (fun gN gO gt => ?_))))
   refine zBj 0 (.agg #[.bool _, .int _ _]) [_,_] sizeOf88 gt (fun gP g8 => ?_)
   refine zAd (zAc (gq _ _ (zAf (fun gQ gu => (zAb (w_p (zAe (o := 0) (i := 0) underlying88 rfl sizeOf4 rfl rfl rfl) rfl (w_p (zAg isAgg4 g8 rfl rfl (aow 0 [_])) rfl ?_)))))))
   refine zAd (zAc (gu _ _ (zAr rfl rfl (fun g9 => ?_) (fun g9 => ?_))))
   ·
    try simp only [zS] at g9
    refine zAf (fun gR gv => (zCq [] [(0,0),(1,1),(2,0),(3,0)] zB4 (zBk (by kernel_rfl)) g8 (fun gS g4 => ?_)))
    refine d_w rfl (fun _ => zAe (o := 1) (i := 1) underlying88 rfl sizeOf30 rfl rfl rfl) rfl ?_
    refine zAz rfl zAa rfl g4 (fun _ hq => (zAg isAgg30 hq rfl rfl (aow 0 [_]))) ?_
    refine d_w rfl (fun _ => zCu (v := _) rfl rfl) rfl (d_w rfl (fun _ => zA0 rfl rfl) rfl ?_)
    refine zBm ?_
    refine zAc (gv _ _ (zA8 (zA9 (zAl (zAl (zA9 (zAl (zBa (l := [.tmp 4, .tmp 5]) (vs := [_,_]) rfl ⟨⟨rfl, show _ = (.pointer _ : Value) from rfl⟩, ⟨rfl, (rfl : _ = Value.int _ _)⟩, trivial⟩ ?_))))))))
    first
      | exact .inl ⟨by rw [zE4 (by assumption)]; assumption, by rw [zE4 (by assumption)]; rfl, g4.tail.tail⟩
      | (obtain ⟨ha1, ha2⟩ := zHy hj2 hany (by assumption)
         exact .inl ⟨by rw [zE3 hck ha1, ha2]; exact hne _ (List.getElem_mem hj2) (by assumption), by rw [zE3 hck ha1, ha2]; rfl, g4.tail.tail⟩)
      | exact .inl ⟨by rw [zE2 hck haz (by assumption)]; decide, by rw [zE2 hck haz (by assumption)]; rfl, g4.tail.tail⟩
      | exact .inr ⟨by rw [zHw hck haz (by assumption)], _,_, M2, rfl, g5, zJa g4⟩
   try simp only [zS] at g9
   refine zAn (zAi (zAc (gp _ _ (zAb (w_p (zBo rfl rfl rfl rfl (by omega) (by omega)) rfl (zA6 rfl rfl (zAd (zAc (gm _ _ (nxI (l.length - (j + 1)) (by omega) ?_))))))))))
   exact ⟨j + 1, rfl, by omega, rfl, ask_no hj2 hany (by assumption), g8.tail⟩
  try simp only [zS] at g7
  refine zBt (zAj (zAj (zAv (zAc (gj _ _ (zAf (fun gT gw => ?_)))))))
  have haz : anyAsk l = false := by
    have h := hany
    rwa [List.take_of_length_le (by omega)] at h
  refine zAb (w_p (zA2 (vs := [_,_,_,_,_]) isAgg27 sizeOf27 hs rfl rfl (aow 0 [_,_,_,_,_])) rfl ?_)
  refine zA4 zAa call55 rfl rfl rfl rfl (c55 c p 0 hs) ?_
  rintro _ gU ⟨cb, mm, rfl, ga⟩
  replace ga := (show St _ _ (_ :: _ :: _ :: F) from ga)
  have gx := swp2 ga
  have hkc : CK w0 ((cb, blk 138 [.slice p.ae c.heat.length p.ce, .int .i64 c.gas, .slice p.ah c.holds.length p.ch, .slice p.al c.lots.length p.cl, .slice p.an c.seen.length p.cn, .int .i64 ((0 : Nat) : Int), .map (some mm)]) :: (b3, blk 27 (c.cells p)) :: F) c p 0 cb mm := zEs (hm.cons) hok (by omega)
  refine w_p (zDf rfl rfl) rfl (zAd (zAc (gw _ _ (zAf (fun gV gy => (zAf (fun gW gz => (zAb (w_p (zCn rfl rfl) rfl (zA4 zAa call64 rfl rfl rfl rfl (c64 (X := []) (M := [(mm, .map #[] 0)]) c p 0 cb mm hkc hok (zE1 c mm) gx) ?_))))))))))
  rintro _ gX ⟨rfl, M2, g5, g0⟩
  replace g0 := (show St _ _ (M2 ++ (_ :: _ :: F)) from g0)
  refine w_p (zDo rfl rfl) rfl (zAd (zAc (gz _ _ (zAr rfl rfl (fun gc => ?_) (fun gc => ?_)))))
  ·
   try simp only [zS] at gc
   refine zAf (fun gY gA => (zAb (zBi rfl rfl (zBi rfl rfl (zAd (zAc (gA _ _ (zA8 (zAl (zBa (l := [.tmp 4, .tmp 5]) (vs := [_,_]) rfl ⟨⟨rfl, show _ = (.pointer _ : Value) from rfl⟩, ⟨rfl, (rfl : _ = Value.int _ _)⟩, trivial⟩ ?_))))))))))
   first
     | exact .inl ⟨by rw [zE4 (by assumption)]; assumption, by rw [zE4 (by assumption)]; rfl, g0.drop.tail.tail⟩
     | (obtain ⟨ha1, ha2⟩ := zHy hj2 hany (by assumption)
        exact .inl ⟨by rw [zE3 hck ha1, ha2]; exact hne _ (List.getElem_mem hj2) (by assumption), by rw [zE3 hck ha1, ha2]; rfl, g0.drop.tail.tail⟩)
     | exact .inl ⟨by rw [zE2 hck haz (by assumption)]; decide, by rw [zE2 hck haz (by assumption)]; rfl, g0.drop.tail.tail⟩
     | exact .inr ⟨by rw [zHw hck haz (by assumption)], _,_, M2, rfl, g5, zJa g0⟩
  try simp only [zS] at gc
  refine zAn (zAc (gy _ _ (zAf (fun gZ gB => (zAb (w_p (zCn rfl rfl) rfl (w_p (zDf rfl rfl) rfl (zBi rfl rfl (zAd (zAc (gB _ _ (zA8 (zBa (l := [.tmp 4, .tmp 5]) (vs := [_,_]) rfl ⟨⟨rfl, show _ = (.pointer _ : Value) from rfl⟩, ⟨rfl, (rfl : _ = Value.int _ _)⟩, trivial⟩ ?_)))))))))))))
  first
    | exact .inl ⟨by rw [zE4 (by assumption)]; assumption, by rw [zE4 (by assumption)]; rfl, g0.drop.tail.tail⟩
    | (obtain ⟨ha1, ha2⟩ := zHy hj2 hany (by assumption)
       exact .inl ⟨by rw [zE3 hck ha1, ha2]; exact hne _ (List.getElem_mem hj2) (by assumption), by rw [zE3 hck ha1, ha2]; rfl, g0.drop.tail.tail⟩)
    | exact .inl ⟨by rw [zE2 hck haz (by assumption)]; decide, by rw [zE2 hck haz (by assumption)]; rfl, g0.drop.tail.tail⟩
    | exact .inr ⟨by rw [zHw hck haz (by assumption)], _,_, M2, rfl, g5, zJa g0⟩

end Go.Proofs.Ut
set_option maxRecDepth 20000
namespace Go.Proofs.Ut
open Go.Proofs.Tryz
open Go.Rt Go.Rt.Tu
open Go.Rt.Ha (firstE zB3 zAp zBn failE felt spanL upto zBv listL fewest fewTo bit Bunch before fewStep zB8 zCi zBx zB2 zCg zCf zBu)
attribute [local irreducible] WL WC Con Yd At Ats Sl Agree DW

def QIs (w0 : World) (F : List (Nat × Obj)) (c : Cargo) (mm hold : Nat) (fv : Value) (q : List Int → Bool) (J : Nat → List (Nat × Obj) → Prop) : Prop :=
  ∀ (i : Nat) (hi : i < (truths c 0 hold).length) (B M X : List (Nat × Obj)) (w : World), J i B → Memo c mm M → St w0 w (X ++ (B ++ (M ++ F))) → FCon Tryz.prog fv [ia (truths c 0 hold)[i], ia (times c (truths c 0 hold)[i])] w fun v w' => v = .bool (q (truths c 0 hold)[i]) ∧ ∃ B' M', J (i + 1) B' ∧ Memo c mm M' ∧ St w0 w' (X ++ (B' ++ (M' ++ F)))
theorem ask_perm (h p a b q r : Nat × Obj) (X B M F : List (Nat × Obj)) : (h :: p :: a :: b :: q :: r :: (X ++ (B ++ (M ++ F)))).Perm ((([a, b] ++ B) ++ M) ++ (h :: p :: q :: r :: (X ++ F))) := by
  have h1 : (h :: p :: a :: b :: q :: r :: (X ++ (B ++ (M ++ F)))).Perm ([a, b] ++ (h :: p :: q :: r :: (X ++ (B ++ (M ++ F))))) := zBp [h, p] [a, b] _
  have h2 : (h :: p :: q :: r :: (X ++ (B ++ (M ++ F)))).Perm (B ++ (M ++ (h :: p :: q :: r :: (X ++ F)))) :=
    (zBp ([h, p, q, r] ++ X) B (M ++ F)).trans (List.Perm.append_left B (zBp ([h, p, q, r] ++ X) M F))
  have h3 := h1.trans (List.Perm.append_left [a, b] h2)
  simpa only [List.append_assoc, List.cons_append, List.nil_append] using h3
theorem ask_back {w0 w : World} {h p q r : Nat × Obj} {X B M F : List (Nat × Obj)} (hs : St w0 w (B ++ (M ++ (h :: p :: q :: r :: (X ++ F))))) : St w0 w (X ++ (B ++ (M ++ F))) := by
  have h1 := (hs.perm ((List.Perm.append_left B (zBp M [h, p, q, r] (X ++ F))).trans (zBp B [h, p, q, r] (M ++ (X ++ F))))).tail.tail.tail.tail
  exact St.perm (L := B ++ (M ++ (X ++ F))) h1 ((List.Perm.append_left B (zBp M X F)).trans (zBp B X (M ++ F)))
theorem QIs.mid {w0 w : World} {c : Cargo} {mm hold : Nat} {fv : Value} {q : List Int → Bool} {J : Nat → List (Nat × Obj) → Prop} {P B M Y Q F : List (Nat × Obj)} (h : QIs w0 F c mm hold fv q J) {i : Nat} (hi : i < (truths c 0 hold).length) (hJ : J i B) (hM : Memo c mm M) (hs : St w0 w (P ++ (B ++ (M ++ (Y ++ (Q ++ F)))))) :
    FCon Tryz.prog fv [ia (truths c 0 hold)[i], ia (times c (truths c 0 hold)[i])] w fun v w' => v = .bool (q (truths c 0 hold)[i]) ∧ ∃ B' M', J (i + 1) B' ∧ Memo c mm M' ∧ St w0 w' (P ++ (B' ++ (M' ++ (Y ++ (Q ++ F))))) := by
  have e : ∀ B M : List (Nat × Obj), (P ++ (B ++ (M ++ (Y ++ (Q ++ F))))).Perm ((P ++ (Y ++ Q)) ++ (B ++ (M ++ F))) := by
    intro B M
    have h1 : (B ++ (M ++ ((Y ++ Q) ++ F))).Perm ((Y ++ Q) ++ (B ++ (M ++ F))) := (List.Perm.append_left B (zBp M (Y ++ Q) F)).trans (zBp B (Y ++ Q) (M ++ F))
    simpa only [List.append_assoc] using List.Perm.append_left P h1
  exact (h i hi B M _ w hJ hM (hs.perm (e B M))).mono fun _ _ ⟨h1, B', M', h2, h3, h4⟩ => ⟨h1, B', M', h2, h3, h4.perm (e B' M').symm⟩
theorem times_mid {w0 w : World} {P B M Y F : List (Nat × Obj)} (c : Cargo) (p : AtT) (but cb mm : Nat) (hk : CK w0 F c p but cb mm) (s : List Int) (hso : SOk s) (hM : Memo c mm M) (hs : St w0 w (P ++ (B ++ (M ++ (Y ++ F))))) :
    Con Tryz.prog 53 [.pointer (some ⟨cb, 0, none⟩), ia s] w fun v w' => ∃ M', v = ia (times c s) ∧ Memo c mm M' ∧ St w0 w' (P ++ (B ++ (M' ++ (Y ++ F)))) := by
  have h := zF5 (X := P ++ B) (M := M) (F := Y ++ F) c p but cb mm hk.app s hso hM (by simpa only [List.append_assoc] using hs)
  exact h.mono fun _ _ ⟨M', h1, h2, h3⟩ => ⟨M', h1, h2, by simpa only [List.append_assoc] using h3⟩
theorem ask_is {c : Cargo} {hold : Nat} {q : List Int → Bool} {z : Int} (h : z = askOf ((truths c 0 hold).filter q).length (truths c 0 hold).length) : z = Tu.ask c hold q := h
theorem cnt_yes {α : Type} {q : α → Bool} {l : List α} {i : Nat} (h : i < l.length) (h2 : q l[i] = true) : ((((l.take (i + 1)).filter q).length : Nat) : Int) = ((((l.take i).filter q).length : Nat) : Int) + 1 := by rw [cnt_step h, h2]; rfl
theorem cnt_no {α : Type} {q : α → Bool} {l : List α} {i : Nat} (h : i < l.length) (h2 : q l[i] = false) : ((((l.take (i + 1)).filter q).length : Nat) : Int) = ((((l.take i).filter q).length : Nat) : Int) := by rw [cnt_step h, h2]; rfl
theorem ask_cells {b8 b7 : Nat} {x x' y y' : Int} {B0 : List (Nat × Obj)} (h1 : x = x') (h2 : y = y') : ((b8, blk 3 [.int .i64 x]) :: (b7, blk 3 [.int .i64 y]) :: B0 : List (Nat × Obj)) = (b8, blk 3 [.int .i64 x']) :: (b7, blk 3 [.int .i64 y']) :: B0 := by subst h1 h2; rfl
theorem c44 {w0 w : World} {X B M F : List (Nat × Obj)} (c : Cargo) (p : AtT) (cb mm : Nat) (hk : CK w0 F c p 0 cb mm) (hco : c.Ok) (hold : Nat) (hh : hold < c.holds.length) (fk : FuncId) (f1 cp : Array Value) (q : List Int → Bool) (J : Nat → List (Nat × Obj) → Prop) (hq : QIs w0 F c mm hold (.func (.func fk) f1 cp) q J) (hJ0 : J 0 B) (hM : Memo c mm M) (hs : St w0 w (X ++ (B ++ (M ++ F)))) :
  Con Tryz.prog 44 [.pointer (some ⟨cb, 0, none⟩), .int .i64 (hold : Int), .agg #[.func (.func fk) f1 cp]] w fun v w' => v = .int .i64 (Tu.ask c hold q) ∧ ∃ B' M', J (truths c 0 hold).length B' ∧ Memo c mm M' ∧ St w0 w' (X ++ (B' ++ (M' ++ F))) := by
  refine zEa (n := 31) func44 rfl rfl (zNl rfl) ?_
  have htl := zH3 hco 0 hh
  refine zAf (fun K2 gg => (zAb (zCj (v := .pointer _) (cs := [_]) zAa rfl rfl rfl hs (fun b3 w4 gh => ?_))))
  refine zCj (v := .agg #[.func _ _ _]) (cs := [_]) zAa rfl rfl rfl gh (fun b6 w7 gi => ?_)
  refine zBi rfl rfl (zAd (zAc (gg _ _ (zAf (fun gL gj => (zAb (zA1 (cs := [_]) zAa zeroValue3 rfl gi (fun g7 gM gk => ?_))))))))
  refine zA1 (cs := [_]) zAa zeroValue3 rfl gk (fun g8 gN gm => ?_)
  refine zBj 1 (.int _ _) [_] sizeOf3 gm (fun gO gn => ?_)
  refine zBj 0 (.int _ _) [_] sizeOf3 gn (fun gP ge => ?_)
  refine zAd (zAc (gj _ _ (zAf (fun gQ go => (zAf (fun gR gp => (zAb (w_p (zAg isAgg84 ge rfl rfl (aow 3 [_])) rfl (zA6 rfl rfl ?_)))))))))
  refine zA4 zAa call79 rfl rfl rfl rfl (c79 _ _ ge) ?_
  rintro _ gS ⟨bp, bh, rfl, gq⟩
  refine zAd (zAc (gp _ _ (zAq ?_)))
  refine w_rangeC (([_,_] ++ B) ++ M) (fun i Bx => ∃ B M, Bx = B ++ M ∧ Memo c mm M ∧ ∃ B0, B = (g8, blk 3 [.int .i64 (i : Int)]) :: (g7, blk 3 [.int .i64 (((((truths c 0 hold).take (i)).filter q).length : Nat) : Int)]) :: B0 ∧ J i B0) (fun cd Bx => ∃ B M, Bx = B ++ M ∧ Memo c mm M ∧ False) rfl rfl rfl call112 (zDv c p 0 cb mm hk.app.cons.cons.cons.cons hco hold hh bp bh (aow 1 [_]) (aow 0 [_])) (clsM_range (fun i B => ∃ B0, B = (g8, blk 3 [.int .i64 (i : Int)]) :: (g7, blk 3 [.int .i64 (((((truths c 0 hold).take (i)).filter q).length : Nat) : Int)]) :: B0 ∧ J i B0) (fun cd B => False) (fun i Bx => Iff.rfl) (fun cd Bx => Iff.rfl)) gq (ask_perm _ _ _ _ _ _ _ _ _ _) ⟨_, M, rfl, hM, B, rfl, hJ0⟩ ?_ ?_ ?_
  ·
   intro lp i hi Bx Xr Xr2 gT hJ hs K gt
   obtain ⟨BB, M3, rfl, g0, B0, rfl, hJi⟩ := hJ
   have hi2 : i < (truths c 0 hold).length := by simpa using hi
   rw [List.getElem_map]
   have hso := (zEg hco hh (List.getElem_mem hi2)).1
   have hls := hso.len
   obtain ⟨s, hsx⟩ : ∃ s, s = ((truths c 0 hold)[i]'hi2) := ⟨_, rfl⟩
   rw [← hsx] at hso hls ⊢
   have hcl := cnt_le q (truths c 0 hold) i
   have hx3 : Ats w0 ((bh, blk 3 [.int .i64 (hold : Int)]) :: (bp, blk 84 [.pointer (some ⟨cb, 0, none⟩)]) :: (b6, blk 98 [.func (.func fk) f1 cp]) :: (b3, blk 84 [.pointer (some ⟨cb, 0, none⟩)]) :: (X ++ F)) b3 0 [.pointer (some ⟨cb, 0, none⟩)] := zB9 (i := 3) rfl rfl
   have hx5 : Ats w0 ((bh, blk 3 [.int .i64 (hold : Int)]) :: (bp, blk 84 [.pointer (some ⟨cb, 0, none⟩)]) :: (b6, blk 98 [.func (.func fk) f1 cp]) :: (b3, blk 84 [.pointer (some ⟨cb, 0, none⟩)]) :: (X ++ F)) b6 0 [.func (.func fk) f1 cp] := zB9 (i := 2) rfl rfl
   rw [List.append_assoc] at hs
   replace hs := (show St _ _ (_ :: _ :: (B0 ++ (M3 ++ (Xr ++ ((bh, blk 3 [.int .i64 (hold : Int)]) :: (bp, blk 84 [.pointer (some ⟨cb, 0, none⟩)]) :: (b6, blk 98 [.func (.func fk) f1 cp]) :: (b3, blk 84 [.pointer (some ⟨cb, 0, none⟩)]) :: (X ++ F)))))) from hs)
   refine zAb (zA1 (cs := iv [0,0,0,0,0,0,0,0]) zAa zeroValue94 rfl hs (fun gu gU gv => ?_))
   refine zDg (i := 0) (l := _) zAa sizeOf94 (by first | omega | rfl | (simp only [hls, zL] <;> omega)) rfl rfl rfl rfl rfl gv rfl (by first | omega | rfl | (simp only [hls, zL] <;> omega)) (fun gV gw => ?_)
   refine zAd (zAc (gt _ _ ([_,_,_] ++ (B0 ++ M3)) (st_in gw) (fun gW g3 => ?_)))
   replace g3 := st_out g3
   replace g3 := (show St _ _ (_ :: _ :: _ :: B0 ++ (M3 ++ (Xr2 ++ (_ :: _ :: _ :: _ :: X ++ (F))))) from g3)
   refine zAq ?_
   refine zAf (fun gX gx => (zAb (w_p (zAg isAgg3 g3 rfl rfl (aow 1 [_])) rfl (w_p (zBo rfl rfl rfl rfl (by omega) (by omega)) rfl ?_))))
   refine zBj 1 (.int _ _) [_] sizeOf3 g3 (fun gY gy => ?_)
   refine zAd (zAc (gx _ _ (zAf (fun gZ gz => (w_drawD (C0 := fun w => St w0 w _) (C := fun w => ∃ B0 M, Memo c mm M ∧ St w0 w ((gu, blk 94 (iv s)) :: (g8, blk 3 [.int .i64 ((i : Int) + 1)]) :: (g7, blk 3 [.int .i64 (((((truths c 0 hold).take (i)).filter q).length : Nat) : Int)]) :: (B0 ++ (M ++ (Xr2 ++ ((bh, blk 3 [.int .i64 (hold : Int)]) :: (bp, blk 84 [.pointer (some ⟨cb, 0, none⟩)]) :: (b6, blk 98 [.func (.func fk) f1 cp]) :: (b3, blk 84 [.pointer (some ⟨cb, 0, none⟩)]) :: (X ++ F))))))) [] [(0,0),(1,1),(2,1),(3,1),(4,1),(5,2),(6,2)] zB4 (zBk (by kernel_rfl)) gy (fun _ h => ⟨_, _, g0, h⟩) (fun _ h => h.drew) (fun hD g5 => ?_))))))
   refine d_w rfl (fun _ => zAe (o := 0) (i := 0) underlying98 rfl sizeOf96 rfl rfl rfl) rfl ?_
   refine zCe rfl zAa rfl ⟨_, _, g0, g5⟩ (fun _ ⟨B0, M3, g0, hq⟩ => (zAg isAgg96 hq.tail.tail.tail.drop.drop.drop rfl rfl hx5)) ?_
   refine zCe rfl zAa rfl ⟨_, _, g0, g5⟩ (fun _ ⟨B0, M3, g0, hq⟩ => (zCt (i := 0) isAgg94 sizeOf94 (by first | omega | rfl | (simp only [hls, zL] <;> omega)) hq rfl rfl rfl)) ?_
   refine zCe rfl zAa rfl ⟨_, _, g0, g5⟩ (fun _ ⟨B0, M3, g0, hq⟩ => (zAg isAgg84 hq.tail.tail.tail.drop.drop.drop rfl rfl hx3)) ?_
   refine zCe rfl zAa rfl ⟨_, _, g0, g5⟩ (fun _ ⟨B0, M3, g0, hq⟩ => (zCt (i := 0) isAgg94 sizeOf94 (by first | omega | rfl | (simp only [hls, zL] <;> omega)) hq rfl rfl rfl)) ?_
   refine zBh rfl ?_
   refine zA4 zAa call53 rfl rfl rfl rfl (times_mid (P := [_,_,_]) (B := B0) (M := M3) (Y := Xr2) (F := ((bh, blk 3 [.int .i64 (hold : Int)]) :: (bp, blk 84 [.pointer (some ⟨cb, 0, none⟩)]) :: (b6, blk 98 [.func (.func fk) f1 cp]) :: (b3, blk 84 [.pointer (some ⟨cb, 0, none⟩)]) :: (X ++ F))) c p 0 cb mm (hk.app.cons.cons.cons.cons) s hso g0 g5) ?_
   rintro _ hN ⟨M5, rfl, gf, g6⟩
   replace g6 := (show St _ _ (_ :: _ :: _ :: B0 ++ (M5 ++ (Xr2 ++ (_ :: _ :: _ :: _ :: X ++ (F))))) from g6)
   refine zAd (qn ⟨⟨_, _, gf, g6⟩, ?_⟩)
   refine zBh rfl ?_
   refine zD0 zAa rfl rfl rfl rfl ((show FCon _ _ _ _ _ from by rw [hsx]; exact QIs.mid (P := [_,_,_]) (B := B0) (M := M5) (Y := Xr2) (Q := [_,_,_,_] ++ X) hq hi2 hJi gf g6)) ?_
   rintro _ hP ⟨rfl, B1, M4, hJ4, g9, g4⟩
   replace g4 := (show St _ _ (_ :: _ :: _ :: B1 ++ (M4 ++ (Xr2 ++ (_ :: _ :: _ :: _ :: X ++ (F))))) from g4)
   refine zAd (qn ⟨⟨_, _, g9, g4⟩, ?_⟩)
   refine zBm ?_
   refine zAc (gz _ _ (zAr rfl rfl (fun ga => ?_) (fun ga => ?_)))
   ·
    try simp only [zS] at ga
    refine zAb (w_p (zAg isAgg3 g4 rfl rfl (aow 2 [_])) rfl (w_p (zBo rfl rfl rfl rfl (by omega) (by omega)) rfl ?_))
    refine zBj 2 (.int _ _) [_] sizeOf3 g4 (fun hX gA => ?_)
    refine zAd (zAi (zD2 ([_,_] ++ (B1 ++ M4)) (st_in gA.tail) ?_))
    exact ⟨_, M4, rfl, g9, B1, ⟨ask_cells (by omega) (by first | exact (cnt_yes hi2 (by assumption)).symm | exact (cnt_no hi2 (by assumption)).symm), hJ4⟩⟩
   try simp only [zS] at ga
   refine zAn (zAi (zD2 ([_,_] ++ (B1 ++ M4)) (st_in g4.tail) ?_))
   exact ⟨_, M4, rfl, g9, B1, ⟨ask_cells (by omega) (by first | exact (cnt_yes hi2 (by assumption)).symm | exact (cnt_no hi2 (by assumption)).symm), hJ4⟩⟩
  ·
   intro bd Bx hY hJ hs
   obtain ⟨BB, M3, rfl, g0, B0, rfl, hJn⟩ := hJ
   rw [List.length_map] at hs hJn
   rw [List.take_length] at hs
   rw [List.append_assoc] at hs
   replace hs := (show St _ _ (_ :: _ :: _ :: (B0 ++ (M3 ++ ((bh, blk 3 [.int .i64 (hold : Int)]) :: (bp, blk 84 [.pointer (some ⟨cb, 0, none⟩)]) :: (b6, blk 98 [.func (.func fk) f1 cp]) :: (b3, blk 84 [.pointer (some ⟨cb, 0, none⟩)]) :: (X ++ F))))) from hs)
   refine zAi (zAc (go _ _ (zAf (fun j0 gB => (zAf (fun j1 gC => (zAb (w_p (zAg isAgg3 hs rfl rfl (aow 2 [_])) rfl (zAd ?_)))))))))
   refine zAc (gC _ _ (zAq ?_))
   refine zAf (fun j3 gD => (zAb (w_p (zAg isAgg3 hs rfl rfl (aow 1 [_])) rfl (w_p (zCa rfl rfl rfl rfl) rfl (w_p (zAs rfl rfl) rfl (zAd ?_))))))
   refine zAc (gD _ _ (zAr rfl rfl (fun gc => ?_) (fun gc => ?_)))
   ·
    try simp only [zS] at gc
    refine zAf (fun j4 gE => (zAb (zBi rfl rfl (zAd (zAc (gE _ _ (zA8 (zA9 (zAl (zGa (i := 0) (l := [.tmp 6]) (vs := [_]) hs rfl rfl (fun j5 gF => ⟨⟨⟨rfl, (rfl : _ = Value.int _ _)⟩, trivial⟩, ?_⟩)))))))))))
    exact ⟨congrArg (Value.int .i64) (ask_is (by unfold askOf; split <;> (try split) <;> omega)), B0, M3, hJn, g0, ask_back gF.tail.tail.tail⟩
   try simp only [zS] at gc
   refine zAf (fun j6 gG => (zAb (w_p (zCa rfl rfl rfl rfl) rfl (w_p (zAs rfl rfl) rfl (zAd (zAc (gG _ _ (zAr rfl rfl (fun gd => ?_) (fun gd => ?_)))))))))
   ·
    try simp only [zS] at gd
    refine zAf (fun j7 gH => (zAb (zBi rfl rfl (zAd (zAc (gH _ _ (zA8 (zA9 (zAl (zGa (i := 0) (l := [.tmp 6]) (vs := [_]) hs rfl rfl (fun j8 gI => ⟨⟨⟨rfl, (rfl : _ = Value.int _ _)⟩, trivial⟩, ?_⟩)))))))))))
    exact ⟨congrArg (Value.int .i64) (ask_is (by unfold askOf; split <;> (try split) <;> omega)), B0, M3, hJn, g0, ask_back gI.tail.tail.tail⟩
   try simp only [zS] at gd
   refine zAn (zAi (zAc (gB _ _ (zAf (fun j9 gJ => (zAb (zBi rfl rfl (zAd (zAc (gJ _ _ (zA8 (zGa (i := 0) (l := [.tmp 6]) (vs := [_]) hs rfl rfl (fun ja gK => ⟨⟨⟨rfl, (rfl : _ = Value.int _ _)⟩, trivial⟩, ?_⟩)))))))))))))
   exact ⟨congrArg (Value.int .i64) (ask_is (by unfold askOf; split <;> (try split) <;> omega)), B0, M3, hJn, g0, ask_back gK.tail.tail.tail⟩
  intro _ _ _ _ hJ
  obtain ⟨_, _,_,_, h⟩ := hJ
  exact h.elim

end Go.Proofs.Ut
set_option maxRecDepth 20000
namespace Go.Proofs.Ut
open Go.Proofs.Tryz
open Go.Rt Go.Rt.Tu
open Go.Rt.Ha (firstE zB3 zAp zBn failE felt spanL upto zBv listL fewest fewTo bit Bunch before fewStep zB8 zCi zBx zB2 zCg zCf zBu)
attribute [local irreducible] WL WC Con Yd At Ats Sl Agree DW
theorem zIp (x0 : Int) (x1 : Int) (w : World) : (Instr.build 36 [(0, .int .i64 x0),(1, .int .i64 x1)].toArray).run Tryz.prog w = .ok (.agg #[.int .i64 x0, .int .i64 x1]) w := by kernel_rfl
theorem zGu (x0 : Int) (w : World) : (Instr.buildSlice 22 1 [(0, .int .i64 x0)].toArray).run Tryz.prog w = .ok (.slice (some ⟨w.heap.size, 0, none⟩) 1 1) (w.alloc (Go.Rt.blk 3 [.int .i64 x0])) := by kernel_rfl
theorem zFs (x0 : Bool) (x1 : Int) (w : World) : (Instr.buildSlice 132 1 [(0, .agg #[.bool x0, .int .i64 x1])].toArray).run Tryz.prog w = .ok (.slice (some ⟨w.heap.size, 0, none⟩) 1 1) (w.alloc (Go.Rt.blk 88 [.bool x0, .int .i64 x1])) := by kernel_rfl
theorem Try_UJ_fb3 (x0 : Go.Fn) (a0 c0 : Array Value) (w : World) : (Instr.build 98 [(0, .func x0 a0 c0)].toArray).run Tryz.prog w = .ok (.agg #[.func x0 a0 c0]) w := by kernel_rfl
theorem zC3 : Tryz.prog.info? 3 = some Tryz.t3 := by kernel_rfl
theorem flat_ints (l : List Int) : (l.map fun x => [Value.int .i64 x]).flatten = iv l := by induction l <;> simp_all
theorem ints_one (l : List Int) : ∀ row ∈ (l.map fun x => [Value.int .i64 x]), ∀ u ∈ row, u.oneCell' = true := by
  intro row hr u hu; obtain ⟨x, _, rfl⟩ := List.mem_map.1 hr; simp at hu; subst hu; rfl
theorem zFj {w0 : World} {v : Value} {l : List Int} {B : List (Nat × Obj)} (h : Rt.Own v 3 1 l.length (iv l) B) : ∃ a c, v = .slice a l.length c ∧ Sl w0 B a 1 (l.map fun x => [Value.int .i64 x]) ∧ (a = none → c = 0) ∧ l.length ≤ c := by
  obtain ⟨a, c, hv, hs⟩ := zE6 (w0 := w0) h rfl []
  rw [List.append_nil] at hs
  refine ⟨a, c, hv, hs, fun ha => ?_, ?_⟩
  · rcases h.2 with ⟨h2, _⟩ | ⟨b, cap, cs, h2, _⟩
    · rw [h2] at hv; injection hv with _ _ h3; exact h3.symm
    · rw [h2] at hv; injection hv with h3; rw [ha] at h3; cases h3
  · rcases h.2 with ⟨h2, h3, _⟩ | ⟨b, cap, cs, h2, _, h4, _⟩
    · rw [h2] at hv; injection hv with _ _ h5; omega
    · rw [h2] at hv; injection hv with _ _ h5; omega
theorem zFz {n : Int} {l : List Int} (h : (noneA n l).1 = false) : ∀ z ∈ l, 0 ≤ z ∧ z < n := by
  intro z hz
  have h2 : l.any (out 0 (n - 1)) = false := h
  rw [List.any_eq_false] at h2
  have := zIy.1 (Bool.eq_false_iff.2 (h2 z hz))
  omega
theorem hoursA_ok {c : Cargo} {l : List Int} (h : (hoursA c l).1 = false) : ∀ z ∈ l, 0 ≤ z ∧ z ≤ c.heat.length := by
  intro z hz
  have h2 : l.any (out 0 c.heat.length) = false := h
  rw [List.any_eq_false] at h2
  exact zIy.1 (Bool.eq_false_iff.2 (h2 z hz))
theorem any_1 {a : Bool × Int} (h : anyAsk [a] = false) : a.1 = false := by simpa [anyAsk] using h
theorem any_2 {a b : Bool × Int} (h : anyAsk [a, b] = false) : a.1 = false ∧ b.1 = false := by simpa [anyAsk] using h
theorem any_3 {a b d : Bool × Int} (h : anyAsk [a, b, d] = false) : a.1 = false ∧ b.1 = false ∧ d.1 = false := by simpa [anyAsk] using h
theorem turns_q0 {c : Cargo} {n : Nat} {s : List Int} (h : (times c s).getD n 0 = never c) : false = turnsQ c n s := by unfold turnsQ tOf; rw [decide_eq_false (by rw [h]; simp)]
theorem zGk {c : Cargo} {n : Nat} {s : List Int} (h : ¬ (times c s).getD n 0 = never c) : true = turnsQ c n s := by unfold turnsQ tOf; rw [decide_eq_true h]
theorem turns_s0 {c : Cargo} {n : Nat} {s : List Int} {a : (Int × Int) × Bool} (h : (times c s).getD n 0 = never c) : turnsSt c n a s = a := by unfold turnsSt tOf; rw [if_pos h]
theorem turns_s1 {c : Cargo} {n : Nat} {s : List Int} {a : (Int × Int) × Bool} (h : ¬ (times c s).getD n 0 = never c) (h2 : a.2 = true) : turnsSt c n a s = ((min (tOf c s n) (tOf c s n), max (tOf c s n) (tOf c s n)), false) := by unfold turnsSt tOf; rw [if_neg h, if_pos h2]
theorem turns_s2 {c : Cargo} {n : Nat} {s : List Int} {a : (Int × Int) × Bool} (h : ¬ (times c s).getD n 0 = never c) (h2 : a.2 = false) : turnsSt c n a s = ((min a.1.1 (tOf c s n), max a.1.2 (tOf c s n)), a.2) := by unfold turnsSt tOf; rw [if_neg h, if_neg (by simp [h2]), h2]
theorem turnsP_e {c : Cargo} {n : Int} (h : ¬ enterE c [noneA c.lots.length [n]] = 0) : turnsP c n = ((0,0), 0, enterE c [noneA c.lots.length [n]]) := by unfold turnsP; rw [if_pos h]
theorem turnsP_y {c : Cargo} {n : Int} (h : enterE c [noneA c.lots.length [n]] = 0) : turnsP c n = ((turnsA c n.toNat (truths c 0 (holdOf c n.toNat))).1, Tu.ask c (holdOf c n.toNat) (turnsQ c n.toNat), 0) := by unfold turnsP; rw [if_neg (by simp [h])]
theorem safeP_e {c : Cargo} {n : Int} (h : ¬ enterE c [hoursA c [n]] = 0) : safeP c n = ([], enterE c [hoursA c [n]]) := by unfold safeP; rw [if_pos h]
theorem safeP_y {c : Cargo} {n : Int} (h : enterE c [hoursA c [n]] = 0) : safeP c n = (safeTo c n c.lots.length, 0) := by unfold safeP; rw [if_neg (by simp [h])]
theorem safe_yes {c : Cargo} {hour : Int} {i : Nat} (hi : i < c.lots.length) (h : c.lots[i].frm ≤ hour) (h2 : Tu.ask c (holdOf c i) (safeQ c hour i) = 1) : safeTo c hour (i + 1) = safeTo c hour i ++ [(i : Int)] := by rw [safeTo, zC5 hi, if_pos ⟨h, h2⟩]
theorem safe_no {c : Cargo} {hour : Int} {i : Nat} (hi : i < c.lots.length) (h : ¬ c.lots[i].frm ≤ hour ∨ ¬ Tu.ask c (holdOf c i) (safeQ c hour i) = 1) : safeTo c hour (i + 1) = safeTo c hour i := by
  rw [safeTo, zC5 hi, if_neg (by rintro ⟨h1, h2⟩; rcases h with h | h <;> exact absurd (by assumption) h)]
theorem safe_len (c : Cargo) (hour : Int) : ∀ i, (safeTo c hour i).length ≤ i
  | 0 => Nat.le_refl _
  | i + 1 => by
    have := safe_len c hour i
    rw [safeTo]; split
    · simp; omega
    · omega
theorem zFi {v : Value} {l : List Int} {z : Int} {B : List (Nat × Obj)} (h : Rt.Own v 3 1 (l.length + 1) (iv l ++ [[Value.int .i64 z]].flatten) B) : Rt.Own v 3 1 (l ++ [z]).length (iv (l ++ [z])) B := by simpa [iv] using h
theorem c45 {w0 w : World} {F : List (Nat × Obj)} (c : Cargo) (p : AtT) (cb mm : Nat) (hk : CK w0 F c p 0 cb mm) (n : Nat) (hn5 : n < 5) (b3 b7 b8 b4 : Nat) (h3 : Ats w0 F b3 0 [.int .i64 (n : Int)]) (h7 : Ats w0 F b7 0 [.pointer (some ⟨cb, 0, none⟩)]) (s : List Int) (hls : s.length = 8) (a : (Int × Int) × Bool) (hs : St w0 w ((b8, blk 4 [.bool a.2]) :: (b4, blk 36 [.int .i64 a.1.1, .int .i64 a.1.2]) :: F)) :
  Con Tryz.prog 45 [ia s, ia (times c s), .pointer (some ⟨b3,0, none⟩), .pointer (some ⟨b7,0, none⟩), .pointer (some ⟨b8,0, none⟩), .pointer (some ⟨b4,0, none⟩)] w fun v w' => v = .bool (turnsQ c n s) ∧ St w0 w' ((b8, blk 4 [.bool (turnsSt c n a s).2]) :: (b4, blk 36 [.int .i64 (turnsSt c n a s).1.1, .int .i64 (turnsSt c n a s).1.2]) :: F) := by
  refine zAo (n := 30) func45 rfl rfl (zNl rfl) ?_
  have htl := zBf c s
  refine zAf (fun K2 ga => (zAb (zEi (l := _) zAa rfl rfl rfl hs (fun b3 w4 gc => ?_))))
  refine zEi (l := _) zAa rfl rfl rfl gc (fun b6 w7 g3 => ?_)
  refine zBi rfl rfl (zAd (zAc (ga _ _ (zAf (fun go gd => (zAb (w_p (zAg isAgg3 g3.tail.tail.tail.tail rfl rfl h3) rfl (w_p (zCw underlying92 sizeOf3 rfl rfl rfl rfl (i := n) (by first | rfl | omega) (by omega)) rfl ?_))))))))
  refine w_p (zAg isAgg3 g3 rfl rfl (zC9 (i := 0) (j := n) rfl (by first | omega | rfl | (simp only [hls, zBf, zL] <;> omega)))) rfl ?_
  refine zBw rfl rfl (zAd (zAc (gd _ _ (zAf (fun gp ge => (zAf (fun gq gf => (zAb (zA6 rfl rfl (w_p (zAg isAgg84 g3.tail.tail.tail.tail rfl rfl h7) rfl (zCo zAa call46 rfl rfl rfl rfl (c46 c _ 0 cb mm hk.cons.cons.cons.cons g3) (fun gt g0 => ?_))))))))))))
  refine w_p (zCa rfl rfl rfl rfl) rfl (zAd (zAc (gf _ _ (zAr rfl rfl (fun g4 => ?_) (fun g4 => ?_)))))
  ·
   try simp only [zS] at g4
   refine zAf (fun gu gg => (zAb (zBi rfl rfl (zAd (zAc (gg _ _ (zA8 (zAl (zBa (l := [.tmp 8]) (vs := [_]) rfl ⟨⟨rfl, (rfl : _ = Value.bool _)⟩, trivial⟩ ?_)))))))))
   first
     | exact ⟨congrArg Value.bool (turns_q0 (by assumption)), by rw [turns_s0 (by assumption)]; exact g0.tail.tail⟩
     | exact ⟨congrArg Value.bool (zGk (by assumption)), by rw [turns_s1 (by assumption) (by assumption)]; exact g0.tail.tail⟩
     | exact ⟨congrArg Value.bool (zGk (by assumption)), by rw [turns_s2 (by assumption) (by assumption)]; exact g0.tail.tail⟩
  try simp only [zS] at g4
  refine zAn (zAc (ge _ _ (zAf (fun gv g9 => (zAf (fun gw gh => (zAb (w_p (zAg isAgg4 g0 rfl rfl (aow 2 [_])) rfl (zAd ?_)))))))))
  refine zAc (gh _ _ (zAr rfl rfl (fun g5 => ?_) (fun g5 => ?_)))
  ·
   try simp only [zS] at g5
   refine zAb (zA6 rfl rfl (zA6 rfl rfl (w_p (zB1 (ps := [(0, _),(1, _)]) (pv := [(0, .int _ _),(1, .int _ _)]) rfl rfl (fun w => zIp _ _ w)) rfl (zBj 3 (.agg #[.int _ _, .int _ _]) [_,_] sizeOf36 g0 (fun gx gi => ?_)))))
   refine zBj 2 (.bool _) [_] sizeOf4 gi (fun gy g6 => ?_)
   refine zAd (zAc (g9 _ _ (zAf (fun gz gj => (zAb (w_p (zAe (o := 0) (i := 0) underlying36 rfl sizeOf3 rfl rfl rfl) rfl (w_p (zAg isAgg3 g6 rfl rfl (aow 3 [_])) rfl ?_)))))))
   refine zA6 rfl rfl (w_p (zG9 rfl rfl rfl rfl) rfl (w_p (zAe (o := 1) (i := 1) underlying36 rfl sizeOf3 rfl rfl rfl) rfl (w_p (zAg isAgg3 g6 rfl rfl (aow 3 [_])) rfl (zA6 rfl rfl (w_p (y_max2 rfl rfl rfl rfl) rfl ?_)))))
   refine w_p (zB1 (ps := [(0, _),(1, _)]) (pv := [(0, .int _ _),(1, .int _ _)]) rfl rfl (fun w => zIp _ _ w)) rfl (zBj 3 (.agg #[.int _ _, .int _ _]) [_,_] sizeOf36 g6 (fun gA g7 => ?_))
   refine zAd (zAc (gj _ _ (zAf (fun gB gk => (zAb (zBi rfl rfl (zAd (zAc (gk _ _ (zA8 (zBa (l := [.tmp 8]) (vs := [_]) rfl ⟨⟨rfl, (rfl : _ = Value.bool _)⟩, trivial⟩ ?_)))))))))))
   first
     | exact ⟨congrArg Value.bool (turns_q0 (by assumption)), by rw [turns_s0 (by assumption)]; exact g7.tail.tail⟩
     | exact ⟨congrArg Value.bool (zGk (by assumption)), by rw [turns_s1 (by assumption) (by assumption)]; exact g7.tail.tail⟩
     | exact ⟨congrArg Value.bool (zGk (by assumption)), by rw [turns_s2 (by assumption) (by assumption)]; exact g7.tail.tail⟩
  try simp only [zS] at g5
  refine zAn (zAc (g9 _ _ (zAf (fun gC gm => (zAb (w_p (zAe (o := 0) (i := 0) underlying36 rfl sizeOf3 rfl rfl rfl) rfl (w_p (zAg isAgg3 g0 rfl rfl (aow 3 [_])) rfl ?_)))))))
  refine zA6 rfl rfl (w_p (zG9 rfl rfl rfl rfl) rfl (w_p (zAe (o := 1) (i := 1) underlying36 rfl sizeOf3 rfl rfl rfl) rfl (w_p (zAg isAgg3 g0 rfl rfl (aow 3 [_])) rfl (zA6 rfl rfl (w_p (y_max2 rfl rfl rfl rfl) rfl ?_)))))
  refine w_p (zB1 (ps := [(0, _),(1, _)]) (pv := [(0, .int _ _),(1, .int _ _)]) rfl rfl (fun w => zIp _ _ w)) rfl (zBj 3 (.agg #[.int _ _, .int _ _]) [_,_] sizeOf36 g0 (fun gD g8 => ?_))
  refine zAd (zAc (gm _ _ (zAf (fun gE gn => (zAb (zBi rfl rfl (zAd (zAc (gn _ _ (zA8 (zBa (l := [.tmp 8]) (vs := [_]) rfl ⟨⟨rfl, (rfl : _ = Value.bool _)⟩, trivial⟩ ?_)))))))))))
  first
    | exact ⟨congrArg Value.bool (turns_q0 (by assumption)), by rw [turns_s0 (by assumption)]; exact g8.tail.tail⟩
    | exact ⟨congrArg Value.bool (zGk (by assumption)), by rw [turns_s1 (by assumption) (by assumption)]; exact g8.tail.tail⟩
    | exact ⟨congrArg Value.bool (zGk (by assumption)), by rw [turns_s2 (by assumption) (by assumption)]; exact g8.tail.tail⟩

theorem turns_qis {w0 : World} {F : List (Nat × Obj)} (c : Cargo) (p : AtT) (cb mm : Nat) (hk : CK w0 F c p 0 cb mm) (hco : c.Ok) (hold : Nat) (hh : hold < c.holds.length) (n : Nat) (hn5 : n < 5) (b3 b7 b8 b4 : Nat) (h3 : Ats w0 F b3 0 [.int .i64 (n : Int)]) (h7 : Ats w0 F b7 0 [.pointer (some ⟨cb, 0, none⟩)]) : QIs w0 F c mm hold (.func (.func 45) #[] #[.pointer (some ⟨b3,0, none⟩), .pointer (some ⟨b7,0, none⟩), .pointer (some ⟨b8,0, none⟩), .pointer (some ⟨b4,0, none⟩)]) (turnsQ c n) (fun i B => B = [(b8, blk 4 [.bool (turnsA c n ((truths c 0 hold).take i)).2]), (b4, blk 36 [.int .i64 (turnsA c n ((truths c 0 hold).take i)).1.1, .int .i64 (turnsA c n ((truths c 0 hold).take i)).1.2])]) := by
  intro i hi B M X w hB hM hs
  subst hB
  have g0 := hs.perm (zBp X [_,_] (M ++ F))
  refine (zDm call45 (c45 (F := X ++ (M ++ F)) c p cb mm hk.app.app n hn5 b3 b7 b8 b4 h3.app.app h7.app.app _ (zEg hco hh (List.getElem_mem hi)).1.len _ g0)).mono ?_
  rintro v w' ⟨rfl, g3⟩
  exact ⟨rfl, _, M, by show _ = _; rw [turns_step hi], hM, g3.perm (zBp [_,_] X (M ++ F))⟩
theorem c11 {w0 w : World} {F : List (Nat × Obj)} (c : Cargo) (p : AtT) (hm : TIn w0 F c p) (lot : Int) (hs : St w0 w F) :
  Con Tryz.prog 11 [.agg (c.cells p).toArray, .int .i64 lot] w fun v w' => v = .tuple #[.agg #[.int .i64 (turnsP c lot).1.1, .int .i64 (turnsP c lot).1.2], .int .i64 (turnsP c lot).2.1, .int .i64 (turnsP c lot).2.2] ∧ St w0 w' F := by
  refine zAo (n := 37) func11 rfl rfl (zNl rfl) ?_
  have hll0 := hm.ll
  refine zAf (fun K2 gA => (zAb (zCj (v := .agg #[.slice _ _ _, .int _ _, .slice _ _ _, .slice _ _ _, .slice _ _ _]) (cs := [_,_,_,_,_]) zAa rfl rfl rfl hs (fun b3 w4 gB => ?_))))
  refine zCj (v := .int _ _) (cs := [_]) zAa rfl rfl rfl gB (fun b6 w7 gC => ?_)
  refine zA1 (cs := [_,_]) zAa zeroValue36 rfl gC (fun b9 jb gD => ?_)
  refine zBi rfl rfl (zBi rfl rfl (zAd (zAc (gA _ _ (zAf (fun jc gi => (w_cut [6,7,9,10,11,12,13,14,15,16,17,18,19,20] [6,7] (fun vs w => ∃ bc, (¬ enterE c [noneA c.lots.length [lot]] = 0 ∧ vs = [.int .i64 (enterE c [noneA c.lots.length [lot]]), .pointer (some ⟨bc, 0, none⟩)] ∧ St w0 w ((b9, blk 36 [.int .i64 0, .int .i64 0]) :: (b6, blk 3 [.int .i64 lot]) :: (b3, blk 27 (c.cells p)) :: F)) ∨ (enterE c [noneA c.lots.length [lot]] = 0 ∧ ∃ cb mm M, vs = [.int .i64 0, .pointer (some ⟨bc, 0, none⟩)] ∧ Memo c mm M ∧ St w0 w ((cb, blk 138 [.slice p.ae c.heat.length p.ce, .int .i64 c.gas, .slice p.ah c.holds.length p.ch, .slice p.al c.lots.length p.cl, .slice p.an c.seen.length p.cn, .int .i64 ((0 : Nat) : Int), .map (some mm)]) :: (bc, blk 84 [.pointer (some ⟨cb, 0, none⟩)]) :: (b9, blk 36 [.int .i64 0, .int .i64 0]) :: (b6, blk 3 [.int .i64 lot]) :: (b3, blk 27 (c.cells p)) :: (M ++ F)))) (fun jd g0 => ?_) ?_)))))))
  ·
   refine w_drawT (C := fun w => St w0 w _) [13] (.two [(0,1),(1,0),(2,1),(3,0),(4,1)] 5 12 (.two [] 6 12 (.two [] 7 12 (.two [] 8 12 (.done [(9,0),(10,0),(11,0),(12,2),(13,3),(14,0)]) (.done [(8,2),(9,0),(10,0),(11,0),(13,3),(14,0)])) (.done [(7,2),(8,2),(9,0),(10,0),(11,0),(13,3),(14,0)])) (.done [(6,2),(7,2),(8,2),(9,0),(10,0),(11,0),(13,3),(14,0)])) (.done [(5,2),(6,2),(7,2),(8,2),(9,0),(10,0),(11,0),(13,3),(14,0)])) zB4 (by kernel_rfl) gD (fun _ h => h.drew) (fun je g8 => ?_)
   refine zFq ?_
   refine zAz rfl zAa rfl g8 (fun _ hq => (zA2 (vs := [_,_,_,_,_]) isAgg27 sizeOf27 hq rfl rfl (aow 2 [_,_,_,_,_]))) ?_
   refine d_w rfl (fun _ => zAe (o := 3) (i := 3) underlying27 rfl sizeOf24 rfl rfl rfl) rfl ?_
   refine zAz rfl zAa rfl g8 (fun _ hq => (zAg isAgg24 hq rfl rfl (aow 2 [_]))) ?_
   refine d_w rfl (fun _ => zBc underlying24 rfl rfl) rfl ?_
   refine zAz rfl zAa rfl g8 (fun _ hq => (zAg isAgg3 hq rfl rfl (aow 1 [_]))) ?_
   refine zIk rfl rfl ?_ ?_
   ·
    refine zAu (ps := [(0, _)]) (pv := [(0, .int _ _)]) (cs := [_]) zAa rfl rfl (fun w => zGu _ w) g8 (fun jf jg gc => ?_)
    refine zAd (qn ⟨gc.tail, ?_⟩)
    refine zFq ?_
    refine zIk rfl rfl ?_ ?_
    ·
     refine zCo zAa call43 rfl rfl rfl rfl (c43 _ (by omega) _ _ [_] (by simp) (zBb (i := 0) (rows := [[_]]) rfl (by simp) rfl) gc) (fun jh gd => ?_)
     refine zAd (qn ⟨gd.tail, ?_⟩)
     refine zFq ?_
     refine zIk rfl rfl ?_ ?_
     ·
      refine zAu (ps := [(0, _)]) (pv := [(0, .agg #[.bool _, .int _ _])]) (cs := [_,_]) zAa rfl rfl (fun w => zFs _ _ w) gd (fun ji jj ge => ?_)
      refine zAd (qn ⟨ge.tail.tail, ?_⟩)
      refine zFq ?_
      refine zIk rfl rfl ?_ ?_
      ·
       refine zA4 zAa call42 rfl rfl rfl rfl (c42 c _ hm.cons.cons.cons.cons.cons _ _ [noneA c.lots.length [lot]] (by simp [spoilsL, putL, outL]) (fun x hx _ => by simp only [List.mem_cons, List.not_mem_nil, or_false] at hx; rcases hx with rfl <;> simp [noneA, hoursA]) (zBb (i := 0) (rows := (arows [noneA c.lots.length [lot]])) rfl (arow2 _) rfl) ge) ?_
       rintro _ jk (⟨hee, rfl, g3⟩ | ⟨hee, cb, mm, M, rfl, hM, g3⟩)
       ·
        refine zAd (qn ⟨g3.tail.tail, ?_⟩)
        refine zDs ?_
        refine d_w rfl (fun _ => zA3 rfl rfl) rfl (d_w rfl (fun _ => zAw rfl rfl rfl) rfl (d_w rfl (fun _ => zAk rfl rfl rfl) rfl ?_))
        refine zBh rfl ?_
        refine zA1 (cs := [_]) zAa zeroValue84 rfl g3 (fun jl jm gj => ?_)
        refine zAd (qn ⟨gj.tail.tail.tail, ?_⟩)
        refine zBr rfl ?_
        refine zBj 0 (.pointer _) [_] sizeOf84 gj (fun jo gE => ?_)
        refine zAd (qn ?_)
        refine d_w rfl (fun _ => zA0 rfl rfl) rfl ?_
        refine zBm ?_
        refine zAc (g0 _ _ (mdI ?_))
        have gF := (show St _ _ (_ :: _ :: _ :: F) from gE.tail.tail.tail)
        exact ⟨_, .inl ⟨hee, rfl, gF⟩⟩
       replace g3 := (show St _ _ (M ++ (_ :: _ :: _ :: _ :: _ :: _ :: F)) from g3)
       refine zAd (qn ⟨g3.drop.tail.tail.tail, ?_⟩)
       refine zDs ?_
       refine d_w rfl (fun _ => zA3 rfl rfl) rfl (d_w rfl (fun _ => zAw rfl rfl rfl) rfl (d_w rfl (fun _ => zAk rfl rfl rfl) rfl ?_))
       refine zBh rfl ?_
       refine zA1 (cs := [_]) zAa zeroValue84 rfl g3 (fun jp jq gk => ?_)
       refine zAd (qn ⟨gk.tail.drop.tail.tail.tail, ?_⟩)
       have gG := (show St _ _ (_ :: _ :: _ :: _ :: _ :: _ :: _ :: (M ++ (F))) from St.pk [[_], M, [_], [_], [_], [_], [_], [_]] [0,2,3,4,5,6,7,1] gk)
       refine zBr rfl ?_
       refine zBj 0 (.pointer _) [_] sizeOf84 gG (fun jr gH => ?_)
       refine zAd (qn ?_)
       refine d_w rfl (fun _ => zA0 rfl rfl) rfl ?_
       refine zBm ?_
       refine zAc (g0 _ _ (mdI ?_))
       have gI := (show St _ _ (_ :: _ :: _ :: _ :: _ :: (M ++ (F))) from St.pk [[_], [_], [_], [_], [_], [_], [_], M] [1,0,4,5,6,7] gH)
       exact ⟨_, .inr ⟨hee, cb, mm, M, rfl, hM, gI⟩⟩
      refine zA1 (cs := [_]) zAa zeroValue84 rfl ge (fun js jt gm => ?_)
      refine zAd (qn ⟨gm.tail.tail.tail, ?_⟩)
      refine zDs ?_
      refine zBh rfl ?_
      refine zA4 zAa call42 rfl rfl rfl rfl (c42 c _ hm.cons.cons.cons.cons.cons.cons _ _ [noneA c.lots.length [lot]] (by simp [spoilsL, putL, outL]) (fun x hx _ => by simp only [List.mem_cons, List.not_mem_nil, or_false] at hx; rcases hx with rfl <;> simp [noneA, hoursA]) (zBb (i := 1) (rows := (arows [noneA c.lots.length [lot]])) rfl (arow2 _) rfl) gm) ?_
      rintro _ ju (⟨hee, rfl, g4⟩ | ⟨hee, cb, mm, M, rfl, hM, g4⟩)
      ·
       refine zAd (qn ⟨g4.tail.tail.tail, ?_⟩)
       refine d_w rfl (fun _ => zA3 rfl rfl) rfl (d_w rfl (fun _ => zAw rfl rfl rfl) rfl (d_w rfl (fun _ => zAk rfl rfl rfl) rfl ?_))
       refine zBr rfl ?_
       refine zBj 0 (.pointer _) [_] sizeOf84 g4 (fun jv gJ => ?_)
       refine zAd (qn ?_)
       refine d_w rfl (fun _ => zA0 rfl rfl) rfl ?_
       refine zBm ?_
       refine zAc (g0 _ _ (mdI ?_))
       have gK := (show St _ _ (_ :: _ :: _ :: F) from gJ.tail.tail.tail)
       exact ⟨_, .inl ⟨hee, rfl, gK⟩⟩
      replace g4 := (show St _ _ (M ++ (_ :: _ :: _ :: _ :: _ :: _ :: _ :: F)) from g4)
      refine zAd (qn ⟨g4.drop.tail.tail.tail.tail, ?_⟩)
      refine d_w rfl (fun _ => zA3 rfl rfl) rfl (d_w rfl (fun _ => zAw rfl rfl rfl) rfl (d_w rfl (fun _ => zAk rfl rfl rfl) rfl ?_))
      have gL := (show St _ _ (_ :: _ :: _ :: _ :: _ :: _ :: _ :: (M ++ (F))) from St.pk [M, [_], [_], [_], [_], [_], [_], [_]] [1,2,3,4,5,6,7,0] g4)
      refine zBr rfl ?_
      refine zBj 1 (.pointer _) [_] sizeOf84 gL (fun jw gM => ?_)
      refine zAd (qn ?_)
      refine d_w rfl (fun _ => zA0 rfl rfl) rfl ?_
      refine zBm ?_
      refine zAc (g0 _ _ (mdI ?_))
      have gN := (show St _ _ (_ :: _ :: _ :: _ :: _ :: (M ++ (F))) from St.pk [[_], [_], [_], [_], [_], [_], [_], M] [0,1,4,5,6,7] gM)
      exact ⟨_, .inr ⟨hee, cb, mm, M, rfl, hM, gN⟩⟩
     refine zA1 (cs := [_]) zAa zeroValue84 rfl gd (fun jx jy gn => ?_)
     refine zAd (qn ⟨gn.tail.tail, ?_⟩)
     refine zDs ?_
     refine zBh rfl ?_
     refine zAu (ps := [(0, _)]) (pv := [(0, .agg #[.bool _, .int _ _])]) (cs := [_,_]) zAa rfl rfl (fun w => zFs _ _ w) gn (fun jz jA go => ?_)
     refine zAd (qn ⟨go.tail.tail.tail, ?_⟩)
     refine zBh rfl ?_
     refine zA4 zAa call42 rfl rfl rfl rfl (c42 c _ hm.cons.cons.cons.cons.cons.cons _ _ [noneA c.lots.length [lot]] (by simp [spoilsL, putL, outL]) (fun x hx _ => by simp only [List.mem_cons, List.not_mem_nil, or_false] at hx; rcases hx with rfl <;> simp [noneA, hoursA]) (zBb (i := 0) (rows := (arows [noneA c.lots.length [lot]])) rfl (arow2 _) rfl) go) ?_
     rintro _ jB (⟨hee, rfl, g5⟩ | ⟨hee, cb, mm, M, rfl, hM, g5⟩)
     ·
      refine zAd (qn ⟨g5.tail.tail.tail, ?_⟩)
      refine d_w rfl (fun _ => zA3 rfl rfl) rfl (d_w rfl (fun _ => zAw rfl rfl rfl) rfl (d_w rfl (fun _ => zAk rfl rfl rfl) rfl ?_))
      refine zBr rfl ?_
      refine zBj 1 (.pointer _) [_] sizeOf84 g5 (fun jC gO => ?_)
      refine zAd (qn ?_)
      refine d_w rfl (fun _ => zA0 rfl rfl) rfl ?_
      refine zBm ?_
      refine zAc (g0 _ _ (mdI ?_))
      have gP := (show St _ _ (_ :: _ :: _ :: F) from gO.tail.tail.tail)
      exact ⟨_, .inl ⟨hee, rfl, gP⟩⟩
     replace g5 := (show St _ _ (M ++ (_ :: _ :: _ :: _ :: _ :: _ :: _ :: F)) from g5)
     refine zAd (qn ⟨g5.drop.tail.tail.tail.tail, ?_⟩)
     refine d_w rfl (fun _ => zA3 rfl rfl) rfl (d_w rfl (fun _ => zAw rfl rfl rfl) rfl (d_w rfl (fun _ => zAk rfl rfl rfl) rfl ?_))
     have gQ := (show St _ _ (_ :: _ :: _ :: _ :: _ :: _ :: _ :: (M ++ (F))) from St.pk [M, [_], [_], [_], [_], [_], [_], [_]] [1,2,3,4,5,6,7,0] g5)
     refine zBr rfl ?_
     refine zBj 2 (.pointer _) [_] sizeOf84 gQ (fun jD gR => ?_)
     refine zAd (qn ?_)
     refine d_w rfl (fun _ => zA0 rfl rfl) rfl ?_
     refine zBm ?_
     refine zAc (g0 _ _ (mdI ?_))
     have gS := (show St _ _ (_ :: _ :: _ :: _ :: _ :: (M ++ (F))) from St.pk [[_], [_], [_], [_], [_], [_], [_], M] [0,2,4,5,6,7] gR)
     exact ⟨_, .inr ⟨hee, cb, mm, M, rfl, hM, gS⟩⟩
    refine zA1 (cs := [_]) zAa zeroValue84 rfl gc (fun jE jF gp => ?_)
    refine zAd (qn ⟨gp.tail.tail, ?_⟩)
    refine zDs ?_
    refine zBh rfl ?_
    refine zCo zAa call43 rfl rfl rfl rfl (c43 _ (by omega) _ _ [_] (by simp) (zBb (i := 1) (rows := [[_]]) rfl (by simp) rfl) gp) (fun jG gq => ?_)
    refine zAd (qn ⟨gq.tail.tail, ?_⟩)
    refine zBh rfl ?_
    refine zAu (ps := [(0, _)]) (pv := [(0, .agg #[.bool _, .int _ _])]) (cs := [_,_]) zAa rfl rfl (fun w => zFs _ _ w) gq (fun jH jI gt => ?_)
    refine zAd (qn ⟨gt.tail.tail.tail, ?_⟩)
    refine zBh rfl ?_
    refine zA4 zAa call42 rfl rfl rfl rfl (c42 c _ hm.cons.cons.cons.cons.cons.cons _ _ [noneA c.lots.length [lot]] (by simp [spoilsL, putL, outL]) (fun x hx _ => by simp only [List.mem_cons, List.not_mem_nil, or_false] at hx; rcases hx with rfl <;> simp [noneA, hoursA]) (zBb (i := 0) (rows := (arows [noneA c.lots.length [lot]])) rfl (arow2 _) rfl) gt) ?_
    rintro _ jJ (⟨hee, rfl, g6⟩ | ⟨hee, cb, mm, M, rfl, hM, g6⟩)
    ·
     refine zAd (qn ⟨g6.tail.tail.tail, ?_⟩)
     refine d_w rfl (fun _ => zA3 rfl rfl) rfl (d_w rfl (fun _ => zAw rfl rfl rfl) rfl (d_w rfl (fun _ => zAk rfl rfl rfl) rfl ?_))
     refine zBr rfl ?_
     refine zBj 1 (.pointer _) [_] sizeOf84 g6 (fun jK gT => ?_)
     refine zAd (qn ?_)
     refine d_w rfl (fun _ => zA0 rfl rfl) rfl ?_
     refine zBm ?_
     refine zAc (g0 _ _ (mdI ?_))
     have gU := (show St _ _ (_ :: _ :: _ :: F) from gT.tail.tail.tail)
     exact ⟨_, .inl ⟨hee, rfl, gU⟩⟩
    replace g6 := (show St _ _ (M ++ (_ :: _ :: _ :: _ :: _ :: _ :: _ :: F)) from g6)
    refine zAd (qn ⟨g6.drop.tail.tail.tail.tail, ?_⟩)
    refine d_w rfl (fun _ => zA3 rfl rfl) rfl (d_w rfl (fun _ => zAw rfl rfl rfl) rfl (d_w rfl (fun _ => zAk rfl rfl rfl) rfl ?_))
    have gV := (show St _ _ (_ :: _ :: _ :: _ :: _ :: _ :: _ :: (M ++ (F))) from St.pk [M, [_], [_], [_], [_], [_], [_], [_]] [1,2,3,4,5,6,7,0] g6)
    refine zBr rfl ?_
    refine zBj 2 (.pointer _) [_] sizeOf84 gV (fun jL gW => ?_)
    refine zAd (qn ?_)
    refine d_w rfl (fun _ => zA0 rfl rfl) rfl ?_
    refine zBm ?_
    refine zAc (g0 _ _ (mdI ?_))
    have gX := (show St _ _ (_ :: _ :: _ :: _ :: _ :: (M ++ (F))) from St.pk [[_], [_], [_], [_], [_], [_], [_], M] [0,2,4,5,6,7] gW)
    exact ⟨_, .inr ⟨hee, cb, mm, M, rfl, hM, gX⟩⟩
   refine zA1 (cs := [_]) zAa zeroValue84 rfl g8 (fun jM jN gu => ?_)
   refine zAd (qn ⟨gu.tail, ?_⟩)
   refine zDs ?_
   refine zBh rfl ?_
   refine zAu (ps := [(0, _)]) (pv := [(0, .int _ _)]) (cs := [_]) zAa rfl rfl (fun w => zGu _ w) gu (fun jO jP gv => ?_)
   refine zAd (qn ⟨gv.tail.tail, ?_⟩)
   refine zBh rfl ?_
   refine zCo zAa call43 rfl rfl rfl rfl (c43 _ (by omega) _ _ [_] (by simp) (zBb (i := 0) (rows := [[_]]) rfl (by simp) rfl) gv) (fun jQ gw => ?_)
   refine zAd (qn ⟨gw.tail.tail, ?_⟩)
   refine zBh rfl ?_
   refine zAu (ps := [(0, _)]) (pv := [(0, .agg #[.bool _, .int _ _])]) (cs := [_,_]) zAa rfl rfl (fun w => zFs _ _ w) gw (fun jR jS gx => ?_)
   refine zAd (qn ⟨gx.tail.tail.tail, ?_⟩)
   refine zBh rfl ?_
   refine zA4 zAa call42 rfl rfl rfl rfl (c42 c _ hm.cons.cons.cons.cons.cons.cons _ _ [noneA c.lots.length [lot]] (by simp [spoilsL, putL, outL]) (fun x hx _ => by simp only [List.mem_cons, List.not_mem_nil, or_false] at hx; rcases hx with rfl <;> simp [noneA, hoursA]) (zBb (i := 0) (rows := (arows [noneA c.lots.length [lot]])) rfl (arow2 _) rfl) gx) ?_
   rintro _ jT (⟨hee, rfl, g7⟩ | ⟨hee, cb, mm, M, rfl, hM, g7⟩)
   ·
    refine zAd (qn ⟨g7.tail.tail.tail, ?_⟩)
    refine d_w rfl (fun _ => zA3 rfl rfl) rfl (d_w rfl (fun _ => zAw rfl rfl rfl) rfl (d_w rfl (fun _ => zAk rfl rfl rfl) rfl ?_))
    refine zBr rfl ?_
    refine zBj 2 (.pointer _) [_] sizeOf84 g7 (fun jU gY => ?_)
    refine zAd (qn ?_)
    refine d_w rfl (fun _ => zA0 rfl rfl) rfl ?_
    refine zBm ?_
    refine zAc (g0 _ _ (mdI ?_))
    have gZ := (show St _ _ (_ :: _ :: _ :: F) from gY.tail.tail.tail)
    exact ⟨_, .inl ⟨hee, rfl, gZ⟩⟩
   replace g7 := (show St _ _ (M ++ (_ :: _ :: _ :: _ :: _ :: _ :: _ :: F)) from g7)
   refine zAd (qn ⟨g7.drop.tail.tail.tail.tail, ?_⟩)
   refine d_w rfl (fun _ => zA3 rfl rfl) rfl (d_w rfl (fun _ => zAw rfl rfl rfl) rfl (d_w rfl (fun _ => zAk rfl rfl rfl) rfl ?_))
   have hD := (show St _ _ (_ :: _ :: _ :: _ :: _ :: _ :: _ :: (M ++ (F))) from St.pk [M, [_], [_], [_], [_], [_], [_], [_]] [1,2,3,4,5,6,7,0] g7)
   refine zBr rfl ?_
   refine zBj 3 (.pointer _) [_] sizeOf84 hD (fun jV hN => ?_)
   refine zAd (qn ?_)
   refine d_w rfl (fun _ => zA0 rfl rfl) rfl ?_
   refine zBm ?_
   refine zAc (g0 _ _ (mdI ?_))
   have hP := (show St _ _ (_ :: _ :: _ :: _ :: _ :: (M ++ (F))) from St.pk [[_], [_], [_], [_], [_], [_], [_], M] [0,3,4,5,6,7] hN)
   exact ⟨_, .inr ⟨hee, cb, mm, M, rfl, hM, hP⟩⟩
  intro vs μ jW hM
  clear hs
  obtain ⟨bc, hM⟩ := hM
  rcases hM with hM | hM
  ·
   obtain ⟨hee, rfl, hs⟩ := hM
   refine zAc (gi _ _ (zAf (fun jX jY => (zAf (fun jZ hX => (zAb (zA6 rfl rfl (w_p (zCs rfl rfl rfl rfl) rfl (zAd (zAc (hX _ _ (zAr rfl rfl (fun ga => ?_) (fun ga => ?_)))))))))))))
   ·
    try simp only [zS] at ga
    refine zAf (fun k4 hY => (zAb (w_p (zA2 (vs := [_,_]) isAgg36 sizeOf36 hs rfl rfl (aow 0 [_,_])) rfl (zA6 rfl rfl ?_))))
    refine zBj 0 (.agg #[.int _ _, .int _ _]) [_,_] sizeOf36 hs (fun k5 gy => ?_)
    refine zBi rfl rfl (zBw rfl rfl (zAd (zAc (hY _ _ (zA8 (zAl (zBa (l := [.cell 4 36, .tmp 5, .tmp 6]) (vs := [_,_,_]) rfl ⟨⟨rfl, _, rfl, zCv (vs := [_,_]) isAgg36 sizeOf36 gy (aow 0 [_,_])⟩, ⟨rfl, (rfl : _ = Value.int _ _)⟩, ⟨rfl, (rfl : _ = Value.int _ _)⟩, trivial⟩ ?_)))))))
    exact ⟨by rw [turnsP_e hee]; rfl, gy.tail.tail.tail⟩
   exfalso
   try simp only [zS] at ga
   exact hee ga
  obtain ⟨hee, cb, mm, M, rfl, hM, hs⟩ := hM
  have hew := zFp (fun x hx _ => by simp only [List.mem_cons, List.not_mem_nil, or_false] at hx; rcases hx with rfl <;> simp [noneA, hoursA]) hee
  have hok := zEe hew.1
  have hlo := hok.ll
  have hle2 := hok.le
  have hlh2 := hok.lh
  refine zAc (gi _ _ (zAf (fun k6 j0 => (zAf (fun k7 j1 => (zAb (zA6 rfl rfl (w_p (zCs rfl rfl rfl rfl) rfl (zAd (zAc (j1 _ _ (zBs rfl rfl ?_))))))))))))
  refine zAn (zAc (j0 _ _ (zAf (fun k8 j3 => (zAb (zA1 (cs := [_]) zAa zeroValue4 rfl hs (fun gf k9 j4 => ?_)))))))
  refine zBj 0 (.bool _) [_] sizeOf4 j4 (fun ka j5 => ?_)
  refine zAd (zAc (j3 _ _ (zAf (fun kb j6 => ?_))))
  have j7 := (show St _ _ (_ :: _ :: _ :: _ :: _ :: _ :: (M ++ (F))) from St.pk [[_], [_], [_], [_], [_], [_], M] [0,3,1,2,4,5,6] j5)
  obtain ⟨n, rfl⟩ : ∃ n : Nat, lot = (n : Int) := ⟨lot.toNat, by have := zFz (any_1 hew.2.1) lot (by simp); omega⟩
  have hnl : n < c.lots.length := by have := zFz (any_1 hew.2.1) (n : Int) (by simp); omega
  have hlk := hok.lot _ (List.getElem_mem hnl)
  have hhe : c.lots[n].hold = ((holdOf c n : Nat) : Int) := by unfold holdOf; rw [zC5 hnl]; exact (Int.toNat_of_nonneg hlk.hold.1).symm
  have hhl : holdOf c n < c.holds.length := by have := hlk.hold; omega
  obtain ⟨bx, ox, hbx, hx⟩ := sl_lrows hm.l hnl
  refine w_drawD (C0 := fun w => St w0 w _) (C := fun w => ∃ x8 x4 M, Memo c mm M ∧ St w0 w ((gf, x8) :: (b9, x4) :: (cb, blk 138 [.slice p.ae c.heat.length p.ce, .int .i64 c.gas, .slice p.ah c.holds.length p.ch, .slice p.al c.lots.length p.cl, .slice p.an c.seen.length p.cn, .int .i64 ((0 : Nat) : Int), .map (some mm)]) :: (bc, blk 84 [.pointer (some ⟨cb, 0, none⟩)]) :: (b6, blk 3 [.int .i64 (n : Int)]) :: (b3, blk 27 (c.cells p)) :: (M ++ F))) [] [(0,1),(1,0),(2,1),(3,1),(4,0),(5,0),(6,1),(7,0),(8,0),(9,2),(10,0)] zB4 (zBk (by kernel_rfl)) j7 (fun _ h => ⟨_, _,_, hM, h⟩) (fun _ h => h.drew) (fun kc g9 => ?_)
  refine zCe rfl zAa rfl ⟨_, _,_, hM, g9⟩ (fun _ ⟨x8, x4, M, hM, hq⟩ => (zAg isAgg84 hq rfl rfl (aow 3 [_]))) ?_
  refine d_w rfl (fun _ => zAe (o := 3) (i := 3) underlying27 rfl sizeOf24 rfl rfl rfl) rfl ?_
  refine zCe rfl zAa rfl ⟨_, _,_, hM, g9⟩ (fun _ ⟨x8, x4, M, hM, hq⟩ => (zCl hbx (zAg isAgg24 hq rfl rfl (aow 5 [_])))) ?_
  refine zCe rfl zAa rfl ⟨_, _,_, hM, g9⟩ (fun _ ⟨x8, x4, M, hM, hq⟩ => (zAg isAgg3 hq rfl rfl (aow 4 [_]))) ?_
  refine d_w rfl (fun _ => zA7 underlying24 sizeOf38 rfl rfl rfl rfl (i := n) rfl hnl) rfl (d_w rfl (fun _ => zAe (o := 0) (i := 0) underlying38 rfl sizeOf3 rfl rfl rfl) rfl ?_)
  refine zCe rfl zAa rfl ⟨_, _,_, hM, g9⟩ (fun _ ⟨x8, x4, M, hM, hq⟩ => (zAg isAgg3 hq.tail.tail.tail.tail.tail.tail.drop rfl rfl (show Ats _ _ _ _ [_] from Ats.part hx 0 1))) ?_
  refine d_w rfl (fun _ => zCc (fv := []) (cv := [_,_,_,_]) rfl rfl rfl rfl) rfl (d_w rfl (fun _ => zB1 (ps := [(0, _)]) (pv := [(0, .func _ _ _)]) rfl rfl (fun w => Try_UJ_fb3 _ _ _ w)) rfl ?_)
  have j8 := (show St _ _ (_ :: _ :: (M ++ (_ :: _ :: _ :: _ :: F))) from St.pk [[_], [_], [_], [_], [_], [_], M] [0,1,6,2,3,4,5] g9)
  refine zBh rfl ?_
  refine zA4 zAa call44 rfl rfl rfl rfl ((by have h := c44 (X := []) (B := [_,_]) (M := M) (F := (cb, blk 138 [.slice p.ae c.heat.length p.ce, .int .i64 c.gas, .slice p.ah c.holds.length p.ch, .slice p.al c.lots.length p.cl, .slice p.an c.seen.length p.cn, .int .i64 ((0 : Nat) : Int), .map (some mm)]) :: _ :: _ :: _ :: F) c p cb mm ⟨hm.cons.cons.cons.cons, zB9 (i := 0) rfl rfl, hok.t, by omega⟩ hok (holdOf c n) hhl 45 #[] #[.pointer (some ⟨b6,0, none⟩), .pointer (some ⟨bc, 0, none⟩), .pointer (some ⟨gf,0, none⟩), .pointer (some ⟨b9,0, none⟩)] (turnsQ c n) (fun i B => B = [(gf, blk 4 [.bool (turnsA c n ((truths c 0 (holdOf c n)).take i)).2]), (b9, blk 36 [.int .i64 (turnsA c n ((truths c 0 (holdOf c n)).take i)).1.1, .int .i64 (turnsA c n ((truths c 0 (holdOf c n)).take i)).1.2])]) (turns_qis c p cb mm ⟨hm.cons.cons.cons.cons, zB9 (i := 0) rfl rfl, hok.t, by omega⟩ hok (holdOf c n) hhl n (by omega) _ _ _ _ (aow 2 [_]) (aow 1 [_])) rfl hM j8; rw [← hhe] at h; exact h)) ?_
  rintro _ kd ⟨rfl, B1, M143, hJ1, j9, gg⟩
  subst hJ1
  replace gg := (show St _ _ (_ :: _ :: M143 ++ (_ :: _ :: _ :: _ :: F)) from gg)
  have gh := (show St _ _ (_ :: _ :: _ :: _ :: _ :: _ :: (M143 ++ (F))) from St.pk [[_], [_], M143, [_], [_], [_], [_]] [0,1,3,4,5,6,2] gg)
  refine zAd (qn ⟨⟨_, _,_, j9, gh⟩, ?_⟩)
  refine d_w rfl (fun _ => zA0 rfl rfl) rfl ?_
  refine zBm ?_
  refine zAc (j6 _ _ (zAf (fun ke ja => (zAb (w_p (zA2 (vs := [_,_]) isAgg36 sizeOf36 gh rfl rfl (aow 1 [_,_])) rfl (zA6 rfl rfl ?_))))))
  refine zBj 1 (.agg #[.int _ _, .int _ _]) [_,_] sizeOf36 gh (fun kf gz => ?_)
  refine zBw rfl rfl (zBi rfl rfl (zAd (zAc (ja _ _ (zA8 (zBa (l := [.cell 4 36, .tmp 5, .tmp 6]) (vs := [_,_,_]) rfl ⟨⟨rfl, _, rfl, zCv (vs := [_,_]) isAgg36 sizeOf36 gz (aow 1 [_,_])⟩, ⟨rfl, (rfl : _ = Value.int _ _)⟩, ⟨rfl, (rfl : _ = Value.int _ _)⟩, trivial⟩ ?_))))))
  exact ⟨by rw [turnsP_y hee, List.take_length]; rfl, gz.tail.tail.tail.tail.tail.tail.drop⟩

theorem c49 {w0 w : World} {F : List (Nat × Obj)} (c : Cargo) (n : Nat) (hn5 : n < 5) (hour : Int) (b7 b3 : Nat) (h7 : Ats w0 F b7 0 [.int .i64 (n : Int)]) (h3 : Ats w0 F b3 0 [.int .i64 hour]) (s : List Int) (hls : s.length = 8) (hs : St w0 w F) :
  Con Tryz.prog 49 [ia s, ia (times c s), .pointer (some ⟨b7,0, none⟩), .pointer (some ⟨b3,0, none⟩)] w fun v w' => v = .bool (safeQ c hour n s) ∧ St w0 w' F := by
  refine zAo (n := 12) func49 rfl rfl (zNl rfl) ?_
  have htl := zBf c s
  refine zAf (fun K2 g3 => (zAb (zEi (l := _) zAa rfl rfl rfl hs (fun b3 w4 g4 => ?_))))
  refine zEi (l := _) zAa rfl rfl rfl g4 (fun b6 w7 g5 => ?_)
  refine zBi rfl rfl (zAd (zAc (g3 _ _ (zAf (fun g7 g6 => (zCq [] [(0,1),(1,0),(2,1),(3,1),(4,0),(5,0)] zB4 (zBk (by kernel_rfl)) g5 (fun g8 g0 => ?_)))))))
  refine zAz rfl zAa rfl g0 (fun _ hq => (zAg isAgg3 hq.tail.tail rfl rfl h7)) ?_
  refine d_w rfl (fun _ => zCw underlying92 sizeOf3 rfl rfl rfl rfl (i := n) (by first | rfl | omega) (by omega)) rfl ?_
  refine zAz rfl zAa rfl g0 (fun _ hq => (zAg isAgg3 hq rfl rfl (zC9 (i := 0) (j := n) rfl (by first | omega | rfl | (simp only [hls, zBf, zL] <;> omega))))) ?_
  refine zAz rfl zAa rfl g0 (fun _ hq => (zAg isAgg3 hq.tail.tail rfl rfl h3)) ?_
  refine d_w rfl (fun _ => zEf rfl rfl rfl rfl) rfl (d_w rfl (fun _ => zAs rfl rfl) rfl ?_)
  refine zBm ?_
  refine zAc (g6 _ _ (zA8 (zBa (l := [.tmp 6]) (vs := [_]) rfl ⟨⟨rfl, (rfl : _ = Value.bool _)⟩, trivial⟩ ?_)))
  exact ⟨rfl, g0.tail.tail⟩

theorem safe_qis {w0 : World} {F : List (Nat × Obj)} (c : Cargo) (mm : Nat) (hco : c.Ok) (hold : Nat) (hh : hold < c.holds.length) (n : Nat) (hn5 : n < 5) (hour : Int) (b7 b3 : Nat) (h7 : Ats w0 F b7 0 [.int .i64 (n : Int)]) (h3 : Ats w0 F b3 0 [.int .i64 hour]) : QIs w0 F c mm hold (.func (.func 49) #[] #[.pointer (some ⟨b7,0, none⟩), .pointer (some ⟨b3,0, none⟩)]) (safeQ c hour n) (fun i B => B = []) := by
  intro i hi B M X w hB hM hs
  subst hB
  refine (zDm call49 (c49 (F := X ++ (M ++ F)) c n hn5 hour b7 b3 h7.app.app h3.app.app _ (zEg hco hh (List.getElem_mem hi)).1.len hs)).mono ?_
  rintro v w' ⟨rfl, g0⟩
  exact ⟨rfl, [], M, rfl, hM, g0⟩
theorem c20 {w0 w : World} {F : List (Nat × Obj)} (c : Cargo) (p : AtT) (hm : TIn w0 F c p) (hour : Int) (hs : St w0 w F) :
  Con Tryz.prog 20 [.agg (c.cells p).toArray, .int .i64 hour] w fun v w' => ∃ B a c', v = .tuple #[.slice a (safeP c hour).1.length c', .int .i64 (safeP c hour).2] ∧ Sl w0 B a 1 ((safeP c hour).1.map fun x => [Value.int .i64 x]) ∧ St w0 w' (B ++ F) := by
  refine zAo (n := 49) func20 rfl rfl (zNl rfl) ?_
  have hll0 := hm.ll
  refine zAf (fun K2 go => (zAb (zCj (v := .agg #[.slice _ _ _, .int _ _, .slice _ _ _, .slice _ _ _, .slice _ _ _]) (cs := [_,_,_,_,_]) zAa rfl rfl rfl hs (fun b3 w4 gp => ?_))))
  refine zCj (v := .int _ _) (cs := [_]) zAa rfl rfl rfl gp (fun b6 w7 gq => ?_)
  refine zBi rfl rfl (zBi rfl rfl (zAd (zAc (go _ _ (zAf (fun gO gf => (zCq [] [(0,1),(1,1),(2,1),(3,2),(4,2),(5,2),(6,2),(7,0),(8,0),(9,0),(10,0),(11,0)] zB4 (zBk (by kernel_rfl)) gq (fun gP g4 => ?_))))))))
  refine zAz rfl zAa rfl g4 (fun _ hq => (zA2 (vs := [_,_,_,_,_]) isAgg27 sizeOf27 hq rfl rfl (aow 1 [_,_,_,_,_]))) ?_
  refine zAz rfl zAa rfl g4 (fun _ hq => (zA2 (vs := [_,_,_,_,_]) isAgg27 sizeOf27 hq rfl rfl (aow 1 [_,_,_,_,_]))) ?_
  refine zAz rfl zAa rfl g4 (fun _ hq => (zAg isAgg3 hq rfl rfl (aow 0 [_]))) ?_
  refine zBh rfl ?_
  refine zAu (ps := [(0, _)]) (pv := [(0, .int _ _)]) (cs := [_]) zAa rfl rfl (fun w => zGu _ w) g4 (fun gQ gR gg => ?_)
  refine zAd (qn ⟨gg.tail, ?_⟩)
  refine zBh rfl ?_
  refine zCo zAa call48 rfl rfl rfl rfl (c48 c _ hm.cons.cons.cons _ _ [_] (by simp) (zBb (i := 0) (rows := [[_]]) rfl (by simp) rfl) gg) (fun gS gh => ?_)
  refine zAd (qn ⟨gh.tail, ?_⟩)
  refine zBh rfl ?_
  refine zAu (ps := [(0, _)]) (pv := [(0, .agg #[.bool _, .int _ _])]) (cs := [_,_]) zAa rfl rfl (fun w => zFs _ _ w) gh (fun gT gU gi => ?_)
  refine zAd (qn ⟨gi.tail.tail, ?_⟩)
  refine zBh rfl ?_
  refine zA4 zAa call42 rfl rfl rfl rfl (c42 c _ hm.cons.cons.cons.cons _ _ [hoursA c [hour]] (by simp [spoilsL, putL, outL]) (fun x hx _ => by simp only [List.mem_cons, List.not_mem_nil, or_false] at hx; rcases hx with rfl <;> simp [noneA, hoursA]) (zBb (i := 0) (rows := (arows [hoursA c [hour]])) rfl (arow2 _) rfl) gi) ?_
  rintro _ gV (⟨hee, rfl, g0⟩ | ⟨hee, cb, mm, M, rfl, hM, g0⟩)
  ·
   refine zAd (qn ⟨g0.tail.tail, ?_⟩)
   refine d_w rfl (fun _ => zA3 rfl rfl) rfl (d_w rfl (fun _ => zAw rfl rfl rfl) rfl (d_w rfl (fun _ => zAk rfl rfl rfl) rfl (d_w rfl (fun _ => zDf rfl rfl) rfl (d_w rfl (fun _ => zA0 rfl rfl) rfl ?_))))
   refine zBm ?_
   refine zAc (gf _ _ (zAf (fun gW gX => (zAf (fun gY gt => (zAb (zA6 rfl rfl (w_p (zCs rfl rfl rfl rfl) rfl (zAd (zAc (gt _ _ (zAr rfl rfl (fun g5 => ?_) (fun g5 => ?_)))))))))))))
   ·
    try simp only [zS] at g5
    refine zAf (fun gZ gu => (zAb (zA6 rfl rfl (zBi rfl rfl (zBw rfl rfl (zAd (zAc (gu _ _ (zA8 (zAl (zBa (l := [.tmp 4, .tmp 5]) (vs := [_,_]) rfl ⟨⟨rfl, show _ = (.slice _ _ _ : Value) from rfl⟩, ⟨rfl, (rfl : _ = Value.int _ _)⟩, trivial⟩ ?_)))))))))))
    exact ⟨[], none, 0, by rw [safeP_e hee]; rfl, by rw [safeP_e hee]; exact Sl.nil _ _, g0.tail.tail.tail.tail⟩
   exfalso
   try simp only [zS] at g5
   exact hee g5
  replace g0 := (show St _ _ (M ++ (_ :: _ :: _ :: _ :: _ :: F)) from g0)
  have hew := zFp (fun x hx _ => by simp only [List.mem_cons, List.not_mem_nil, or_false] at hx; rcases hx with rfl <;> simp [noneA, hoursA]) hee
  have hok := zEe hew.1
  have hlo := hok.ll
  have hle2 := hok.le
  have hlh2 := hok.lh
  refine zAd (qn ⟨g0.drop.tail.tail.tail, ?_⟩)
  refine d_w rfl (fun _ => zA3 rfl rfl) rfl (d_w rfl (fun _ => zAw rfl rfl rfl) rfl (d_w rfl (fun _ => zAk rfl rfl rfl) rfl (d_w rfl (fun _ => zDf rfl rfl) rfl (d_w rfl (fun _ => zA0 rfl rfl) rfl ?_))))
  refine zBm ?_
  refine zAc (gf _ _ (zAf (fun hD gv => (zAf (fun hN gw => (zAb (zA6 rfl rfl (w_p (zCs rfl rfl rfl rfl) rfl (zAd (zAc (gw _ _ (zBs rfl rfl ?_))))))))))))
  refine zAn (zAc (gv _ _ (zAf (fun hP gx => (zAf (fun hX gy => ?_))))))
  have gj := (show St _ _ (_ :: _ :: _ :: (M ++ (F))) from St.pk [M, [_], [_], [_], [_], [_]] [1,4,5,0] g0)
  refine zAb (w_p (zAe (o := 3) (i := 3) underlying27 rfl sizeOf24 rfl rfl rfl) rfl (w_p (zAg isAgg24 gj rfl rfl (aow 2 [_])) rfl (w_p (zBc underlying24 rfl rfl) rfl (w_p (zBy (v := _) rfl rfl) rfl ?_))))
  refine zAd (zAc (gy _ _ (zAq ?_)))
  refine zB6 [4,7,8,25,26,27,28,29,30,31,32,33,34,35,36,37,38,39,40,41,42,43,44,45,46,47] [4,25] (fun k vs w => ∃ (i : Nat) (v : Value) (B M : List (Nat × Obj)), vs = [v, .int .i64 i] ∧ i ≤ c.lots.length ∧ k = c.lots.length - i ∧ Rt.Own v 3 1 (safeTo c hour i).length (iv (safeTo c hour i)) B ∧ Memo c mm M ∧ St w0 w ((cb, blk 138 [.slice p.ae c.heat.length p.ce, .int .i64 c.gas, .slice p.ah c.holds.length p.ch, .slice p.al c.lots.length p.cl, .slice p.an c.seen.length p.cn, .int .i64 ((0 : Nat) : Int), .map (some mm)]) :: (b6, blk 3 [.int .i64 hour]) :: (b3, blk 27 (c.cells p)) :: (B ++ (M ++ F)))) (c.lots.length) ?_ ?_
  ·
   exact ⟨0, _, [], M, rfl, by omega, by omega, zEm 3 1, hM, gj⟩
  intro k vs μ hY hI j0 g6
  clear hs hM
  obtain ⟨i, v, B, M, rfl, hia, rfl, hown, hM, hs⟩ := hI
  refine zAf (fun j1 gz => (zAb (w_p (zCp rfl rfl rfl rfl) rfl (zAd (zAc (gz _ _ (zAf (fun j3 gA => (zAr rfl rfl (fun g7 => ?_) (fun g7 => ?_))))))))))
  ·
   try simp only [zS] at g7
   refine zAn (zAc (gA _ _ (zAf (fun j4 g8 => (zAq ?_)))))
   refine zAf (fun j5 gB => ?_)
   have hi2 : i < c.lots.length := by omega
   obtain ⟨bx, ox, hbx, hx⟩ := sl_lrows hm.l hi2
   have hlk := hok.lot _ (List.getElem_mem hi2)
   have hhe : c.lots[i].hold = ((holdOf c i : Nat) : Int) := by unfold holdOf; rw [zC5 hi2]; exact (Int.toNat_of_nonneg hlk.hold.1).symm
   have hhl : holdOf c i < c.holds.length := by have := hlk.hold; omega
   have hsl := safe_len c hour i
   refine zAb (zA6 rfl rfl (w_p (zA7 underlying24 sizeOf38 rfl rfl (Eq.trans (show _ = Value.slice p.al c.lots.length p.cl from rfl) (by rw [hbx])) rfl (b := bx) (off := ox) (i := i) rfl hi2) rfl ?_))
   refine w_p (zA2 (vs := [_,_,_,_]) isAgg38 sizeOf38 hs.tail.tail.tail.drop.drop rfl rfl hx) rfl (zA1 (cs := [_]) zAa zeroValue3 rfl hs (fun gC j6 gD => ?_))
   refine zA1 (cs := [_,_,_,_]) zAa zeroValue38 rfl gD (fun j7 j8 gE => ?_)
   refine zBj 1 (.int _ _) [_] sizeOf3 gE (fun j9 gF => ?_)
   refine zBj 0 (.agg #[.int _ _, .int _ _, .int _ _, .int _ _]) [_,_,_,_] sizeOf38 gF (fun ja g3 => ?_)
   refine zAd (zAc (gB _ _ (zAf (fun jb gk => (zAb (w_p (zAe (o := 1) (i := 1) underlying38 rfl sizeOf3 rfl rfl rfl) rfl (w_p (zAg isAgg3 g3 rfl rfl (aow 0 [_])) rfl ?_)))))))
   refine w_p (zAg isAgg3 g3 rfl rfl (aow 3 [_])) rfl (w_p (zFc rfl rfl rfl rfl) rfl (w_p (zAt rfl rfl) rfl ?_))
   refine zB5 (fun g9 => ?_) (fun g9 => ?_)
   ·
    try simp only [zS] at g9
    refine w_y rfl rfl rfl (zCn rfl rfl) rfl ?_
    refine w_y rfl rfl rfl (zAe (o := 0) (i := 0) underlying38 rfl sizeOf3 rfl rfl rfl) rfl ?_
    refine w_y rfl rfl rfl (zAg isAgg3 g3 rfl rfl (aow 0 [_])) rfl ?_
    refine w_y rfl rfl rfl (zCc (fv := []) (cv := [_,_]) rfl rfl rfl rfl) rfl ?_
    refine w_y rfl rfl rfl (zB1 (ps := [(0, _)]) (pv := [(0, .func _ _ _)]) rfl rfl (fun w => Try_UJ_fb3 _ _ _ w)) rfl ?_
    have gG := (show St _ _ ((B ++ ((M ++ (_ :: _ :: _ :: _ :: _ :: F))))) from St.pk [[_], [_], [_], [_], [_], B, M] [5,6,0,1,2,3,4] g3)
    refine zA4 (zAh rfl rfl rfl) call44 rfl rfl rfl rfl ((by have h := c44 (X := B) (B := []) (M := M) (F := _ :: _ :: (cb, blk 138 [.slice p.ae c.heat.length p.ce, .int .i64 c.gas, .slice p.ah c.holds.length p.ch, .slice p.al c.lots.length p.cl, .slice p.an c.seen.length p.cn, .int .i64 ((0 : Nat) : Int), .map (some mm)]) :: _ :: _ :: F) c p cb mm ⟨hm.cons.cons.cons.cons.cons, zB9 (i := 2) rfl rfl, hok.t, by omega⟩ hok (holdOf c i) hhl 49 #[] #[.pointer (some ⟨gC,0, none⟩), .pointer (some ⟨b6,0, none⟩)] (safeQ c hour i) (fun i B => B = []) (safe_qis c mm hok (holdOf c i) hhl i (by omega) hour _ _ (aow 1 [_]) (aow 3 [_])) rfl hM gG; rw [← hhe] at h; exact h)) ?_
    rintro _ jc ⟨rfl, B1, M70, hJ1, gm, ga⟩
    subst hJ1
    replace ga := (show St _ _ (B ++ (M70 ++ (_ :: _ :: _ :: _ :: _ :: F))) from ga)
    have gc := (show St _ _ (_ :: _ :: _ :: _ :: _ :: (B ++ ((M70 ++ (F))))) from St.pk [B, M70, [_], [_], [_], [_], [_]] [2,3,4,5,6,0,1] ga)
    refine w_y rfl rfl rfl (zCa rfl rfl rfl rfl) rfl ?_
    refine w_p (zA5 (v := .bool _) rfl rfl rfl rfl) rfl (zAd (zAc (gk _ _ (zAr rfl rfl (fun gd => ?_) (fun gd => ?_)))))
    ·
     try simp only [zS] at gd
     refine zAb (w_p (zBy (v := v) rfl rfl) rfl (w_p (zAg isAgg3 gc rfl rfl (aow 1 [_])) rfl ?_))
     refine zAu (ps := [(0, _)]) (pv := [(0, .int _ _)]) (cs := [_]) zAa rfl rfl (fun w => zGu _ w) gc (fun jd je gH => ?_)
     refine zC7 (X := (_ :: _ :: _ :: _ :: _ :: _ :: [])) (B := B) (rows := [[_]]) (sz := 1) (bytes := 8) zAa underlying22 zC3 rfl rfl rfl rfl rfl rfl rfl rfl rfl gH hown (zBb (i := 0) rfl (by simp) rfl) rfl (by simp) (by simp [Value.oneCell']) (by simp only [maxLen]; omega) (by omega) (fun gI jf gn gJ ge => ?_)
     replace ge := (show St _ _ (_ :: _ :: _ :: _ :: _ :: _ :: gn ++ (M70 ++ (F))) from ge)
     refine w_p (zCu (v := gI) rfl rfl) rfl (zAd (zAi (zAc (g8 _ _ (zAb (w_p (zBo rfl rfl rfl rfl (by omega) (by omega)) rfl (zA6 rfl rfl (zAd (zAc (g6 _ _ (nxI (c.lots.length - (i + 1)) (by omega) ?_)))))))))))
     have gK := (show St _ _ (_ :: _ :: _ :: (gn ++ ((M70 ++ (F))))) from ge.tail.tail.tail)
     exact ⟨i + 1, _,_, M70, rfl, by omega, rfl, by rw [safe_yes hi2 (by assumption) (by assumption)]; exact zFi gJ, gm, gK⟩
    try simp only [zS] at gd
    refine zAn (zAi (zAc (g8 _ _ (zAb (w_p (zBo rfl rfl rfl rfl (by omega) (by omega)) rfl (zA6 rfl rfl (zAd (zAc (g6 _ _ (nxI (c.lots.length - (i + 1)) (by omega) ?_))))))))))
    have gL := (show St _ _ (_ :: _ :: _ :: (B ++ ((M70 ++ (F))))) from gc.tail.tail)
    exact ⟨i + 1, v, B, M70, rfl, by omega, rfl, by rw [safe_no hi2 (by first | exact .inl (by omega) | exact .inr (by assumption))]; exact hown, gm, gL⟩
   try simp only [zS] at g9
   refine zAm rfl rfl rfl ?_
   refine zAm rfl rfl rfl ?_
   refine zAm rfl rfl rfl ?_
   refine zAm rfl rfl rfl ?_
   refine zAm rfl rfl rfl ?_
   refine zAm rfl rfl rfl ?_
   refine zAm rfl rfl rfl ?_
   refine w_p (zBg (v := _) rfl rfl rfl rfl) rfl (zAd (zAc (gk _ _ (zBs rfl rfl ?_))))
   refine zAn (zAi (zAc (g8 _ _ (zAb (w_p (zBo rfl rfl rfl rfl (by omega) (by omega)) rfl (zA6 rfl rfl (zAd (zAc (g6 _ _ (nxI (c.lots.length - (i + 1)) (by omega) ?_))))))))))
   have gM := (show St _ _ (_ :: _ :: _ :: (B ++ ((M ++ (F))))) from g3.tail.tail)
   exact ⟨i + 1, v, B, M, rfl, by omega, rfl, by rw [safe_no hi2 (by first | exact .inl (by omega) | exact .inr (by assumption))]; exact hown, hM, gM⟩
  try simp only [zS] at g7
  refine zBt (zAj (zAj (zAv (zAc (gx _ _ (zAf (fun jg gN => (zAb (w_p (zBy (v := v) rfl rfl) rfl (w_p (zCu (v := v) rfl rfl) rfl ?_))))))))))
  refine zBi rfl rfl (zAd (zAc (gN _ _ (zA8 (zBa (l := [.tmp 4, .tmp 5]) (vs := [_,_]) rfl ⟨⟨rfl, show _ = (v : Value) from rfl⟩, ⟨rfl, (rfl : _ = Value.int _ _)⟩, trivial⟩ ?_)))))
  have hin : i = c.lots.length := by omega
  subst hin
  obtain ⟨a9, c9, rfl, hsl9, _⟩ := zFj (w0 := w0) hown
  exact ⟨B, a9, c9, by rw [safeP_y hee]; rfl, by rw [safeP_y hee]; exact hsl9, kq_opq hs.tail.tail.tail⟩

end Go.Proofs.Ut
