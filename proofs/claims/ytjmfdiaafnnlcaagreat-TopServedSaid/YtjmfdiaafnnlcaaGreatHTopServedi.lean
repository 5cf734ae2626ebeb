/- Own texts of this claim, joined. No conditions. -/
import Derived.Test.YtjmfdiaafnnlcaaGreatHTopServeda
import Derived.Test.YtjmfdiaafnnlcaaGreatHTopServedb
import Derived.Test.YtjmfdiaafnnlcaaGreatHTopServedc
import Derived.Test.YtjmfdiaafnnlcaaGreatHTopServedd
import Derived.Test.YtjmfdiaafnnlcaaGreatHTopServede
import Derived.Test.YtjmfdiaafnnlcaaGreatHTopServedf
import Derived.Test.YtjmfdiaafnnlcaaGreatHTopServedg
import Derived.Test.YtjmfdiaafnnlcaaGreatHTopServedh
set_option linter.unusedVariables false
set_option linter.unusedSimpArgs false
set_option maxRecDepth 20000
namespace Go.Proofs.Sb
open Go.Proofs.Tryz
open Go.Rt Go.Rt.Sh
attribute [local irreducible] WL WC Con Yd At Ats Sl Agree DW
theorem Try_SI_fb2 (x0 : Int) (w : World) : (Instr.buildSlice 43 1 [(0, .int .i64 x0)].toArray).run Tryz.prog w = .ok (.slice (some ⟨w.heap.size, 0, none⟩) 1 1) (w.alloc (Go.Rt.blk 3 [.int .i64 x0])) := by kernel_rfl
theorem moreP_1 {m : Market} {r : Int} (h : enterE m m.rooms.length [r] ≠ 0) : moreP m r = (0, enterE m m.rooms.length [r]) := by unfold moreP; rw [if_pos h]
theorem moreP_2 {m : Market} {r : Int} {n : Nat} (h : enterE m m.rooms.length [r] = 0) (h2 : moreTo m r.toNat 0 61 = some n) : moreP m r = ((n : Int), 0) := by unfold moreP; rw [if_neg (by simp [h]), h2]
theorem moreP_3 {m : Market} {r : Int} (h : enterE m m.rooms.length [r] = 0) (h2 : moreTo m r.toNat 0 61 = none) : moreP m r = (0,9) := by unfold moreP; rw [if_neg (by simp [h]), h2]
theorem more_here {m : Market} {r i k : Nat} (hk : k = 61 - i) (hi : i < 61) (h : servedS m (moreX m r i) (1 <<< m.shops.length - 1) = true) : moreTo m r i k = some i := by
  obtain ⟨q, rfl⟩ : ∃ q, k = q + 1 := ⟨k - 1, by omega⟩
  exact moreTo_yes h
theorem more_on {m : Market} {r i : Nat} (hi : i < 61) (h : servedS m (moreX m r i) (1 <<< m.shops.length - 1) = false) : moreTo m r i (61 - i) = moreTo m r (i + 1) (61 - (i + 1)) := by
  rw [show 61 - i = (61 - (i + 1)) + 1 by omega]; exact moreTo_no h
theorem more_end {m : Market} {r i : Nat} (hi : 61 ≤ i) : moreTo m r i (61 - i) = none := by rw [show 61 - i = 0 by omega]; rfl
theorem c37 {w0 w : World} {F : List (Nat × Obj)} (m : Market) (p : At3) (hm : MIn w0 F m p) (r : Int) (hs : St w0 w F) :
  Con Tryz.prog 37 [.agg (m.cells p).toArray, .int .i64 r] w fun v w' => v = .tuple #[.int .i64 (moreP m r).1, .int .i64 (moreP m r).2] ∧ St w0 w' F := by
  refine zAt (n := 45) func37 rfl rfl (zNl rfl) ?_
  have hlr := hm.lr
  refine zAe (fun K2 ga => (zAa (zCa (v := .agg #[.slice _ _ _, .slice _ _ _, .slice _ _ _]) (cs := [_,_,_]) zAc rfl rfl rfl hs (fun b3 w4 g5 => ?_))))
  refine zA5 rfl rfl (zA5 rfl rfl (zAd (zAb (ga _ _ (zAe (fun K7 g9 => (zAa (w_p (zA4 (vs := [_,_,_]) isAgg31 sizeOf31 g5 rfl rfl (zAk (i := 0) (vs := [_,_,_]) rfl rfl)) rfl ?_))))))))
  refine w_p (zAf (o := 0) (i := 0) underlying31 rfl sizeOf27 rfl rfl rfl) rfl (w_p (zAj isAgg27 g5 rfl rfl (zAk (i := 0) (vs := [_]) rfl rfl)) rfl (w_p (zA8 underlying27 rfl rfl) rfl (zAz rfl rfl (zBb (ps := [(0, _)]) (pv := [(0, .int _ _)]) (cs := [_]) zAc rfl rfl (fun w => Try_SI_fb2 _ w) g5 (fun b8 w9 gb => ?_)))))
  refine zAr zAc call45 rfl rfl rfl rfl (c45 m p hm.cons.cons _ (by omega) (by omega) _ _ [r] (by simp) (zBt (i := 0) (rows := [[_]]) rfl (by simp) rfl) gb) ?_
  rintro _ gE (⟨hee, rfl, g3⟩ | ⟨hee, mb, mm, M, rfl, hM, g3⟩)
  ·
   refine w_p (zAi (v := .tuple _) rfl rfl) rfl (w_p (zAp (v := .pointer _) rfl rfl rfl) rfl (w_p (zAp (v := .int _ _) rfl rfl rfl) rfl (w_p (zAo (v := .pointer _) rfl rfl) rfl (zBe rfl rfl (zAd (zAb (g9 _ _ (zAe (fun gF gG => (zAe (fun gH gc => (zAa (zAz rfl rfl ?_)))))))))))))
   refine w_p (zB2 rfl rfl rfl rfl) rfl (zAd (zAb (gc _ _ (zAu rfl rfl (fun g4 => ?_) (fun g4 => ?_)))))
   ·
    try simp only [zS] at g4
    refine zAe (fun gI gd => (zAa (zAz rfl rfl (zA5 rfl rfl (zBe rfl rfl (zAd (zAb (gd _ _ (zAy (zAg (zA1 (l := [.tmp 4, .tmp 5]) (vs := [_,_]) rfl ⟨⟨rfl, (rfl : _ = Value.int _ _)⟩, ⟨rfl, (rfl : _ = Value.int _ _)⟩, trivial⟩ ?_)))))))))))
    exact ⟨by rw [moreP_1 hee]; rfl, g3.tail.tail⟩
   exfalso
   try simp only [zS] at g4
   first | exact hee g4 | exact g4 hee
  replace g3 := (show St _ _ (M ++ (_ :: _ :: _ :: F)) from g3)
  have hk : MK w0 ((mb, blk 147 [.slice p.ar m.rooms.length p.cr, .slice p.az m.shops.length p.cs, .slice p.at_ m.trains.length p.ct, .map (some mm)]) :: (b8, blk 3 [.int .i64 r]) :: (b3, blk 31 (m.cells p)) :: F) m p mb mm := ⟨hm.cons.cons.cons, zAk (i := 0) (vs := [_,_,_,_]) rfl rfl, check_ok (zC8 hee)⟩
  have hlr := hk.ok.lr
  have hls := hk.ok.ls
  have hlt := hk.ok.lt
  have hbx : Ats w0 ((b3, blk 31 (m.cells p)) :: F) b3 0 (m.cells p) := zAk (i := 0) rfl rfl
  refine w_p (zAi (v := .tuple _) rfl rfl) rfl (w_p (zAp (v := .pointer _) rfl rfl rfl) rfl (w_p (zAp (v := .int _ _) rfl rfl rfl) rfl (w_p (zAo (v := .pointer _) rfl rfl) rfl (zBe rfl rfl (zAd (zAb (g9 _ _ (zAe (fun gJ gf => (zAe (fun gK gg => (zAa (zAz rfl rfl ?_)))))))))))))
  refine w_p (zB2 rfl rfl rfl rfl) rfl (zAd (zAb (gg _ _ (zBx rfl rfl ?_))))
  refine zAs (zAb (gf _ _ (zAe (fun gL gh => (zAa (w_p (zAi (v := .pointer _) rfl rfl) rfl (zAr zAc call48 rfl rfl rfl rfl (c48 m p mb mm hk.app _ g3) ?_)))))))
  rintro _ gM ⟨rfl, gi⟩
  refine zBf (cs := iv [0,0,0,0,0,0,0,0]) zAc zeroValue115 rfl gi (fun gj gN gk => ?_)
  refine zDf (i := 0) (l := _) zAc sizeOf115 (by first | omega | rfl | (simp only [zDt, zF0, zL] <;> omega)) rfl rfl rfl rfl rfl gk rfl (by first | omega | rfl | (simp only [zDt, zF0, zL] <;> omega)) (fun gP gm => ?_)
  refine zAd (zAb (gh _ _ (zAe (fun gQ gn => (zAe (fun gR gq => ?_))))))
  have hrr := (zGz hee).2 r (.head _)
  have hsa := shl_all hls
  refine zAa (w_p (zAi (v := _) rfl rfl) rfl (zAd (zAb (gq _ _ (zAw ?_)))))
  refine zBs [4,5,9,25,26,27,28,29,30,31,32,33,34,35,36,37,38,39,40,41,42,43,44] [25] (fun k vs w => ∃ (i : Nat) (Mq : List (Nat × Obj)), vs = [.int .i64 i] ∧ i ≤ 61 ∧ k = 61 - i ∧ Memo m mm Mq ∧ moreTo m r.toNat 0 61 = moreTo m r.toNat i (61 - i) ∧ St w0 w ((gj, blk 115 (iv (moreX m r.toNat i))) :: (Mq ++ ((mb, blk 147 [.slice p.ar m.rooms.length p.cr, .slice p.az m.shops.length p.cs, .slice p.at_ m.trains.length p.ct, .map (some mm)]) :: (b8, blk 3 [.int .i64 r]) :: (b3, blk 31 (m.cells p)) :: F)))) (61) ?_ ?_
  ·
   exact ⟨0, M, rfl, by omega, by omega, hM, rfl, by rw [moreX_zero]; exact gm⟩
  intro k vs μ gS hI gU gr
  obtain ⟨i, Mq, rfl, hia, rfl, hMq, hmo, hs⟩ := hI
  refine zAe (fun gV gt => (zAa (w_p (zBw rfl rfl rfl rfl) rfl (zAd (zAb (gt _ _ (zAe (fun gW gu => (zAu rfl rfl (fun g6 => ?_) (fun g6 => ?_))))))))))
  ·
   try simp only [zS] at g6
   refine zAs (zAb (gu _ _ (zAe (fun gX gv => (zAw ?_)))))
   refine zAe (fun gY gw => (zAa (zAz rfl rfl (zBe rfl rfl (zAd (zAb (gw _ _ (zAe (fun gZ gx => (zAe (fun hD gy => (zCn [7] [(0,0),(1,1),(2,0),(3,1),(4,0),(5,0),(6,0),(7,3)] zCb (by kernel_rfl) hs (fun hG g7 => ?_)))))))))))))
   refine d_w rfl (fun _ => zAi (v := .pointer _) rfl rfl) rfl ?_
   refine zBd rfl zAc rfl g7 (fun _ hq => (zCz (i := 0) isAgg115 sizeOf115 (by first | omega | rfl | (simp only [zDt, zF0, zL] <;> omega)) hq rfl rfl rfl)) ?_
   refine d_w rfl (fun _ => zAf (o := 1) (i := 1) underlying31 rfl sizeOf28 rfl rfl rfl) rfl ?_
   refine zBd rfl zAc rfl g7 (fun _ hq => (zAj isAgg28 hq.tail.drop.tail.tail rfl rfl (show Ats _ _ _ _ [_] from Ats.part hbx 1 1))) ?_
   refine d_w rfl (fun _ => zA8 underlying28 rfl rfl) rfl ?_
   refine d_w rfl (fun _ => zI1 (x := 1) (y := _) rfl rfl rfl rfl rfl rfl (by first | omega | exact zBo (by omega)) (by first | omega | exact zBo (by omega))) rfl ?_
   refine d_w rfl (fun _ => zGt (z' := ((1 <<< m.shops.length - 1 : Nat) : Int)) (by omega) (zE0 rfl rfl rfl rfl (by omega) (by omega))) rfl ?_
   refine zDc rfl ?_
   refine zAr zAc call69 rfl rfl rfl rfl (c69 (X := (_ :: [])) m p mb mm hk _ (moreX_small hk.ok _ i (by omega)) _ hMq g7) ?_
   rintro _ hH ⟨rfl, M60, gz, g0⟩
   replace g0 := (show St _ _ (_ :: M60 ++ (_ :: _ :: _ :: F)) from g0)
   refine zAd (qn ?_)
   refine zCf ?_
   refine zAb (gy _ _ (zAu rfl rfl (fun g8 => ?_) (fun g8 => ?_)))
   ·
    try simp only [zS] at g8
    refine zAe (fun hO gA => (zAa (zAz rfl rfl (zBe rfl rfl (zA5 rfl rfl (zAd (zAb (gA _ _ (zAy (zAg (zAv (zAg (zAg (zAv (zAg (zA1 (l := [.tmp 4, .tmp 5]) (vs := [_,_]) rfl ⟨⟨rfl, (rfl : _ = Value.int _ _)⟩, ⟨rfl, (rfl : _ = Value.int _ _)⟩, trivial⟩ ?_))))))))))))))))
    first
      | exact ⟨by rw [moreP_2 hee (hmo.trans (more_here rfl (by omega) (by assumption)))]; rfl, g0.tail.drop.tail.tail.tail⟩
      | exact ⟨by rw [moreP_3 hee (hmo.trans (more_end (by omega)))]; rfl, g0.tail.drop.tail.tail.tail⟩
   try simp only [zS] at g8
   refine zAs (zAb (gx _ _ ?_))
   have hgd := zFv (by omega) (by omega) (moreX_small hk.ok r.toNat i (by omega)).2 r.toNat
   refine zAa (zAz rfl rfl (w_p (zAf (o := 0) (i := 0) underlying115 rfl sizeOf112 rfl rfl rfl) rfl (w_p (zBr underlying112 sizeOf3 rfl rfl rfl rfl (i := r.toNat) (by first | rfl | omega) (by omega)) rfl ?_)))
   refine w_p (zAj isAgg3 g0 rfl rfl (zB7 (i := 0) (j := r.toNat) rfl (by first | omega | rfl | (simp only [zDt, zF0, zL] <;> omega)))) rfl ?_
   refine w_p (zBg rfl rfl rfl rfl (by omega) (by omega)) rfl (w_p (zAf (o := 0) (i := 0) underlying115 rfl sizeOf112 rfl rfl rfl) rfl (w_p (zBr underlying112 sizeOf3 rfl rfl rfl rfl (i := r.toNat) (by first | rfl | omega) (by omega)) rfl ?_))
   refine zC0 (i := 0) (j := r.toNat) zAc sizeOf3 rfl rfl rfl rfl g0 rfl (by first | omega | rfl | (simp only [zDt, zF0, zL] <;> omega)) (fun hX gB => ?_)
   refine zAd (zAl (zAb (gv _ _ (zAa (w_p (zBg rfl rfl rfl rfl (by omega) (by omega)) rfl (zAz rfl rfl (zAd (zAb (gr _ _ (nxI (61 - (i + 1)) (by omega) ?_))))))))))
   exact ⟨i + 1, M60, rfl, by omega, rfl, gz, hmo.trans (more_on (by omega) (by assumption)), by rw [← moreX_succ (by omega)]; exact gB⟩
  try simp only [zS] at g6
  refine zBl (zAm (zAm (zA0 (zAb (gn _ _ (zAe (fun hY gC => (zAa (zA5 rfl rfl (zA5 rfl rfl (zAd (zAb (gC _ _ (zAy (zA1 (l := [.tmp 4, .tmp 5]) (vs := [_,_]) rfl ⟨⟨rfl, (rfl : _ = Value.int _ _)⟩, ⟨rfl, (rfl : _ = Value.int _ _)⟩, trivial⟩ ?_)))))))))))))))
  first
    | exact ⟨by rw [moreP_2 hee (hmo.trans (more_here rfl (by omega) (by assumption)))]; rfl, hs.tail.drop.tail.tail.tail⟩
    | exact ⟨by rw [moreP_3 hee (hmo.trans (more_end (by omega)))]; rfl, hs.tail.drop.tail.tail.tail⟩

end Go.Proofs.Sb
/- Plain words of the shop layer: a train that is late. No conditions. -/
namespace Go.Rt.Sh
def late (t : Train) : Train := { t with days := t.days + 1 }
def setLate : List Train → Nat → List Train
  | [], _ => []
  | t :: l, 0 => late t :: l
  | t :: l, i + 1 => t :: setLate l i
theorem zEs : ∀ (l : List Train) (i : Nat), (setLate l i).length = l.length
  | [], _ => rfl
  | _ :: _, 0 => rfl
  | _ :: l, i + 1 => by simp [setLate, zEs l i]
def lateM (m : Market) (i : Nat) : Market := { m with trains := setLate m.trains i }
theorem trows_late : ∀ (l : List Train) (i : Nat) (hi : i < l.length), (trows l).flatten.set (i * 4 + 2) (.int .i64 (l[i].days + 1)) = (trows (setLate l i)).flatten
  | [], _, h => by simp at h
  | t :: l, 0, _ => by simp [trows, setLate, late, Train.cells]
  | t :: l, i + 1, h => by
    have ih := trows_late l i (by simpa using h)
    simp only [trows, List.map_cons, List.flatten_cons, setLate, List.getElem_cons_succ] at ih ⊢
    rw [show (i + 1) * 4 + 2 = t.cells.length + (i * 4 + 2) by simp [Train.cells]; omega, List.set_append_right _ _ (by omega), show t.cells.length + (i * 4 + 2) - t.cells.length = i * 4 + 2 by omega, ih]
theorem cells_late {cs : List Value} {l : List Train} {n i : Nat} (hn : l.length = n) (h : cs.take (n * 4) = (trows l).flatten) (hi : i < l.length) : (cs.set (i * 4 + 2) (.int .i64 (l[i].days + 1))).take (n * 4) = (trows (setLate l i)).flatten := by
  rw [List.take_set, h, trows_late l i hi]
theorem mem_setLate {l : List Train} {i : Nat} {t : Train} (h : t ∈ setLate l i) : t ∈ l ∨ ∃ t' ∈ l, t = late t' := by
  induction l generalizing i with
  | nil => simp [setLate] at h
  | cons x l ih =>
    cases i with
    | zero =>
      simp only [setLate, List.mem_cons] at h
      rcases h with rfl | h
      · exact .inr ⟨x, .head _, rfl⟩
      · exact .inl (.tail _ h)
    | succ i =>
      simp only [setLate, List.mem_cons] at h
      rcases h with rfl | h
      · exact .inl (.head _)
      · rcases ih h with h | ⟨t', h1, h2⟩
        · exact .inl (.tail _ h)
        · exact .inr ⟨t', .tail _ h1, h2⟩
theorem check_days {m : Market} (h : (check m).2.2 = 0) : ∀ t ∈ m.trains, t.days ≤ 5 := by
  obtain ⟨_, _, h3⟩ := zGn h
  intro t ht
  obtain ⟨k, hk, rfl⟩ := List.getElem_of_mem ht
  have := trainE_zero ((zEh h3).2 k hk)
  omega
theorem lateM_ok {m : Market} (h : (check m).2.2 = 0) (i : Nat) : (lateM m i).Ok := by
  have hok := check_ok h
  have hd := check_days h
  refine ⟨hok.lr, hok.ls, by show (setLate _ _).length ≤ 6; rw [zEs]; exact hok.lt, hok.room, hok.shop, fun t ht => ?_⟩
  rcases mem_setLate ht with h | ⟨t', h1, rfl⟩
  · exact hok.train t h
  · have h2 := hok.train t' h1
    have h3 := hd t' h1
    show 0 ≤ t'.room ∧ t'.room < m.rooms.length ∧ 0 ≤ t'.shop ∧ t'.shop < m.shops.length ∧ 0 ≤ t'.days + 1 ∧ t'.days + 1 ≤ 6 ∧ 1 ≤ t'.cap ∧ t'.cap ≤ 60
    omega
theorem lateM_cells (m : Market) (i : Nat) (p : At3) : (lateM m i).cells p = [.slice p.ar m.rooms.length p.cr, .slice p.az m.shops.length p.cs, .slice p.at_ m.trains.length p.ct] := by simp [Market.cells, lateM, zEs]
theorem zH2 {n sub : Nat} {lk : List Int} (h : ∀ b < 16, lk.getD b 0 ≤ 100000) : ∀ k ≤ 16, (worstTo n sub lk k).2 ≤ 100000
  | 0, _ => by simp [worstTo]
  | k + 1, hk => by
    have ih := zH2 (n := n) (sub := sub) h k (by omega)
    simp only [worstTo, worstStep]
    split
    · exact ih
    · split
      · exact h k (by omega)
      · exact ih
theorem worst_bound {m : Market} (hok : m.Ok) {x : List Int} (hx : Small x) (sub : Nat) : 0 ≤ (worst m x sub).2 ∧ (worst m x sub).2 ≤ 100000 :=
  ⟨worstTo_pos _ _ _ _, zH2 (fun b hb => by rw [zHc hb]; exact (lackB_bound hok hx b).2) 16 (Nat.le_refl _)⟩
def lateP (m : Market) (r : Int) : Int × Int :=
  if enterE m m.trains.length [r] ≠ 0 then (0, enterE m m.trains.length [r]) else
    (max (0 : Int) ((worst (lateM m r.toNat) (allX m false) (1 <<< m.shops.length - 1)).2 - (worst m (allX m false) (1 <<< m.shops.length - 1)).2), 0)
theorem lateP_1 {m : Market} {r : Int} (h : enterE m m.trains.length [r] ≠ 0) : lateP m r = (0, enterE m m.trains.length [r]) := by unfold lateP; rw [if_pos h]
theorem lateP_2 {m : Market} {r : Int} (h : enterE m m.trains.length [r] = 0) : lateP m r = (max (0 : Int) ((worst (lateM m r.toNat) (allX m false) (1 <<< m.shops.length - 1)).2 - (worst m (allX m false) (1 <<< m.shops.length - 1)).2), 0) := by unfold lateP; rw [if_neg (by simp [h])]
end Go.Rt.Sh
set_option maxRecDepth 20000
namespace Go.Proofs.Sb
open Go.Proofs.Tryz
open Go.Rt Go.Rt.Sh
attribute [local irreducible] WL WC Con Yd At Ats Sl Agree DW
theorem Try_SJ_fb2  (w : World) : (Instr.buildSlice 29 0 [].toArray).run Tryz.prog w = .ok (.slice (some ⟨w.heap.size, 0, none⟩) 0 0) (w.alloc (Go.Rt.blk 55 [])) := by kernel_rfl
theorem Try_info55 : Tryz.prog.info? 55 = some Tryz.t55 := by kernel_rfl
theorem Try_SJ_fb4 (x0 : Int) (w : World) : (Instr.buildSlice 43 1 [(0, .int .i64 x0)].toArray).run Tryz.prog w = .ok (.slice (some ⟨w.heap.size, 0, none⟩) 1 1) (w.alloc (Go.Rt.blk 3 [.int .i64 x0])) := by kernel_rfl
theorem trows_one (l : List Train) : ∀ row ∈ trows l, ∀ u ∈ row, u.oneCell' = true := by
  intro row hr u hu
  obtain ⟨f, _, rfl⟩ := List.mem_map.1 hr
  simp only [Train.cells, List.mem_cons, List.not_mem_nil, or_false] at hu
  rcases hu with rfl | rfl | rfl | rfl <;> rfl
theorem zIe {t : TypeId} {sz n : Nat} {v : Value} {xs : List Value} {B : List (Nat × Obj)} (h : Rt.Own v t sz n xs B) (hn : 0 < n) : ∃ b cap cs, v = .slice (some ⟨b, 0, none⟩) n cap ∧ B = [(b, blk t cs)] ∧ n ≤ cap ∧ cap ≤ maxLen ∧ cs.length = cap * sz ∧ cs.take (n * sz) = xs := by
  rcases h.2 with ⟨_, h0, _⟩ | ⟨b, cap, cs, h1, h2, h3, h4, h5, h6⟩
  · omega
  · exact ⟨b, cap, cs, h1, h2, h3, h4, h5, h6⟩
theorem zJ2 {w0 : World} {L : List (Nat × Obj)} {i b n : Nat} {t : TypeId} {cs : List Value} {l : List Train} (hi : L[i]? = some (b, blk t cs)) (hn : l.length = n) (h : cs.take (n * 4) = (trows l).flatten) : Sl w0 L (some ⟨b, 0, none⟩) 4 (trows l) :=
  zBt hi (by intro row hr; obtain ⟨f, _, rfl⟩ := List.mem_map.1 hr; rfl) (by simpa [trows, hn] using h)
theorem late_perm {w0 w : World} {B M F : List (Nat × Obj)} {x y z : Nat × Obj} (h : St w0 w (B ++ (M ++ (x :: y :: z :: F)))) : St w0 w (z :: x :: F) := by
  have h1 : St w0 w (x :: y :: z :: F) := h.drop.drop
  exact ((h1.perm (zBc [x] [y] (z :: F))).tail).perm (zBc [x] [z] F)
theorem c71 {w0 w : World} {F : List (Nat × Obj)} (a : Option Addr) (c : Nat) (l : List Train) (hl : l.length ≤ 1000000) (hc : l.length ≤ c) (ha : Sl w0 F a 4 (trows l))  (hs : St w0 w F) :
  Con Tryz.prog 71 [.slice a l.length c] w fun v w' => ∃ B', Rt.Own v 55 4 l.length (trows l).flatten B' ∧ St w0 w' (B' ++ F) := by
  refine zAt (n := 8) func71 rfl rfl (zNl rfl) ?_
  refine zAe (fun K2 g5 => (zAa (zA5 rfl rfl (zAd (zAb (g5 _ _ (zAe (fun K4 g6 => (zAe (fun K6 g7 => (zAa (w_p (zAi (v := .slice _ _ _) rfl rfl) rfl ?_))))))))))))
  refine w_p (y_sliceNil underlying29 rfl rfl rfl rfl) rfl (zAd (zAb (g7 _ _ (zAu rfl rfl (fun h7 => ?_) (fun h7 => ?_)))))
  ·
   try simp only [zS] at h7
   refine zAe (fun K9 g8 => (zAa (zA5 rfl rfl (zAd (zAb (g8 _ _ (zAy (zAg (zA1 (l := [.tmp 2]) (vs := [_]) rfl ⟨⟨rfl, show _ = (.slice _ _ _ : Value) from rfl⟩, trivial⟩ ?_)))))))))
   have hr := sl_none (L := F) (w0 := w0) (by have : a = none := (by simpa using ‹a.isNone = true›); subst this; exact ha)
   have hl0 : l = [] := by simpa [trows] using hr
   subst hl0
   exact ⟨[], zEm 55 4, hs⟩
  try simp only [zS] at h7
  refine zAs (zAb (g6 _ _ (zAe (fun gc g9 => (zAa (zBb (ps := []) (pv := []) (cs := []) zAc rfl rfl (fun w => Try_SJ_fb2  w) hs (fun gd gf ga => ?_)))))))
  refine w_p (zAi (v := .slice _ _ _) rfl rfl) rfl (zCk (X := ([])) (B := [_]) (rows := trows l) (sz := 4) (bytes := 32) zAc underlying29 Try_info55 rfl rfl rfl rfl rfl rfl rfl rfl rfl ga zFq ha.cons (by simp [trows]) (fun h => by subst h; simp at h7) (trows_one l) (by simp only [maxLen]; omega) (by omega) (fun g3 gg gb g4 g0 => ?_))
  replace g0 := (show St _ _ (gb ++ (F)) from g0)
  refine w_p (zAo (v := g3) rfl rfl) rfl (zAd (zAb (g9 _ _ (zAy (zA1 (l := [.tmp 2]) (vs := [_]) rfl ⟨⟨rfl, show _ = (g3 : Value) from rfl⟩, trivial⟩ ?_)))))
  rw [Nat.zero_add, List.nil_append] at g4
  exact ⟨_, g4, g0⟩

theorem look_late {w0 w : World} {F : List (Nat × Obj)} (m : Market) (i : Nat) (p : At3) (hs : St w0 w F) :
    Con Tryz.prog 72 [.agg #[.slice p.ar m.rooms.length p.cr, .slice p.az m.shops.length p.cs, .slice p.at_ m.trains.length p.ct]] w fun v w' => ∃ mb mm M, v = .pointer (some ⟨mb, 0, none⟩) ∧ Memo (lateM m i) mm M ∧ St w0 w' (M ++ ((mb, blk 147 [.slice p.ar m.rooms.length p.cr, .slice p.az m.shops.length p.cs, .slice p.at_ (setLate m.trains i).length p.ct, .map (some mm)]) :: F)) := by
  have h := c72 (lateM m i) p hs
  rw [lateM_cells] at h
  exact h
theorem c38 {w0 w : World} {F : List (Nat × Obj)} (m : Market) (p : At3) (hm : MIn w0 F m p) (r : Int) (hs : St w0 w F) :
  Con Tryz.prog 38 [.agg (m.cells p).toArray, .int .i64 r] w fun v w' => v = .tuple #[.int .i64 (lateP m r).1, .int .i64 (lateP m r).2] ∧ St w0 w' F := by
  refine zAt (n := 65) func38 rfl rfl (zNl rfl) ?_
  have hlt := hm.lt
  refine zAe (fun K2 gf => (zAa (zCa (v := .agg #[.slice _ _ _, .slice _ _ _, .slice _ _ _]) (cs := [_,_,_]) zAc rfl rfl rfl hs (fun b3 w4 g6 => ?_))))
  refine zA5 rfl rfl (zA5 rfl rfl (zAd (zAb (gf _ _ (zAe (fun K7 gb => (zAa (w_p (zA4 (vs := [_,_,_]) isAgg31 sizeOf31 g6 rfl rfl (zAk (i := 0) (vs := [_,_,_]) rfl rfl)) rfl ?_))))))))
  refine w_p (zAf (o := 2) (i := 2) underlying31 rfl sizeOf29 rfl rfl rfl) rfl (w_p (zAj isAgg29 g6 rfl rfl (zAk (i := 0) (vs := [_]) rfl rfl)) rfl (w_p (zA8 underlying29 rfl rfl) rfl (zAz rfl rfl (zBb (ps := [(0, _)]) (pv := [(0, .int _ _)]) (cs := [_]) zAc rfl rfl (fun w => Try_SJ_fb4 _ w) g6 (fun b8 w9 gg => ?_)))))
  refine zAr zAc call45 rfl rfl rfl rfl (c45 m p hm.cons.cons _ (by omega) (by omega) _ _ [r] (by simp) (zBt (i := 0) (rows := [[_]]) rfl (by simp) rfl) gg) ?_
  rintro _ gy (⟨hee, rfl, g0⟩ | ⟨hee, mb, mm, M, rfl, hM, g0⟩)
  ·
   refine w_p (zAi (v := .tuple _) rfl rfl) rfl (w_p (zAp (v := .pointer _) rfl rfl rfl) rfl (w_p (zAp (v := .int _ _) rfl rfl rfl) rfl (w_p (zAo (v := .pointer _) rfl rfl) rfl (zBe rfl rfl (zAd (zAb (gb _ _ (zAe (fun gz gA => (zAe (fun gB gh => (zAa (zAz rfl rfl ?_)))))))))))))
   refine w_p (zB2 rfl rfl rfl rfl) rfl (zAd (zAb (gh _ _ (zAu rfl rfl (fun g3 => ?_) (fun g3 => ?_)))))
   ·
    try simp only [zS] at g3
    refine zAe (fun gC gi => (zAa (zAz rfl rfl (zA5 rfl rfl (zBe rfl rfl (zAd (zAb (gi _ _ (zAy (zAg (zA1 (l := [.tmp 4, .tmp 5]) (vs := [_,_]) rfl ⟨⟨rfl, (rfl : _ = Value.int _ _)⟩, ⟨rfl, (rfl : _ = Value.int _ _)⟩, trivial⟩ ?_)))))))))))
    exact ⟨by rw [lateP_1 hee]; rfl, g0.tail.tail⟩
   exfalso
   try simp only [zS] at g3
   first | exact hee g3 | exact g3 hee
  replace g0 := (show St _ _ (M ++ (_ :: _ :: _ :: F)) from g0)
  have hk : MK w0 ((mb, blk 147 [.slice p.ar m.rooms.length p.cr, .slice p.az m.shops.length p.cs, .slice p.at_ m.trains.length p.ct, .map (some mm)]) :: (b8, blk 3 [.int .i64 r]) :: (b3, blk 31 (m.cells p)) :: F) m p mb mm := ⟨hm.cons.cons.cons, zAk (i := 0) (vs := [_,_,_,_]) rfl rfl, check_ok (zC8 hee)⟩
  have hlr := hk.ok.lr
  have hls := hk.ok.ls
  have hlt := hk.ok.lt
  have hbx : Ats w0 ((b3, blk 31 (m.cells p)) :: F) b3 0 (m.cells p) := zAk (i := 0) rfl rfl
  refine w_p (zAi (v := .tuple _) rfl rfl) rfl (w_p (zAp (v := .pointer _) rfl rfl rfl) rfl (w_p (zAp (v := .int _ _) rfl rfl rfl) rfl (w_p (zAo (v := .pointer _) rfl rfl) rfl (zBe rfl rfl (zAd (zAb (gb _ _ (zAe (fun gE gj => (zAe (fun gF gk => (zAa (zAz rfl rfl ?_)))))))))))))
  refine w_p (zB2 rfl rfl rfl rfl) rfl (zAd (zAb (gk _ _ (zBx rfl rfl ?_))))
  refine zAs (zAb (gj _ _ (zAe (fun gG gm => ?_))))
  have hsa := shl_all hls
  refine zAa (w_p (zAf (o := 1) (i := 1) underlying31 rfl sizeOf28 rfl rfl rfl) rfl (w_p (zAj isAgg28 g0.drop.tail.tail rfl rfl (show Ats _ _ _ _ [_] from Ats.part hbx 1 1)) rfl (w_p (zA8 underlying28 rfl rfl) rfl (w_p (zI1 (x := 1) (y := _) rfl rfl rfl rfl rfl rfl (by first | omega | exact zBo (by omega)) (by first | omega | exact zBo (by omega))) rfl ?_))))
  refine w_p (zGt (z' := ((1 <<< m.shops.length - 1 : Nat) : Int)) (by omega) (zE0 rfl rfl rfl rfl (by omega) (by omega))) rfl (zBe rfl rfl (zAd (zAb (gm _ _ (zAe (fun gH gn => (zAa (w_p (zAi (v := .pointer _) rfl rfl) rfl ?_))))))))
  refine w_p (zAi (v := .pointer _) rfl rfl) rfl (zAr zAc call48 rfl rfl rfl rfl (c48 m p mb mm hk.app _ g0) ?_)
  rintro _ gI ⟨rfl, gq⟩
  refine zAz rfl rfl (zAr zAc call70 rfl rfl rfl rfl (c70 (X := []) m p mb mm hk _ (zEi hk.ok _) _ hM gq) ?_)
  rintro _ gJ ⟨gc, al_B36, cl_B36, M35, rfl, hsl_B36, gK, g7⟩
  replace g7 := (show St _ _ (gc ++ (M35 ++ (_ :: _ :: _ :: F))) from g7)
  refine w_p (zAi (v := .tuple _) rfl rfl) rfl (w_p (zAp (v := .slice _ _ _) rfl rfl rfl) rfl (w_p (zAp (v := .int _ _) rfl rfl rfl) rfl (w_p (zAo (v := .slice _ _ _) rfl rfl) rfl (zBe rfl rfl (zAd (zAb (gn _ _ (zAe (fun gL gr => ?_)))))))))
  have gd := late_perm (show St _ _ (gc ++ (M35 ++ (_ :: _ :: _ :: F))) from g7)
  have hrr := (zGz hee).2 r (.head _)
  have hrt : r.toNat < m.trains.length := by omega
  have htd := check_days (zC8 hee) _ (List.getElem_mem hrt)
  have htr := hk.ok.train _ (List.getElem_mem hrt)
  have hwb1 := worst_bound hk.ok (zEi hk.ok false) (1 <<< m.shops.length - 1)
  have hm1 : MIn w0 ((mb, blk 147 [.slice p.ar m.rooms.length p.cr, .slice p.az m.shops.length p.cs, .slice p.at_ m.trains.length p.ct, .map (some mm)]) :: F) m p := hm.cons
  have hkm : MK w0 ((mb, blk 147 [.slice p.ar m.rooms.length p.cr, .slice p.az m.shops.length p.cs, .slice p.at_ m.trains.length p.ct, .map (some mm)]) :: F) m p mb mm := ⟨hm.cons, zAk (i := 0) (vs := [_,_,_,_]) rfl rfl, hk.ok⟩
  refine zAa (w_p (zAf (o := 2) (i := 2) underlying31 rfl sizeOf29 rfl rfl rfl) rfl (w_p (zAj isAgg29 gd rfl rfl (zAk (i := 0) (vs := [_]) rfl rfl)) rfl (zAr zAc call71 rfl rfl rfl rfl (c71 _ _ m.trains (by omega) hm.ct hm1.t.cons gd) ?_)))
  rintro _ gM ⟨BC, hown, g8⟩
  obtain ⟨bc, cap, cs0, rfl, rfl, hcap, hcapm, hcl0, hcs0⟩ := zIe hown (by omega)
  replace g8 := (show St _ _ (_ :: _ :: _ :: F) from g8)
  refine w_p (zAf (o := 2) (i := 2) underlying31 rfl sizeOf29 rfl rfl rfl) rfl (zA6 (i := 1) (v := .slice _ _ _) (vs := [_]) zAc sizeOf29 rfl rfl rfl rfl rfl (by simp [Value.oneCell']) g8 rfl (zNl rfl) (fun gN g4 => ?_))
  refine zAd (zAb (gr _ _ (zAe (fun gP gt => ?_))))
  replace g4 := (show St _ _ ((bc, blk 55 cs0) :: (b3, blk 31 [.slice p.ar m.rooms.length p.cr, .slice p.az m.shops.length p.cs, .slice (some ⟨bc, 0, none⟩) m.trains.length cap]) :: (mb, blk 147 [.slice p.ar m.rooms.length p.cr, .slice p.az m.shops.length p.cs, .slice p.at_ m.trains.length p.ct, .map (some mm)]) :: F) from g4)
  obtain ⟨bx, ox, hbx2, hrow⟩ := sl_trows (zJ2 (w0 := w0) (L := (bc, blk 55 cs0) :: (b3, blk 31 [.slice p.ar m.rooms.length p.cr, .slice p.az m.shops.length p.cs, .slice (some ⟨bc, 0, none⟩) m.trains.length cap]) :: (mb, blk 147 [.slice p.ar m.rooms.length p.cr, .slice p.az m.shops.length p.cs, .slice p.at_ m.trains.length p.ct, .map (some mm)]) :: F) (i := 0) rfl rfl hcs0) hrt
  cases hbx2
  refine zAa (w_p (zAf (o := 2) (i := 2) underlying31 rfl sizeOf29 rfl rfl rfl) rfl (w_p (zAj isAgg29 g4 rfl rfl (zAk (i := 1) (vs := [_]) rfl rfl)) rfl (zAz rfl rfl (w_p (zA3 underlying29 sizeOf55 rfl rfl rfl rfl (i := r.toNat) (by omega) (by omega)) rfl ?_))))
  refine w_p (zAf (o := 2) (i := 2) underlying55 rfl sizeOf3 rfl rfl rfl) rfl (w_p (zAj isAgg3 g4 rfl rfl (show Ats _ _ _ _ [_] from Ats.part hrow 2 1)) rfl (w_p (zBg rfl rfl rfl rfl (by omega) (by omega)) rfl (w_p (zA3 underlying29 sizeOf55 rfl rfl rfl rfl (i := r.toNat) (by omega) (by omega)) rfl ?_)))
  refine w_p (zAf (o := 2) (i := 2) underlying55 rfl sizeOf3 rfl rfl rfl) rfl (zA6 (i := 0) (v := .int _ _) (vs := [_]) zAc sizeOf3 rfl rfl rfl rfl rfl (by simp [Value.oneCell']) g4 rfl (show 0 + r.toNat * 4 + 2 + 1 ≤ cs0.length by omega) (fun gQ g5 => ?_))
  have hcs2 : (cs0.set (r.toNat * 4 + 2) (.int .i64 ((m.trains[r.toNat]'hrt).days + 1))).take (m.trains.length * 4) = (trows (setLate m.trains r.toNat)).flatten := cells_late rfl hcs0 hrt
  replace g5 := (show St _ _ ((bc, blk 55 (cs0.set (r.toNat * 4 + 2) (.int .i64 ((m.trains[r.toNat]'hrt).days + 1)))) :: (b3, blk 31 [.slice p.ar m.rooms.length p.cr, .slice p.az m.shops.length p.cs, .slice (some ⟨bc, 0, none⟩) m.trains.length cap]) :: (mb, blk 147 [.slice p.ar m.rooms.length p.cr, .slice p.az m.shops.length p.cs, .slice p.at_ m.trains.length p.ct, .map (some mm)]) :: F) from (by have h6 := g5; simp only [setMany, Nat.zero_add] at h6; exact h6))
  have hm2 : MIn w0 ((bc, blk 55 (cs0.set (r.toNat * 4 + 2) (.int .i64 ((m.trains[r.toNat]'hrt).days + 1)))) :: (b3, blk 31 [.slice p.ar m.rooms.length p.cr, .slice p.az m.shops.length p.cs, .slice (some ⟨bc, 0, none⟩) m.trains.length cap]) :: (mb, blk 147 [.slice p.ar m.rooms.length p.cr, .slice p.az m.shops.length p.cs, .slice p.at_ m.trains.length p.ct, .map (some mm)]) :: F) (lateM m r.toNat) { p with at_ := some ⟨bc, 0, none⟩, ct := cap } := ⟨hm.r.cons.cons.cons, hm.s.cons.cons.cons, zJ2 (i := 0) rfl (zEs _ _) hcs2, hm.lr, hm.ls, (by show (setLate _ _).length ≤ _; rw [zEs]; exact hm.lt), hm.cr, hm.cs, (by show (setLate _ _).length ≤ cap; rw [zEs]; exact hcap), hm.nr, hm.ns⟩
  refine zAd (zAb (gt _ _ (zAe (fun gR gu => (zAa (w_p (zA4 (vs := [_,_,_]) isAgg31 sizeOf31 g5 rfl rfl (zAk (i := 1) (vs := [_,_,_]) rfl rfl)) rfl (zAr zAc call72 rfl rfl rfl rfl (look_late m r.toNat { p with at_ := some ⟨bc, 0, none⟩, ct := cap } g5) ?_)))))))
  rintro _ gS ⟨mb2, mm2, M2, rfl, gv, g9⟩
  replace g9 := (show St _ _ (M2 ++ (_ :: _ :: _ :: _ :: F)) from g9)
  have hk2 : MK w0 ((mb2, blk 147 [.slice p.ar m.rooms.length p.cr, .slice p.az m.shops.length p.cs, .slice (some ⟨bc, 0, none⟩) (setLate m.trains r.toNat).length cap, .map (some mm2)]) :: (bc, blk 55 (cs0.set (r.toNat * 4 + 2) (.int .i64 ((m.trains[r.toNat]'hrt).days + 1)))) :: (b3, blk 31 [.slice p.ar m.rooms.length p.cr, .slice p.az m.shops.length p.cs, .slice (some ⟨bc, 0, none⟩) m.trains.length cap]) :: (mb, blk 147 [.slice p.ar m.rooms.length p.cr, .slice p.az m.shops.length p.cs, .slice p.at_ m.trains.length p.ct, .map (some mm)]) :: F) (lateM m r.toNat) { p with at_ := some ⟨bc, 0, none⟩, ct := cap } mb2 mm2 := ⟨hm2.cons, zAk (i := 0) (vs := [_,_,_,_]) rfl rfl, lateM_ok (zC8 hee) _⟩
  have hwb2 := worst_bound hk2.ok (zEi hk.ok false) (1 <<< m.shops.length - 1)
  refine w_p (zAi (v := .pointer _) rfl rfl) rfl (zAr zAc call48 rfl rfl rfl rfl (c48 m p mb mm hkm.cons.cons.cons.app _ g9) ?_)
  rintro _ gU ⟨rfl, gw⟩
  refine zAz rfl rfl (zAr zAc call70 rfl rfl rfl rfl (c70 (X := []) (lateM m r.toNat) { p with at_ := some ⟨bc, 0, none⟩, ct := cap } mb2 mm2 hk2 _ (zEi hk.ok _) _ gv gw) ?_)
  rintro _ gV ⟨B3, al3, cl3, M3, rfl, hsl3, gW, ga⟩
  replace ga := (show St _ _ (B3 ++ (M3 ++ (_ :: _ :: _ :: _ :: F))) from ga)
  refine w_p (zAi (v := .tuple _) rfl rfl) rfl (w_p (zAp (v := .slice _ _ _) rfl rfl rfl) rfl (w_p (zAp (v := .int _ _) rfl rfl rfl) rfl (w_p (zAo (v := .slice _ _ _) rfl rfl) rfl (zBe rfl rfl (zAd (zAb (gu _ _ (zAe (fun gX gx => (zAa (zAz rfl rfl ?_)))))))))))
  refine zAz rfl rfl (w_p (zE0 rfl rfl rfl rfl (by omega) (by omega)) rfl (w_p (y_max2 rfl rfl rfl rfl) rfl (zBe rfl rfl (zA5 rfl rfl (zAd (zAb (gx _ _ (zAy (zA1 (l := [.tmp 4, .tmp 5]) (vs := [_,_]) rfl ⟨⟨rfl, (rfl : _ = Value.int _ _)⟩, ⟨rfl, (rfl : _ = Value.int _ _)⟩, trivial⟩ ?_)))))))))
  exact ⟨by rw [lateP_2 hee]; rfl, ga.drop.drop.tail.tail.tail.tail⟩

end Go.Proofs.Sb
/- Plain words of the shop layer: the loads that the program yields. No conditions. -/
namespace Go.Rt.Sh
def nx1 (x : List Int) : List Int := x.set 7 (x.getD 7 0 + 1)
def nx2 (x : List Int) (r : Nat) (n : Int) : List Int := (nx1 x).set r ((nx1 x).getD r 0 - n)
def nextX (x : List Int) (t : Train) (n : Int) : List Int := (nx2 x t.room.toNat n).set (3 + t.shop.toNat) ((nx2 x t.room.toNat n).getD (3 + t.shop.toNat) 0 - n)
def mostX (m : Market) (sub : Nat) (x : List Int) (t : Train) : Int := if leaves m t = true ∧ bit sub t.shop.toNat = 1 then min (min t.cap (x.getD t.room.toNat 0)) (x.getD (3 + t.shop.toNat) 0) else 0
def loadsX (m : Market) (sub : Nat) : Nat → List Int → List (List Int)
  | 0, _ => [[]]
  | rem + 1, x => match m.trains[(x.getD 7 0).toNat]? with
    | none => []
    | some t => (List.range ((mostX m sub x t).toNat + 1)).flatMap fun n : Nat => if servedS m (nextX x t n) sub then (loadsX m sub rem (nextX x t n)).map (fun l => (n : Int) :: l) else []
def segN (m : Market) (sub rem : Nat) (x : List Int) (t : Train) (pre : List Int) (n : Nat) : List (List Int) := if servedS m (nextX x t n) sub then (loadsX m sub rem (nextX x t n)).map (fun l => pre ++ ((n : Int) :: l)) else []
def pad6 (l : List Int) : List Int := l ++ List.replicate (6 - l.length) 0
structure GoodX (x : List Int) (d : Nat) : Prop where
  len : x.length = 8
  nn : ∀ z ∈ x, 0 ≤ z ∧ z ≤ 1000
  at7 : x.getD 7 0 = d
theorem GoodX.small {x : List Int} {d : Nat} (h : GoodX x d) : Small x := ⟨h.len, fun z hz => by have := h.nn z hz; omega⟩
theorem GoodX.get {x : List Int} {d : Nat} (h : GoodX x d) (i : Nat) : 0 ≤ x.getD i 0 ∧ x.getD i 0 ≤ 1000 := zFv (by omega) (by omega) h.nn i
theorem zCh {x : List Int} {i j : Nat} {z : Int} (h : i ≠ j) : (x.set i z).getD j 0 = x.getD j 0 := by simp [List.getD, List.getElem?_set, h]
theorem zC5 (x : List Int) : (nx1 x).length = x.length := by simp [nx1]
theorem zC4 (x : List Int) (r : Nat) (n : Int) : (nx2 x r n).length = x.length := by simp [nx2, zC5]
theorem nx1_get {x : List Int} {j : Nat} (h : j ≠ 7) : (nx1 x).getD j 0 = x.getD j 0 := zCh (Ne.symm h)
theorem nx2_get {x : List Int} {r j : Nat} {n : Int} (h : j ≠ 7) (h2 : j ≠ r) : (nx2 x r n).getD j 0 = x.getD j 0 := by unfold nx2; rw [zCh (Ne.symm h2), nx1_get h]
theorem set_in {x : List Int} {i : Nat} {z a b : Int} (h : ∀ y ∈ x, a ≤ y ∧ y ≤ b) (hz : a ≤ z ∧ z ≤ b) : ∀ y ∈ x.set i z, a ≤ y ∧ y ≤ b := by
  intro y hy
  rcases List.mem_or_eq_of_mem_set hy with h1 | h1
  · exact h y h1
  · rw [h1]; exact hz
theorem nextX_good {x : List Int} {d : Nat} {t : Train} {n : Int} (h : GoodX x d) (hd : d < 100) (hr : t.room.toNat < 3) (hs : t.shop.toNat < 4) (hn : 0 ≤ n) (h1 : n ≤ x.getD t.room.toNat 0) (h2 : n ≤ x.getD (3 + t.shop.toNat) 0) : GoodX (nextX x t n) (d + 1) := by
  have g1 := h.get t.room.toNat
  have g2 := h.get (3 + t.shop.toNat)
  have e1 : (nx1 x).getD t.room.toNat 0 = x.getD t.room.toNat 0 := nx1_get (by omega)
  have e2 : (nx2 x t.room.toNat n).getD (3 + t.shop.toNat) 0 = x.getD (3 + t.shop.toNat) 0 := nx2_get (by omega) (by omega)
  refine ⟨by simp [nextX, zC4, h.len], ?_, ?_⟩
  · unfold nextX
    refine set_in ?_ (by rw [e2]; omega)
    unfold nx2
    refine set_in ?_ (by rw [e1]; omega)
    unfold nx1
    exact set_in h.nn (by rw [h.at7]; omega)
  · unfold nextX nx2
    rw [zCh (by omega), zCh (by omega)]
    unfold nx1
    rw [zDv (by rw [h.len]; omega), h.at7]
    push_cast; rfl
theorem zKm {m : Market} {sub : Nat} {x : List Int} {t : Train} (h : leaves m t = false ∨ ¬ bit sub t.shop.toNat = 1) : mostX m sub x t = 0 := by
  unfold mostX
  rw [if_neg]
  rintro ⟨h1, h2⟩
  rcases h with h | h
  · rw [h1] at h; cases h
  · exact h h2
theorem zIj {m : Market} {sub : Nat} {x : List Int} {t : Train} (h1 : leaves m t = true) (h2 : bit sub t.shop.toNat = 1) : mostX m sub x t = min (min t.cap (x.getD t.room.toNat 0)) (x.getD (3 + t.shop.toNat) 0) := by unfold mostX; rw [if_pos ⟨h1, h2⟩]
theorem mostX_bound {m : Market} {sub : Nat} {x : List Int} {d : Nat} {t : Train} (h : GoodX x d) (hc : 1 ≤ t.cap ∧ t.cap ≤ 60) : 0 ≤ mostX m sub x t ∧ mostX m sub x t ≤ 60 ∧ mostX m sub x t ≤ x.getD t.room.toNat 0 ∧ mostX m sub x t ≤ x.getD (3 + t.shop.toNat) 0 := by
  have g1 := h.get t.room.toNat
  have g2 := h.get (3 + t.shop.toNat)
  unfold mostX
  split <;> omega
theorem loads_here {m : Market} {sub rem d : Nat} {x pre : List Int} (h : GoodX x d) (hd : d < m.trains.length) :
    (loadsX m sub (rem + 1) x).map (fun l => pad6 (pre ++ l)) = (List.range ((mostX m sub x m.trains[d]).toNat + 1)).flatMap fun n => (segN m sub rem x m.trains[d] pre n).map pad6 := by
  have e : m.trains[(x.getD 7 0).toNat]? = some m.trains[d] := by rw [h.at7, Int.toNat_natCast, List.getElem?_eq_getElem hd]
  simp only [loadsX, e]
  rw [List.map_flatMap]
  congr 1
  funext n
  unfold segN
  split
  · simp [List.map_map, Function.comp_def]
  · rfl
theorem range_drop {k n : Nat} (h : n < k) : (List.range k).drop n = n :: (List.range k).drop (n + 1) := by
  rw [List.drop_eq_getElem_cons (by simpa using h)]; simp
theorem zG8 {k n : Nat} (h : k ≤ n) : (List.range k).drop n = [] := List.drop_of_length_le (by simpa using h)
theorem seg_yes {m : Market} {sub rem n : Nat} {x : List Int} {t : Train} {pre : List Int} (h : servedS m (nextX x t n) sub = true) : (segN m sub rem x t pre n).map pad6 = (loadsX m sub rem (nextX x t n)).map fun l => pad6 ((pre ++ [(n : Int)]) ++ l) := by
  unfold segN; rw [if_pos h]; simp [List.map_map, Function.comp_def]
theorem seg_no {m : Market} {sub rem n : Nat} {x : List Int} {t : Train} {pre : List Int} (h : servedS m (nextX x t n) sub = false) : (segN m sub rem x t pre n).map pad6 = [] := by unfold segN; rw [if_neg (by simp [h])]; rfl
theorem zF1 {m : Market} {sub : Nat} : ∀ (rem : Nat) (x : List Int), ∀ l ∈ loadsX m sub rem x, l.length = rem ∧ ∀ z ∈ l, 0 ≤ z
  | 0, _, l, h => by simp [loadsX] at h; subst h; simp
  | rem + 1, x, l, h => by
    unfold loadsX at h
    cases e : m.trains[(x.getD 7 0).toNat]? with
    | none => rw [e] at h; simp at h
    | some t =>
      rw [e] at h
      simp only [List.mem_flatMap] at h
      obtain ⟨n, _, h⟩ := h
      split at h
      · obtain ⟨l', h1, rfl⟩ := List.mem_map.1 h
        have := zF1 rem _ l' h1
        exact ⟨by simp [this.1], fun z hz => by rcases List.mem_cons.1 hz with rfl | hz; omega; exact this.2 z hz⟩
      · cases h
theorem zHn {α : Type} {f : Nat → List α} : ∀ (k : Nat), (∀ n < k, (f n).Nodup) → (∀ n < k, ∀ n' < k, n ≠ n' → ∀ x ∈ f n, x ∉ f n') → ((List.range k).flatMap f).Nodup
  | 0, _, _ => by simp
  | k + 1, h1, h2 => by
    rw [List.range_succ, List.flatMap_append, List.nodup_append]
    refine ⟨zHn k (fun n hn => h1 n (by omega)) (fun n hn n' hn' => h2 n (by omega) n' (by omega)), by simpa using h1 k (by omega), ?_⟩
    intro x hx y hy e
    subst e
    simp only [List.flatMap_cons, List.flatMap_nil, List.append_nil] at hy
    obtain ⟨n, hn, hx⟩ := List.mem_flatMap.1 hx
    rw [List.mem_range] at hn
    exact h2 n (by omega) k (by omega) (by omega) x hx hy
theorem loads_nodup {m : Market} {sub : Nat} : ∀ (rem : Nat) (x : List Int), (loadsX m sub rem x).Nodup
  | 0, _ => by simp [loadsX]
  | rem + 1, x => by
    unfold loadsX
    cases e : m.trains[(x.getD 7 0).toNat]? with
    | none => simp
    | some t =>
      refine zHn _ (fun n _ => ?_) (fun n _ n' _ hne l hl hl' => ?_)
      · split
        · have hq := loads_nodup (m := m) (sub := sub) rem (nextX x t n)
          unfold List.Nodup at hq ⊢
          rw [List.pairwise_map]
          exact hq.imp fun hne e => hne (by simpa using e)
        · simp
      · split at hl
        · obtain ⟨a, _, rfl⟩ := List.mem_map.1 hl
          split at hl'
          · obtain ⟨b, _, h⟩ := List.mem_map.1 hl'
            simp only [List.cons.injEq] at h
            exact hne (by omega)
          · cases hl'
        · cases hl
theorem pad6_len {l : List Int} (h : l.length ≤ 6) : (pad6 l).length = 6 := by simp [pad6]; omega
theorem pad6_inj {a b : List Int} (h : a.length = b.length) (e : pad6 a = pad6 b) : a = b := by unfold pad6 at e; exact (List.append_inj e h).1
theorem allLoads_nodup {m : Market} {sub rem : Nat} {x : List Int} : ((loadsX m sub rem x).map pad6).Nodup := by
  have h := loads_nodup (m := m) (sub := sub) rem x
  unfold List.Nodup at h ⊢
  rw [List.pairwise_map]
  refine List.Pairwise.imp_of_mem ?_ h
  intro a b ha hb hne e
  exact hne (pad6_inj (by rw [(zF1 rem x a ha).1, (zF1 rem x b hb).1]) e)
theorem cur_pad6 {cur pre : List Int} {d : Nat} (hl : cur.length = 6) (hp : pre.length = d) (hd : d ≤ 6) (hk : cur.take d = pre) (hz : ∀ j, d ≤ j → cur.getD j 0 = 0) : cur = pad6 pre := by
  unfold pad6
  apply List.ext_getElem (by simp [hl, hp]; omega)
  intro j h1 h2
  by_cases hj : j < d
  · rw [List.getElem_append_left (by omega)]
    have : pre[j]'(by omega) = (cur.take d)[j]'(by simp [hl]; omega) := by congr 1; exact hk.symm
    rw [this, List.getElem_take]
  · rw [List.getElem_append_right (by omega)]
    have := hz j (by omega)
    simp only [List.getElem_replicate]
    simpa [List.getD, h1] using this
theorem set_take6 {cur pre : List Int} {d : Nat} {n : Int} (hk : cur.take d = pre) (hl : d < cur.length) : (cur.set d n).take (d + 1) = pre ++ [n] := by
  rw [List.take_succ_eq_append_getElem (by simpa using hl), List.getElem_set_self, List.take_set_of_le (Nat.le_refl _), hk]
theorem set_zero6 {cur : List Int} {d n : Nat} {z : Int} (h : d < n) (hz : ∀ j, n ≤ j → cur.getD j 0 = 0) : ∀ j, n ≤ j → (cur.set d z).getD j 0 = 0 := fun j hj => by rw [zCh (by omega)]; exact hz j hj
theorem zE6 {cur pre : List Int} {d : Nat} {n : Int} (h : cur.take (d + 1) = pre ++ [n]) (hp : pre.length = d) : cur.take d = pre := by
  have : (cur.take (d + 1)).take d = (pre ++ [n]).take d := by rw [h]
  rw [List.take_take, Nat.min_eq_left (by omega)] at this
  rw [this, ← hp]; simp
theorem zDj {α : Type} {L R : List α} {i : Nat} {x : α} (h : L.drop i = x :: R) : L.drop (i + 1) = R := by
  have : (L.drop i).drop 1 = R := by rw [h]; rfl
  rwa [List.drop_drop] at this
theorem zDm {α : Type} {L R : List α} {i : Nat} {x : α} (h : L.drop i = x :: R) : i < L.length := by
  rcases Nat.lt_or_ge i L.length with h1 | h1
  · exact h1
  · rw [List.drop_of_length_le h1] at h; cases h
theorem drop_get1 {α : Type} {L R : List α} {i : Nat} {x : α} (h : L.drop i = x :: R) : L[i]'(zDm h) = x := by
  have := List.drop_eq_getElem_cons (zDm h)
  rw [h] at this
  exact (List.cons.inj this).1.symm
theorem drop_done {α : Type} {L : List α} {i : Nat} (h : i ≤ L.length) (hd : L.drop i = []) : i = L.length := by
  have := congrArg List.length hd
  simp at this; omega
def giveSub : Nat → List Int → Nat
  | s, [] => s
  | s, x :: l => giveSub (bitDiff s (1 <<< x.toNat)) l
theorem giveSub_step {s : Nat} {l : List Int} {i : Nat} (hi : i < l.length) : giveSub s (l.drop i) = giveSub (bitDiff s (1 <<< l[i].toNat)) (l.drop (i + 1)) := by rw [List.drop_eq_getElem_cons hi]; rfl
theorem giveSub_end {s : Nat} {l : List Int} {i : Nat} (hi : l.length ≤ i) : giveSub s (l.drop i) = s := by rw [List.drop_of_length_le hi]; rfl
def allLoads (m : Market) : List (List Int) := (loadsX m (giveSub (1 <<< m.shops.length - 1) (withoutL m)) m.trains.length (allX m false)).map pad6
def giveL (m : Market) : List Int := match allLoads m with
  | [] => List.replicate m.trains.length 0
  | l :: _ => l.take m.trains.length
def giveP (m : Market) : List Int × Int := if (check m).2.2 ≠ 0 then ([], (check m).2.2) else (giveL m, 0)
theorem zJ7 {m : Market} (hok : m.Ok) : ∀ l ∈ allLoads m, l.length = 6 := by
  intro l hl
  obtain ⟨q, hq, rfl⟩ := List.mem_map.1 hl
  exact pad6_len (by rw [(zF1 _ _ q hq).1]; exact hok.lt)
theorem giveL_nil {m : Market} (h : (allLoads m).length = 0) : giveL m = List.replicate m.trains.length 0 := by unfold giveL; rw [List.length_eq_zero_iff.1 h]
theorem giveL_cons {m : Market} (h : 0 < (allLoads m).length) : giveL m = (allLoads m)[0].take m.trains.length := by
  unfold giveL
  split
  · rename_i e; rw [e] at h; simp at h
  · rename_i l r e; simp [e]
theorem giveL_len {m : Market} (hok : m.Ok) : (giveL m).length = m.trains.length := by
  rcases Nat.eq_zero_or_pos (allLoads m).length with h | h
  · rw [giveL_nil h]; simp
  · rw [giveL_cons h, List.length_take, zJ7 hok _ (List.getElem_mem h)]; have := hok.lt; omega
theorem giveL_copy {m : Market} (hok : m.Ok) (h : 0 < (allLoads m).length) : (allLoads m)[0].take m.trains.length ++ (List.replicate m.trains.length (0 : Int)).drop 6 = giveL m := by
  rw [giveL_cons h, List.drop_of_length_le (by rw [List.length_replicate]; exact hok.lt), List.append_nil]
theorem start_last {m : Market} {sub rem : Nat} {x : List Int} : [-1,0,0,0,0,0] ∉ (loadsX m sub rem x).map pad6 := by
  intro h
  obtain ⟨l, hl, e⟩ := List.mem_map.1 h
  have h2 := (zF1 rem x l hl).2
  cases l with
  | nil => simp [pad6, List.replicate] at e
  | cons z l =>
    have hz := h2 z (.head _)
    simp only [pad6, List.cons_append, List.cons.injEq] at e
    omega
theorem allX_at7 (m : Market) (hr : m.rooms.length ≤ 3) (hs : m.shops.length ≤ 4) (t : Bool) : (allX m t).getD 7 0 = 0 := by
  have h1 : ∀ i, i ≤ 3 → (handsTo m t i).getD 7 0 = 0 := by
    intro i
    induction i with
    | zero => intro _; rfl
    | succ i ih => intro h; unfold handsTo; rw [zCh (by omega)]; exact ih (by omega)
  have h2 : ∀ i, i ≤ 4 → (wantsTo m t i).getD 7 0 = 0 := by
    intro i
    induction i with
    | zero => intro _; exact h1 _ hr
    | succ i ih => intro h; unfold wantsTo; rw [zCh (by omega)]; exact ih (by omega)
  exact h2 _ hs
theorem allX_good {m : Market} (hok : m.Ok) (t : Bool) : GoodX (allX m t) 0 :=
  ⟨zDt m t, fun z hz => by have := allX_in hok t z hz; omega, by rw [allX_at7 m hok.lr hok.ls]; rfl⟩
theorem zGi (b : Nat) : ∀ n, ∀ x ∈ listL b n, 0 ≤ x ∧ x < n
  | 0, x, h => by simp [listL] at h
  | n + 1, x, h => by
    simp only [listL, List.mem_append] at h
    rcases h with h | h
    · have := zGi b n x h; omega
    · split at h
      · simp at h; omega
      · simp at h
theorem zJz (m : Market) : ∀ k, ∀ x ∈ withoutTo m k, 0 ≤ x ∧ x < m.shops.length
  | 0 => zGi _ _
  | k + 1 => by
    simp only [withoutTo, withoutStep]
    split
    · exact zGi _ _
    · exact zJz m k
theorem zC3 {α : Type} {L R : List α} {i : Nat} {x : α} (hn : L.Nodup) (h : L.drop i = x :: R) : x ∉ R := by
  have := hn.sublist (List.drop_sublist i L)
  rw [h] at this
  exact (List.nodup_cons.1 this).1
end Go.Rt.Sh
set_option maxRecDepth 20000
namespace Go.Proofs.Sb
open Go.Proofs.Tryz
open Go.Rt Go.Rt.Sh
attribute [local irreducible] WL WC Con Yd At Ats Sl Agree DW
theorem Try_flat117 : flatInts Tryz.prog 117 6 = true := by kernel_rfl
theorem goes_at {w0 w : World} {F : List (Nat × Obj)} (m : Market) (p : At3) (mb mm : Nat) (hk : MK w0 F m p mb mm) (i : Nat) (hi : i < m.trains.length) {z : Int} (hz : z = i) (hs : St w0 w F) : Con Tryz.prog 67 [.pointer (some ⟨mb, 0, none⟩), .int .i64 z] w fun v w' => v = .bool (leaves m m.trains[i]) ∧ St w0 w' F := by subst hz; exact c67 m p mb mm hk i hi hs
def NextC (m : Market) (mb mm sub bp bl bla bY bs bn : Nat) (Ls : List (List Int)) (J : Nat → List (Nat × Obj) → Prop) (Js : List (Nat × Obj) → Prop) (yv : Value) (w0 : World) (F : List (Nat × Obj)) (rem : Nat) : Prop :=
  ∀ (d : Nat) (pre cur last : List Int) (i : Nat) (R : List (List Int)) (x : List Int) (B M X : List (Nat × Obj)) (w : World), d + rem = m.trains.length → pre.length = d → cur.length = 6 → cur.take d = pre → (∀ j, m.trains.length ≤ j → cur.getD j 0 = 0) → GoodX x d → i ≤ Ls.length →
    Ls.drop i = ((loadsX m sub rem x).map fun l => pad6 (pre ++ l)) ++ R → last.length = 6 → last ∉ Ls.drop i → J i B → Memo m mm M → St w0 w ((bn, blk 149 [.func (.func 85) #[] #[.pointer (some ⟨bp, 0, none⟩), .pointer (some ⟨bl, 0, none⟩), .pointer (some ⟨bla, 0, none⟩), .pointer (some ⟨bY, 0, none⟩), .pointer (some ⟨bs, 0, none⟩), .pointer (some ⟨bn, 0, none⟩)]]) :: (bla, blk 117 (iv last)) :: (bl, blk 117 (iv cur)) :: (bY, blk 148 [yv]) :: (X ++ (B ++ (M ++ F)))) →
    Con Tryz.prog 85 [ia x, .pointer (some ⟨bp, 0, none⟩), .pointer (some ⟨bl, 0, none⟩), .pointer (some ⟨bla, 0, none⟩), .pointer (some ⟨bY, 0, none⟩), .pointer (some ⟨bs, 0, none⟩), .pointer (some ⟨bn, 0, none⟩)] w fun v w' => ∃ (cur' last' : List Int) (B' M' : List (Nat × Obj)), cur'.length = 6 ∧ last'.length = 6 ∧ cur'.take d = pre ∧ (∀ j, m.trains.length ≤ j → cur'.getD j 0 = 0) ∧ Memo m mm M' ∧ St w0 w' ((bn, blk 149 [.func (.func 85) #[] #[.pointer (some ⟨bp, 0, none⟩), .pointer (some ⟨bl, 0, none⟩), .pointer (some ⟨bla, 0, none⟩), .pointer (some ⟨bY, 0, none⟩), .pointer (some ⟨bs, 0, none⟩), .pointer (some ⟨bn, 0, none⟩)]]) :: (bla, blk 117 (iv last')) :: (bl, blk 117 (iv cur')) :: (bY, blk 148 [yv]) :: (X ++ (B' ++ (M' ++ F)))) ∧
      ((v = .bool true ∧ ∃ i', i' ≤ Ls.length ∧ Ls.drop i' = R ∧ last' ∉ R ∧ J i' B') ∨ (v = .bool false ∧ Js B'))
theorem seg_more {Ls R : List (List Int)} {f : Nat → List (List Int)} {k n i : Nat} (hn : n < k) (h : Ls.drop i = (((List.range k).drop n).flatMap f) ++ R) : Ls.drop i = f n ++ ((((List.range k).drop (n + 1)).flatMap f) ++ R) := by
  rw [range_drop hn, List.flatMap_cons, List.append_assoc] at h; exact h
theorem fr7 {w0 w : World} {R : List (Nat × Obj)} {a b c e f g h : Nat × Obj} (hs : St w0 w (a :: b :: c :: e :: f :: g :: h :: R)) : St w0 w (e :: f :: g :: h :: a :: b :: c :: R) := hs.perm (zBc [a, b, c] [e, f, g, h] R)
theorem bk7 {w0 w : World} {R : List (Nat × Obj)} {a b c e f g h : Nat × Obj} (hs : St w0 w (e :: f :: g :: h :: a :: b :: c :: R)) : St w0 w (a :: b :: c :: e :: f :: g :: h :: R) := hs.perm (zBc [e, f, g, h] [a, b, c] R)
theorem c85 {w0 : World} {F : List (Nat × Obj)} (m : Market) (p : At3) (mb mm : Nat) (hk : MK w0 F m p mb mm)  (sub bp bl bla bY bs bn : Nat) (hsub : sub < 1000) (h1 : Ats w0 F bp 0 [.pointer (some ⟨mb, 0, none⟩)]) (h5 : Ats w0 F bs 0 [.int .i64 (sub : Int)]) (Ls : List (List Int)) (hnd : Ls.Nodup) (J : Nat → List (Nat × Obj) → Prop) (Js : List (Nat × Obj) → Prop) (yv : Value) (hy : ∀ (i : Nat) (x : List Int) (R : List (List Int)) (B M X : List (Nat × Obj)) (w : World), Ls.drop i = x :: R → J i B → Memo m mm M → St w0 w (X ++ (B ++ (M ++ F))) → FCon Tryz.prog yv [ia x] w fun v w' => ∃ B' M', Memo m mm M' ∧ St w0 w' (X ++ (B' ++ (M' ++ F))) ∧ (v = .bool true ∧ J (i + 1) B' ∨ v = .bool false ∧ Js B')) (rem : Nat) (ih : ∀ r, rem = r + 1 → NextC m mb mm sub bp bl bla bY bs bn Ls J Js yv w0 F r) : NextC m mb mm sub bp bl bla bY bs bn Ls J Js yv w0 F rem := by
  intro d pre cur last i R x B M X w hdr hpl hcl hk6 hz hgx hi hpos hll hlast hJ hM hs
  obtain ⟨ar, cr, as_, cs, at_, ct⟩ := p
  have hb := hk.b
  have hlr := hk.ok.lr
  have hls := hk.ok.ls
  have hlt := hk.ok.lt
  have hat := hgx.at7
  have hxl := hgx.len
  refine zAt (n := 106) func85 rfl rfl (zNl rfl) ?_
  refine zAe (fun K2 gz => (zAa (w_boxI (l := _) zAc rfl rfl rfl hs (fun b3 w4 gA => ?_))))
  refine zA5 rfl rfl (zAd (zAb (gz _ _ (zAe (fun K7 gB => (zAe (fun K9 gC => (zCn [] [(0,0),(1,1),(2,1),(3,0),(4,0),(5,0),(6,1),(7,0),(8,0)] zCb (by kernel_rfl) gA (fun hH g0 => ?_)))))))))
  refine d_w rfl (fun _ => zAf (o := 7) (i := 2) underlying115 rfl sizeOf3 rfl rfl rfl) rfl ?_
  refine zBd rfl zAc rfl g0 (fun _ hq => (zAj isAgg3 hq rfl rfl (zIz (i := 0) (o := 7) rfl (by first | omega | rfl | (simp only [zC5, zC4, hxl, zL] <;> omega))))) ?_
  refine zBd rfl zAc rfl g0 (fun _ hq => (zAj isAgg105 hq.tail.tail.tail.tail.tail.drop.drop.drop rfl rfl h1)) ?_
  refine d_w rfl (fun _ => zBy rfl rfl) rfl ?_
  refine d_w rfl (fun _ => zAf (o := 0) (i := 0) underlying147 rfl sizeOf31 rfl rfl rfl) rfl ?_
  refine d_w rfl (fun _ => zAf (o := 2) (i := 2) underlying31 rfl sizeOf29 rfl rfl rfl) rfl ?_
  refine zBd rfl zAc rfl g0 (fun _ hq => (zAj isAgg29 hq.tail.tail.tail.tail.tail.drop.drop.drop rfl rfl (show Ats _ _ _ _ [_] from Ats.part hb 2 1))) ?_
  refine d_w rfl (fun _ => zA8 underlying29 rfl rfl) rfl ?_
  refine d_w rfl (fun _ => zB6 rfl rfl rfl rfl) rfl ?_
  refine zCf ?_
  refine zAb (gC _ _ (zAu rfl rfl (fun gb => ?_) (fun gb => ?_)))
  ·
   try simp only [zS] at gb
   refine zAe (fun hO gE => (zAe (fun hX gF => ?_)))
   have hr0 : rem = 0 := by omega
   subst hr0
   have hcur := cur_pad6 (d := d) hcl hpl (by omega) hk6 (by have hdn : d = m.trains.length := (by omega); subst hdn; exact hz)
   simp only [loadsX, List.map_cons, List.map_nil, List.append_nil, List.cons_append, List.nil_append, ← hcur] at hpos
   have hne : ¬ cur = last := fun e => hlast (by rw [hpos, ← e]; exact .head _)
   refine zAa (w_p (zCz (i := 3) isAgg117 sizeOf117 (by first | omega | rfl | (simp only [zC5, zC4, hxl, zL] <;> omega)) g0 rfl rfl rfl) rfl ?_)
   refine w_p (zCz (i := 2) isAgg117 sizeOf117 (by first | omega | rfl | (simp only [zC5, zC4, hxl, zL] <;> omega)) g0 rfl rfl rfl) rfl ?_
   refine w_p (zKd (l := _) (m := _) eqGuardType117 Try_flat117 (by first | omega | rfl | (simp only [zC5, zC4, hxl, zL] <;> omega)) (by first | omega | rfl | (simp only [zC5, zC4, hxl, zL] <;> omega)) rfl rfl rfl rfl rfl rfl) rfl ?_
   refine zAd (zAb (gF _ _ (zAu rfl rfl (fun gc => ?_) (fun gc => ?_))))
   ·
    try simp only [zS] at gc
    exact absurd (by assumption) hne
   try simp only [zS] at gc
   refine zAs (zAb (gE _ _ (zAe (fun hY gG => (zAa (w_p (zCz (i := 3) isAgg117 sizeOf117 (by first | omega | rfl | (simp only [zC5, zC4, hxl, zL] <;> omega)) g0 rfl rfl rfl) rfl ?_))))))
   refine zDf (i := 2) (l := _) zAc sizeOf117 (by first | omega | rfl | (simp only [zC5, zC4, hxl, zL] <;> omega)) rfl rfl rfl rfl rfl g0 rfl (by first | omega | rfl | (simp only [zC5, zC4, hxl, zL] <;> omega)) (fun j0 gd => ?_)
   refine zAd (zAb (gG _ _ (zAe (fun j1 gq => (zAa (w_p (zAj isAgg148 gd rfl rfl (zAk (i := 4) (vs := [_]) rfl rfl)) rfl (w_p (zCz (i := 3) isAgg117 sizeOf117 (by first | omega | rfl | (simp only [zC5, zC4, hxl, zL] <;> omega)) gd rfl rfl rfl) rfl ?_)))))))
   refine zD9 zAc rfl rfl rfl rfl (hy i _ R B M (_ :: _ :: _ :: _ :: _ :: X) _ hpos hJ hM gd) ?_
   rintro _ j2 ⟨B1, M1, g5, g3, (⟨rfl, hJ1⟩ | ⟨rfl, hJ1⟩)⟩
   ·
    replace g3 := (show St _ _ (_ :: _ :: _ :: _ :: _ :: X ++ (B1 ++ (M1 ++ (F)))) from g3)
    refine w_p (zAo (v := .bool _) rfl rfl) rfl (zAd (zAb (gq _ _ (zAy (zAg (zA1 (l := [.tmp 8]) (vs := [_]) rfl ⟨⟨rfl, (rfl : _ = Value.bool _)⟩, trivial⟩ ?_))))))
    first
      | exact ⟨cur, cur, B1, M1, hcl, hcl, hk6, hz, g5, g3.tail, .inl ⟨rfl, i + 1, zDm hpos, zDj hpos, zC3 hnd hpos, hJ1⟩⟩
      | exact ⟨cur, cur, B1, M1, hcl, hcl, hk6, hz, g5, g3.tail, .inr ⟨rfl, hJ1⟩⟩
      | exact ⟨cur2, last2, B2, M2, hc2, hl2, zE6 hk2 hpl, hz2, g6, g3.tail, .inr ⟨rfl, hJ2⟩⟩
      | (rw [zG8 (by omega)] at hpos
         exact ⟨cur, last, B, M, hcl, hll, hk6, hz, hM, g3.tail, .inl ⟨rfl, i, hi, hpos, (by rw [← show Ls.drop i = R from hpos]; exact hlast), hJ⟩⟩)
   replace g3 := (show St _ _ (_ :: _ :: _ :: _ :: _ :: X ++ (B1 ++ (M1 ++ (F)))) from g3)
   refine w_p (zAo (v := .bool _) rfl rfl) rfl (zAd (zAb (gq _ _ (zAy (zAg (zA1 (l := [.tmp 8]) (vs := [_]) rfl ⟨⟨rfl, (rfl : _ = Value.bool _)⟩, trivial⟩ ?_))))))
   first
     | exact ⟨cur, cur, B1, M1, hcl, hcl, hk6, hz, g5, g3.tail, .inl ⟨rfl, i + 1, zDm hpos, zDj hpos, zC3 hnd hpos, hJ1⟩⟩
     | exact ⟨cur, cur, B1, M1, hcl, hcl, hk6, hz, g5, g3.tail, .inr ⟨rfl, hJ1⟩⟩
     | exact ⟨cur2, last2, B2, M2, hc2, hl2, zE6 hk2 hpl, hz2, g6, g3.tail, .inr ⟨rfl, hJ2⟩⟩
     | (rw [zG8 (by omega)] at hpos
        exact ⟨cur, last, B, M, hcl, hll, hk6, hz, hM, g3.tail, .inl ⟨rfl, i, hi, hpos, (by rw [← show Ls.drop i = R from hpos]; exact hlast), hJ⟩⟩)
  try simp only [zS] at gb
  refine zAs (zAb (gB _ _ (zAe (fun j3 gH => ?_))))
  obtain ⟨r, rfl⟩ : ∃ r, rem = r + 1 := ⟨rem - 1, by omega⟩
  have ih2 := ih r rfl
  have hd2 : d < m.trains.length := by omega
  rw [loads_here hgx hd2] at hpos
  have htr := hk.ok.train _ (List.getElem_mem hd2)
  have hmb := mostX_bound (m := m) (sub := sub) (t := m.trains[d]) hgx (by omega)
  obtain ⟨bt, ot, hbt, hxt⟩ := sl_trows hk.i.t hd2
  subst hbt
  refine zAa (w_p (zAf (o := 7) (i := 2) underlying115 rfl sizeOf3 rfl rfl rfl) rfl (w_p (zAj isAgg3 g0 rfl rfl (zIz (i := 0) (o := 7) rfl (by first | omega | rfl | (simp only [zC5, zC4, hxl, zL] <;> omega)))) rfl ?_))
  refine zBe rfl rfl (zAd (zAb (gH _ _ (zAe (fun j4 gI => (zAa (w_p (zAj isAgg105 g0.tail.tail.tail.tail.tail.drop.drop.drop rfl rfl h1) rfl (w_p (zBy rfl rfl) rfl (w_p (zAf (o := 0) (i := 0) underlying147 rfl sizeOf31 rfl rfl rfl) rfl ?_)))))))))
  refine w_p (zAf (o := 2) (i := 2) underlying31 rfl sizeOf29 rfl rfl rfl) rfl (w_p (zAj isAgg29 g0.tail.tail.tail.tail.tail.drop.drop.drop rfl rfl (show Ats _ _ _ _ [_] from Ats.part hb 2 1)) rfl (zAz rfl rfl (w_p (zA3 underlying29 sizeOf55 rfl rfl rfl rfl (i := d) (by omega) (by omega)) rfl ?_)))
  refine w_p (zA4 (vs := [_,_,_,_]) isAgg55 sizeOf55 g0.tail.tail.tail.tail.tail.drop.drop.drop rfl rfl hxt) rfl (zBf (cs := [_,_,_,_]) zAc zeroValue55 rfl g0 (fun gr j5 gJ => ?_))
  refine zA6 (i := 0) (v := .agg #[.int _ _, .int _ _, .int _ _, .int _ _]) (vs := [_,_,_,_]) zAc sizeOf55 rfl rfl rfl rfl rfl (by simp [Value.oneCell']) gJ rfl (zNl rfl) (fun j6 gt => ?_)
  refine zAd (zAb (gI _ _ (zAe (fun j7 gK => (zAa (zA5 rfl rfl (zAd (zAb (gK _ _ (zAe (fun j8 gL => (w_cut [11,40,41,42,43,44,45,46,47,48,49,50,51,52,53,54,55,56,57,58,59,60,61,62,63] [11] (fun vs w => vs = [.int .i64 (mostX m sub x (m.trains[d]'hd2))] ∧ St w0 w ((gr, blk 55 (Train.cells (m.trains[d]'hd2))) :: (b3, blk 115 (iv x)) :: (bn, blk 149 [.func (.func 85) #[] #[.pointer (some ⟨bp, 0, none⟩), .pointer (some ⟨bl, 0, none⟩), .pointer (some ⟨bla, 0, none⟩), .pointer (some ⟨bY, 0, none⟩), .pointer (some ⟨bs, 0, none⟩), .pointer (some ⟨bn, 0, none⟩)]]) :: (bla, blk 117 (iv last)) :: (bl, blk 117 (iv cur)) :: (bY, blk 148 [yv]) :: (X ++ (B ++ (M ++ F))))) (fun j9 gf => ?_) ?_))))))))))))
  ·
   refine zAe (fun ja gu => (zAa (w_p (zAj isAgg105 gt.tail.tail.tail.tail.tail.tail.drop.drop.drop rfl rfl h1) rfl (zAz rfl rfl (zAr zAc call67 rfl rfl rfl rfl (goes_at m _ mb mm hk.app.app.app.cons.cons.cons.cons.cons.cons d hd2 hat gt) ?_)))))
   rintro _ jb ⟨rfl, g7⟩
   refine w_p (zAi (v := .bool _) rfl rfl) rfl (zBi (fun gg => ?_) (fun gg => ?_))
   ·
    try simp only [zS] at gg
    refine w_y rfl rfl rfl (zAj isAgg3 g7.tail.tail.tail.tail.tail.tail.drop.drop.drop rfl rfl h5) rfl ?_
    refine w_y rfl rfl rfl (zAf (o := 1) (i := 1) underlying55 rfl sizeOf3 rfl rfl rfl) rfl ?_
    refine w_y rfl rfl rfl (zAj isAgg3 g7 rfl rfl (zAk (i := 0) (vs := [_]) rfl rfl)) rfl ?_
    refine w_y rfl rfl rfl (zJ9 (x := _) (y := (m.trains[d]'hd2).shop.toNat) rfl rfl rfl rfl rfl (by first | rfl | omega) (by first | omega | exact zBo (by omega))) rfl ?_
    refine w_y rfl rfl rfl (show Yd _ _ _ _ (.int .i64 ((bit sub (m.trains[d]'hd2).shop.toNat : Nat) : Int)) from (zI2 (x := _) (y := 1) rfl rfl rfl rfl rfl rfl (by first | omega | exact zBo (by omega)) (by first | omega | exact zBo (by omega)))) rfl ?_
    refine w_y rfl rfl rfl (zB6 rfl rfl rfl rfl) rfl ?_
    refine w_p (zAx (v := .bool _) rfl rfl rfl rfl) rfl (zAd (zAb (gu _ _ (zAu rfl rfl (fun gh => ?_) (fun gh => ?_)))))
    ·
     try simp only [zS] at gh
     refine zCn [] [(0,0),(1,1),(2,0),(3,1),(4,0),(5,0),(6,1),(7,0),(8,1),(9,0),(10,0),(11,1),(12,0),(13,0)] zCb (by kernel_rfl) g7 (fun jc g8 => ?_)
     refine d_w rfl (fun _ => zAf (o := 3) (i := 3) underlying55 rfl sizeOf3 rfl rfl rfl) rfl ?_
     refine zBd rfl zAc rfl g8 (fun _ hq => (zAj isAgg3 hq rfl rfl (zAk (i := 0) (vs := [_]) rfl rfl))) ?_
     refine d_w rfl (fun _ => zAf (o := 0) (i := 0) underlying55 rfl sizeOf3 rfl rfl rfl) rfl ?_
     refine zBd rfl zAc rfl g8 (fun _ hq => (zAj isAgg3 hq rfl rfl (zAk (i := 0) (vs := [_]) rfl rfl))) ?_
     refine d_w rfl (fun _ => zAf (o := 0) (i := 0) underlying115 rfl sizeOf112 rfl rfl rfl) rfl ?_
     refine d_w rfl (fun _ => zBr underlying112 sizeOf3 rfl rfl rfl rfl (i := (m.trains[d]'hd2).room.toNat) (by first | rfl | omega) (by omega)) rfl ?_
     refine zBd rfl zAc rfl g8 (fun _ hq => (zAj isAgg3 hq rfl rfl (zB7 (i := 1) (j := (m.trains[d]'hd2).room.toNat) rfl (by first | omega | rfl | (simp only [zC5, zC4, hxl, zL] <;> omega))))) ?_
     refine d_w rfl (fun _ => zAf (o := 1) (i := 1) underlying55 rfl sizeOf3 rfl rfl rfl) rfl ?_
     refine zBd rfl zAc rfl g8 (fun _ hq => (zAj isAgg3 hq rfl rfl (zAk (i := 0) (vs := [_]) rfl rfl))) ?_
     refine d_w rfl (fun _ => zAf (o := 3) (i := 1) underlying115 rfl sizeOf113 rfl rfl rfl) rfl ?_
     refine d_w rfl (fun _ => zBr underlying113 sizeOf3 rfl rfl rfl rfl (i := (m.trains[d]'hd2).shop.toNat) (by first | rfl | omega) (by omega)) rfl ?_
     refine zBd rfl zAc rfl g8 (fun _ hq => (zAj isAgg3 hq rfl rfl (ats_intsO (i := 1) (o := 3) (j := (m.trains[d]'hd2).shop.toNat) rfl (by first | omega | rfl | (simp only [zC5, zC4, hxl, zL] <;> omega))))) ?_
     refine d_w rfl (fun _ => y_min3 rfl rfl rfl rfl rfl rfl) rfl ?_
     refine d_w rfl (fun _ => zCi rfl rfl) rfl ?_
     refine zCf ?_
     refine zAb (gf _ _ (Md.intro (by repeat (first | exact zEj | exact zC2 | refine zC1 rfl ?_ | refine zCp rfl ?_ _ | refine zCg rfl ?_)) ?_))
     first
       | exact ⟨by rw [zIj (by assumption) (by omega)]; rfl, g8⟩
       | exact ⟨by rw [zKm (by first | exact .inl (by assumption) | exact .inr (by omega))]; rfl, g8⟩
    try simp only [zS] at gh
    refine zAs (zAb (gf _ _ (Md.intro (by repeat (first | exact zEj | exact zC2 | refine zC1 rfl ?_ | refine zCp rfl ?_ _ | refine zCg rfl ?_)) ?_)))
    first
      | exact ⟨by rw [zIj (by assumption) (by omega)]; rfl, g7⟩
      | exact ⟨by rw [zKm (by first | exact .inl (by assumption) | exact .inr (by omega))]; rfl, g7⟩
   try simp only [zS] at gg
   refine zAh rfl rfl rfl ?_
   refine zAh rfl rfl rfl ?_
   refine zAh rfl rfl rfl ?_
   refine zAh rfl rfl rfl ?_
   refine zAh rfl rfl rfl ?_
   refine zAh rfl rfl rfl ?_
   refine w_p (zA9 (v := _) rfl rfl rfl rfl) rfl (zAd (zAb (gu _ _ (zBx rfl rfl ?_))))
   refine zAs (zAb (gf _ _ (Md.intro (by repeat (first | exact zEj | exact zC2 | refine zC1 rfl ?_ | refine zCp rfl ?_ _ | refine zCg rfl ?_)) ?_)))
   first
     | exact ⟨by rw [zIj (by assumption) (by omega)]; rfl, g7⟩
     | exact ⟨by rw [zKm (by first | exact .inl (by assumption) | exact .inr (by omega))]; rfl, g7⟩
  intro vs μ jd hM
  obtain ⟨rfl, hs⟩ := hM
  refine zAb (gL _ _ (zAe (fun je gM => (zAe (fun jf gN => (zAa (zAz rfl rfl (w_p (zBg rfl rfl rfl rfl (by omega) (by omega)) rfl (w_p (zAi (v := _) rfl rfl) rfl ?_)))))))))
  refine zAd (zAb (gN _ _ (zAw ?_)))
  refine zBs [8,12,13,66,67,68,69,70,71,72,73,74,75,76,77,78,79,80,81,82,83,84,85,86,87,88,89,90,91,92,93,94,95,96,97,98,99,100,101,102,103,104,105] [66] (fun k vs w => ∃ (n : Nat) (cur last : List Int) (i : Nat) (B M : List (Nat × Obj)), vs = [.int .i64 n] ∧ (n : Int) ≤ mostX m sub x (m.trains[d]'hd2) + 1 ∧ k = (mostX m sub x (m.trains[d]'hd2)).toNat + 1 - n ∧ cur.length = 6 ∧ last.length = 6 ∧ cur.take d = pre ∧ (∀ j, m.trains.length ≤ j → cur.getD j 0 = 0) ∧ i ≤ Ls.length ∧ Ls.drop i = (((List.range ((mostX m sub x (m.trains[d]'hd2)).toNat + 1)).drop n).flatMap fun n => (segN m sub r x (m.trains[d]'hd2) pre n).map pad6) ++ R ∧ last ∉ Ls.drop i ∧ J i B ∧ Memo m mm M ∧ St w0 w ((gr, blk 55 (Train.cells (m.trains[d]'hd2))) :: (b3, blk 115 (iv x)) :: (bn, blk 149 [.func (.func 85) #[] #[.pointer (some ⟨bp, 0, none⟩), .pointer (some ⟨bl, 0, none⟩), .pointer (some ⟨bla, 0, none⟩), .pointer (some ⟨bY, 0, none⟩), .pointer (some ⟨bs, 0, none⟩), .pointer (some ⟨bn, 0, none⟩)]]) :: (bla, blk 117 (iv last)) :: (bl, blk 117 (iv cur)) :: (bY, blk 148 [yv]) :: (X ++ (B ++ (M ++ F))))) ((mostX m sub x (m.trains[d]'hd2)).toNat + 1) ?_ ?_
  ·
   exact ⟨0, cur, last, i, B, M, rfl, by omega, by omega, hcl, hll, hk6, hz, hi, hpos, hlast, hJ, hM, hs⟩
  intro k vs μ jg hI jh gv
  clear hk6 hz hi hpos hll hlast hJ hs hcl hM
  obtain ⟨n, cur, last, i, B, M, rfl, hn, rfl, hcl, hll, hk6, hz, hi, hpos, hlast, hJ, hM, hs⟩ := hI
  refine zAe (fun ji gP => (zAa (w_p (zBw rfl rfl rfl rfl) rfl (zAd (zAb (gP _ _ (zAe (fun jj gQ => (zAu rfl rfl (fun gi => ?_) (fun gi => ?_))))))))))
  ·
   try simp only [zS] at gi
   refine zAs (zAb (gQ _ _ (zAe (fun jk gw => (zAw ?_)))))
   refine zAe (fun jl gR => ?_)
   have hnm : n < (mostX m sub x (m.trains[d]'hd2)).toNat + 1 := by omega
   have hg1 := hgx.get (m.trains[d]'hd2).room.toNat
   have hg2 := hgx.get (3 + (m.trains[d]'hd2).shop.toNat)
   have he1 : (x.set 7 (x.getD 7 0 + 1)).getD (m.trains[d]'hd2).room.toNat 0 = x.getD (m.trains[d]'hd2).room.toNat 0 := nx1_get (by omega)
   have he2 : ((x.set 7 (x.getD 7 0 + 1)).set (m.trains[d]'hd2).room.toNat ((x.set 7 (x.getD 7 0 + 1)).getD (m.trains[d]'hd2).room.toNat 0 - (n : Int))).getD (3 + (m.trains[d]'hd2).shop.toNat) 0 = x.getD (3 + (m.trains[d]'hd2).shop.toNat) 0 := nx2_get (by omega) (by omega)
   refine zAa (zAz rfl rfl (zBe rfl rfl (zAd (zAb (gR _ _ (zAe (fun jm gS => (zAa (w_p (zCz (i := 1) isAgg115 sizeOf115 (by first | omega | rfl | (simp only [zC5, zC4, hxl, zL] <;> omega)) hs rfl rfl rfl) rfl ?_)))))))))
   refine zBf (cs := iv [0,0,0,0,0,0,0,0]) zAc zeroValue115 rfl hs (fun jn jo gU => ?_)
   refine zDf (i := 0) (l := _) zAc sizeOf115 (by first | omega | rfl | (simp only [zC5, zC4, hxl, zL] <;> omega)) rfl rfl rfl rfl rfl gU rfl (by first | omega | rfl | (simp only [zC5, zC4, hxl, zL] <;> omega)) (fun jp gx => ?_)
   refine zAd (zAb (gS _ _ (zAe (fun jq gV => (zAa (w_p (zAf (o := 7) (i := 2) underlying115 rfl sizeOf3 rfl rfl rfl) rfl (w_p (zAj isAgg3 gx rfl rfl (zIz (i := 0) (o := 7) rfl (by first | omega | rfl | (simp only [zC5, zC4, hxl, zL] <;> omega)))) rfl ?_)))))))
   refine w_p (zBg rfl rfl rfl rfl (by omega) (by omega)) rfl (w_p (zAf (o := 7) (i := 2) underlying115 rfl sizeOf3 rfl rfl rfl) rfl (w_storeAtIC (i := 0) (o := 7) zAc sizeOf3 rfl rfl rfl rfl gx rfl (by first | omega | rfl | (simp only [zC5, zC4, hxl, zL] <;> omega)) (fun jr gj => ?_)))
   refine zAd (zAb (gV _ _ (zAe (fun js gW => (zAa (w_p (zAf (o := 0) (i := 0) underlying55 rfl sizeOf3 rfl rfl rfl) rfl (w_p (zAj isAgg3 gj rfl rfl (zAk (i := 1) (vs := [_]) rfl rfl)) rfl ?_)))))))
   refine w_p (zAf (o := 0) (i := 0) underlying115 rfl sizeOf112 rfl rfl rfl) rfl (w_p (zBr underlying112 sizeOf3 rfl rfl rfl rfl (i := (m.trains[d]'hd2).room.toNat) (by first | rfl | omega) (by omega)) rfl ?_)
   refine w_p (zAj isAgg3 gj rfl rfl (zB7 (i := 0) (j := (m.trains[d]'hd2).room.toNat) rfl (by first | omega | rfl | (simp only [zC5, zC4, hxl, zL] <;> omega)))) rfl ?_
   refine zAz rfl rfl (w_p (zE0 rfl rfl rfl rfl (by omega) (by omega)) rfl (w_p (zAf (o := 0) (i := 0) underlying115 rfl sizeOf112 rfl rfl rfl) rfl (w_p (zBr underlying112 sizeOf3 rfl rfl rfl rfl (i := (m.trains[d]'hd2).room.toNat) (by first | rfl | omega) (by omega)) rfl ?_)))
   refine zC0 (i := 0) (j := (m.trains[d]'hd2).room.toNat) zAc sizeOf3 rfl rfl rfl rfl gj rfl (by first | omega | rfl | (simp only [zC5, zC4, hxl, zL] <;> omega)) (fun jt gk => ?_)
   refine zAd (zAb (gW _ _ (zAe (fun ju gX => (zAa (w_p (zAf (o := 1) (i := 1) underlying55 rfl sizeOf3 rfl rfl rfl) rfl (w_p (zAj isAgg3 gk rfl rfl (zAk (i := 1) (vs := [_]) rfl rfl)) rfl ?_)))))))
   refine w_p (zAf (o := 3) (i := 1) underlying115 rfl sizeOf113 rfl rfl rfl) rfl (w_p (zBr underlying113 sizeOf3 rfl rfl rfl rfl (i := (m.trains[d]'hd2).shop.toNat) (by first | rfl | omega) (by omega)) rfl ?_)
   refine w_p (zAj isAgg3 gk rfl rfl (ats_intsO (i := 0) (o := 3) (j := (m.trains[d]'hd2).shop.toNat) rfl (by first | omega | rfl | (simp only [zC5, zC4, hxl, zL] <;> omega)))) rfl ?_
   refine zAz rfl rfl (w_p (zE0 rfl rfl rfl rfl (by omega) (by omega)) rfl (w_p (zAf (o := 3) (i := 1) underlying115 rfl sizeOf113 rfl rfl rfl) rfl (w_p (zBr underlying113 sizeOf3 rfl rfl rfl rfl (i := (m.trains[d]'hd2).shop.toNat) (by first | rfl | omega) (by omega)) rfl ?_)))
   refine w_storeAtIO (i := 0) (o := 3) (j := (m.trains[d]'hd2).shop.toNat) zAc sizeOf3 rfl rfl rfl rfl gk rfl (by first | omega | rfl | (simp only [zC5, zC4, hxl, zL] <;> omega)) (fun jv gY => ?_)
   refine zAd (zAb (gX _ _ (zAe (fun jw gZ => (zAa (zAz rfl rfl (zAz rfl rfl (w_p (zBr underlying117 sizeOf3 rfl rfl rfl rfl (i := d) (by first | rfl | omega) (by omega)) rfl ?_))))))))
   refine zC0 (i := 5) (j := d) zAc sizeOf3 rfl rfl rfl rfl gY rfl (by first | omega | rfl | (simp only [zC5, zC4, hxl, zL] <;> omega)) (fun jx ga => ?_)
   refine zAd (zAb (gZ _ _ (zAe (fun jy gm => (zAa (w_p (zAj isAgg105 ga.tail.tail.tail.tail.tail.tail.tail.drop.drop.drop rfl rfl h1) rfl (w_p (zCz (i := 0) isAgg115 sizeOf115 (by first | omega | rfl | (simp only [zC5, zC4, hxl, zL] <;> omega)) ga rfl rfl rfl) rfl ?_)))))))
   refine w_p (zAj isAgg3 ga.tail.tail.tail.tail.tail.tail.tail.drop.drop.drop rfl rfl h5) rfl (zAr zAc call69 rfl rfl rfl rfl (c69 (X := [_,_,_,_,_,_,_] ++ (X ++ B)) m _ mb mm hk _ (nextX_good hgx (by omega) (by omega) (by omega) (by omega) (by omega) (by omega)).small _ hM (st_in (P := [_,_,_,_,_,_,_]) ga)) ?_)
   rintro _ jz ⟨rfl, M96, gy, g9⟩
   replace g9 := (show St _ _ (_ :: _ :: _ :: _ :: _ :: _ :: _ :: X ++ (B ++ (M96 ++ (F)))) from st_out (P := [_,_,_,_,_,_,_]) g9)
   refine w_p (zAi (v := .bool _) rfl rfl) rfl (zBi (fun gn => ?_) (fun gn => ?_))
   ·
    try simp only [zS] at gn
    refine w_y rfl rfl rfl (zAj isAgg149 g9 rfl rfl (zAk (i := 3) (vs := [_]) rfl rfl)) rfl ?_
    refine w_y rfl rfl rfl (zCz (i := 0) isAgg115 sizeOf115 (by first | omega | rfl | (simp only [zC5, zC4, hxl, zL] <;> omega)) g9 rfl rfl rfl) rfl ?_
    refine zAr (zAq rfl rfl rfl) call85 rfl rfl rfl rfl (ih2 (d + 1) (pre ++ [(n : Int)]) _ last i _ _ B M96 (_ :: _ :: _ :: X) _ (by omega) (by simp; omega) (by rw [List.length_set]; exact hcl) (set_take6 hk6 (by omega)) (set_zero6 (by omega) hz) (nextX_good hgx (by omega) (by omega) (by omega) (by omega) (by omega) (by omega)) hi (by have hq := seg_more hnm hpos; rw [seg_yes (by assumption)] at hq; exact hq) hll hlast hJ gy (fr7 g9)) ?_
    rintro _ jA ⟨cur2, last2, B2, M2, hc2, hl2, hk2, hz2, g6, g4, (⟨rfl, i2, hi2, hp2, hn2, hJ2⟩ | ⟨rfl, hJ2⟩)⟩
    ·
     replace g4 := bk7 (show St _ _ (_ :: _ :: _ :: _ :: _ :: _ :: _ :: (X ++ (B2 ++ (M2 ++ F)))) from g4)
     refine w_y rfl rfl rfl (zDz rfl rfl) rfl ?_
     refine w_p (zAx (v := .bool _) rfl rfl rfl rfl) rfl (zAd (zAb (gm _ _ (zBx rfl rfl ?_))))
     refine zAs (zAl (zAb (gw _ _ (zAa (w_p (zBg rfl rfl rfl rfl (by omega) (by omega)) rfl (zAz rfl rfl (zAd (zAb (gv _ _ (nxI ((mostX m sub x (m.trains[d]'hd2)).toNat + 1 - (n + 1)) (by omega) ?_))))))))))
     first
       | exact ⟨n + 1, cur2, last2, i2, B2, M2, rfl, by omega, rfl, hc2, hl2, zE6 hk2 hpl, hz2, hi2, hp2, (by rw [hp2]; exact hn2), hJ2, g6, g4.tail⟩
       | (have hq := seg_more hnm hpos
          rw [seg_no (by assumption)] at hq
          exact ⟨n + 1, _, last, i, B, M2, rfl, by omega, rfl, (by rw [List.length_set]; exact hcl), hll, (by rw [List.take_set_of_le (Nat.le_refl _)]; exact hk6), set_zero6 (by omega) hz, hi, hq, hlast, hJ, g6, g4.tail⟩)
    replace g4 := bk7 (show St _ _ (_ :: _ :: _ :: _ :: _ :: _ :: _ :: (X ++ (B2 ++ (M2 ++ F)))) from g4)
    refine w_y rfl rfl rfl (zDz rfl rfl) rfl ?_
    refine w_p (zAx (v := .bool _) rfl rfl rfl rfl) rfl (zAd (zAb (gm _ _ (zB1 rfl rfl ?_))))
    refine zAe (fun jB hD => (zAa (zA5 rfl rfl (zAd (zAb (hD _ _ (zAy (zAv (zAg (zAg (zAv (zAg (zA1 (l := [.tmp 8]) (vs := [_]) rfl ⟨⟨rfl, (rfl : _ = Value.bool _)⟩, trivial⟩ ?_)))))))))))))
    first
      | exact ⟨cur, cur, B1, M1, hcl, hcl, hk6, hz, g5, g4.tail.tail.tail, .inl ⟨rfl, i + 1, zDm hpos, zDj hpos, zC3 hnd hpos, hJ1⟩⟩
      | exact ⟨cur, cur, B1, M1, hcl, hcl, hk6, hz, g5, g4.tail.tail.tail, .inr ⟨rfl, hJ1⟩⟩
      | exact ⟨cur2, last2, B2, M2, hc2, hl2, zE6 hk2 hpl, hz2, g6, g4.tail.tail.tail, .inr ⟨rfl, hJ2⟩⟩
      | (rw [zG8 (by omega)] at hpos
         exact ⟨cur, last, B, M, hcl, hll, hk6, hz, hM, g4.tail.tail.tail, .inl ⟨rfl, i, hi, hpos, (by rw [← show Ls.drop i = R from hpos]; exact hlast), hJ⟩⟩)
   try simp only [zS] at gn
   refine zAh rfl rfl rfl ?_
   refine zAh rfl rfl rfl ?_
   refine zAh rfl rfl rfl ?_
   refine zAh rfl rfl rfl ?_
   refine w_p (zA9 (v := _) rfl rfl rfl rfl) rfl (zAd (zAb (gm _ _ (zBx rfl rfl ?_))))
   refine zAs (zAl (zAb (gw _ _ (zAa (w_p (zBg rfl rfl rfl rfl (by omega) (by omega)) rfl (zAz rfl rfl (zAd (zAb (gv _ _ (nxI ((mostX m sub x (m.trains[d]'hd2)).toNat + 1 - (n + 1)) (by omega) ?_))))))))))
   first
     | exact ⟨n + 1, cur2, last2, i2, B2, M2, rfl, by omega, rfl, hc2, hl2, zE6 hk2 hpl, hz2, hi2, hp2, (by rw [hp2]; exact hn2), hJ2, g6, g9.tail⟩
     | (have hq := seg_more hnm hpos
        rw [seg_no (by assumption)] at hq
        exact ⟨n + 1, _, last, i, B, M96, rfl, by omega, rfl, (by rw [List.length_set]; exact hcl), hll, (by rw [List.take_set_of_le (Nat.le_refl _)]; exact hk6), set_zero6 (by omega) hz, hi, hq, hlast, hJ, gy, g9.tail⟩)
  try simp only [zS] at gi
  refine zBl (zAm (zAm (zA0 (zAb (gM _ _ (zAe (fun jC hG => (zAa (zA5 rfl rfl (zAd (zAb (hG _ _ (zAy (zA1 (l := [.tmp 8]) (vs := [_]) rfl ⟨⟨rfl, (rfl : _ = Value.bool _)⟩, trivial⟩ ?_))))))))))))))
  first
    | exact ⟨cur, cur, B1, M1, hcl, hcl, hk6, hz, g5, hs.tail.tail, .inl ⟨rfl, i + 1, zDm hpos, zDj hpos, zC3 hnd hpos, hJ1⟩⟩
    | exact ⟨cur, cur, B1, M1, hcl, hcl, hk6, hz, g5, hs.tail.tail, .inr ⟨rfl, hJ1⟩⟩
    | exact ⟨cur2, last2, B2, M2, hc2, hl2, zE6 hk2 hpl, hz2, g6, hs.tail.tail, .inr ⟨rfl, hJ2⟩⟩
    | (rw [zG8 (by omega)] at hpos
       exact ⟨cur, last, B, M, hcl, hll, hk6, hz, hM, hs.tail.tail, .inl ⟨rfl, i, hi, hpos, (by rw [← show Ls.drop i = R from hpos]; exact hlast), hJ⟩⟩)

end Go.Proofs.Sb
set_option maxRecDepth 20000
namespace Go.Proofs.Sb
open Go.Proofs.Tryz
open Go.Rt Go.Rt.Sh
attribute [local irreducible] WL WC Con Yd At Ats Sl Agree DW

theorem next_all {w0 : World} {F : List (Nat × Obj)} (m : Market) (p : At3) (mb mm : Nat) (hk : MK w0 F m p mb mm)  (sub bp bl bla bY bs bn : Nat) (hsub : sub < 1000) (h1 : Ats w0 F bp 0 [.pointer (some ⟨mb, 0, none⟩)]) (h5 : Ats w0 F bs 0 [.int .i64 (sub : Int)]) (Ls : List (List Int)) (hnd : Ls.Nodup) (J : Nat → List (Nat × Obj) → Prop) (Js : List (Nat × Obj) → Prop) (yv : Value) (hy : ∀ (i : Nat) (x : List Int) (R : List (List Int)) (B M X : List (Nat × Obj)) (w : World), Ls.drop i = x :: R → J i B → Memo m mm M → St w0 w (X ++ (B ++ (M ++ F))) → FCon Tryz.prog yv [ia x] w fun v w' => ∃ B' M', Memo m mm M' ∧ St w0 w' (X ++ (B' ++ (M' ++ F))) ∧ (v = .bool true ∧ J (i + 1) B' ∨ v = .bool false ∧ Js B')) (rem : Nat) : NextC m mb mm sub bp bl bla bY bs bn Ls J Js yv w0 F rem := by
  induction rem with
  | zero => exact c85 m p mb mm hk sub bp bl bla bY bs bn hsub h1 h5 Ls hnd J Js yv hy 0 (fun r h => by omega)
  | succ r ih => exact c85 m p mb mm hk sub bp bl bla bY bs bn hsub h1 h5 Ls hnd J Js yv hy (r + 1) (fun q h => by have : q = r := (by omega); subst this; exact ih)
theorem iter_memo {w0 : World} {F : List (Nat × Obj)} {m : Market} {mm : Nat} {Ls : List (List Int)} {J : Nat → List (Nat × Obj) → Prop} {Js : List (Nat × Obj) → Prop} {J0 : Nat → List (Nat × Obj) → Prop} {Js0 : List (Nat × Obj) → Prop} (hJi : ∀ i Bx, J i Bx ↔ ∃ B M, Bx = B ++ M ∧ Memo m mm M ∧ J0 i B) (hJs : ∀ Bx, Js Bx ↔ ∃ B M, Bx = B ++ M ∧ Memo m mm M ∧ Js0 B) {yv : Value}
    (hy : ∀ i (hi : i < (Ls.map ia).length) B X w, J i B → St w0 w (X ++ (B ++ F)) → FCon Tryz.prog yv [(Ls.map ia)[i]] w fun v w' => ∃ B', St w0 w' (X ++ (B' ++ F)) ∧ (v = .bool true ∧ J (i + 1) B' ∨ v = .bool false ∧ Js B')) :
    ∀ (i : Nat) (x : List Int) (R : List (List Int)) (B M X : List (Nat × Obj)) (w : World), Ls.drop i = x :: R → J0 i B → Memo m mm M → St w0 w (X ++ (B ++ (M ++ F))) → FCon Tryz.prog yv [ia x] w fun v w' => ∃ B' M', Memo m mm M' ∧ St w0 w' (X ++ (B' ++ (M' ++ F))) ∧ (v = .bool true ∧ J0 (i + 1) B' ∨ v = .bool false ∧ Js0 B') := by
  intro i x R B M X w hd hJ hM hs
  have h := hy i (by simpa using zDm hd) (B ++ M) X w ((hJi _ _).2 ⟨B, M, rfl, hM, hJ⟩) (by rw [List.append_assoc]; exact hs)
  rw [List.getElem_map, drop_get1 hd] at h
  refine h.mono ?_
  rintro v w' ⟨Bx, hs', (⟨rfl, hj⟩ | ⟨rfl, hj⟩)⟩
  · obtain ⟨B', M', rfl, hM', hJ'⟩ := (hJi _ _).1 hj
    exact ⟨B', M', hM', by rw [List.append_assoc] at hs'; exact hs', .inl ⟨rfl, hJ'⟩⟩
  · obtain ⟨B', M', rfl, hM', hJ'⟩ := (hJs _).1 hj
    exact ⟨B', M', hM', by rw [List.append_assoc] at hs'; exact hs', .inr ⟨rfl, hJ'⟩⟩
theorem loads_iter {w0 : World} {F : List (Nat × Obj)} (m : Market) (p : At3) (mb mm : Nat) (hk : MK w0 F m p mb mm)  (sub : Nat) (hsub : sub < 1000) (x : List Int) (hgx : GoodX x 0) (bp bs bx : Nat) (h1 : Ats w0 F bp 0 [.pointer (some ⟨mb, 0, none⟩)]) (h5 : Ats w0 F bs 0 [.int .i64 (sub : Int)]) (h3 : Ats w0 F bx 0 (iv x)) : IterC Tryz.prog 84 [] [.pointer (some ⟨bp, 0, none⟩), .pointer (some ⟨bs, 0, none⟩), .pointer (some ⟨bx, 0, none⟩)] (((loadsX m sub m.trains.length x).map pad6).map ia) w0 F (ClsM (Memo m mm)) := by
  intro J Js hcl yv B X w hyv hy hJ hs
  obtain ⟨J0, Js0, hJi, hJs⟩ := hcl
  obtain ⟨yf, ya, yb, rfl⟩ := hyv
  obtain ⟨B0, M, rfl, hM, hJ0⟩ := (hJi 0 B).1 hJ
  replace hs : St w0 w (X ++ (B0 ++ (M ++ F))) := by rw [List.append_assoc] at hs; exact hs
  have hlt := hk.ok.lt
  have hxl := hgx.len
  show Con Tryz.prog 84 [.func yf ya yb, .pointer (some ⟨bp, 0, none⟩), .pointer (some ⟨bs, 0, none⟩), .pointer (some ⟨bx, 0, none⟩)] w _
  refine zAt (n := 13) func84 rfl rfl (zNl rfl) ?_
  refine zAe (fun K2 g4 => (zAa (zCa (v := .func _ _ _) (cs := [_]) zAc rfl rfl rfl hs (fun b3 w4 g5 => ?_))))
  refine zAd (zAb (g4 _ _ (zAe (fun K7 g6 => (zAa (zBf (cs := iv [0,0,0,0,0,0]) zAc zeroValue117 rfl g5 (fun b8 w9 g7 => ?_)))))))
  refine zBf (cs := iv [0,0,0,0,0,0]) zAc zeroValue117 rfl g7 (fun g8 gi g9 => ?_)
  refine zAd (zAb (g6 _ _ (zAe (fun gj ga => (zAa (w_p (zBr underlying117 sizeOf3 rfl rfl rfl rfl (i := 0) rfl (by omega)) rfl (zC0 (i := 0) (j := 0) zAc sizeOf3 rfl rfl rfl rfl g9 rfl (by first | omega | rfl | (simp only [hxl, zL] <;> omega)) (fun gk gb => ?_))))))))
  refine zAd (zAb (ga _ _ (zAe (fun gm gc => (zAa (zBf (cs := [_]) zAc zeroValue149 rfl gb (fun gd gn gf => ?_)))))))
  refine zAd (zAb (gc _ _ (zAe (fun gq gg => (zAa (w_p (zCc (fv := []) (cv := [_,_,_,_,_,_]) rfl rfl rfl rfl) rfl (zA6 (i := 0) (v := .func _ _ _) (vs := [_]) zAc sizeOf149 rfl rfl rfl rfl rfl (by simp [Value.oneCell']) gf rfl (zNl rfl) (fun gr g0 => ?_))))))))
  refine zAd (zAb (gg _ _ (zAa (w_p (zAj isAgg149 g0 rfl rfl (zAk (i := 0) (vs := [_]) rfl rfl)) rfl (w_p (zA4 (vs := iv _) isAgg115 (fun w => by rw [show (iv _).length = 8 from (by first | omega | rfl | (simp only [hxl, zL] <;> omega))]; exact sizeOf115 w) g0.tail.tail.tail.tail.drop.drop.drop rfl rfl h3) rfl ?_)))))
  refine zAr zAc call85 rfl rfl rfl rfl (next_all m p mb mm hk sub bp b8 g8 b3 bs gd hsub h1 h5 ((loadsX m sub m.trains.length x).map pad6) allLoads_nodup J0 Js0 (.func yf ya yb) (iter_memo hJi hJs hy) m.trains.length 0 [] (List.replicate 6 0) [-1,0,0,0,0,0] 0 [] x B0 M X _ (by omega) rfl rfl rfl (fun j _ => by match j with | 0 => rfl | 1 => rfl | 2 => rfl | 3 => rfl | 4 => rfl | 5 => rfl | _ + 6 => rfl) hgx (by omega) (by rw [List.append_nil]; rfl) rfl (by rw [List.drop_zero]; exact start_last) hJ0 hM g0) ?_
  rintro _ gt ⟨cur2, last2, B2, M2, _,_,_,_, g3, gh, hB2⟩
  refine zAd (q_end (l := []) (vs := []) rfl trivial ?_)
  refine ⟨B2 ++ M2, by rw [List.append_assoc]; exact gh.tail.tail.tail.tail, ?_⟩
  rcases hB2 with ⟨_, i', hi', hd', _, hJ'⟩ | ⟨_, hJ'⟩
  · left; rw [List.length_map, ← drop_done hi' hd']; exact (hJi _ _).2 ⟨B2, M2, rfl, g3, hJ'⟩
  · exact .inr ((hJs _).2 ⟨B2, M2, rfl, g3, hJ'⟩)

theorem c47 {w0 w : World} {F : List (Nat × Obj)} (mb : Nat) (x : List Int) (hx8 : x.length = 8) (z : Int) (hs : St w0 w F) :
  Con Tryz.prog 47 [.pointer (some ⟨mb, 0, none⟩), ia x, .int .i64 z] w fun v w' => ∃ bp bx bs, v = .func (.func 84) #[] #[.pointer (some ⟨bp, 0, none⟩), .pointer (some ⟨bs, 0, none⟩), .pointer (some ⟨bx, 0, none⟩)] ∧ St w0 w' ((bs, blk 3 [.int .i64 z]) :: (bx, blk 115 (iv x)) :: (bp, blk 105 [.pointer (some ⟨mb, 0, none⟩)]) :: F) := by
  refine zAt (n := 8) func47 rfl rfl (zNl rfl) ?_
  refine zAe (fun K2 g0 => (zAa (zCa (v := .pointer _) (cs := [_]) zAc rfl rfl rfl hs (fun b3 w4 g3 => ?_))))
  refine w_boxI (l := _) zAc rfl rfl rfl g3 (fun b6 w7 g4 => ?_)
  refine zCa (v := .int _ _) (cs := [_]) zAc rfl rfl rfl g4 (fun b9 g7 g5 => ?_)
  refine zA5 rfl rfl (zAd (zAb (g0 _ _ (zAe (fun g8 g6 => (zAa (w_p (zCc (fv := []) (cv := [_,_,_]) rfl rfl rfl rfl) rfl (w_p (zAo (v := .func _ _ _) rfl rfl) rfl ?_))))))))
  refine zAd (zAb (g6 _ _ (zAy (zA1 (l := [.tmp 6]) (vs := [_]) rfl ⟨⟨rfl, show _ = (.func _ _ _ : Value) from rfl⟩, trivial⟩ ?_))))
  exact ⟨_, _,_, rfl, g5⟩

end Go.Proofs.Sb
set_option maxRecDepth 20000
namespace Go.Proofs.Sb
open Go.Proofs.Tryz
open Go.Rt Go.Rt.Sh
attribute [local irreducible] WL WC Con Yd At Ats Sl Agree DW

theorem giveP_1 {m : Market} (h : (check m).2.2 ≠ 0) : giveP m = ([], (check m).2.2) := by unfold giveP; rw [if_pos h]
theorem giveP_2 {m : Market} (h : (check m).2.2 = 0) : giveP m = (giveL m, 0) := by unfold giveP; rw [if_neg (by simp [h])]
theorem give_perm {s x p c k u v : Nat × Obj} (B M F : List (Nat × Obj)) : (s :: x :: p :: c :: k :: (B ++ (M ++ (u :: v :: F)))).Perm (([c, k] ++ M) ++ (s :: x :: p :: (B ++ (u :: v :: F)))) := by
  have h1 : (s :: x :: p :: c :: k :: (B ++ (M ++ (u :: v :: F)))).Perm (c :: k :: s :: x :: p :: (B ++ (M ++ (u :: v :: F)))) := zBc [s, x, p] [c, k] (B ++ (M ++ (u :: v :: F)))
  refine h1.trans ?_
  show (c :: k :: s :: x :: p :: (B ++ (M ++ (u :: v :: F)))).Perm (c :: k :: (M ++ (s :: x :: p :: (B ++ (u :: v :: F)))))
  refine List.Perm.cons _ (List.Perm.cons _ ?_)
  have h2 := zBc (s :: x :: p :: B) M (u :: v :: F)
  simpa using h2
theorem give_fin {w0 w : World} {a b c x y z u v : Nat × Obj} {M B F : List (Nat × Obj)} (h : St w0 w (a :: b :: c :: (M ++ (x :: y :: z :: (B ++ (u :: v :: F)))))) : St w0 w ([c] ++ F) := by
  have e : (a :: b :: c :: (M ++ (x :: y :: z :: (B ++ (u :: v :: F))))) = [a, b] ++ ([c] ++ ((M ++ (x :: y :: z :: (B ++ [u, v]))) ++ F)) := by simp
  rw [e] at h
  have h1 := (h.drop).perm (zBc [c] (M ++ (x :: y :: z :: (B ++ [u, v]))) F)
  exact h1.drop
theorem c11 {w0 w : World} {F : List (Nat × Obj)} (m : Market) (p : At3) (hm : MIn w0 F m p)  (hs : St w0 w F) :
  Con Tryz.prog 11 [.agg (m.cells p).toArray] w fun v w' => ∃ B a c, v = .tuple #[.slice a (giveP m).1.length c, .int .i64 (giveP m).2] ∧ Sl w0 B a 1 ((giveP m).1.map fun x => [Value.int .i64 x]) ∧ St w0 w' (B ++ F) := by
  refine zFb (n := 50) func11 rfl rfl (zNl rfl) ?_
  have hlt0 := hm.lt
  refine zAe (fun K2 gg => (zAa (zCa (v := .agg #[.slice _ _ _, .slice _ _ _, .slice _ _ _]) (cs := [_,_,_]) zAc rfl rfl rfl hs (fun b3 w4 gb => ?_))))
  refine zA5 rfl rfl (zA5 rfl rfl (zAd (zAb (gg _ _ (zAe (fun K7 gc => (zAa (w_p (zA4 (vs := [_,_,_]) isAgg31 sizeOf31 gb rfl rfl (zAk (i := 0) (vs := [_,_,_]) rfl rfl)) rfl ?_))))))))
  refine zAr zAc call45 rfl rfl rfl rfl (c45 m p hm.cons 0 (by omega) (by omega) none 0 [] (by simp) (Sl.nil _ _) gb) ?_
  rintro _ w9 (⟨hee, rfl, g3⟩ | ⟨hee, mb, mm, M, rfl, hM, g3⟩)
  ·
   refine w_p (zAi (v := .tuple _) rfl rfl) rfl (w_p (zAp (v := .pointer _) rfl rfl rfl) rfl (w_p (zAp (v := .int _ _) rfl rfl rfl) rfl (w_p (zAo (v := .pointer _) rfl rfl) rfl (zBe rfl rfl (zAd (zAb (gc _ _ (zAe (fun gQ gR => (zAe (fun gS gh => (zAa (zAz rfl rfl ?_)))))))))))))
   refine w_p (zB2 rfl rfl rfl rfl) rfl (zAd (zAb (gh _ _ (zAu rfl rfl (fun g5 => ?_) (fun g5 => ?_)))))
   ·
    try simp only [zS] at g5
    refine zAe (fun gU gi => (zAa (zAz rfl rfl (zA5 rfl rfl (zBe rfl rfl (zAd (zAb (gi _ _ (zAy (zAg (zJa (l := [.tmp 2, .tmp 3]) (vs := [_,_]) rfl ⟨⟨rfl, show _ = (.slice _ _ _ : Value) from rfl⟩, ⟨rfl, (rfl : _ = Value.int _ _)⟩, trivial⟩ ?_)))))))))))
    exact ⟨[], none, 0, by rw [giveP_1 (by rw [← zEv (n := 0)]; exact hee), ← zEv (n := 0)]; rfl, by rw [giveP_1 (by rw [← zEv (n := 0)]; exact hee)]; exact Sl.nil _ _, g3.tail⟩
   exfalso
   try simp only [zS] at g5
   first | exact hee g5 | exact g5 hee
  replace g3 := (show St _ _ (M ++ (_ :: _ :: F)) from g3)
  have hk : MK w0 ((mb, blk 147 [.slice p.ar m.rooms.length p.cr, .slice p.az m.shops.length p.cs, .slice p.at_ m.trains.length p.ct, .map (some mm)]) :: (b3, blk 31 (m.cells p)) :: F) m p mb mm := ⟨hm.cons.cons, zAk (i := 0) (vs := [_,_,_,_]) rfl rfl, check_ok (zC8 hee)⟩
  have hlr := hk.ok.lr
  have hls := hk.ok.ls
  have hlt := hk.ok.lt
  have hbx : Ats w0 ((b3, blk 31 (m.cells p)) :: F) b3 0 (m.cells p) := zAk (i := 0) rfl rfl
  refine w_p (zAi (v := .tuple _) rfl rfl) rfl (w_p (zAp (v := .pointer _) rfl rfl rfl) rfl (w_p (zAp (v := .int _ _) rfl rfl rfl) rfl (w_p (zAo (v := .pointer _) rfl rfl) rfl (zBe rfl rfl (zAd (zAb (gc _ _ (zAe (fun gV gj => (zAe (fun gW gk => (zAa (zAz rfl rfl ?_)))))))))))))
  refine w_p (zB2 rfl rfl rfl rfl) rfl (zAd (zAb (gk _ _ (zBx rfl rfl ?_))))
  refine zAs (zAb (gj _ _ (zAe (fun gX gm => ?_))))
  have hsa := shl_all hls
  refine zAa (w_p (zAf (o := 1) (i := 1) underlying31 rfl sizeOf28 rfl rfl rfl) rfl (w_p (zAj isAgg28 g3.drop.tail rfl rfl (show Ats _ _ _ _ [_] from Ats.part hbx 1 1)) rfl (w_p (zA8 underlying28 rfl rfl) rfl (w_p (zI1 (x := 1) (y := _) rfl rfl rfl rfl rfl rfl (by first | omega | exact zBo (by omega)) (by first | omega | exact zBo (by omega))) rfl ?_))))
  refine w_p (zGt (z' := ((1 <<< m.shops.length - 1 : Nat) : Int)) (by omega) (zE0 rfl rfl rfl rfl (by omega) (by omega))) rfl (zBe rfl rfl (zAd (zAb (gm _ _ (zAe (fun gY gn => (zAe (fun gZ gq => (zAa (w_p (zAi (v := .pointer _) rfl rfl) rfl ?_))))))))))
  refine zAr zAc call46 rfl rfl rfl rfl (c46 (X := []) m p mb mm hk  hM g3) ?_
  rintro _ hD ⟨g4, al_B32, cl_B32, M31, rfl, hsl_B32, gr, g7⟩
  replace g7 := (show St _ _ (g4 ++ (M31 ++ (_ :: _ :: F))) from g7)
  refine w_p (zA8 underlying43 rfl rfl) rfl (w_p (zAi (v := _) rfl rfl) rfl (zAd (zAb (gq _ _ (zAw ?_)))))
  refine zBs [6,8,27,28,29,30,31,32,33,34,35] [6,27] (fun k vs w => ∃ i s : Nat, vs = [.int .i64 s, .int .i64 i] ∧ s < 1000 ∧ i ≤ (withoutL m).length ∧ k = (withoutL m).length - i ∧ giveSub (1 <<< m.shops.length - 1) (withoutL m) = giveSub s ((withoutL m).drop i) ∧ St w0 w (g4 ++ (M31 ++ ((mb, blk 147 [.slice p.ar m.rooms.length p.cr, .slice p.az m.shops.length p.cs, .slice p.at_ m.trains.length p.ct, .map (some mm)]) :: (b3, blk 31 (m.cells p)) :: F)))) ((withoutL m).length) ?_ ?_
  ·
   exact ⟨0, _, rfl, by omega, by omega, by omega, rfl, g7⟩
  intro k vs μ hG hI hH gt
  obtain ⟨i, s, rfl, hs1k, hia, rfl, hgs, hs⟩ := hI
  refine zAe (fun hO gu => (zAa (w_p (zBw rfl rfl rfl rfl) rfl (zAd (zAb (gu _ _ (zAe (fun hX gv => (zAu rfl rfl (fun g8 => ?_) (fun g8 => ?_))))))))))
  ·
   try simp only [zS] at g8
   refine zAs (zAb (gv _ _ (zAe (fun hY gw => (zAw ?_)))))
   refine zAe (fun j0 gx => ?_)
   have hwl : (withoutL m).length ≤ m.shops.length := zF9 m _
   have hi2 : i < (withoutL m).length := by omega
   obtain ⟨bl, ol, hbl, hxl⟩ := zC9 hsl_B32.top hi2
   subst hbl
   have hin := zJz m _ _ (List.getElem_mem hi2)
   have hsm := shl_small (x := ((withoutL m)[i]'hi2).toNat) (by omega)
   refine zAa (w_p (zA3 underlying43 sizeOf3 rfl rfl rfl rfl (i := _) rfl (by omega)) rfl (w_p (zAj isAgg3 hs rfl rfl hxl) rfl (zBe rfl rfl (zAd (zAb (gx _ _ (zAa (zAz rfl rfl (zAz rfl rfl (w_p (zI1 (x := 1) (y := ((withoutL m)[i]'hi2).toNat) rfl rfl rfl rfl rfl (by first | rfl | omega) (by first | omega | exact zBo (by omega)) (by first | omega | exact zBo (by omega))) rfl ?_))))))))))
   refine w_p (zKe (x := s) (y := 1 <<< ((withoutL m)[i]'hi2).toNat) rfl rfl rfl rfl (by first | rfl | omega) (by first | rfl | omega) (by first | omega | exact zBo (by omega))) rfl ?_
   refine zBe rfl rfl (zAd (zAl (zAb (gw _ _ (zAa (w_p (zBg rfl rfl rfl rfl (by omega) (by omega)) rfl (zAz rfl rfl (zAd (zAb (gt _ _ (nxI ((withoutL m).length - (i + 1)) (by omega) ?_)))))))))))
   have hle := bitDiff_le s (1 <<< (withoutL m)[i].toNat) (by omega)
   exact ⟨i + 1, _, rfl, by omega, by omega, rfl, hgs.trans (giveSub_step hi2), hs⟩
  try simp only [zS] at g8
  refine zBl (zAm (zAm (zA0 (zAb (gn _ _ (zAe (fun j1 gy => ?_)))))))
  have hsub : giveSub (1 <<< m.shops.length - 1) (withoutL m) = s := hgs.trans (giveSub_end (by omega))
  have hsub2 : giveSub (1 <<< m.shops.length - 1) (withoutL m) < 1000 := by omega
  subst hsub
  refine zAa (w_p (zAf (o := 2) (i := 2) underlying31 rfl sizeOf29 rfl rfl rfl) rfl (w_p (zAj isAgg29 hs.drop.drop.tail rfl rfl (show Ats _ _ _ _ [_] from Ats.part hbx 2 1)) rfl (w_p (zA8 underlying29 rfl rfl) rfl (zG6 (k := m.trains.length) zAc underlying43 zDb rfl rfl (by omega) rfl rfl rfl rfl rfl hs (fun g0 j2 gz => ?_)))))
  refine zBf (cs := [_]) zAc zeroValue43 rfl gz (fun g6 j3 gA => ?_)
  refine zA6 (i := 0) (v := .slice _ _ _) (vs := [_]) zAc sizeOf43 rfl rfl rfl rfl rfl (by simp [Value.oneCell']) gA rfl (zNl rfl) (fun j4 gB => ?_)
  refine zAd (zAb (gy _ _ (zAe (fun j5 gd => (zAe (fun j6 gC => (zAa (w_p (zAi (v := .pointer _) rfl rfl) rfl (w_p (zAi (v := .pointer _) rfl rfl) rfl ?_)))))))))
  refine zAr zAc call48 rfl rfl rfl rfl (c48 m p mb mm hk.app.app.cons.cons _ gB) ?_
  rintro _ j7 ⟨rfl, gE⟩
  refine zAz rfl rfl (zAr zAc call47 rfl rfl rfl rfl (c47 _ _ (zDt _ _) _ gE) ?_)
  rintro _ j8 ⟨bp, bx, bs, rfl, gF⟩
  refine zAd (zAb (gC _ _ (zAw ?_)))
  refine w_rangeC ([_,_] ++ M31) (fun i Bx => ∃ B M, Bx = B ++ M ∧ Memo m mm M ∧ i = 0 ∧ B = [(g6, blk 43 [.slice (some ⟨g0,0, none⟩) m.trains.length m.trains.length]), (g0, blk 3 (iv (List.replicate m.trains.length 0)))]) (fun c Bx => ∃ B M, Bx = B ++ M ∧ Memo m mm M ∧ c = .exit 2 ∧ B = [(g6, blk 43 [.slice (some ⟨g0,0, none⟩) m.trains.length m.trains.length]), (g0, blk 3 (iv (giveL m)))]) rfl rfl rfl call84 (loads_iter m p mb mm hk.app.cons.cons.cons _ hsub2 _ (allX_good hk.ok false) bp bs bx (zAk (i := 2) (vs := [_]) rfl rfl) (zAk (i := 0) (vs := [_]) rfl rfl) (zAk (i := 1) (vs := iv _) rfl (by rw [List.drop_zero, List.take_length]))) (clsM_range (fun i B => i = 0 ∧ B = [(g6, blk 43 [.slice (some ⟨g0,0, none⟩) m.trains.length m.trains.length]), (g0, blk 3 (iv (List.replicate m.trains.length 0)))]) (fun c B => c = .exit 2 ∧ B = [(g6, blk 43 [.slice (some ⟨g0,0, none⟩) m.trains.length m.trains.length]), (g0, blk 3 (iv (giveL m)))]) (fun i Bx => Iff.rfl) (fun c Bx => Iff.rfl)) gF (give_perm _ _ _) ⟨_, M31, rfl, gr, rfl, rfl⟩ ?_ ?_ ?_
  ·
   intro lp i hi Bx Xr Xr2 j9 hJ hs K gG
   obtain ⟨BB, M3, rfl, g9, rfl, rfl⟩ := hJ
   rw [List.getElem_map]
   have hi2 : 0 < (allLoads m).length := by simpa [allLoads] using hi
   have hl6 := zJ7 hk.ok _ (List.getElem_mem hi2)
   have hcp := giveL_copy hk.ok hi2
   change WC _ _ _ _ (A _ (upd _ _ (ia (allLoads m)[0])) _) _
   obtain ⟨l0, hl0⟩ : ∃ l0, l0 = (allLoads m)[0] := ⟨_, rfl⟩
   rw [← hl0] at hl6 hcp ⊢
   replace hs := (show St _ _ (_ :: _ :: (M3 ++ (Xr ++ (_ :: _ :: _ :: (g4 ++ (_ :: _ :: F)))))) from hs)
   refine zAa (zBf (cs := iv [0,0,0,0,0,0]) zAc zeroValue117 rfl hs (fun ja jb gH => ?_))
   refine zDf (i := 0) (l := _) zAc sizeOf117 (by first | omega | rfl | (simp only [zDt, zL] <;> omega)) rfl rfl rfl rfl rfl gH rfl (by first | omega | rfl | (simp only [zDt, zL] <;> omega)) (fun jc gI => ?_)
   refine zAd (zAb (gG _ _ (_ :: _ :: _ :: M3) gI (fun jd ga => ?_)))
   replace ga := (show St _ _ (_ :: _ :: _ :: M3 ++ (Xr2 ++ (_ :: _ :: _ :: g4 ++ (_ :: _ :: F)))) from ga)
   refine zAw ?_
   refine zAe (fun je gJ => (zCn [2] [(0,1),(1,0),(2,3)] zCb (by kernel_rfl) ga (fun jf gf => ?_)))
   refine zBd rfl zAc rfl gf (fun _ hq => (zAj isAgg43 hq rfl rfl (zAk (i := 1) (vs := [_]) rfl rfl))) ?_
   refine d_w rfl (fun _ => y_sliceA underlying117 sizeOf3 rfl rfl) rfl ?_
   refine zDc rfl ?_
   refine w_copyI (i := 2) zAc underlying43 sizeOf3 rfl rfl rfl rfl gf rfl (zEa (i := 0) rfl) (by first | omega | rfl | (simp only [zDt, zL] <;> omega)) (by first | omega | rfl | (simp only [zDt, zL] <;> omega)) (fun jg gK => ?_)
   refine zAd (qn ?_)
   refine zCf ?_
   refine zAb (gJ _ _ (zBl (q_blk_other rfl ?_)))
   refine rd_exit (_ :: _ :: M3) gK.tail ?_
   exact ⟨[_,_], M3, rfl, g9, rfl, by rw [hcp]⟩
  ·
   intro bd Bx jh hJ hs
   obtain ⟨BB, M3, rfl, g9, hi0, rfl⟩ := hJ
   replace hs := (show St _ _ (_ :: _ :: _ :: (M3 ++ (_ :: _ :: _ :: (g4 ++ (_ :: _ :: F))))) from hs)
   have hgl : giveL m = List.replicate m.trains.length 0 := giveL_nil (by simpa [allLoads] using hi0)
   rw [← hgl] at hs
   refine zAl (zAb (gd _ _ (zAe (fun ji gL => (zAa (w_p (zAj isAgg43 hs rfl rfl (zAk (i := 1) (vs := [_]) rfl rfl)) rfl (w_p (zAo (v := .slice _ _ _) rfl rfl) rfl ?_)))))))
   refine zA5 rfl rfl (zAd (zAb (gL _ _ (zAy (zHm (i := 0) (l := [.tmp 2, .tmp 3]) (vs := [_,_]) hs rfl rfl (fun jj gM => ⟨⟨⟨rfl, show _ = (.slice _ _ _ : Value) from rfl⟩, ⟨rfl, (rfl : _ = Value.int _ _)⟩, trivial⟩, ?_⟩))))))
   exact ⟨[_], _,_, by rw [giveP_2 (zC8 hee), giveL_len hk.ok]; rfl, by rw [giveP_2 (zC8 hee)]; exact zEa (i := 0) rfl, give_fin gM⟩
  intro bd c Bx jk hJ hs
  obtain ⟨BB, M3, rfl, g9, rfl, rfl⟩ := hJ
  replace hs := (show St _ _ (_ :: _ :: _ :: (M3 ++ (_ :: _ :: _ :: (g4 ++ (_ :: _ :: F))))) from hs)
  refine zBl (zA0 (zAb (gd _ _ (zAe (fun jl gN => (zAa (w_p (zAj isAgg43 hs rfl rfl (zAk (i := 1) (vs := [_]) rfl rfl)) rfl (w_p (zAo (v := .slice _ _ _) rfl rfl) rfl ?_))))))))
  refine zA5 rfl rfl (zAd (zAb (gN _ _ (zAy (zHm (i := 0) (l := [.tmp 2, .tmp 3]) (vs := [_,_]) hs rfl rfl (fun jm gP => ⟨⟨⟨rfl, show _ = (.slice _ _ _ : Value) from rfl⟩, ⟨rfl, (rfl : _ = Value.int _ _)⟩, trivial⟩, ?_⟩))))))
  exact ⟨[_], _,_, by rw [giveP_2 (zC8 hee), giveL_len hk.ok]; rfl, by rw [giveP_2 (zC8 hee)]; exact zEa (i := 0) rfl, give_fin gP⟩

end Go.Proofs.Sb
