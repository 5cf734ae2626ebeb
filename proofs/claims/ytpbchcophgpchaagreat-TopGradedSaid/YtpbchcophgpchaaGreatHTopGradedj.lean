/- Own texts of this claim, joined. No conditions. -/
import Derived.Test.YtpbchcophgpchaaGreatRows
import Derived.Test.YtpbchcophgpchaaGreatHTopGradeda
import Derived.Test.YtpbchcophgpchaaGreatHTopGradedb
import Derived.Test.YtpbchcophgpchaaGreatHTopGradedc
import Derived.Test.YtpbchcophgpchaaGreatHTopGradedd
import Derived.Test.YtpbchcophgpchaaGreatHTopGradede
import Derived.Test.YtpbchcophgpchaaGreatHTopGradedf
import Derived.Test.YtpbchcophgpchaaGreatHTopGradedg
import Derived.Test.YtpbchcophgpchaaGreatHTopGradedh
import Derived.Test.YtpbchcophgpchaaGreatHTopGradedi
set_option linter.unusedVariables false
set_option linter.unusedSimpArgs false
set_option maxRecDepth 20000
set_option maxHeartbeats 1600000
namespace Go.Proofs.Tg
open Go.Proofs.Tryz
open Go.Rt Go.Rt.Ha Go.Rt.Tg Go.Proofs.Hn
attribute [local irreducible] WL WC Con Yd At Ats Sl Agree DW
theorem Try_TB_fb1  (w : World) : (Instr.buildSlice 29 0 [].toArray).run Tryz.prog w = .ok (.slice (some ⟨w.heap.size, 0, none⟩) 0 0) (w.alloc (Go.Rt.blk 48 [])) := by kernel_rfl
theorem Try_info48 : Tryz.prog.info? 48 = some Tryz.t48 := by kernel_rfl
theorem Try_TB_fb3 (x0 : Int) (w : World) : (Instr.buildSlice 43 1 [(0, .int .i64 x0)].toArray).run Tryz.prog w = .ok (.slice (some ⟨w.heap.size, 0, none⟩) 1 1) (w.alloc (Go.Rt.blk 3 [.int .i64 x0])) := by kernel_rfl
theorem frow6 (l : List Ca.Farm) : ∀ row ∈ Ca.rows l, row.length = 6 := by intro row h; obtain ⟨x, _, rfl⟩ := List.mem_map.1 h; rfl
theorem own_isl {w0 : World} {a : Option Addr} {n c : Nat} {l : List Int} {B : List (Nat × Obj)} (h : Rt.Own (.slice a n c) 3 1 n (iv l) B) (hl : l.length = n) : Sl w0 B a 1 (l.map fun x => [Value.int .i64 x]) := by
  subst hl
  obtain ⟨a', c', h1, h2, _⟩ := own_ints (w0 := w0) h
  injection h1 with e1 e2 e3
  subst e1; exact h2
theorem own_gr {v : Value} {l : Lot} {h : List Int} {sc : Nat → Int} {i : Nat} {B : List (Nat × Obj)} (hw : Rt.Own v 3 1 (i + 1) (iv (ownL l h sc i) ++ [[Value.int .i64 (ofSum l h sc ((gradeAt l i : Nat) : Int) l.bunches.length)]].flatten) B) : Rt.Own v 3 1 (i + 1) (iv (ownL l h sc (i + 1))) B := by
  rw [Tg.own_next]; simpa [iv] using hw
theorem perm_hb {w0 w : World} {x y z : Nat × Obj} {H B R : List (Nat × Obj)} (h : St w0 w (x :: y :: z :: (H ++ (B ++ R)))) : St w0 w (x :: y :: z :: (B ++ (H ++ R))) := St.perm (L := [x, y, z] ++ (H ++ (B ++ R))) h ((zBe H B R).append_left [x, y, z])
theorem ats_castG {w0 : World} {L : List (Nat × Obj)} {b o : Nat} {vs vs2 : List Value} (h : Ats w0 L b o vs) (e : vs2 = vs) : Ats w0 L b o vs2 := by rw [e]; exact h
theorem c3 {w0 w : World} {F : List (Nat × Obj)} (l : Lot) (q : At3) (hm : LIn w0 F l q) (p : Ca.Port) (a : Option Addr) (c : Nat) (hl3 : p.farms.length ≤ 9223372036854775807) (hc : p.farms.length ≤ c) (hnil : a = none → c = 0) (ha : Sl w0 F a 6 (Ca.rows p.farms)) (hnm : ∀ f ∈ p.farms, f.name.size ≤ 9223372036854775807) (z : Int) (hz : 0 ≤ z ∧ z ≤ 65535) (ay : Option Addr) (cy : Nat) (y : List Int) (hyl : y.length ≤ 9223372036854775807) (hys : Sl w0 F ay 1 (y.map fun n => [Value.int .u8 n])) (hyr : ∀ z ∈ y, 0 ≤ z ∧ z ≤ 255) (d : Int) (hd : 0 ≤ d ∧ d ≤ 255) (hs : St w0 w F) :
  Con Tryz.prog 3 [.agg (l.cells q).toArray, .agg (p.cells a c).toArray, .agg #[.int .u16 z, .slice ay y.length cy, .int .u8 d]] w fun v w' => v = .bool true ∧ St w0 w' F := by
  refine zAw (n := 189) func3 rfl rfl (Nat.le_of_ble_eq_true rfl) ?_
  refine zAg (fun K2 hK1 => ?_)
  refine zAb (zB3 (v := .agg #[.slice _ _ _, .slice _ _ _, .slice _ _ _]) (cs := [_, _, _]) zAa rfl rfl rfl hs (fun b3 w4 hs5 => ?_))
  refine zB3 (v := .agg #[.int _ _, .int _ _, .int _ _, .slice _ _ _]) (cs := [_, _, _, _]) zAa rfl rfl rfl hs5 (fun b6 w7 hs8 => ?_)
  refine zB3 (v := .agg #[.int _ _, .slice _ _ _, .int _ _]) (cs := [_, _, _]) zAa rfl rfl rfl hs8 (fun b9 w10 hs11 => ?_)
  refine w_p (zAc (v := _) rfl rfl) rfl ?_
  refine zAf (zAd (hK1 _ _ ?_))
  refine zAg (fun K13 hK12 => ?_)
  refine zAb (w_p (zA6 (vs := [_, _, _]) isAgg26 sizeOf26 hs11 rfl rfl (zAj (i := 2) (vs := [_, _, _]) rfl rfl)) rfl ?_)
  refine zAt zAa call4 rfl rfl rfl rfl (c4 l q hm.cons.cons.cons hs11) ?_
  rintro _ w15 ⟨rfl, hs16⟩
  refine w_p (zAe (v := .tuple _) rfl rfl) rfl ?_
  refine w_p (zAq (v := .int _ _) rfl rfl rfl) rfl ?_
  refine w_p (zAq (v := .int _ _) rfl rfl rfl) rfl ?_
  refine w_p (zAq (v := .int _ _) rfl rfl rfl) rfl ?_
  refine w_p (zAc (v := .int _ _) rfl rfl) rfl ?_
  refine w_p (zAc (v := .int _ _) rfl rfl) rfl ?_
  refine w_p (zAc (v := .int _ _) rfl rfl) rfl ?_
  refine zAf (zAd (hK12 _ _ ?_))
  refine zAg (fun K18 hK17 => ?_)
  refine zAb (w_p (zA6 (vs := [_, _, _, _]) isAgg31 sizeOf31 hs16 rfl rfl (zAj (i := 1) (vs := [_, _, _, _]) rfl rfl)) rfl ?_)
  refine zAt zAa call5 rfl rfl rfl rfl (Cb.c5 p _ _ (by omega) (by omega) ha.cons.cons.cons hnm hs16) ?_
  rintro _ w20 ⟨rfl, hs21⟩
  refine w_p (zAe (v := .tuple _) rfl rfl) rfl ?_
  refine w_p (zAq (v := .int _ _) rfl rfl rfl) rfl ?_
  refine w_p (zAq (v := .int _ _) rfl rfl rfl) rfl ?_
  refine w_p (zAq (v := .int _ _) rfl rfl rfl) rfl ?_
  refine w_p (zAc (v := .int _ _) rfl rfl) rfl ?_
  refine w_p (zAc (v := .int _ _) rfl rfl) rfl ?_
  refine w_p (zAc (v := .int _ _) rfl rfl) rfl ?_
  refine zAf (zAd (hK17 _ _ ?_))
  refine zAg (fun K23 hK22 => ?_)
  refine zAg (fun K25 hK24 => ?_)
  refine zAb (w_p (zAe (v := .int _ _) rfl rfl) rfl ?_)
  refine w_p (zCc rfl rfl rfl rfl) rfl ?_
  refine w_p (zAe (v := .bool _) rfl rfl) rfl ?_
  refine zBi (fun h26 => ?_) (fun h26 => ?_)
  ·
   try simp only [zS] at h26
   refine zAi rfl rfl rfl ?_
   refine zAi rfl rfl rfl ?_
   refine w_p (zA0 (v := _) rfl rfl rfl rfl) rfl ?_
   refine w_p (zAe (v := .bool _) rfl rfl) rfl ?_
   refine zAi rfl rfl rfl ?_
   refine zAi rfl rfl rfl ?_
   refine zAi rfl rfl rfl ?_
   refine zAi rfl rfl rfl ?_
   refine w_p (zA0 (v := _) rfl rfl rfl rfl) rfl ?_
   refine zAf (zAd (hK24 _ _ ?_))
   refine zCg rfl rfl ?_
   refine zAg (fun K28 hK27 => ?_)
   refine zAb (zAt zAa call7 rfl rfl rfl rfl (c7 hs21) ?_)
   rintro _ w30 ⟨rfl, hs31⟩
   refine w_p (zAe (v := .bool _) rfl rfl) rfl ?_
   refine zAt (zAn rfl rfl rfl) call8 rfl rfl rfl rfl (Cb.c8 hs31) ?_
   rintro _ w33 ⟨rfl, hs34⟩
   refine w_p (zA0 (v := .bool _) rfl rfl rfl rfl) rfl ?_
   refine w_p (zAc (v := .bool _) rfl rfl) rfl ?_
   refine zAf (zAd (hK27 _ _ ?_))
   refine zA2 (zAm (zA3 (l := [.tmp 6]) (vs := [_]) rfl ⟨⟨rfl, (rfl : _ = Value.bool _)⟩, trivial⟩ ?_))
   exact ⟨rfl, hs34.tail.tail.tail⟩
  try simp only [zS] at h26
  refine w_y rfl rfl rfl (zAe (v := .int _ _) rfl rfl) rfl ?_
  refine w_y rfl rfl rfl (zCc rfl rfl rfl rfl) rfl ?_
  refine w_p (zBb (v := .bool _) rfl rfl rfl rfl) rfl ?_
  refine w_p (zAe (v := .bool _) rfl rfl) rfl ?_
  refine zBi (fun h35 => ?_) (fun h35 => ?_)
  ·
   try simp only [zS] at h35
   refine zAi rfl rfl rfl ?_
   refine zAi rfl rfl rfl ?_
   refine zAi rfl rfl rfl ?_
   refine zAi rfl rfl rfl ?_
   refine w_p (zA0 (v := _) rfl rfl rfl rfl) rfl ?_
   refine zAf (zAd (hK24 _ _ ?_))
   refine zCg rfl rfl ?_
   refine zAg (fun K37 hK36 => ?_)
   refine zAb (zAt zAa call7 rfl rfl rfl rfl (c7 hs21) ?_)
   rintro _ w39 ⟨rfl, hs40⟩
   refine w_p (zAe (v := .bool _) rfl rfl) rfl ?_
   refine zAt (zAn rfl rfl rfl) call8 rfl rfl rfl rfl (Cb.c8 hs40) ?_
   rintro _ w42 ⟨rfl, hs43⟩
   refine w_p (zA0 (v := .bool _) rfl rfl rfl rfl) rfl ?_
   refine w_p (zAc (v := .bool _) rfl rfl) rfl ?_
   refine zAf (zAd (hK36 _ _ ?_))
   refine zA2 (zAm (zA3 (l := [.tmp 6]) (vs := [_]) rfl ⟨⟨rfl, (rfl : _ = Value.bool _)⟩, trivial⟩ ?_))
   exact ⟨rfl, hs43.tail.tail.tail⟩
  try simp only [zS] at h35
  refine w_y rfl rfl rfl (zA6 (vs := [_, _, _]) isAgg26 sizeOf26 hs21 rfl rfl (zAj (i := 2) (vs := [_, _, _]) rfl rfl)) rfl ?_
  refine zAt (zAn rfl rfl rfl) call6 rfl rfl rfl rfl ((by have h := c6 l q hm.cons.cons.cons (Ha.check_ok (by assumption)) none 0 [] (by simp) (Sl.nil _ _) hs21; rw [waysR_nil] at h; exact h)) ?_
  rintro _ w45 ⟨WB, wv, aW, cW, rfl, hslW, helW, hs46⟩
  replace hs46 := (show St _ _ (WB ++ (_ :: _ :: _ :: F)) from hs46)
  refine w_y rfl rfl rfl (zBd underlying40 rfl rfl) rfl ?_
  refine w_y rfl rfl rfl (zBy rfl rfl rfl rfl) rfl ?_
  refine w_p (zBb (v := .bool _) rfl rfl rfl rfl) rfl ?_
  refine zAf (zAd (hK24 _ _ ?_))
  refine zAz rfl rfl (fun h47 => ?_) (fun h47 => ?_)
  ·
   try simp only [zS] at h47
   refine zAg (fun K49 hK48 => ?_)
   refine zAb (zAt zAa call7 rfl rfl rfl rfl (c7 hs46) ?_)
   rintro _ w51 ⟨rfl, hs52⟩
   refine w_p (zAe (v := .bool _) rfl rfl) rfl ?_
   refine zAt (zAn rfl rfl rfl) call8 rfl rfl rfl rfl (Cb.c8 hs52) ?_
   rintro _ w54 ⟨rfl, hs55⟩
   refine w_p (zA0 (v := .bool _) rfl rfl rfl rfl) rfl ?_
   refine w_p (zAc (v := .bool _) rfl rfl) rfl ?_
   refine zAf (zAd (hK48 _ _ ?_))
   refine zA2 (zAm (zA3 (l := [.tmp 6]) (vs := [_]) rfl ⟨⟨rfl, (rfl : _ = Value.bool _)⟩, trivial⟩ ?_))
   exact ⟨rfl, hs55.drop.tail.tail.tail⟩
  try simp only [zS] at h47
  refine zAx (zAd (hK22 _ _ ?_))
  refine zAg (fun K57 hK56 => ?_)
  have hck : (Ha.check l).2.2 = 0 := by assumption
  have hcp : (Ca.check p).2.2 = 0 := by assumption
  have hokl := Ha.check_ok hck
  have hokp := Ca.check_ok hcp
  have hwl : 0 < (Ha.ways l 0).length := by omega
  have hW : Ha.ways l 0 ≠ [] := List.length_pos_iff.1 hwl
  have hn3 := hokp.len
  have hgl0 := hokl.lg
  have hgl : 0 < l.grades.length := by omega
  have hs58 := St.perm (L := WB ++ ([_, _, _] ++ F)) hs46 (zBe WB [_, _, _] _)
  replace hs58 := (show St _ _ (_ :: _ :: _ :: (WB ++ F)) from hs58)
  refine zAb (zBh (ps := []) (pv := []) (cs := []) zAa rfl rfl (fun w => Try_TB_fb1  w) hs58 (fun b59 w60 hs61 => ?_))
  refine w_p (zAh (o := 3) (i := 2) underlying31 rfl sizeOf29 rfl rfl rfl) rfl ?_
  refine w_p (zAk isAgg29 hs61 rfl rfl (zAj (i := 2) (vs := [_]) rfl rfl)) rfl ?_
  refine zCw (X := ([])) (B := [_]) (rows := (Ca.rows p.farms)) (sz := 6) (bytes := 56) zAa underlying29 Try_info48 rfl rfl rfl rfl rfl rfl rfl rfl rfl hs61 own_made ha.app.cons.cons.cons.cons (by simp [Ca.rows]) hnil (Cb.rows_one p.farms) (by simp only [maxLen]; omega) (by omega) (fun v62 w63 B64 ho65 hs66 => ?_)
  replace hs66 := (show St _ _ (B64 ++ (_ :: _ :: _ :: WB ++ (F))) from hs66)
  have hown0 : Rt.Own v62 48 6 p.farms.length (Ca.rows (gradFs l p.farms 0)).flatten B64 := by
    have h9 := ho65
    rw [Nat.zero_add, List.nil_append] at h9
    rw [gfs_zero]; exact h9
  obtain ⟨aN, cN, rfl⟩ := hown0.slice
  have hs67 := St.perm (L := B64 ++ ([_, _, _] ++ _)) hs66 (zBe B64 [_, _, _] _)
  replace hs67 := (show St _ _ (_ :: _ :: _ :: (B64 ++ _)) from hs67)
  refine w_p (zAh (o := 3) (i := 2) underlying31 rfl sizeOf29 rfl rfl rfl) rfl ?_
  refine zA5 (i := 1) (v := .slice _ _ _) (vs := [_]) zAa sizeOf29 rfl rfl rfl rfl rfl (by simp [Value.oneCell']) hs67 rfl (Nat.le_of_ble_eq_true rfl) (fun w68 hs69 => ?_)
  refine zAf (zAd (hK56 _ _ ?_))
  refine zAg (fun K71 hK70 => ?_)
  refine zAb (w_p (zAc (v := _) rfl rfl) rfl ?_)
  refine zAf (zAd (hK70 _ _ ?_))
  refine zAg (fun K73 hK72 => ?_)
  refine zAb (w_p (zA6 (vs := [_, _, _]) isAgg26 sizeOf26 hs69 rfl rfl (zAj (i := 2) (vs := [_, _, _]) rfl rfl)) rfl ?_)
  refine w_p (zA6 (vs := [_, _, _]) isAgg35 sizeOf35 hs69 rfl rfl (zAj (i := 0) (vs := [_, _, _]) rfl rfl)) rfl ?_
  refine zAt zAa call9 rfl rfl rfl rfl (c9 l q hm.app.app.cons.cons.cons hokl hW z hz _ _ y hyl hys.app.app.cons.cons.cons hyr d hd hs69) ?_
  rintro _ w75 ⟨h, HB, aH, cH, hin, rfl, hslH, hs76⟩
  replace hs76 := (show St _ _ (HB ++ (_ :: _ :: _ :: B64 ++ (WB ++ (F)))) from hs76)
  have hs77 := St.perm (L := HB ++ ([_, _, _] ++ _)) hs76 (zBe HB [_, _, _] _)
  replace hs77 := (show St _ _ (_ :: _ :: _ :: (HB ++ _)) from hs77)
  have hs78 := perm_hb hs77
  replace hs78 := (show St _ _ (_ :: _ :: _ :: B64 ++ (HB ++ (WB ++ (F)))) from hs78)
  refine w_p (zAc (v := .slice _ _ _) rfl rfl) rfl ?_
  refine zAf (zAd (hK72 _ _ ?_))
  refine zAg (fun K80 hK79 => ?_)
  refine zAg (fun K82 hK81 => ?_)
  refine zAb (w_p (zAc (v := _) rfl rfl) rfl ?_)
  refine zAf (zAd (hK81 _ _ ?_))
  refine zAy ?_
  refine zBp [6, 13, 15, 16, 17, 18, 19, 62, 63, 64, 65, 66, 67, 68, 69, 70, 71, 72, 73, 74, 75, 76, 77, 78, 79, 80, 81, 82, 83, 84, 85, 86, 87, 88, 89, 90, 91, 92, 93, 94, 95, 96, 97, 98, 99, 100] [13, 15] (fun kk vs w => ∃ (i : Nat) (v : Value) (BC OB : List (Nat × Obj)), vs = [v, .int .i64 i] ∧ i ≤ p.farms.length ∧ kk = p.farms.length - i ∧ Rt.Own (.slice aN p.farms.length cN) 48 6 p.farms.length (Ca.rows (gradFs l p.farms i)).flatten BC ∧ Rt.Own v 3 1 i (iv (ownL l h (scOf l y) i)) OB ∧ St w0 w ((b9, blk 35 [.int .u16 z, .slice ay y.length cy, .int .u8 d]) :: (b6, blk 31 [.int .i64 p.hold, .int .i64 p.clo, .int .i64 p.chi, .slice aN p.farms.length cN]) :: (b3, blk 26 (l.cells q)) :: (BC ++ (OB ++ (HB ++ (WB ++ F)))))) (p.farms.length) ?_ ?_
  ·
   exact ⟨0, _, _, [], rfl, by omega, by omega, hown0, own_nil 3 1, hs78⟩
  intro k vs μ w85 hI K84 hN83
  obtain ⟨i, v, BC, OB, rfl, hia, rfl, hown, hoO, hs⟩ := hI
  refine zAg (fun K87 hK86 => ?_)
  refine zAg (fun K89 hK88 => ?_)
  refine zAb (w_p (zAe (v := .int _ _) rfl rfl) rfl ?_)
  refine w_p (zAh (o := 3) (i := 2) underlying31 rfl sizeOf29 rfl rfl rfl) rfl ?_
  refine w_p (zAk isAgg29 hs rfl rfl (zAj (i := 1) (vs := [_]) rfl rfl)) rfl ?_
  refine w_p (zBd underlying29 rfl rfl) rfl ?_
  refine w_p (zBt rfl rfl rfl rfl) rfl ?_
  refine zAf (zAd (hK88 _ _ ?_))
  refine zAz rfl rfl (fun h90 => ?_) (fun h90 => ?_)
  ·
   try simp only [zS] at h90
   refine zAx (zAd (hK86 _ _ ?_))
   refine zAg (fun K92 hK91 => ?_)
   refine zAy ?_
   refine zAg (fun K94 hK93 => ?_)
   have hi2 : i < p.farms.length := by omega
   have hlt := gfs_len l p.farms i
   obtain ⟨bA, capA, csA, hvA, hBA, hA1, hA2, hA3, hA4⟩ := own_some hown (by omega)
   injection hvA with e1 e2x e3
   subst e1 e3 hBA
   replace hs := (show St _ _ (_ :: _ :: _ :: _ :: (OB ++ (HB ++ (WB ++ F)))) from hs)
   obtain ⟨bx2, ox2, hbx2, hrow⟩ := Cb.sl_farm (zBr (w0 := w0) (L := [(bA, blk 48 csA)]) (i := 0) rfl (frow6 _) (by rw [show (Ca.rows (gradFs l p.farms i)).length = p.farms.length by simp [Ca.rows, gfs_len]]; exact hA4)) (show i < (gradFs l p.farms i).length by omega)
   cases hbx2
   rw [gfs_get hi2] at hrow
   have hrow2 := hrow.top (F := (OB ++ (HB ++ (WB ++ F))))
   have hga : gradeAt l i < l.grades.length := Nat.mod_lt _ hgl
   have hgi : ((i : Int) % (l.grades.length : Int)) = ((gradeAt l i : Nat) : Int) := by unfold gradeAt; push_cast; rfl
   have ht := total_in hck hin (sc := scOf l y) (fun b hb => sc_in hokl hb) hga
   obtain ⟨bh, oh, hbh, hhx⟩ := zC1 hslH (show gradeAt l i < (grTo l h (scOf l y) l.bunches.length).length by rw [gr_len]; exact hga)
   subst hbh
   rw [gr_at] at hhx
   have hhx2 := hhx.top (F := WB ++ F)
   refine zAb (w_p (zAe (v := .int _ _) rfl rfl) rfl ?_)
   refine w_p (zAh (o := 0) (i := 0) underlying26 rfl sizeOf22 rfl rfl rfl) rfl ?_
   refine w_p (zAk isAgg22 hs rfl rfl (zAj (i := 2) (vs := [_]) rfl rfl)) rfl ?_
   refine w_p (zBd underlying22 rfl rfl) rfl ?_
   refine w_p (y_rem rfl rfl rfl rfl (by omega) (by omega)) rfl ?_
   refine w_p (zAc (v := .int _ _) rfl rfl) rfl ?_
   refine zAf (zAd (hK93 _ _ ?_))
   refine zAg (fun K96 hK95 => ?_)
   refine zAb (w_p (zA6 (vs := [_, _, _]) isAgg26 sizeOf26 hs rfl rfl (zAj (i := 2) (vs := [_, _, _]) rfl rfl)) rfl ?_)
   refine w_p (zAe (v := .int _ _) rfl rfl) rfl ?_
   refine zAt zAa call10 rfl rfl rfl rfl (c10 l q hm.app.app.app.cons.cons.cons.cons ((gradeAt l i : Nat) : Int) hs) ?_
   rintro _ w98 ⟨rfl, hs99⟩
   refine w_p (zAe (v := .tuple _) rfl rfl) rfl ?_
   refine w_p (zAq (v := .agg _) rfl rfl rfl) rfl ?_
   refine w_p (zAq (v := .int _ _) rfl rfl rfl) rfl ?_
   refine zA9 (cs := [_, _]) zAa zeroValue28 rfl hs99 (fun b100 w101 hs102 => ?_)
   refine zA5 (i := 0) (v := .agg #[.int _ _, .int _ _]) (vs := [_, _]) zAa sizeOf28 rfl rfl rfl rfl rfl (by simp [Value.oneCell']) hs102 rfl (Nat.le_of_ble_eq_true rfl) (fun w103 hs104 => ?_)
   refine w_p (zAc (v := .int _ _) rfl rfl) rfl ?_
   refine zAf (zAd (hK95 _ _ ?_))
   refine zAg (fun K106 hK105 => ?_)
   refine zAg (fun K108 hK107 => ?_)
   refine zAb (w_p (zAe (v := .int _ _) rfl rfl) rfl ?_)
   refine w_p (zCc rfl rfl rfl rfl) rfl ?_
   refine zAf (zAd (hK107 _ _ ?_))
   refine zAz rfl rfl (fun h109 => ?_) (fun h109 => ?_)
   ·
    exfalso
    try simp only [zS] at h109
    exact h109 ht.1
   try simp only [zS] at h109
   refine zAx (zAd (hK105 _ _ ?_))
   refine zAg (fun K111 hK110 => ?_)
   refine zAb (w_p (zAh (o := 3) (i := 2) underlying31 rfl sizeOf29 rfl rfl rfl) rfl ?_)
   refine w_p (zAk isAgg29 hs104 rfl rfl (zAj (i := 2) (vs := [_]) rfl rfl)) rfl ?_
   refine w_p (zAe (v := .int _ _) rfl rfl) rfl ?_
   refine w_p (zA7 underlying29 sizeOf48 rfl rfl rfl rfl (i := i) rfl hi2) rfl ?_
   refine w_p (zA6 (vs := [_, _, _, _, _, _]) isAgg48 sizeOf48 hs104.tail.tail.tail.tail rfl rfl hrow2) rfl ?_
   refine zA9 (cs := [_, _, _, _, _, _]) zAa zeroValue48 rfl hs104 (fun b112 w113 hs114 => ?_)
   refine zA5 (i := 0) (v := .agg #[.string _, .int _ _, .int _ _, .int _ _, .int _ _, .int _ _]) (vs := [_, _, _, _, _, _]) zAa sizeOf48 rfl rfl rfl rfl rfl (by simp [Value.oneCell']) hs114 rfl (Nat.le_of_ble_eq_true rfl) (fun w115 hs116 => ?_)
   refine zAf (zAd (hK110 _ _ ?_))
   refine zAg (fun K118 hK117 => ?_)
   refine zAb (w_p (zA6 (vs := [_, _]) isAgg28 sizeOf28 hs116 rfl rfl (zAj (i := 1) (vs := [_, _]) rfl rfl)) rfl ?_)
   refine w_p (zAh (o := 4) (i := 4) underlying48 rfl sizeOf28 rfl rfl rfl) rfl ?_
   refine zA5 (i := 0) (v := .agg #[.int _ _, .int _ _]) (vs := [_, _]) zAa sizeOf28 rfl rfl rfl rfl rfl (by simp [Value.oneCell']) hs116 rfl (Nat.le_of_ble_eq_true rfl) (fun w119 hs120 => ?_)
   refine zAf (zAd (hK117 _ _ ?_))
   refine zAg (fun K122 hK121 => ?_)
   refine zAb (w_p (zAh (o := 3) (i := 2) underlying31 rfl sizeOf29 rfl rfl rfl) rfl ?_)
   refine w_p (zAk isAgg29 hs120 rfl rfl (zAj (i := 3) (vs := [_]) rfl rfl)) rfl ?_
   refine w_p (zAe (v := .int _ _) rfl rfl) rfl ?_
   refine w_p (zA6 (vs := [_, _, _, _, _, _]) isAgg48 sizeOf48 hs120 rfl rfl (zAj (i := 0) (vs := [_, _, _, _, _, _]) rfl rfl)) rfl ?_
   refine w_p (zA7 underlying29 sizeOf48 rfl rfl rfl rfl (i := i) rfl hi2) rfl ?_
   refine zA5 (i := 5) (v := .agg #[_, _, _, _, _, _]) (vs := [_, _, _, _, _, _]) zAa sizeOf48 rfl rfl rfl rfl rfl (by simp [Value.oneCell']) hs120 rfl (show 0 + i * 6 + 6 ≤ csA.length by omega) (fun w123 hs124 => ?_)
   replace hs124 := (show St _ _ (_ :: _ :: _ :: _ :: _ :: (bA, blk 48 (setMany csA (i * 6) (gradF l i (p.farms[i]'hi2)).cells)) :: OB ++ (HB ++ (WB ++ (F)))) from (by have h6 := hs124; simp only [Nat.zero_add] at h6; exact h6))
   refine zAf (zAd (hK121 _ _ ?_))
   refine zAb (w_p (zAe (v := v) rfl rfl) rfl ?_)
   refine w_p (zAe (v := .slice _ _ _) rfl rfl) rfl ?_
   refine w_p (zAe (v := .int _ _) rfl rfl) rfl ?_
   refine w_p (zA7 underlying43 sizeOf3 rfl rfl rfl rfl (i := gradeAt l i) rfl hga) rfl ?_
   refine w_p (zAk isAgg3 hs124.tail.tail.tail.tail.tail.tail.drop rfl rfl hhx2) rfl ?_
   refine zBh (ps := [(0, _)]) (pv := [(0, .int _ _)]) (cs := [_]) zAa rfl rfl (fun w => Try_TB_fb3 _ w) hs124 (fun b125 w126 hs127 => ?_)
   refine zCw (X := (_ :: _ :: _ :: _ :: _ :: _ :: _ :: [])) (B := OB) (rows := [[_]]) (sz := 1) (bytes := 8) zAa underlying43 zC9 rfl rfl rfl rfl rfl rfl rfl rfl rfl hs127 hoO (zBr (i := 0) (b := b125) (t := 3) (cs := [_]) (rows := [[_]]) rfl (by simp) rfl) rfl (by simp) (by simp [Value.oneCell']) (by simp only [maxLen]; omega) (by omega) (fun v128 w129 B130 ho131 hs132 => ?_)
   replace hs132 := (show St _ _ (_ :: _ :: _ :: _ :: _ :: _ :: _ :: B130 ++ (HB ++ (WB ++ (F)))) from hs132)
   refine w_p (zAc (v := v128) rfl rfl) rfl ?_
   refine zAf (zAl (zAd (hK91 _ _ ?_)))
   refine zAb (w_p (zAe (v := .int _ _) rfl rfl) rfl ?_)
   refine w_p (zBf rfl rfl rfl rfl (by omega) (by omega)) rfl ?_
   refine w_p (zAc (v := .int _ _) rfl rfl) rfl ?_
   refine zAf (zAd (hN83 _ _ (Nx.intro (p.farms.length - (i + 1)) (by omega) (by repeat (first | exact zAv | refine zAu rfl ?_ | refine zAs rfl ?_ _ | refine zAr rfl ?_)) ?_)))
   exact ⟨i + 1, _, [(bA, _)], _, rfl, by omega, rfl, by rw [← gfs_set hi2]; exact own_put (row := Ca.Farm.cells) (fun _ => rfl) (by rw [gfs_len]; exact hi2) (gfs_len _ _ _) hA1 hA2 hA3 hA4, own_gr ho131, hs132.tail.tail.tail⟩
  try simp only [zS] at h90
  refine zBl (zAo (zAo (zA4 (zAd (hK79 _ _ ?_)))))
  refine zAg (fun K134 hK133 => ?_)
  have hin2 : i = p.farms.length := by omega
  subst hin2
  rw [gfs_end] at hown
  obtain ⟨aO, cO, rfl⟩ := hoO.slice
  have hslO := own_isl (w0 := w0) hoO (own_len _ _ _ _)
  obtain ⟨hslN, hcN⟩ := own_rows1 (w0 := w0) hown (frow6 _) (by simp [Ca.rows, gradP_len])
  have hcZ : (gradP l p).cells aN cN = [.int .i64 p.hold, .int .i64 p.clo, .int .i64 p.chi, .slice aN p.farms.length cN] := by simp [Ca.Port.cells, gradP]
  obtain ⟨Z, hZ, hsZ⟩ := gen_Z hs
  have hb4 : Ats w0 Z b6 0 ((gradP l p).cells aN cN) := by rw [hZ]; exact ats_castG (ats_of (i := 1) (vs := [.int .i64 p.hold, .int .i64 p.clo, .int .i64 p.chi, .slice aN p.farms.length cN]) hs rfl rfl) hcZ
  have hb5 : Ats w0 Z b9 0 [.int .u16 z, .slice ay y.length cy, .int .u8 d] := by rw [hZ]; exact ats_of (i := 0) (vs := [.int .u16 z, .slice ay y.length cy, .int .u8 d]) hs rfl rfl
  have haP : Sl w0 Z aN 6 (Ca.rows (gradP l p).farms) := by rw [hZ]; exact hslN.top.cons.cons.cons
  have hOZ : Sl w0 Z aO 1 ((ownL l h (scOf l y) p.farms.length).map fun x => [Value.int .i64 x]) := by rw [hZ]; exact hslO.top.app.cons.cons.cons
  have hnmP : ∀ f ∈ (gradP l p).farms, f.name.size ≤ 9223372036854775807 := by
    intro f hf
    obtain ⟨i, hi, rfl⟩ := List.getElem_of_mem hf
    have hi2 : i < p.farms.length := by rw [gradP_len] at hi; exact hi
    rw [gradP_at hi hi2]; exact hnm p.farms[i] (List.getElem_mem hi2)
  have hlaw := fun hp he => graded_full hck hin (sc := scOf l y) (fun b hb => sc_in hokl hb) (p := p) hp hgl he d
  have hPl := gradP_len l p
  have hob := own_bd hokl hin (scOf l y) p.farms.length
  obtain ⟨P, hP⟩ : ∃ P, P = gradP l p := ⟨_, rfl⟩
  rw [← hP] at hb4 haP hnmP hlaw hPl
  refine zAb (w_p (zA6 (vs := [_, _, _, _]) isAgg31 sizeOf31 hsZ rfl rfl hb4) rfl ?_)
  refine zAt zAa call5 rfl rfl rfl rfl (Cb.c5 P _ _ (by omega) (by omega) haP hnmP hsZ) ?_
  rintro _ w136 ⟨rfl, hs137⟩
  refine w_p (zAe (v := .tuple _) rfl rfl) rfl ?_
  refine w_p (zAq (v := .int _ _) rfl rfl rfl) rfl ?_
  refine w_p (zAq (v := .int _ _) rfl rfl rfl) rfl ?_
  refine w_p (zAq (v := .int _ _) rfl rfl rfl) rfl ?_
  refine w_p (zAc (v := .int _ _) rfl rfl) rfl ?_
  refine zAf (zAd (hK133 _ _ ?_))
  refine zAg (fun K139 hK138 => ?_)
  refine zAg (fun K141 hK140 => ?_)
  refine zAb (w_p (zAe (v := .int _ _) rfl rfl) rfl ?_)
  refine w_p (zCc rfl rfl rfl rfl) rfl ?_
  refine zAf (zAd (hK140 _ _ ?_))
  refine zAz rfl rfl (fun h142 => ?_) (fun h142 => ?_)
  ·
   try simp only [zS] at h142
   refine zAg (fun K144 hK143 => ?_)
   refine zAb (zAt zAa call7 rfl rfl rfl rfl (c7 hs137) ?_)
   rintro _ w146 ⟨rfl, hs147⟩
   refine w_p (zAe (v := .bool _) rfl rfl) rfl ?_
   refine zAt (zAn rfl rfl rfl) call8 rfl rfl rfl rfl (Cb.c8 hs147) ?_
   rintro _ w149 ⟨rfl, hs150⟩
   refine w_p (zA0 (v := .bool _) rfl rfl rfl rfl) rfl ?_
   refine w_p (zAc (v := .bool _) rfl rfl) rfl ?_
   refine zAf (zAd (hK143 _ _ ?_))
   refine zA2 (zAm (zA3 (l := [.tmp 6]) (vs := [_]) rfl ⟨⟨rfl, (rfl : _ = Value.bool _)⟩, trivial⟩ ?_))
   exact ⟨rfl, (St.cast hZ hs150).tail.tail.tail.drop.drop.drop.drop⟩
  try simp only [zS] at h142
  refine zAx (zAd (hK138 _ _ ?_))
  refine zAg (fun K152 hK151 => ?_)
  have hcP2 : (Ca.check P).2.2 = 0 := by assumption
  have hpe := Ca.plan_e09 hcP2
  refine zAb (w_p (zA6 (vs := [_, _, _, _]) isAgg31 sizeOf31 hs137 rfl rfl hb4) rfl ?_)
  refine zAt zAa call11 rfl rfl rfl rfl (Cb.c11 P _ _ (by omega) (by omega) haP hnmP hs137) ?_
  rintro _ w154 ⟨PB, aq, cq, rfl, hslP, hs155⟩
  replace hs155 := (show St _ _ (PB ++ (Z)) from hs155)
  refine w_p (zAe (v := .tuple _) rfl rfl) rfl ?_
  refine w_p (zAq (v := .slice _ _ _) rfl rfl rfl) rfl ?_
  refine w_p (zAq (v := .int _ _) rfl rfl rfl) rfl ?_
  refine w_p (zAq (v := .int _ _) rfl rfl rfl) rfl ?_
  refine w_p (zAc (v := .slice _ _ _) rfl rfl) rfl ?_
  refine w_p (zAc (v := .int _ _) rfl rfl) rfl ?_
  refine w_p (zAc (v := .int _ _) rfl rfl) rfl ?_
  refine zAf (zAd (hK151 _ _ ?_))
  refine zAg (fun K157 hK156 => ?_)
  refine zAg (fun K159 hK158 => ?_)
  refine zAb (w_p (zAe (v := .int _ _) rfl rfl) rfl ?_)
  refine w_p (zCc rfl rfl rfl rfl) rfl ?_
  refine zAf (zAd (hK158 _ _ ?_))
  refine zAz rfl rfl (fun h160 => ?_) (fun h160 => ?_)
  ·
   try simp only [zS] at h160
   refine zAg (fun K162 hK161 => ?_)
   refine zAb (w_p (zAe (v := .int _ _) rfl rfl) rfl ?_)
   refine w_p (zBy rfl rfl rfl rfl) rfl ?_
   refine w_p (zAe (v := .bool _) rfl rfl) rfl ?_
   refine zBi (fun h163 => ?_) (fun h163 => ?_)
   ·
    try simp only [zS] at h163
    refine zAt (zAn rfl rfl rfl) call7 rfl rfl rfl rfl (c7 hs155) ?_
    rintro _ w165 ⟨rfl, hs166⟩
    refine w_p (zA0 (v := .bool _) rfl rfl rfl rfl) rfl ?_
    refine w_p (zAe (v := .bool _) rfl rfl) rfl ?_
    refine zAt (zAn rfl rfl rfl) call8 rfl rfl rfl rfl (Cb.c8 hs166) ?_
    rintro _ w168 ⟨rfl, hs169⟩
    refine w_p (zA0 (v := .bool _) rfl rfl rfl rfl) rfl ?_
    refine w_p (zAc (v := .bool _) rfl rfl) rfl ?_
    refine zAf (zAd (hK161 _ _ ?_))
    refine zA2 (zAm (zA3 (l := [.tmp 6]) (vs := [_]) rfl ⟨⟨rfl, (rfl : _ = Value.bool _)⟩, trivial⟩ ?_))
    exact ⟨rfl, (St.cast hZ hs169.drop).tail.tail.tail.drop.drop.drop.drop⟩
   exfalso
   try simp only [zS] at h163
   omega
  try simp only [zS] at h160
  refine zAx (zAd (hK156 _ _ ?_))
  refine zAg (fun K171 hK170 => ?_)
  refine zAg (fun K173 hK172 => ?_)
  have he0 : Ca.planE P = 0 := by omega
  have hph := Ca.plan_has hcP2 he0
  have hpl := Ca.do_len hph.1
  have hpi := Ca.do_in hph.1
  have hL := hlaw hcP2 he0
  have hokP := Ca.check_ok hcP2
  have hcome := hokP.come
  have hlenP := hokP.len
  have hq1 := Int.emod_nonneg d (show P.chi - P.clo + 1 ≠ 0 by omega)
  have hq2 := Int.emod_lt_of_pos d (show 0 < P.chi - P.clo + 1 by omega)
  refine zAb (w_p (zAe (v := .slice _ _ _) rfl rfl) rfl ?_)
  refine w_p (zBd underlying43 rfl rfl) rfl ?_
  refine w_p (zAe (v := .slice _ _ _) rfl rfl) rfl ?_
  refine w_p (zBd underlying43 rfl rfl) rfl ?_
  refine w_p (zCc rfl rfl rfl rfl) rfl ?_
  refine zAf (zAd (hK172 _ _ ?_))
  refine zAz rfl rfl (fun h174 => ?_) (fun h174 => ?_)
  ·
   exfalso
   try simp only [zS] at h174
   omega
  try simp only [zS] at h174
  refine zAx (zAd (hK170 _ _ ?_))
  refine zAg (fun K176 hK175 => ?_)
  refine zB7 [] [(0, 0), (1, 0), (2, 1), (3, 0), (4, 1), (5, 0), (6, 0), (7, 0), (8, 1), (9, 0), (10, 0), (11, 1), (12, 0), (13, 0), (14, 0), (15, 0), (16, 0)] zBu (drawOK_of (by kernel_rfl)) hs155 (fun w177 hs178 => ?_)
  refine zAp rfl zAa rfl (fun _ => (zAh (o := 1) (i := 1) underlying31 rfl sizeOf28 rfl rfl rfl)) ?_
  refine zAp rfl zAa rfl (fun _ => (zAh (o := 0) (i := 0) underlying28 rfl sizeOf3 rfl rfl rfl)) ?_
  refine zBa rfl zAa rfl hs178 (fun _ hq => (zAk isAgg3 hq.drop rfl rfl (show Ats _ _ _ _ [_] from Ats.part hb4 1 1))) ?_
  refine zAp rfl zAa rfl (fun _ => (zAh (o := 2) (i := 2) underlying35 rfl sizeOf5 rfl rfl rfl)) ?_
  refine zBa rfl zAa rfl hs178 (fun _ hq => (zAk isAgg5 hq.drop rfl rfl (show Ats _ _ _ _ [_] from Ats.part hb5 2 1))) ?_
  refine zAp rfl zAa rfl (fun _ => (y_u8int (by rw [underlying5]; rfl) underlying3 rfl rfl (by omega) (by omega))) ?_
  refine zAp rfl zAa rfl (fun _ => (zAh (o := 1) (i := 1) underlying31 rfl sizeOf28 rfl rfl rfl)) ?_
  refine zAp rfl zAa rfl (fun _ => (zAh (o := 1) (i := 1) underlying28 rfl sizeOf3 rfl rfl rfl)) ?_
  refine zBa rfl zAa rfl hs178 (fun _ hq => (zAk isAgg3 hq.drop rfl rfl (show Ats _ _ _ _ [_] from Ats.part hb4 2 1))) ?_
  refine zAp rfl zAa rfl (fun _ => (zAh (o := 1) (i := 1) underlying31 rfl sizeOf28 rfl rfl rfl)) ?_
  refine zAp rfl zAa rfl (fun _ => (zAh (o := 0) (i := 0) underlying28 rfl sizeOf3 rfl rfl rfl)) ?_
  refine zBa rfl zAa rfl hs178 (fun _ hq => (zAk isAgg3 hq.drop rfl rfl (show Ats _ _ _ _ [_] from Ats.part hb4 1 1))) ?_
  refine zAp rfl zAa rfl (fun _ => (y_sub rfl rfl rfl rfl (by omega) (by omega))) ?_
  refine zAp rfl zAa rfl (fun _ => (zBf rfl rfl rfl rfl (by omega) (by omega))) ?_
  refine zAp rfl zAa rfl (fun _ => (y_rem rfl rfl rfl rfl (by omega) (by omega))) ?_
  refine zAp rfl zAa rfl (fun _ => (zBf rfl rfl rfl rfl (by omega) (by omega))) ?_
  refine zAp rfl zAa rfl (fun _ => (zAc (v := .int _ _) rfl rfl)) ?_
  refine zB1 ?_
  refine zAd (hK175 _ _ ?_)
  refine zAg (fun K180 hK179 => ?_)
  refine zAb (w_p (zAc (v := _) rfl rfl) rfl ?_)
  refine zAf (zAd (hK179 _ _ ?_))
  refine zAg (fun K182 hK181 => ?_)
  refine zAg (fun K184 hK183 => ?_)
  refine zAb (w_p (zAc (v := _) rfl rfl) rfl ?_)
  refine zAf (zAd (hK183 _ _ ?_))
  refine zAy ?_
  refine zBp [6, 24, 25, 150, 151, 152, 153, 154, 155, 156, 157, 158, 159, 160, 161, 162, 163, 164, 165, 166, 167, 168, 169, 170, 171, 172, 173, 174, 175, 176, 177, 178] [24, 25] (fun kk vs w => ∃ (i : Nat), vs = [.int .i64 (ownSum P.farms (Ca.planL P) (ownL l h (scOf l y) p.farms.length) (P.clo + d % (P.chi - P.clo + 1)) i), .int .i64 i] ∧ i ≤ P.farms.length ∧ kk = P.farms.length - i ∧ St w0 w (PB ++ Z)) (P.farms.length) ?_ ?_
  ·
   exact ⟨0, rfl, by omega, by omega, hs178⟩
  intro k vs μ w187 hI K186 hN185
  obtain ⟨i, rfl, hia, rfl, hs⟩ := hI
  refine zAg (fun K189 hK188 => ?_)
  refine zAg (fun K191 hK190 => ?_)
  refine zAb (w_p (zAe (v := .int _ _) rfl rfl) rfl ?_)
  refine w_p (zAe (v := .slice _ _ _) rfl rfl) rfl ?_
  refine w_p (zBd underlying43 rfl rfl) rfl ?_
  refine w_p (zBt rfl rfl rfl rfl) rfl ?_
  refine zAf (zAd (hK190 _ _ ?_))
  refine zAz rfl rfl (fun h192 => ?_) (fun h192 => ?_)
  ·
   try simp only [zS] at h192
   refine zAx (zAd (hK188 _ _ ?_))
   refine zAg (fun K194 hK193 => ?_)
   refine zAy ?_
   refine zAg (fun K196 hK195 => ?_)
   refine zAg (fun K198 hK197 => ?_)
   have hi2 : i < P.farms.length := by omega
   have hi3 : i < (Ca.planL P).length := by omega
   obtain ⟨bl, ol, hbl, hlx⟩ := zC1 hslP hi3
   subst hbl
   have hgi := hpi _ (List.getElem_mem hi3)
   have hgd : (Ca.planL P)[i] = (Ca.planL P).getD i 0 := by simp [List.getD, hi3]
   rw [hgd] at hlx hgi
   have hbs := sum_in60 (fs := P.farms) (c := Ca.planL P) (day := (P.clo + d % (P.chi - P.clo + 1))) (fun i hi => hob i (by omega)) i (by omega)
   have hob1 := hob i (by omega)
   refine zAb (w_p (zAe (v := .slice _ _ _) rfl rfl) rfl ?_)
   refine w_p (zAe (v := .int _ _) rfl rfl) rfl ?_
   refine w_p (zA7 underlying43 sizeOf3 rfl rfl rfl rfl (i := i) rfl hi3) rfl ?_
   refine w_p (zAk isAgg3 hs rfl rfl hlx) rfl ?_
   refine zAt zAa call12 rfl rfl rfl rfl ((con_true (c12 _ (-1) 10 hs) (decide_eq_true (by omega)))) ?_
   rintro _ w200 ⟨rfl, hs201⟩
   refine w_p (zDc rfl rfl) rfl ?_
   refine zAf (zAd (hK197 _ _ ?_))
   refine zB0 rfl rfl ?_
   refine zAx (zAd (hK195 _ _ ?_))
   refine zAg (fun K203 hK202 => ?_)
   obtain ⟨bf, of_, hbf, hfx⟩ := Cb.sl_farm haP hi2
   subst hbf
   have hfo := hokP.farm _ (List.getElem_mem hi2)
   refine zB7 [] [(0, 0), (1, 1), (2, 0), (3, 0), (4, 1), (5, 0), (6, 0), (7, 0), (8, 1), (9, 0), (10, 2)] zBu (drawOK_of (by kernel_rfl)) hs201 (fun w204 hs205 => ?_)
   refine zAp rfl zAa rfl (fun _ => (zAh (o := 3) (i := 2) underlying31 rfl sizeOf29 rfl rfl rfl)) ?_
   refine zBa rfl zAa rfl hs205 (fun _ hq => (zAk isAgg29 hq.drop rfl rfl (show Ats _ _ _ _ [_] from Ats.part hb4 3 1))) ?_
   refine zAp rfl zAa rfl (fun _ => (zAe (v := .int _ _) rfl rfl)) ?_
   refine zAp rfl zAa rfl (fun _ => (zA7 underlying29 sizeOf48 rfl rfl rfl rfl (i := i) rfl hi2)) ?_
   refine zBa rfl zAa rfl hs205 (fun _ hq => (zA6 (vs := [_, _, _, _, _, _]) isAgg48 sizeOf48 hq.drop rfl rfl hfx)) ?_
   refine zAp rfl zAa rfl (fun _ => (zAe (v := .slice _ _ _) rfl rfl)) ?_
   refine zAp rfl zAa rfl (fun _ => (zAe (v := .int _ _) rfl rfl)) ?_
   refine zAp rfl zAa rfl (fun _ => (zA7 underlying43 sizeOf3 rfl rfl rfl rfl (i := i) rfl hi3)) ?_
   refine zBa rfl zAa rfl hs205 (fun _ hq => (zAk isAgg3 hq rfl rfl hlx)) ?_
   refine zAp rfl zAa rfl (fun _ => (zAe (v := .int _ _) rfl rfl)) ?_
   refine zCl rfl ?_
   refine zAt zAa call13 rfl rfl rfl rfl (Cb.c13 _ _ _ hfo (by omega) (by omega) (by omega) (by omega) hs205) ?_
   rintro _ w207 ⟨rfl, hs208⟩
   refine zAf (qn ⟨hs208, ?_⟩)
   refine zB1 ?_
   refine zAd (hK202 _ _ ?_)
   refine zAz rfl rfl (fun h209 => ?_) (fun h209 => ?_)
   ·
    try simp only [zS] at h209
    have hi4 : i < (ownL l h (scOf l y) p.farms.length).length := by rw [own_len]; omega
    obtain ⟨bo, oo, hbo, hox⟩ := zC1 hOZ hi4
    subst hbo
    have hod : (ownL l h (scOf l y) p.farms.length)[i] = (ownL l h (scOf l y) p.farms.length).getD i 0 := by simp [List.getD, hi4]
    rw [hod] at hox
    refine zAb (w_p (zAe (v := .int _ _) rfl rfl) rfl ?_)
    refine w_p (zAe (v := .slice _ _ _) rfl rfl) rfl ?_
    refine w_p (zAe (v := .int _ _) rfl rfl) rfl ?_
    refine w_p (zA7 underlying43 sizeOf3 rfl rfl rfl rfl (i := i) rfl (by omega)) rfl ?_
    refine w_p (zAk isAgg3 hs208.drop rfl rfl hox) rfl ?_
    refine w_p (zBf rfl rfl rfl rfl (by omega) (by omega)) rfl ?_
    refine w_p (zAc (v := .int _ _) rfl rfl) rfl ?_
    refine zAf (zAl (zAd (hK193 _ _ ?_)))
    refine zAb (w_p (zAe (v := .int _ _) rfl rfl) rfl ?_)
    refine w_p (zBf rfl rfl rfl rfl (by omega) (by omega)) rfl ?_
    refine w_p (zAc (v := .int _ _) rfl rfl) rfl ?_
    refine zAf (zAd (hN185 _ _ (Nx.intro (P.farms.length - (i + 1)) (by omega) (by repeat (first | exact zAv | refine zAu rfl ?_ | refine zAs rfl ?_ _ | refine zAr rfl ?_)) ?_)))
    first
      | exact ⟨i + 1, Hn.iv2 (sum_yes hi2 (by assumption)).symm rfl, by omega, rfl, hs208⟩
      | exact ⟨i + 1, Hn.iv2 (sum_no hi2 (by assumption)).symm rfl, by omega, rfl, hs208⟩
   try simp only [zS] at h209
   refine zAx (zAl (zAd (hK193 _ _ ?_)))
   refine zAb (w_p (zAe (v := .int _ _) rfl rfl) rfl ?_)
   refine w_p (zBf rfl rfl rfl rfl (by omega) (by omega)) rfl ?_
   refine w_p (zAc (v := .int _ _) rfl rfl) rfl ?_
   refine zAf (zAd (hN185 _ _ (Nx.intro (P.farms.length - (i + 1)) (by omega) (by repeat (first | exact zAv | refine zAu rfl ?_ | refine zAs rfl ?_ _ | refine zAr rfl ?_)) ?_)))
   first
     | exact ⟨i + 1, Hn.iv2 (sum_yes hi2 (by assumption)).symm rfl, by omega, rfl, hs208⟩
     | exact ⟨i + 1, Hn.iv2 (sum_no hi2 (by assumption)).symm rfl, by omega, rfl, hs208⟩
  try simp only [zS] at h192
  refine zBl (zAo (zAo (zA4 (zAd (hK181 _ _ ?_)))))
  refine zAg (fun K211 hK210 => ?_)
  have hin3 : i = P.farms.length := by omega
  subst hin3
  refine zAb (w_p (zAe (v := .int _ _) rfl rfl) rfl ?_)
  refine w_p (zAh (o := 0) (i := 0) underlying31 rfl sizeOf3 rfl rfl rfl) rfl ?_
  refine w_p (zAk isAgg3 hs.drop rfl rfl (show Ats _ _ _ _ [_] from Ats.part hb4 0 1)) rfl ?_
  refine w_p (y_geq rfl rfl rfl rfl) rfl ?_
  refine w_p (zAe (v := .bool _) rfl rfl) rfl ?_
  refine zBi (fun h212 => ?_) (fun h212 => ?_)
  ·
   try simp only [zS] at h212
   refine zAt (zAn rfl rfl rfl) call7 rfl rfl rfl rfl (c7 hs) ?_
   rintro _ w214 ⟨rfl, hs215⟩
   refine w_p (zA0 (v := .bool _) rfl rfl rfl rfl) rfl ?_
   refine w_p (zAe (v := .bool _) rfl rfl) rfl ?_
   refine zAt (zAn rfl rfl rfl) call8 rfl rfl rfl rfl (Cb.c8 hs215) ?_
   rintro _ w217 ⟨rfl, hs218⟩
   refine w_p (zA0 (v := .bool _) rfl rfl rfl rfl) rfl ?_
   refine w_p (zAc (v := .bool _) rfl rfl) rfl ?_
   refine zAf (zAd (hK210 _ _ ?_))
   refine zA2 (zA3 (l := [.tmp 6]) (vs := [_]) rfl ⟨⟨rfl, (rfl : _ = Value.bool _)⟩, trivial⟩ ?_)
   exact ⟨rfl, (St.cast hZ hs218.drop).tail.tail.tail.drop.drop.drop.drop⟩
  exfalso
  try simp only [zS] at h212
  omega

end Go.Proofs.Tg
/- Arguments of TopGraded, opened; what a law that holds leaves behind. No conditions. -/
set_option maxRecDepth 100000
namespace Go.Proofs.YtpbchcophgpchaaGreat
open Go.Proofs.Tryz
open Go.Rt Go.Rt.Ha Go.Proofs.Hn Go.RowKit Go.ChangeShapes Go.WideShapes Go.ChangeAt
instance : Inhabited Grade := ⟨⟨ByteArray.empty, 0, 0⟩⟩
instance : Inhabited Bunch := ⟨⟨0, 0, 0, 0⟩⟩
instance : Inhabited Count := ⟨⟨0, 0⟩⟩
theorem Tryz.own : ownKnob Tryz.prog.godebug = none := by kernel_rfl
theorem Tryz.laidOut : laidOutB Tryz.prog = true := by kernel_rfl
theorem cells57 : Tryz.prog.cellsOf 57 = 3 := by kernel_rfl
theorem cells61 : Tryz.prog.cellsOf 61 = 4 := by kernel_rfl
theorem cells63 : Tryz.prog.cellsOf 63 = 2 := by kernel_rfl
theorem cells28 : Tryz.prog.cellsOf 28 = 2 := by kernel_rfl
theorem cells26 : Tryz.prog.cellsOf 26 = 3 := by kernel_rfl
theorem cells22 : Tryz.prog.cellsOf 22 = 1 := by kernel_rfl
theorem cells23 : Tryz.prog.cellsOf 23 = 1 := by kernel_rfl
theorem cells24 : Tryz.prog.cellsOf 24 = 1 := by kernel_rfl
theorem cells3 : Tryz.prog.cellsOf 3 = 1 := by kernel_rfl
theorem cells9 : Tryz.prog.cellsOf 9 = 1 := by kernel_rfl
variable {H : Type} {enc : TypeId × Value → H} {W : World} {sp : Nat → Bool} {held : Bool}
theorem u8_wf {n : Int} (h : (Lit.int .u8 n).wf = true) : 0 ≤ n ∧ n ≤ 255 := by
  simp only [Lit.wf, Bool.and_eq_true, decide_eq_true_eq] at h
  exact h
theorem u16_wf {n : Int} (h : (Lit.int .u16 n).wf = true) : 0 ≤ n ∧ n ≤ 65535 := by
  simp only [Lit.wf, Bool.and_eq_true, decide_eq_true_eq] at h
  exact h
theorem open_span {fuel : Nat} {cs : List Value} {x : DataW H × List MemPlace} (h : DataW.trod enc Tryz.prog W 0 sp held fuel 28 cs = some x) : ∃ a b : Int, cs = [.int .i64 a, .int .i64 b] := by
  have hl := trod_len underlying28 h
  rw [cells28] at hl
  obtain ⟨n, y, h0⟩ := zBq underlying28 h 0 3 0 1 rfl rfl rfl cells3
  obtain ⟨n1, y1, h1⟩ := zBq underlying28 h 1 3 1 1 rfl rfl rfl cells3
  match cs, hl with
  | [c0, c1], _ =>
    obtain ⟨a, e0⟩ := trod_i64 underlying3 h0
    obtain ⟨b, e1⟩ := trod_i64 underlying3 h1
    simp at e0 e1
    exact ⟨a, b, by rw [e0, e1]⟩
theorem open_grade (fuel : Nat) (cs : List Value) (y : DataW H × List MemPlace) (h : DataW.trod enc Tryz.prog W 0 sp held fuel 57 cs = some y) : ∃ f : Grade, cs = f.cells ∧ f.name.size ≤ 9223372036854775807 := by
  have hl := trod_len underlying57 h
  rw [cells57] at hl
  obtain ⟨_, _, h0⟩ := zBq underlying57 h 0 9 0 1 rfl rfl rfl cells9
  obtain ⟨_, _, h1⟩ := zBq underlying57 h 1 3 1 1 rfl rfl rfl cells3
  obtain ⟨_, _, h2⟩ := zBq underlying57 h 2 3 2 1 rfl rfl rfl cells3
  match cs, hl with
  | [c0, c1, c2], _ =>
    obtain ⟨s, e0, _, hs⟩ := DataW.trod_string underlying9 h0
    obtain ⟨x1, e1⟩ := trod_i64 underlying3 h1
    obtain ⟨x2, e2⟩ := trod_i64 underlying3 h2
    simp at e0 e1 e2
    exact ⟨⟨s, x1, x2⟩, by rw [e0, e1, e2]; rfl, by simpa [maxLen] using hs⟩
theorem open_bunch (fuel : Nat) (cs : List Value) (y : DataW H × List MemPlace) (h : DataW.trod enc Tryz.prog W 0 sp held fuel 61 cs = some y) : ∃ f : Bunch, cs = f.cells ∧ True := by
  have hl := trod_len underlying61 h
  rw [cells61] at hl
  obtain ⟨_, _, h0⟩ := zBq underlying61 h 0 28 0 2 rfl rfl rfl cells28
  obtain ⟨_, _, h1⟩ := zBq underlying61 h 1 28 2 2 rfl rfl rfl cells28
  match cs, hl with
  | [c0, c1, c2, c3], _ =>
    obtain ⟨x0, x1, e0⟩ := open_span h0
    obtain ⟨x2, x3, e1⟩ := open_span h1
    simp at e0 e1
    exact ⟨⟨x0, x1, x2, x3⟩, by rw [e0.1, e0.2, e1.1, e1.2]; rfl, trivial⟩
theorem open_count (fuel : Nat) (cs : List Value) (y : DataW H × List MemPlace) (h : DataW.trod enc Tryz.prog W 0 sp held fuel 63 cs = some y) : ∃ f : Count, cs = f.cells ∧ True := by
  have hl := trod_len underlying63 h
  rw [cells63] at hl
  obtain ⟨_, _, h0⟩ := zBq underlying63 h 0 3 0 1 rfl rfl rfl cells3
  obtain ⟨_, _, h1⟩ := zBq underlying63 h 1 3 1 1 rfl rfl rfl cells3
  match cs, hl with
  | [c0, c1], _ =>
    obtain ⟨x0, e0⟩ := trod_i64 underlying3 h0
    obtain ⟨x1, e1⟩ := trod_i64 underlying3 h1
    simp at e0 e1
    exact ⟨⟨x0, x1⟩, by rw [e0, e1]; rfl, trivial⟩
theorem open_lot {v : Value} {d : DataW H} {ps : List MemPlace} {r : Reach} {b0 : Nat} (hval : Value.okWide Tryz.prog W r b0 26 v) (h : DataW.Trod enc Tryz.prog W 0 sp held 26 v d ps) :
    ∃ (m : Lot) (p : At3), v = .agg (m.cells p).toArray ∧ LIn W [] m p := by
  obtain ⟨xs, rfl, hsz⟩ : ∃ xs, v = .agg xs ∧ xs.size = 3 := by
    unfold Value.okWide at hval
    rw [underlying26] at hval
    obtain ⟨cs, h1, h2, _⟩ := hval
    exact ⟨cs, h1, by rw [h2, cells26]⟩
  obtain ⟨fuel, hf⟩ := h
  have hf2 : DataW.trod enc Tryz.prog W 0 sp held fuel 26 xs.toList = some (d, ps) := hf
  obtain ⟨_, _, h0⟩ := zBq underlying26 hf2 0 22 0 1 rfl rfl rfl cells22
  obtain ⟨_, _, h1⟩ := zBq underlying26 hf2 1 23 1 1 rfl rfl rfl cells23
  obtain ⟨_, _, h2⟩ := zBq underlying26 hf2 2 24 2 1 rfl rfl rfl cells24
  obtain ⟨xl, rfl⟩ : ∃ l : List Value, xs = l.toArray := ⟨xs.toList, by simp⟩
  have hl3 : xl.length = 3 := by simpa using hsz
  match xl, hl3 with
  | [c0, c1, c2], _ =>
    obtain ⟨a, ca, la, e0, hsa, hca, hma, hna⟩ := open_rows (row := Grade.cells) (ok := fun f => f.name.size ≤ 9223372036854775807) underlying22 cells57 (by omega) (fun _ => rfl) open_grade h0
    obtain ⟨b, cb, lb, e1, hsb, hcb, hmb, hnb⟩ := open_rows (row := Bunch.cells) (ok := fun f => True) underlying23 cells61 (by omega) (fun _ => rfl) open_bunch h1
    obtain ⟨c, cc, lc, e2, hsc, hcc, hmc, hnc⟩ := open_rows (row := Count.cells) (ok := fun f => True) underlying24 cells63 (by omega) (fun _ => rfl) open_count h2
    simp at e0 e1 e2
    exact ⟨⟨la, lb, lc⟩, ⟨a, ca, b, cb, c, cc⟩, by rw [e0, e1, e2]; rfl, ⟨hsa, hsb, hsc, hma, hmb, hmc, hca, hcb, hcc, hna⟩⟩
theorem slice_nil {fuel : Nat} {t el : TypeId} {a : Option Addr} {n c : Nat} {y : DataW H × List MemPlace} (ht : Tryz.prog.underlying t = some (.slice el)) (h : DataW.trod enc Tryz.prog W 0 sp held fuel t [.slice a n c] = some y) : a = none → c = 0 := by
  rcases DataW.trod_slice ht h with ⟨hcs, _⟩ | ⟨a', len, cap, elems, rest, m, _, hcs, _⟩
  · have e : Value.slice a n c = .slice none 0 0 := (List.cons.inj hcs).1
    injection e with e1 e2 e3
    exact fun _ => e3
  · have e : Value.slice a n c = .slice (some a') len cap := (List.cons.inj hcs).1
    injection e with e1 e2 e3
    exact fun h => (by rw [h] at e1; cases e1)
instance : Inhabited Ca.Farm := ⟨⟨ByteArray.empty, 0, 0, 0, 0, 0⟩⟩
theorem cells48 : Tryz.prog.cellsOf 48 = 6 := by kernel_rfl
theorem cells31 : Tryz.prog.cellsOf 31 = 4 := by kernel_rfl
theorem cells29 : Tryz.prog.cellsOf 29 = 1 := by kernel_rfl
theorem cells35 : Tryz.prog.cellsOf 35 = 3 := by kernel_rfl
theorem cells33 : Tryz.prog.cellsOf 33 = 1 := by kernel_rfl
theorem cells32 : Tryz.prog.cellsOf 32 = 1 := by kernel_rfl
theorem cells5 : Tryz.prog.cellsOf 5 = 1 := by kernel_rfl
theorem open_farm (fuel : Nat) (cs : List Value) (y : DataW H × List MemPlace) (h : DataW.trod enc Tryz.prog W 0 sp held fuel 48 cs = some y) : ∃ f : Ca.Farm, cs = f.cells ∧ f.name.size ≤ 9223372036854775807 := by
  have hl := trod_len underlying48 h
  rw [cells48] at hl
  obtain ⟨_, _, h0⟩ := zBq underlying48 h 0 9 0 1 rfl rfl rfl cells9
  obtain ⟨_, _, h1⟩ := zBq underlying48 h 1 3 1 1 rfl rfl rfl cells3
  obtain ⟨_, _, h2⟩ := zBq underlying48 h 2 3 2 1 rfl rfl rfl cells3
  obtain ⟨_, _, h3⟩ := zBq underlying48 h 3 3 3 1 rfl rfl rfl cells3
  obtain ⟨_, _, h4⟩ := zBq underlying48 h 4 28 4 2 rfl rfl rfl cells28
  match cs, hl with
  | [c0, c1, c2, c3, c4, c5], _ =>
    obtain ⟨s, e0, _, hs⟩ := DataW.trod_string underlying9 h0
    obtain ⟨x1, e1⟩ := trod_i64 underlying3 h1
    obtain ⟨x2, e2⟩ := trod_i64 underlying3 h2
    obtain ⟨x3, e3⟩ := trod_i64 underlying3 h3
    obtain ⟨x4, x5, e4⟩ := open_span h4
    simp at e0 e1 e2 e3 e4
    exact ⟨⟨s, x1, x2, x3, x4, x5⟩, by rw [e0, e1, e2, e3, e4.1, e4.2]; rfl, by simpa [maxLen] using hs⟩
theorem open_port {v : Value} {d : DataW H} {ps : List MemPlace} {r : Reach} {b0 : Nat} (hval : Value.okWide Tryz.prog W r b0 31 v) (h : DataW.Trod enc Tryz.prog W 0 sp held 31 v d ps) :
    ∃ (p : Ca.Port) (a : Option Addr) (c : Nat), v = .agg (p.cells a c).toArray ∧ Sl W [] a 6 (Ca.rows p.farms) ∧ p.farms.length ≤ c ∧ p.farms.length ≤ 9223372036854775807 ∧ ∀ f ∈ p.farms, f.name.size ≤ 9223372036854775807 := by
  obtain ⟨xs, rfl, hsz⟩ : ∃ xs, v = .agg xs ∧ xs.size = 4 := by
    unfold Value.okWide at hval
    rw [underlying31] at hval
    obtain ⟨cs, h1, h2, _⟩ := hval
    exact ⟨cs, h1, by rw [h2, cells31]⟩
  obtain ⟨fuel, hf⟩ := h
  have hf2 : DataW.trod enc Tryz.prog W 0 sp held fuel 31 xs.toList = some (d, ps) := hf
  obtain ⟨_, _, h0⟩ := zBq underlying31 hf2 0 3 0 1 rfl rfl rfl cells3
  obtain ⟨_, _, h1⟩ := zBq underlying31 hf2 1 28 1 2 rfl rfl rfl cells28
  obtain ⟨_, _, h2⟩ := zBq underlying31 hf2 2 29 3 1 rfl rfl rfl cells29
  obtain ⟨xl, rfl⟩ : ∃ l : List Value, xs = l.toArray := ⟨xs.toList, by simp⟩
  have hl4 : xl.length = 4 := by simpa using hsz
  match xl, hl4 with
  | [c0, c1, c2, c3], _ =>
    obtain ⟨x0, e0⟩ := trod_i64 underlying3 h0
    obtain ⟨x1, x2, e1⟩ := open_span h1
    obtain ⟨a, c, l, e2, hsl, hc, hm, hn⟩ := open_rows (row := Ca.Farm.cells) (ok := fun f => f.name.size ≤ 9223372036854775807) underlying29 cells48 (by omega) (fun _ => rfl) open_farm h2
    simp at e0 e1 e2
    exact ⟨⟨x0, x1, x2, l⟩, a, c, by rw [e0, e1.1, e1.2, e2]; rfl, hsl, hc, hm, hn⟩
theorem port_nil {m : Ca.Port} {a : Option Addr} {c : Nat} {d : DataW H} {ps : List MemPlace} (h : DataW.Trod enc Tryz.prog W 0 sp held 31 (.agg (m.cells a c).toArray) d ps) : a = none → c = 0 := by
  obtain ⟨fuel, hf⟩ := h
  have hf2 : DataW.trod enc Tryz.prog W 0 sp held fuel 31 (m.cells a c) = some (d, ps) := hf
  obtain ⟨_, _, h2⟩ := zBq underlying31 hf2 2 29 3 1 rfl rfl rfl cells29
  exact slice_nil underlying29 h2
theorem cel5 {fuel : Nat} {cs : List Value} {y : DataW H × List MemPlace} (h : DataW.trod enc Tryz.prog W 0 sp held fuel 5 cs = some y) : ∃ (x0 : Int), cs = [.int .u8 x0] ∧ (0 ≤ x0 ∧ x0 ≤ 255) := by
  obtain ⟨n, e, _, hw⟩ := DataW.trod_int underlying5 h
  exact ⟨n, e, u8_wf hw⟩
theorem cel32 {fuel : Nat} {cs : List Value} {y : DataW H × List MemPlace} (h : DataW.trod enc Tryz.prog W 0 sp held fuel 32 cs = some y) : ∃ (x0 : Int), cs = [.int .u16 x0] ∧ (0 ≤ x0 ∧ x0 ≤ 65535) := by
  obtain ⟨n, e, _, hw⟩ := DataW.trod_int underlying32 h
  exact ⟨n, e, u16_wf hw⟩
theorem open_felt {v : Value} {d : DataW H} {ps : List MemPlace} {r : Reach} {b0 : Nat} (hval : Value.okWide Tryz.prog W r b0 35 v) (h : DataW.Trod enc Tryz.prog W 0 sp held 35 v d ps) :
    ∃ (z : Int) (a : Option Addr) (c : Nat) (x : List Int) (n : Int), v = .agg #[.int .u16 z, .slice a x.length c, .int .u8 n] ∧ (0 ≤ z ∧ z ≤ 65535) ∧ x.length ≤ 9223372036854775807 ∧ Sl W [] a 1 (x.map fun n => [Value.int .u8 n]) ∧ (∀ y ∈ x, 0 ≤ y ∧ y ≤ 255) ∧ (0 ≤ n ∧ n ≤ 255) := by
  obtain ⟨xs, rfl, hsz⟩ : ∃ xs, v = .agg xs ∧ xs.size = 3 := by
    unfold Value.okWide at hval
    rw [underlying35] at hval
    obtain ⟨cs, h1, h2, _⟩ := hval
    exact ⟨cs, h1, by rw [h2, cells35]⟩
  obtain ⟨fuel, hf⟩ := h
  have hf2 : DataW.trod enc Tryz.prog W 0 sp held fuel 35 xs.toList = some (d, ps) := hf
  obtain ⟨_, _, h0⟩ := zBq underlying35 hf2 0 32 0 1 rfl rfl rfl cells32
  obtain ⟨_, _, h1⟩ := zBq underlying35 hf2 1 33 1 1 rfl rfl rfl cells33
  obtain ⟨_, _, h2⟩ := zBq underlying35 hf2 2 5 2 1 rfl rfl rfl cells5
  obtain ⟨xl, rfl⟩ : ∃ l : List Value, xs = l.toArray := ⟨xs.toList, by simp⟩
  have hl3 : xl.length = 3 := by simpa using hsz
  match xl, hl3 with
  | [c0, c1, c2], _ =>
    obtain ⟨z, e0, hz⟩ := cel32 h0
    obtain ⟨a1, k1, l1, e1, hs1, hc1, hm1, hr1⟩ := open_rows (row := fun x : Int => [Value.int .u8 x]) (ok := fun x => (0 ≤ x ∧ x ≤ 255)) underlying33 cells5 (by omega) (fun _ => rfl) (fun fuel cs y h => cel5 h) h1
    obtain ⟨n, e2, hn⟩ := cel5 h2
    simp at e0 e1 e2
    exact ⟨z, a1, k1, l1, n, by rw [e0, e1, e2], hz, hm1, hs1, hr1, hn⟩
end Go.Proofs.YtpbchcophgpchaaGreat
