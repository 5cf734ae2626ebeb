/- Own texts of this claim, joined. No conditions. -/
import Derived.Test.YtpbchcophgpchaaGreatHTopGradeda
import Derived.Test.YtpbchcophgpchaaGreatHTopGradedb
import Derived.Test.YtpbchcophgpchaaGreatHTopGradedc
import Derived.Test.YtpbchcophgpchaaGreatHTopGradedd
import Derived.Test.YtpbchcophgpchaaGreatHTopGradede
import Derived.Test.YtpbchcophgpchaaGreatHTopGradedf
import Derived.Test.YtpbchcophgpchaaGreatHTopGradedg
set_option linter.unusedVariables false
set_option linter.unusedSimpArgs false
set_option maxRecDepth 20000
namespace Go.Proofs.Cb
open Go.Proofs.Tryz
open Go.Rt Go.Rt.Ca
attribute [local irreducible] WL WC Con Yd At Ats Sl Agree DW
theorem Try_CH_fb5 (x0 : Int) (x1 : Int) (x2 : Int) (x3 : Option Addr) (l3 c3 : Nat) (x4 : Option Nat) (w : World) : (Instr.build 151 [(0, .agg #[.int .i64 x0, .int .i64 x1, .int .i64 x2, .slice x3 l3 c3]), (1, .map x4)].toArray).run Tryz.prog w = .ok (.agg #[.int .i64 x0, .int .i64 x1, .int .i64 x2, .slice x3 l3 c3, .map x4]) w := by kernel_rfl
theorem enter_e1 {p : Port} {l : List Int} (h : ¬ (check p).2.2 = 0) : enterErr p l = (check p).2.2 := by unfold enterErr; rw [if_pos h]
theorem enter_e2 {p : Port} {l : List Int} (h : (check p).2.2 = 0) (h2 : ¬ l.length = p.farms.length) : enterErr p l = 3 := by unfold enterErr; rw [if_neg (by simpa using h), if_pos h2]
theorem enter_e3 {p : Port} {l : List Int} (h : (check p).2.2 = 0) (h2 : l.length = p.farms.length) (h3 : l.any (out (-1) 10) = true) : enterErr p l = 7 := by unfold enterErr; rw [if_neg (by simpa using h), if_neg (by simpa using h2), if_pos h3]
theorem enter_e0 {p : Port} {l : List Int} (h : (check p).2.2 = 0) (h2 : l.length = p.farms.length) (h3 : l.any (out (-1) 10) = false) : enterErr p l = 0 := by unfold enterErr; rw [if_neg (by simpa using h), if_neg (by simpa using h2), if_neg (by simp [h3])]
theorem look_perm {w0 w : World} {F : List (Nat × Obj)} {x y z : Nat × Obj} (h : St w0 w (x :: y :: z :: F)) : St w0 w (y :: x :: F) := (h.perm (List.Perm.swap _ _ _)).perm (List.Perm.cons _ (List.Perm.swap _ _ _)) |>.perm (List.Perm.swap _ _ _) |>.tail |>.perm (List.Perm.swap _ _ _) |>.perm (List.Perm.swap _ _ _)
theorem c49 {w0 w : World} {F : List (Nat × Obj)} (p : Port) (a : Option Addr) (c : Nat) (hs : St w0 w F) :
  Con Tryz.prog 49 [.agg (p.cells a c).toArray] w fun v w' => ∃ m pb, v = .pointer (some ⟨pb, 0, none⟩) ∧ St w0 w' ((m, .map #[] 0) :: (pb, blk 151 [.int .i64 p.hold, .int .i64 p.clo, .int .i64 p.chi, .slice a p.farms.length c, .map (some m)]) :: F) := by
  refine zAw (n := 7) func49 rfl rfl (Nat.le_of_ble_eq_true rfl) ?_
  refine zAg (fun K2 hK1 => ?_)
  refine zAb (zB3 (v := .agg #[.int _ _, .int _ _, .int _ _, .slice _ _ _]) (cs := [_, _, _, _]) zAa rfl rfl rfl hs (fun b3 w4 hs5 => ?_))
  refine w_p (zAc (v := _) rfl rfl) rfl ?_
  refine zAf (zAd (hK1 _ _ ?_))
  refine zAg (fun K7 hK6 => ?_)
  refine zAb (w_p (zA6 (vs := [_, _, _, _]) isAgg31 sizeOf31 hs5 rfl rfl (zAj (i := 0) (vs := [_, _, _, _]) rfl rfl)) rfl ?_)
  refine w_makeMap zAa hs5 (fun b8 w9 hs10 => ?_)
  refine w_p (zBs (ps := [(0, _), (1, _)]) (pv := [(0, .agg #[.int _ _, .int _ _, .int _ _, .slice _ _ _]), (1, .map _)]) rfl rfl (fun w => Try_CH_fb5 _ _ _ _ _ _ _ w)) rfl ?_
  refine zB3 (v := .agg #[.int _ _, .int _ _, .int _ _, .slice _ _ _, .map _]) (cs := [_, _, _, _, _]) zAa rfl rfl rfl hs10 (fun b11 w12 hs13 => ?_)
  refine w_p (zAc (v := .pointer _) rfl rfl) rfl ?_
  refine zAf (zAd (hK6 _ _ ?_))
  refine zA2 (zA3 (l := [.tmp 2]) (vs := [_]) rfl ⟨⟨rfl, show _ = (.pointer _ : Value) from rfl⟩, trivial⟩ ?_)
  exact ⟨_, _, rfl, look_perm hs13⟩

theorem drop_mid {w0 w : World} {F : List (Nat × Obj)} {x y u v : Nat × Obj} (h : St w0 w (x :: y :: u :: v :: F)) : St w0 w (x :: y :: F) :=
  (h.perm (zBe [x, y] [u, v] F)).tail.tail
theorem c71 {w0 w : World} {F : List (Nat × Obj)} (p : Port) (a : Option Addr) (c : Nat) (hl3 : p.farms.length ≤ 9223372036854775807) (hc : p.farms.length ≤ c) (ha : Sl w0 F a 6 (rows p.farms)) (hnm : ∀ f ∈ p.farms, f.name.size ≤ 9223372036854775807) (al : Option Addr) (cl : Nat) (l : List Int) (hll : l.length ≤ 9223372036854775807) (hl : Sl w0 F al 1 (l.map fun x => [Value.int .i64 x])) (hs : St w0 w F) :
  Con Tryz.prog 71 [.agg (p.cells a c).toArray, .slice al l.length cl] w fun v w' => (enterErr p l ≠ 0 ∧ v = .tuple #[.pointer none, ia [0, 0, 0], .int .i64 (enterErr p l)] ∧ St w0 w' F) ∨ (enterErr p l = 0 ∧ ∃ m pb, v = .tuple #[.pointer (some ⟨pb, 0, none⟩), ia (pad l), .int .i64 0] ∧ St w0 w' ((m, .map #[] 0) :: (pb, blk 151 [.int .i64 p.hold, .int .i64 p.clo, .int .i64 p.chi, .slice a p.farms.length c, .map (some m)]) :: F)) := by
  refine zAw (n := 36) func71 rfl rfl (Nat.le_of_ble_eq_true rfl) ?_
  refine zAg (fun K2 hK1 => ?_)
  refine zAb (zB3 (v := .agg #[.int _ _, .int _ _, .int _ _, .slice _ _ _]) (cs := [_, _, _, _]) zAa rfl rfl rfl hs (fun b3 w4 hs5 => ?_))
  refine w_p (zAc (v := _) rfl rfl) rfl ?_
  refine zA9 (cs := iv [0, 0, 0]) zAa zeroValue106 rfl hs5 (fun b6 w7 hs8 => ?_)
  refine w_p (zAc (v := _) rfl rfl) rfl ?_
  refine zAf (zAd (hK1 _ _ ?_))
  refine zAg (fun K10 hK9 => ?_)
  refine zAb (w_p (zA6 (vs := [_, _, _, _]) isAgg31 sizeOf31 hs8 rfl rfl (zAj (i := 1) (vs := [_, _, _, _]) rfl rfl)) rfl ?_)
  refine zAt zAa call48 rfl rfl rfl rfl (c48 p _ _ (by omega) (by omega) ha.cons.cons hnm hs8) ?_
  rintro _ w12 ⟨rfl, hs13⟩
  refine w_p (zAe (v := .tuple _) rfl rfl) rfl ?_
  refine w_p (zAq (v := .int _ _) rfl rfl rfl) rfl ?_
  refine w_p (zAq (v := .int _ _) rfl rfl rfl) rfl ?_
  refine w_p (zAq (v := .int _ _) rfl rfl rfl) rfl ?_
  refine w_p (zAc (v := .int _ _) rfl rfl) rfl ?_
  refine zAf (zAd (hK9 _ _ ?_))
  refine zAg (fun K15 hK14 => ?_)
  refine zAy ?_
  refine zAg (fun K17 hK16 => ?_)
  refine zAb (w_p (zAe (v := .int _ _) rfl rfl) rfl ?_)
  refine w_p (zCc rfl rfl rfl rfl) rfl ?_
  refine w_p (zAc (v := .bool _) rfl rfl) rfl ?_
  refine zAf (zAd (hK16 _ _ ?_))
  refine zAz rfl rfl (fun h18 => ?_) (fun h18 => ?_)
  ·
   try simp only [zS] at h18
   refine zAg (fun K20 hK19 => ?_)
   refine zB7 [3] [(0, 1), (1, 0), (2, 0), (3, 3), (4, 0)] zBu (by kernel_rfl) hs13 (fun w21 hs22 => ?_)
   refine zBa rfl zAa rfl hs22 (fun _ hq => (zB4 (i := 0) isAgg106 sizeOf106 (by first | omega | rfl | (simp only [List.length_map, List.length_set, List.length_append, List.length_take, List.length_drop, List.length_replicate, List.length_cons, List.length_nil] <;> omega)) hq rfl rfl rfl)) ?_
   refine zAp rfl zAa rfl (fun _ => (zAe (v := .int _ _) rfl rfl)) ?_
   refine zAp rfl zAa rfl (fun _ => (zAc (v := _) rfl rfl)) ?_
   refine zC8 rfl ?_
   refine zCa (i := 0) (l := _) zAa sizeOf106 (by first | omega | rfl | (simp only [List.length_map, List.length_set, List.length_append, List.length_take, List.length_drop, List.length_replicate, List.length_cons, List.length_nil] <;> omega)) rfl rfl rfl rfl rfl hs22 rfl (by first | omega | rfl | (simp only [List.length_map, List.length_set, List.length_append, List.length_take, List.length_drop, List.length_replicate, List.length_cons, List.length_nil] <;> omega)) (fun w23 hs24 => ?_)
   refine zAf (qn ?_)
   refine zAp rfl zAa rfl (fun _ => (zAc (v := .int _ _) rfl rfl)) ?_
   refine zB1 ?_
   refine zAd (hK19 _ _ ?_)
   refine zA2 (zA1 (zAm (zA3 (l := [.tmp 4, .cell 5 106, .tmp 6]) (vs := [_, _, _]) rfl ⟨⟨rfl, show _ = (.pointer _ : Value) from rfl⟩, ⟨rfl, _, rfl, run_loadI (i := 0) isAgg106 sizeOf106 (by first | omega | rfl | (simp only [List.length_map, List.length_set, List.length_append, List.length_take, List.length_drop, List.length_replicate, List.length_cons, List.length_nil] <;> omega)) hs24 rfl⟩, ⟨rfl, (rfl : _ = Value.int _ _)⟩, trivial⟩ ?_)))
   first
     | exact .inl ⟨by rw [enter_e1 (by assumption)]; assumption, by rw [enter_e1 (by assumption)]; rfl, hs24.tail.tail⟩
     | exact .inl ⟨by rw [enter_e2 (by assumption) (by omega)]; decide, by rw [enter_e2 (by assumption) (by omega)]; rfl, hs24.tail.tail⟩
     | exact .inl ⟨by rw [enter_e3 (by assumption) (by omega) (by assumption)]; decide, by rw [enter_e3 (by assumption) (by omega) (by assumption)]; rfl, hs24.tail.tail⟩
     | exact .inr ⟨enter_e0 (by assumption) (by omega) (by assumption), m, pb, rfl, drop_mid hs24⟩
  try simp only [zS] at h18
  refine zAg (fun K26 hK25 => ?_)
  refine zAb (w_p (zAe (v := .slice _ _ _) rfl rfl) rfl ?_)
  refine w_p (zBd underlying43 rfl rfl) rfl ?_
  refine w_p (zAh (o := 3) (i := 2) underlying31 rfl sizeOf29 rfl rfl rfl) rfl ?_
  refine w_p (zAk isAgg29 hs13 rfl rfl (zAj (i := 1) (vs := [_]) rfl rfl)) rfl ?_
  refine w_p (zBd underlying29 rfl rfl) rfl ?_
  refine w_p (zCc rfl rfl rfl rfl) rfl ?_
  refine w_p (zAc (v := .bool _) rfl rfl) rfl ?_
  refine zAf (zAd (hK25 _ _ ?_))
  refine zAz rfl rfl (fun h27 => ?_) (fun h27 => ?_)
  ·
   try simp only [zS] at h27
   refine zAg (fun K29 hK28 => ?_)
   refine zB7 [2] [(0, 1), (1, 0), (2, 3), (3, 0)] zBu (by kernel_rfl) hs13 (fun w30 hs31 => ?_)
   refine zBa rfl zAa rfl hs31 (fun _ hq => (zB4 (i := 0) isAgg106 sizeOf106 (by first | omega | rfl | (simp only [List.length_map, List.length_set, List.length_append, List.length_take, List.length_drop, List.length_replicate, List.length_cons, List.length_nil] <;> omega)) hq rfl rfl rfl)) ?_
   refine zAp rfl zAa rfl (fun _ => (zAc (v := _) rfl rfl)) ?_
   refine zC8 rfl ?_
   refine zCa (i := 0) (l := _) zAa sizeOf106 (by first | omega | rfl | (simp only [List.length_map, List.length_set, List.length_append, List.length_take, List.length_drop, List.length_replicate, List.length_cons, List.length_nil] <;> omega)) rfl rfl rfl rfl rfl hs31 rfl (by first | omega | rfl | (simp only [List.length_map, List.length_set, List.length_append, List.length_take, List.length_drop, List.length_replicate, List.length_cons, List.length_nil] <;> omega)) (fun w32 hs33 => ?_)
   refine zAf (qn ?_)
   refine zAp rfl zAa rfl (fun _ => (zAc (v := _) rfl rfl)) ?_
   refine zB1 ?_
   refine zAd (hK28 _ _ ?_)
   refine zA2 (zA1 (zAm (zA3 (l := [.tmp 4, .cell 5 106, .tmp 6]) (vs := [_, _, _]) rfl ⟨⟨rfl, show _ = (.pointer _ : Value) from rfl⟩, ⟨rfl, _, rfl, run_loadI (i := 0) isAgg106 sizeOf106 (by first | omega | rfl | (simp only [List.length_map, List.length_set, List.length_append, List.length_take, List.length_drop, List.length_replicate, List.length_cons, List.length_nil] <;> omega)) hs33 rfl⟩, ⟨rfl, (rfl : _ = Value.int _ _)⟩, trivial⟩ ?_)))
   first
     | exact .inl ⟨by rw [enter_e1 (by assumption)]; assumption, by rw [enter_e1 (by assumption)]; rfl, hs33.tail.tail⟩
     | exact .inl ⟨by rw [enter_e2 (by assumption) (by omega)]; decide, by rw [enter_e2 (by assumption) (by omega)]; rfl, hs33.tail.tail⟩
     | exact .inl ⟨by rw [enter_e3 (by assumption) (by omega) (by assumption)]; decide, by rw [enter_e3 (by assumption) (by omega) (by assumption)]; rfl, hs33.tail.tail⟩
     | exact .inr ⟨enter_e0 (by assumption) (by omega) (by assumption), m, pb, rfl, drop_mid hs33⟩
  try simp only [zS] at h27
  refine zAg (fun K35 hK34 => ?_)
  refine zAb (w_p (zAe (v := .slice _ _ _) rfl rfl) rfl ?_)
  refine zAt zAa call73 rfl rfl rfl rfl (c73 _ _ _ _ _ (by omega) hl.cons.cons hs13) ?_
  rintro _ w37 ⟨rfl, hs38⟩
  refine w_p (zAc (v := .bool _) rfl rfl) rfl ?_
  refine zAf (zAd (hK34 _ _ ?_))
  refine zAz rfl rfl (fun h39 => ?_) (fun h39 => ?_)
  ·
   try simp only [zS] at h39
   refine zAg (fun K41 hK40 => ?_)
   refine zB7 [2] [(0, 1), (1, 0), (2, 3), (3, 0)] zBu (by kernel_rfl) hs38 (fun w42 hs43 => ?_)
   refine zBa rfl zAa rfl hs43 (fun _ hq => (zB4 (i := 0) isAgg106 sizeOf106 (by first | omega | rfl | (simp only [List.length_map, List.length_set, List.length_append, List.length_take, List.length_drop, List.length_replicate, List.length_cons, List.length_nil] <;> omega)) hq rfl rfl rfl)) ?_
   refine zAp rfl zAa rfl (fun _ => (zAc (v := _) rfl rfl)) ?_
   refine zC8 rfl ?_
   refine zCa (i := 0) (l := _) zAa sizeOf106 (by first | omega | rfl | (simp only [List.length_map, List.length_set, List.length_append, List.length_take, List.length_drop, List.length_replicate, List.length_cons, List.length_nil] <;> omega)) rfl rfl rfl rfl rfl hs43 rfl (by first | omega | rfl | (simp only [List.length_map, List.length_set, List.length_append, List.length_take, List.length_drop, List.length_replicate, List.length_cons, List.length_nil] <;> omega)) (fun w44 hs45 => ?_)
   refine zAf (qn ?_)
   refine zAp rfl zAa rfl (fun _ => (zAc (v := _) rfl rfl)) ?_
   refine zB1 ?_
   refine zAd (hK40 _ _ ?_)
   refine zA2 (zA1 (zAm (zA3 (l := [.tmp 4, .cell 5 106, .tmp 6]) (vs := [_, _, _]) rfl ⟨⟨rfl, show _ = (.pointer _ : Value) from rfl⟩, ⟨rfl, _, rfl, run_loadI (i := 0) isAgg106 sizeOf106 (by first | omega | rfl | (simp only [List.length_map, List.length_set, List.length_append, List.length_take, List.length_drop, List.length_replicate, List.length_cons, List.length_nil] <;> omega)) hs45 rfl⟩, ⟨rfl, (rfl : _ = Value.int _ _)⟩, trivial⟩ ?_)))
   first
     | exact .inl ⟨by rw [enter_e1 (by assumption)]; assumption, by rw [enter_e1 (by assumption)]; rfl, hs45.tail.tail⟩
     | exact .inl ⟨by rw [enter_e2 (by assumption) (by omega)]; decide, by rw [enter_e2 (by assumption) (by omega)]; rfl, hs45.tail.tail⟩
     | exact .inl ⟨by rw [enter_e3 (by assumption) (by omega) (by assumption)]; decide, by rw [enter_e3 (by assumption) (by omega) (by assumption)]; rfl, hs45.tail.tail⟩
     | exact .inr ⟨enter_e0 (by assumption) (by omega) (by assumption), m, pb, rfl, drop_mid hs45⟩
  try simp only [zS] at h39
  refine zAx (zAl (zAd (hK14 _ _ ?_)))
  refine zAg (fun K47 hK46 => ?_)
  refine zAb (w_p (y_sliceA underlying106 sizeOf3 rfl rfl) rfl ?_)
  refine w_p (zAe (v := .slice _ _ _) rfl rfl) rfl ?_
  refine w_copyI (i := 0) zAa underlying43 sizeOf3 rfl rfl rfl rfl hs38 rfl hl.cons.cons (by first | omega | rfl | (simp only [List.length_map, List.length_set, List.length_append, List.length_take, List.length_drop, List.length_replicate, List.length_cons, List.length_nil] <;> omega)) (by first | omega | rfl | (simp only [List.length_map, List.length_set, List.length_append, List.length_take, List.length_drop, List.length_replicate, List.length_cons, List.length_nil] <;> omega)) (fun w48 hs49 => ?_)
  refine zAf (zAd (hK46 _ _ ?_))
  refine zAg (fun K51 hK50 => ?_)
  refine zB7 [4] [(0, 1), (2, 1), (1, 2), (3, 0), (4, 3), (5, 0)] zBu (by kernel_rfl) hs49 (fun w52 hs53 => ?_)
  refine zBa rfl zAa rfl hs53 (fun _ hq => (zA6 (vs := [_, _, _, _]) isAgg31 sizeOf31 hq rfl rfl (zAj (i := 1) (vs := [_, _, _, _]) rfl rfl))) ?_
  refine zBa rfl zAa rfl hs53 (fun _ hq => (zB4 (i := 0) isAgg106 sizeOf106 (by first | omega | rfl | (simp only [List.length_map, List.length_set, List.length_append, List.length_take, List.length_drop, List.length_replicate, List.length_cons, List.length_nil] <;> omega)) hq rfl rfl rfl)) ?_
  refine zCl rfl ?_
  refine zAt zAa call49 rfl rfl rfl rfl (c49 p _ _ hs53) ?_
  rintro _ w55 ⟨m, pb, rfl, hs56⟩
  refine zAf (qn ⟨hs56.tail.tail, ?_⟩)
  refine zAp rfl zAa rfl (fun _ => (zAc (v := .pointer _) rfl rfl)) ?_
  refine zC8 rfl ?_
  refine zCa (i := 2) (l := _) zAa sizeOf106 (by first | omega | rfl | (simp only [List.length_map, List.length_set, List.length_append, List.length_take, List.length_drop, List.length_replicate, List.length_cons, List.length_nil] <;> omega)) rfl rfl rfl rfl rfl hs56 rfl (by first | omega | rfl | (simp only [List.length_map, List.length_set, List.length_append, List.length_take, List.length_drop, List.length_replicate, List.length_cons, List.length_nil] <;> omega)) (fun w57 hs58 => ?_)
  refine zAf (qn ?_)
  refine zAp rfl zAa rfl (fun _ => (zAc (v := _) rfl rfl)) ?_
  refine zB1 ?_
  refine zAd (hK50 _ _ ?_)
  refine zA2 (zA3 (l := [.tmp 4, .cell 5 106, .tmp 6]) (vs := [_, _, _]) rfl ⟨⟨rfl, show _ = (.pointer _ : Value) from rfl⟩, ⟨rfl, _, rfl, run_loadI (i := 2) isAgg106 sizeOf106 (by first | omega | rfl | (simp only [List.length_map, List.length_set, List.length_append, List.length_take, List.length_drop, List.length_replicate, List.length_cons, List.length_nil] <;> omega)) hs58 rfl⟩, ⟨rfl, (rfl : _ = Value.int _ _)⟩, trivial⟩ ?_)
  first
    | exact .inl ⟨by rw [enter_e1 (by assumption)]; assumption, by rw [enter_e1 (by assumption)]; rfl, hs58.tail.tail.tail.tail⟩
    | exact .inl ⟨by rw [enter_e2 (by assumption) (by omega)]; decide, by rw [enter_e2 (by assumption) (by omega)]; rfl, hs58.tail.tail.tail.tail⟩
    | exact .inl ⟨by rw [enter_e3 (by assumption) (by omega) (by assumption)]; decide, by rw [enter_e3 (by assumption) (by omega) (by assumption)]; rfl, hs58.tail.tail.tail.tail⟩
    | exact .inr ⟨enter_e0 (by assumption) (by omega) (by assumption), m, pb, rfl, drop_mid hs58⟩

end Go.Proofs.Cb
/- Plain words of the cable layer: what is told late. No conditions. -/
namespace Go.Rt.Ca
theorem vainUpto_get {p : Port} {l : List Int} {i : Nat} (hi : i < (loads p l).length) : max (vainUpto p l i) (loads p l)[i].vain = vainUpto p l (i + 1) := by
  unfold vainUpto; rw [List.take_succ_eq_append_getElem hi, List.foldl_append]; rfl
theorem iv2 {a b c d : Int} (h : a = b) (k : c = d) : [Value.int .i64 a, Value.int .i64 c] = [Value.int .i64 b, Value.int .i64 d] := by rw [h, k]
def canLate (f : Farm) (start day : Int) : Bool := decide (start ≤ min 10 (day - f.way - f.notice)) && fresh f (min 10 (day - f.way - f.notice)) day
def moreStep (start day : Int) (n : Int) (q : Farm × Int) : Int := if q.2 = -1 ∧ canLate q.1 start day = true then n + q.1.lo else n
def leastUpto (fs : List Farm) (g : List Int) (start day : Int) (i : Nat) : Int := ((fs.zip g).take i).foldl (moreStep start day) (on fs g day).least
def leastT (fs : List Farm) (g : List Int) (start day : Int) : Int := (fs.zip g).foldl (moreStep start day) (on fs g day).least
theorem zB6 {fs : List Farm} {l : List Int} {i : Nat} (start day : Int) (h : i < fs.length) (h2 : i < l.length) : leastUpto fs l start day (i + 1) = moreStep start day (leastUpto fs l start day i) (fs[i], l.getD i 0) := by
  unfold leastUpto
  rw [take_zip_succ h h2, List.foldl_append]
  simp [List.getD, h2]
theorem leastUpto_all {fs : List Farm} {l : List Int} {i : Nat} (start day : Int) (h : fs.length ≤ i) : leastUpto fs l start day i = leastT fs l start day := by
  unfold leastUpto leastT
  rw [List.take_of_length_le (by simp; omega)]
theorem more_bound {fs : List (Farm × Int)} (start day : Int) (hok : ∀ q ∈ fs, q.1.Ok) : ∀ x : Int, x ≤ fs.foldl (moreStep start day) x ∧ fs.foldl (moreStep start day) x ≤ x + 60 * fs.length := by
  induction fs with
  | nil => intro x; simp
  | cons q fs ih =>
    intro x
    have hq := hok q (.head _)
    unfold Farm.Ok at hq
    have := ih (fun q hq => hok q (.tail _ hq)) (moreStep start day x q)
    simp only [List.foldl_cons, List.length_cons, Int.natCast_add]
    unfold moreStep at this ⊢
    split at this <;> rename_i h1 <;> simp only [h1, and_self, if_true, if_false] at this ⊢ <;> omega
theorem leastUpto_bound {fs : List Farm} {l : List Int} (start day : Int) (i : Nat) (hi : i ≤ 3) (h3 : fs.length ≤ 3) (hok : ∀ f ∈ fs, f.Ok) : 0 ≤ leastUpto fs l start day i ∧ leastUpto fs l start day i ≤ 360 := by
  have := more_bound (fs := (fs.zip l).take i) start day (fun q hq => hok _ (List.of_mem_zip (List.mem_of_mem_take hq)).1) (on fs l day).least
  have hle : ((fs.zip l).take i).length ≤ i := by rw [List.length_take]; omega
  have hb := on_bound (l := l) day h3 hok
  unfold leastUpto
  omega
theorem more_yes {f : Farm} {c start day n : Int} (h : c = -1) (h2 : start ≤ min 10 (day - f.way - f.notice)) (h3 : fresh f (min 10 (day - f.way - f.notice)) day = true) : n + f.lo = moreStep start day n (f, c) := by
  unfold moreStep canLate; rw [if_pos ⟨h, by simp [h2, h3]⟩]
theorem more_no {f : Farm} {c start day n : Int} (h : ¬ (c = -1 ∧ start ≤ min 10 (day - f.way - f.notice) ∧ fresh f (min 10 (day - f.way - f.notice)) day = true)) : n = moreStep start day n (f, c) := by
  unfold moreStep canLate; rw [if_neg]; intro h2; apply h; simpa using h2
def fullTUpto (p : Port) (g : List Int) (start : Int) (i : Nat) : Bool := (p.days.take i).all fun d => decide (p.hold ≤ leastT p.farms g start d)
def fullT (p : Port) (g : List Int) (start : Int) : Bool := p.days.all fun d => decide (p.hold ≤ leastT p.farms g start d)
theorem fullTUpto_succ {p : Port} (l : List Int) (start : Int) {i : Nat} (hi : (i : Int) < p.chi - p.clo + 1) : fullTUpto p l start (i + 1) = (fullTUpto p l start i && decide (p.hold ≤ leastT p.farms l start (p.clo + i))) := by
  unfold fullTUpto; rw [days_take_succ hi, List.all_append]; simp
theorem fullTUpto_all {p : Port} (l : List Int) (start : Int) {i : Nat} (hi : p.chi - p.clo + 1 ≤ i) : fullTUpto p l start i = fullT p l start := by
  unfold fullTUpto fullT; rw [List.take_of_length_le (by rw [days_len]; omega)]
theorem fullT_false {p : Port} (l : List Int) (start : Int) {i : Nat} (h : fullTUpto p l start i = false) : fullT p l start = false := by
  unfold fullTUpto at h; unfold fullT
  rw [List.all_eq_false] at h ⊢
  obtain ⟨x, hx, h⟩ := h
  exact ⟨x, List.mem_of_mem_take hx, h⟩
def worst (p : Port) (g : List Int) (start : Int) : Int := if fullT p g start then vain p g else -1
end Go.Rt.Ca
set_option maxRecDepth 20000
namespace Go.Proofs.Cb
open Go.Proofs.Tryz
open Go.Rt Go.Rt.Ca
attribute [local irreducible] WL WC Con Yd At Ats Sl Agree DW

theorem sl_load {w0 : World} {F : List (Nat × Obj)} {a : Option Addr} {l : List Load} {i : Nat} (h : Sl w0 F a 3 (lrows l)) (hi : i < l.length) :
    ∃ b off, a = some ⟨b, off, none⟩ ∧ Ats w0 F b (off + i * 3) [.int .i64 l[i].least, .int .i64 l[i].most, .int .i64 l[i].vain] := by
  obtain ⟨b, off, ha, _, hat⟩ := h.at (i := i) (row := iv l[i].ints) (by simp [hi])
  exact ⟨b, off, ha, hat⟩
theorem loads_con2 {w0 w : World} {X M F : List (Nat × Obj)} (p : Port) (a : Option Addr) (c m pb : Nat) (hp : Ats w0 F pb 0 [.int .i64 p.hold, .int .i64 p.clo, .int .i64 p.chi, .slice a p.farms.length c, .map (some m)]) (ha : Sl w0 F a 6 (rows p.farms)) (hok : p.Ok) (l : List Int) (hlen : l.length = 3) (hl1 : ∀ x ∈ l, -1 ≤ x ∧ x ≤ 10) (hM : Memo w0 p m M) (hs : St w0 w (X ++ (M ++ F))) :
    Con Tryz.prog 72 [.pointer (some ⟨pb, 0, none⟩), ia l] w fun v w' => ∃ Z M' a c, v = .slice a (loads p l).length c ∧ Memo w0 p m M' ∧ Z = X ++ (M' ++ F) ∧ Sl w0 Z a 3 (lrows (loads p l)) ∧ St w0 w' Z :=
  (loads_con p a c m pb hp ha hok l hlen hl1 hM hs).mono fun v w' ⟨M', a, c, h1, h2, h3, h4⟩ => ⟨_, M', a, c, h1, h2, rfl, h3, h4⟩
theorem c53 {w0 w : World} {X M F : List (Nat × Obj)} (p : Port) (a : Option Addr) (c m pb : Nat) (hp : Ats w0 F pb 0 [.int .i64 p.hold, .int .i64 p.clo, .int .i64 p.chi, .slice a p.farms.length c, .map (some m)]) (ha : Sl w0 F a 6 (rows p.farms)) (hok : p.Ok) (l : List Int) (hlen : l.length = 3) (hl1 : ∀ x ∈ l, -1 ≤ x ∧ x ≤ 10) (hM : Memo w0 p m M) (hs : St w0 w (X ++ (M ++ F))) :
  Con Tryz.prog 53 [.pointer (some ⟨pb, 0, none⟩), ia l] w fun v w' => v = .int .i64 (vain p l) ∧ ∃ M', Memo w0 p m M' ∧ St w0 w' (X ++ (M' ++ F)) := by
  refine zAw (n := 21) func53 rfl rfl (Nat.le_of_ble_eq_true rfl) ?_
  have hcome := hok.come
  have hll := loads_len p l
  refine zAg (fun K2 hK1 => ?_)
  refine zAb (w_boxI (l := _) zAa rfl rfl rfl hs (fun b3 w4 hs5 => ?_))
  refine w_p (zAc (v := _) rfl rfl) rfl ?_
  refine zAf (zAd (hK1 _ _ ?_))
  refine zAg (fun K7 hK6 => ?_)
  refine zAg (fun K9 hK8 => ?_)
  refine zAb (w_p (zAe (v := .pointer _) rfl rfl) rfl ?_)
  refine w_p (zB4 (i := 0) isAgg106 sizeOf106 (by first | omega | rfl | (simp only [List.length_map, List.length_set, List.length_append, List.length_take, List.length_drop, List.length_replicate, List.length_cons, List.length_nil] <;> omega)) hs5 rfl rfl rfl) rfl ?_
  refine zAt zAa call72 rfl rfl rfl rfl (loads_con2 (X := _ :: X) p _ c m pb hp ha hok l hlen hl1 hM hs5) ?_
  rintro _ w11 ⟨Z, M1, al, cl, rfl, hM1, hz, hsl, hs12⟩
  refine w_p (zBd underlying129 rfl rfl) rfl ?_
  refine w_p (zAe (v := _) rfl rfl) rfl ?_
  refine zAf (zAd (hK8 _ _ ?_))
  refine zAy ?_
  refine zBp [4, 6, 11, 12, 13, 14, 15, 16, 17, 18, 19] [4, 11] (fun k vs w => ∃ i : Nat, vs = [.int .i64 (vainUpto p l i), .int .i64 i] ∧ i ≤ (loads p l).length ∧ k = (loads p l).length - i ∧ St w0 w Z) ((loads p l).length) ?_ ?_
  ·
   exact ⟨0, rfl, by omega, by omega, hs12⟩
  intro k vs μ w15 hI K14 hN13
  obtain ⟨i, rfl, hia, rfl, hs⟩ := hI
  refine zAg (fun K17 hK16 => ?_)
  refine zAb (w_p (zBt rfl rfl rfl rfl) rfl ?_)
  refine zAf (zAd (hK16 _ _ ?_))
  refine zAg (fun K19 hK18 => ?_)
  refine zAz rfl rfl (fun h20 => ?_) (fun h20 => ?_)
  ·
   try simp only [zS] at h20
   refine zAx (zAd (hK18 _ _ ?_))
   refine zAg (fun K22 hK21 => ?_)
   refine zAy ?_
   refine zAg (fun K24 hK23 => ?_)
   have hx2 : i < (loads p l).length := by omega
   obtain ⟨bx, ox, rfl, hx⟩ := sl_load hsl hx2
   refine zAb (w_p (zA7 underlying129 sizeOf132 rfl rfl rfl rfl (i := _) rfl (by omega)) rfl ?_)
   refine w_p (zA6 (vs := [_, _, _]) isAgg132 sizeOf132 hs rfl rfl hx) rfl ?_
   refine zA9 (cs := [_, _, _]) zAa zeroValue132 rfl hs (fun b25 w26 hs27 => ?_)
   refine zA5 (i := 0) (v := .agg #[.int _ _, .int _ _, .int _ _]) (vs := [_, _, _]) zAa sizeOf132 rfl rfl rfl rfl rfl (by simp [Value.oneCell']) hs27 rfl (Nat.le_of_ble_eq_true rfl) (fun w28 hs29 => ?_)
   refine zAf (zAd (hK23 _ _ ?_))
   refine zAb (w_p (zAe (v := .int _ _) rfl rfl) rfl ?_)
   refine w_p (zAh (o := 2) (i := 2) underlying132 rfl sizeOf3 rfl rfl rfl) rfl ?_
   refine w_p (zAk isAgg3 hs29 rfl rfl (zAj (i := 0) (vs := [_]) rfl rfl)) rfl ?_
   refine w_p (y_max2 rfl rfl rfl rfl) rfl ?_
   refine w_p (zAc (v := .int _ _) rfl rfl) rfl ?_
   refine zAf (zAl (zAd (hK21 _ _ ?_)))
   refine zAb (w_p (zBf rfl rfl rfl rfl (by omega) (by omega)) rfl ?_)
   refine w_p (zAe (v := .int _ _) rfl rfl) rfl ?_
   refine zAf (zAd (hN13 _ _ (Nx.intro ((loads p l).length - (i + 1)) (by omega) (by repeat (first | exact zAv | refine zAu rfl ?_ | refine zAs rfl ?_ _ | refine zAr rfl ?_)) ?_)))
   exact ⟨i + 1, iv2 (vainUpto_get hx2) rfl, by omega, rfl, hs29.tail⟩
  try simp only [zS] at h20
  refine zBl (zAo (zAo (zA4 (zAd (hK6 _ _ ?_)))))
  refine zAg (fun K31 hK30 => ?_)
  refine zAb (w_p (zAe (v := .int _ _) rfl rfl) rfl ?_)
  refine w_p (zAc (v := .int _ _) rfl rfl) rfl ?_
  refine zAf (zAd (hK30 _ _ ?_))
  refine zA2 (zA3 (l := [.tmp 4]) (vs := [_]) rfl ⟨⟨rfl, (rfl : _ = Value.int _ _)⟩, trivial⟩ ?_)
  exact ⟨congrArg (Value.int .i64) (vainUpto_all l (by omega)), M1, hM1, (show St w0 _ (_ :: (X ++ (M1 ++ F))) from St.cast hz hs).tail⟩

theorem cut_yes {n : Int} {f : Farm} {c : Int} (h : ¬ c = -1) : cutStep n (f, c) = n + f.hi := by unfold cutStep; rw [if_neg h]
theorem cut_no {n : Int} {f : Farm} {c : Int} (h : c = -1) : cutStep n (f, c) = n := by unfold cutStep; rw [if_pos h]
theorem c54 {w0 w : World} {F : List (Nat × Obj)} (p : Port) (a : Option Addr) (c m pb : Nat) (hp : Ats w0 F pb 0 [.int .i64 p.hold, .int .i64 p.clo, .int .i64 p.chi, .slice a p.farms.length c, .map (some m)]) (ha : Sl w0 F a 6 (rows p.farms)) (hok : p.Ok) (l : List Int) (hlen : l.length = 3) (hl1 : ∀ x ∈ l, -1 ≤ x ∧ x ≤ 10) (hs : St w0 w F) :
  Con Tryz.prog 54 [.pointer (some ⟨pb, 0, none⟩), ia l] w fun v w' => v = .int .i64 (cut p.farms l) ∧ St w0 w' F := by
  refine zAw (n := 29) func54 rfl rfl (Nat.le_of_ble_eq_true rfl) ?_
  have hlen3 := hok.len
  refine zAg (fun K2 hK1 => ?_)
  refine zAb (w_boxI (l := _) zAa rfl rfl rfl hs (fun b3 w4 hs5 => ?_))
  refine w_p (zAc (v := _) rfl rfl) rfl ?_
  refine zAf (zAd (hK1 _ _ ?_))
  refine zAg (fun K7 hK6 => ?_)
  refine zAg (fun K9 hK8 => ?_)
  refine zAb (w_p (zAe (v := .pointer _) rfl rfl) rfl ?_)
  refine w_p (zBk rfl rfl) rfl ?_
  refine w_p (zAh (o := 0) (i := 0) underlying151 rfl sizeOf31 rfl rfl rfl) rfl ?_
  refine w_p (zAh (o := 3) (i := 2) underlying31 rfl sizeOf29 rfl rfl rfl) rfl ?_
  refine w_p (zAk isAgg29 hs5.tail rfl rfl (show Ats _ _ _ _ [_] from Ats.part hp 3 1)) rfl ?_
  refine w_p (zBd underlying29 rfl rfl) rfl ?_
  refine w_p (zAe (v := _) rfl rfl) rfl ?_
  refine zAf (zAd (hK8 _ _ ?_))
  refine zAy ?_
  refine zBp [4, 5, 6, 13, 14, 15, 16, 17, 18, 19, 20, 21, 22, 23, 24, 25, 26, 27] [4, 13] (fun k vs w => ∃ (i : Nat) (x : Int), x = cutUpto p.farms l i ∧ vs = [.int .i64 x, .int .i64 i] ∧ i ≤ p.farms.length ∧ k = p.farms.length - i ∧ St w0 w ((b3, blk 106 (iv l)) :: F)) (p.farms.length) ?_ ?_
  ·
   exact ⟨0, 0, rfl, rfl, by omega, by omega, hs5⟩
  intro k vs μ w12 hI K11 hN10
  obtain ⟨i, x, hxx, rfl, hia, rfl, hs⟩ := hI
  refine zAg (fun K14 hK13 => ?_)
  refine zAb (w_p (zBt rfl rfl rfl rfl) rfl ?_)
  refine zAf (zAd (hK13 _ _ ?_))
  refine zAg (fun K16 hK15 => ?_)
  refine zAz rfl rfl (fun h17 => ?_) (fun h17 => ?_)
  ·
   try simp only [zS] at h17
   refine zAx (zAd (hK15 _ _ ?_))
   refine zAg (fun K19 hK18 => ?_)
   refine zAy ?_
   refine zAg (fun K21 hK20 => ?_)
   have hi2 : i < p.farms.length := by omega
   have hi3 : i < l.length := by omega
   obtain ⟨bx, ox, rfl, hx⟩ := sl_farm ha hi2
   have hfo := hok.farm _ (List.getElem_mem hi2)
   have hfo2 := hfo
   unfold Farm.Ok at hfo2
   have hgd : l[i] = l.getD i 0 := by simp [List.getD, hi3]
   have hl2 := hl1 (l.getD i 0) (by rw [← hgd]; exact List.getElem_mem hi3)
   have hb := cutUpto_bound (fs := p.farms) (l := l) i (by omega) hok.farm
   rw [← hxx] at hb
   refine zAb (w_p (zAe (v := .int _ _) rfl rfl) rfl ?_)
   refine w_p (zA7 underlying29 sizeOf48 rfl rfl rfl rfl (i := _) rfl (by omega)) rfl ?_
   refine w_p (zA6 (vs := [_, _, _, _, _, _]) isAgg48 sizeOf48 hs.tail rfl rfl hx) rfl ?_
   refine zA9 (cs := [_, _, _, _, _, _]) zAa zeroValue48 rfl hs (fun b22 w23 hs24 => ?_)
   refine w_p (zAc (v := .int _ _) rfl rfl) rfl ?_
   refine zA5 (i := 0) (v := .agg #[.string _, .int _ _, .int _ _, .int _ _, .int _ _, .int _ _]) (vs := [_, _, _, _, _, _]) zAa sizeOf48 rfl rfl rfl rfl rfl (by simp [Value.oneCell']) hs24 rfl (Nat.le_of_ble_eq_true rfl) (fun w25 hs26 => ?_)
   refine zAf (zAd (hK20 _ _ ?_))
   refine zAg (fun K28 hK27 => ?_)
   refine zAb (w_p (zAe (v := .int _ _) rfl rfl) rfl ?_)
   refine w_p (zB2 underlying106 sizeOf3 rfl rfl rfl rfl (i := i) (by first | rfl | omega) (by omega)) rfl ?_
   refine w_p (zAk isAgg3 hs26 rfl rfl (zCb (i := 1) (j := i) rfl (by first | omega | rfl | (simp only [List.length_map, List.length_set, List.length_append, List.length_take, List.length_drop, List.length_replicate, List.length_cons, List.length_nil] <;> omega)))) rfl ?_
   refine w_p (zCc rfl rfl rfl rfl) rfl ?_
   refine zAf (zAd (hK27 _ _ ?_))
   refine zAz rfl rfl (fun h29 => ?_) (fun h29 => ?_)
   ·
    try simp only [zS] at h29
    refine zAb (w_p (zAe (v := .int _ _) rfl rfl) rfl ?_)
    refine w_p (zAh (o := 4) (i := 4) underlying48 rfl sizeOf28 rfl rfl rfl) rfl ?_
    refine w_p (zAh (o := 1) (i := 1) underlying28 rfl sizeOf3 rfl rfl rfl) rfl ?_
    refine w_p (zAk isAgg3 hs26 rfl rfl (zAj (i := 0) (vs := [_]) rfl rfl)) rfl ?_
    refine w_p (zBf rfl rfl rfl rfl (by omega) (by omega)) rfl ?_
    refine w_p (zAc (v := .int _ _) rfl rfl) rfl ?_
    refine zAf (zAl (zAd (hK18 _ _ ?_)))
    refine zAb (w_p (zBf rfl rfl rfl rfl (by omega) (by omega)) rfl ?_)
    refine w_p (zAe (v := .int _ _) rfl rfl) rfl ?_
    refine zAf (zAd (hN10 _ _ (Nx.intro (p.farms.length - (i + 1)) (by omega) (by repeat (first | exact zAv | refine zAu rfl ?_ | refine zAs rfl ?_ _ | refine zAr rfl ?_)) ?_)))
    first
      | exact ⟨i + 1, x + p.farms[i].hi, (by rw [cutUpto_succ hi2 hi3, ← hxx]; exact (cut_yes (by assumption)).symm), rfl, by omega, rfl, hs26.tail⟩
      | exact ⟨i + 1, x, (by rw [cutUpto_succ hi2 hi3, ← hxx]; exact (cut_no (by assumption)).symm), rfl, by omega, rfl, hs26.tail⟩
   try simp only [zS] at h29
   refine zAx (zAl (zAd (hK18 _ _ ?_)))
   refine zAb (w_p (zBf rfl rfl rfl rfl (by omega) (by omega)) rfl ?_)
   refine w_p (zAe (v := .int _ _) rfl rfl) rfl ?_
   refine zAf (zAd (hN10 _ _ (Nx.intro (p.farms.length - (i + 1)) (by omega) (by repeat (first | exact zAv | refine zAu rfl ?_ | refine zAs rfl ?_ _ | refine zAr rfl ?_)) ?_)))
   first
     | exact ⟨i + 1, x + p.farms[i].hi, (by rw [cutUpto_succ hi2 hi3, ← hxx]; exact (cut_yes (by assumption)).symm), rfl, by omega, rfl, hs26.tail⟩
     | exact ⟨i + 1, x, (by rw [cutUpto_succ hi2 hi3, ← hxx]; exact (cut_no (by assumption)).symm), rfl, by omega, rfl, hs26.tail⟩
  try simp only [zS] at h17
  refine zBl (zAo (zAo (zA4 (zAd (hK6 _ _ ?_)))))
  refine zAg (fun K31 hK30 => ?_)
  refine zAb (w_p (zAe (v := .int _ _) rfl rfl) rfl ?_)
  refine w_p (zAc (v := .int _ _) rfl rfl) rfl ?_
  refine zAf (zAd (hK30 _ _ ?_))
  refine zA2 (zA3 (l := [.tmp 4]) (vs := [_]) rfl ⟨⟨rfl, (rfl : _ = Value.int _ _)⟩, trivial⟩ ?_)
  exact ⟨congrArg (Value.int .i64) (by rw [hxx]; exact cutUpto_all (by omega)), hs.tail⟩

theorem c77 {w0 w : World} {F : List (Nat × Obj)} (p : Port) (a : Option Addr) (c m pb : Nat) (hp : Ats w0 F pb 0 [.int .i64 p.hold, .int .i64 p.clo, .int .i64 p.chi, .slice a p.farms.length c, .map (some m)]) (ha : Sl w0 F a 6 (rows p.farms)) (hok : p.Ok) (l : List Int) (hlen : l.length = 3) (hl1 : ∀ x ∈ l, -1 ≤ x ∧ x ≤ 10) (f0 : Int) (hf0 : 0 ≤ f0) (hf1 : f0 ≤ 11) (hs : St w0 w F) :
  Con Tryz.prog 77 [.pointer (some ⟨pb, 0, none⟩), ia l, .int .i64 f0] w fun v w' => v = .int .i64 (worst p l f0) ∧ St w0 w' F := by
  refine zAw (n := 88) func77 rfl rfl (Nat.le_of_ble_eq_true rfl) ?_
  have hlen3 := hok.len
  have hcome := hok.come
  refine zAg (fun K2 hK1 => ?_)
  refine zAb (w_boxI (l := _) zAa rfl rfl rfl hs (fun b3 w4 hs5 => ?_))
  refine w_p (zAc (v := _) rfl rfl) rfl ?_
  refine zAf (zAd (hK1 _ _ ?_))
  refine zAg (fun K7 hK6 => ?_)
  refine zAg (fun K9 hK8 => ?_)
  refine zAb (w_p (zAe (v := .pointer _) rfl rfl) rfl ?_)
  refine w_p (zBk rfl rfl) rfl ?_
  refine w_p (zAh (o := 0) (i := 0) underlying151 rfl sizeOf31 rfl rfl rfl) rfl ?_
  refine w_p (zAh (o := 1) (i := 1) underlying31 rfl sizeOf28 rfl rfl rfl) rfl ?_
  refine w_p (zAh (o := 0) (i := 0) underlying28 rfl sizeOf3 rfl rfl rfl) rfl ?_
  refine w_p (zAk isAgg3 hs5.tail rfl rfl (show Ats _ _ _ _ [_] from Ats.part hp 1 1)) rfl ?_
  refine w_p (zAc (v := .int _ _) rfl rfl) rfl ?_
  refine zAf (zAd (hK8 _ _ ?_))
  refine zAy ?_
  refine zBp [6, 7, 8, 9, 10, 11, 18, 19, 20, 21, 22, 23, 24, 25, 26, 27, 28, 29, 30, 31, 32, 33, 34, 35, 36, 37, 38, 39, 40, 41, 42, 43, 44, 45, 46, 47, 48, 49, 50, 51, 52, 53, 54, 55, 56, 57, 58, 59, 60, 61, 62, 63, 64, 65, 66, 67, 68, 69, 70, 71, 72, 73, 74, 75, 76, 77, 78, 79, 80, 81, 82, 83, 84, 85, 86] [6, 7] (fun k vs w => ∃ (q : Nat), vs = [.int .i64 (vainUpto p l q), .int .i64 (p.clo + q)] ∧ (q : Int) ≤ p.chi - p.clo + 1 ∧ k = (p.chi - p.clo + 1 - q).toNat ∧ fullTUpto p l f0 q = true ∧ St w0 w ((b3, blk 106 (iv l)) :: F)) ((p.chi - p.clo + 1).toNat) ?_ ?_
  ·
   exact ⟨0, iv2 (show (0 : Int) = vainUpto p l 0 from rfl) (by omega), by omega, by simp, by simp [fullTUpto], hs5⟩
  intro k vs μ w12 hI K11 hN10
  obtain ⟨q, rfl, hq, rfl, hfu, hs⟩ := hI
  refine zAg (fun K14 hK13 => ?_)
  refine zAg (fun K16 hK15 => ?_)
  refine zAb (w_p (zAe (v := .int _ _) rfl rfl) rfl ?_)
  refine w_p (zAe (v := .pointer _) rfl rfl) rfl ?_
  refine w_p (zBk rfl rfl) rfl ?_
  refine w_p (zAh (o := 0) (i := 0) underlying151 rfl sizeOf31 rfl rfl rfl) rfl ?_
  refine w_p (zAh (o := 1) (i := 1) underlying31 rfl sizeOf28 rfl rfl rfl) rfl ?_
  refine w_p (zAh (o := 1) (i := 1) underlying28 rfl sizeOf3 rfl rfl rfl) rfl ?_
  refine w_p (zAk isAgg3 hs.tail rfl rfl (show Ats _ _ _ _ [_] from Ats.part hp 2 1)) rfl ?_
  refine w_p (y_leq rfl rfl rfl rfl) rfl ?_
  refine zAf (zAd (hK15 _ _ ?_))
  refine zAz rfl rfl (fun h17 => ?_) (fun h17 => ?_)
  ·
   try simp only [zS] at h17
   refine zAx (zAd (hK13 _ _ ?_))
   refine zAg (fun K19 hK18 => ?_)
   refine zAy ?_
   refine zAg (fun K21 hK20 => ?_)
   refine zAb (w_p (zAe (v := .pointer _) rfl rfl) rfl ?_)
   refine w_p (zB4 (i := 0) isAgg106 sizeOf106 (by first | omega | rfl | (simp only [List.length_map, List.length_set, List.length_append, List.length_take, List.length_drop, List.length_replicate, List.length_cons, List.length_nil] <;> omega)) hs rfl rfl rfl) rfl ?_
   refine w_p (zAe (v := .int _ _) rfl rfl) rfl ?_
   refine zAt zAa call88 rfl rfl rfl rfl (c88 p _ c m pb hp.cons ha.cons hok l hlen hl1 _ (by omega) (by omega) hs) ?_
   rintro _ w23 ⟨rfl, hs24⟩
   refine zA9 (cs := [_, _, _]) zAa zeroValue132 rfl hs24 (fun b25 w26 hs27 => ?_)
   refine zA5 (i := 0) (v := .agg #[.int _ _, .int _ _, .int _ _]) (vs := [_, _, _]) zAa sizeOf132 rfl rfl rfl rfl rfl (by simp [Value.oneCell']) hs27 rfl (Nat.le_of_ble_eq_true rfl) (fun w28 hs29 => ?_)
   refine zAf (zAd (hK20 _ _ ?_))
   refine zAg (fun K31 hK30 => ?_)
   refine zAg (fun K33 hK32 => ?_)
   refine zAb (w_p (zAe (v := .pointer _) rfl rfl) rfl ?_)
   refine w_p (zBk rfl rfl) rfl ?_
   refine w_p (zAh (o := 0) (i := 0) underlying151 rfl sizeOf31 rfl rfl rfl) rfl ?_
   refine w_p (zAh (o := 3) (i := 2) underlying31 rfl sizeOf29 rfl rfl rfl) rfl ?_
   refine w_p (zAk isAgg29 hs29.tail.tail rfl rfl (show Ats _ _ _ _ [_] from Ats.part hp 3 1)) rfl ?_
   refine w_p (zBd underlying29 rfl rfl) rfl ?_
   refine w_p (zAe (v := _) rfl rfl) rfl ?_
   refine zAf (zAd (hK32 _ _ ?_))
   refine zAy ?_
   refine zBp [9, 10, 11, 38, 39, 40, 41, 42, 43, 44, 45, 46, 47, 48, 49, 50, 51, 52, 53, 54, 55, 56, 57, 58, 59, 60, 61, 62, 63, 64, 65, 66, 67, 68, 69, 70, 71, 72, 73, 74] [38] (fun k vs w => ∃ (i : Nat) (x : Int), x = leastUpto p.farms l f0 (p.clo + q) i ∧ vs = [.int .i64 i] ∧ i ≤ p.farms.length ∧ k = p.farms.length - i ∧ St w0 w ((b25, blk 132 [.int .i64 x, .int .i64 (on p.farms l (p.clo + q)).most, .int .i64 (on p.farms l (p.clo + q)).vain]) :: (b3, blk 106 (iv l)) :: F)) (p.farms.length) ?_ ?_
   ·
    exact ⟨0, _, rfl, rfl, by omega, by omega, hs29⟩
   intro k vs μ w36 hI K35 hN34
   obtain ⟨i, x, hxx, rfl, hia, rfl, hs⟩ := hI
   refine zAg (fun K38 hK37 => ?_)
   refine zAb (w_p (zBt rfl rfl rfl rfl) rfl ?_)
   refine zAf (zAd (hK37 _ _ ?_))
   refine zAg (fun K40 hK39 => ?_)
   refine zAz rfl rfl (fun h41 => ?_) (fun h41 => ?_)
   ·
    try simp only [zS] at h41
    refine zAx (zAd (hK39 _ _ ?_))
    refine zAg (fun K43 hK42 => ?_)
    refine zAy ?_
    refine zAg (fun K45 hK44 => ?_)
    have hi2 : i < p.farms.length := by omega
    have hi3 : i < l.length := by omega
    obtain ⟨bx, ox, rfl, hx⟩ := sl_farm ha hi2
    have hfo := hok.farm _ (List.getElem_mem hi2)
    have hfo2 := hfo
    unfold Farm.Ok at hfo2
    have hgd : l[i] = l.getD i 0 := by simp [List.getD, hi3]
    have hl2 := hl1 (l.getD i 0) (by rw [← hgd]; exact List.getElem_mem hi3)
    have hb := leastUpto_bound (fs := p.farms) (l := l) f0 (p.clo + q) i (by omega) (by omega) hok.farm
    rw [← hxx] at hb
    refine zAb (w_p (zAe (v := .int _ _) rfl rfl) rfl ?_)
    refine w_p (zA7 underlying29 sizeOf48 rfl rfl rfl rfl (i := _) rfl (by omega)) rfl ?_
    refine w_p (zA6 (vs := [_, _, _, _, _, _]) isAgg48 sizeOf48 hs.tail.tail rfl rfl hx) rfl ?_
    refine zA9 (cs := [_, _, _, _, _, _]) zAa zeroValue48 rfl hs (fun b46 w47 hs48 => ?_)
    refine w_p (zAc (v := .int _ _) rfl rfl) rfl ?_
    refine zA5 (i := 0) (v := .agg #[.string _, .int _ _, .int _ _, .int _ _, .int _ _, .int _ _]) (vs := [_, _, _, _, _, _]) zAa sizeOf48 rfl rfl rfl rfl rfl (by simp [Value.oneCell']) hs48 rfl (Nat.le_of_ble_eq_true rfl) (fun w49 hs50 => ?_)
    refine zAf (zAd (hK44 _ _ ?_))
    refine zAg (fun K52 hK51 => ?_)
    refine zAb (w_p (zAe (v := .int _ _) rfl rfl) rfl ?_)
    refine w_p (zAh (o := 1) (i := 1) underlying48 rfl sizeOf3 rfl rfl rfl) rfl ?_
    refine w_p (zAk isAgg3 hs50 rfl rfl (zAj (i := 0) (vs := [_]) rfl rfl)) rfl ?_
    refine w_p (y_sub rfl rfl rfl rfl (by omega) (by omega)) rfl ?_
    refine w_p (zAh (o := 2) (i := 2) underlying48 rfl sizeOf3 rfl rfl rfl) rfl ?_
    refine w_p (zAk isAgg3 hs50 rfl rfl (zAj (i := 0) (vs := [_]) rfl rfl)) rfl ?_
    refine w_p (y_sub rfl rfl rfl rfl (by omega) (by omega)) rfl ?_
    refine w_p (y_min2 rfl rfl rfl rfl) rfl ?_
    refine w_p (zAc (v := .int _ _) rfl rfl) rfl ?_
    refine zAf (zAd (hK51 _ _ ?_))
    refine zAg (fun K54 hK53 => ?_)
    refine zAb (w_p (zAe (v := .int _ _) rfl rfl) rfl ?_)
    refine w_p (zB2 underlying106 sizeOf3 rfl rfl rfl rfl (i := i) (by first | rfl | omega) (by omega)) rfl ?_
    refine w_p (zAk isAgg3 hs50 rfl rfl (zCb (i := 2) (j := i) rfl (by first | omega | rfl | (simp only [List.length_map, List.length_set, List.length_append, List.length_take, List.length_drop, List.length_replicate, List.length_cons, List.length_nil] <;> omega)))) rfl ?_
    refine w_p (zBy rfl rfl rfl rfl) rfl ?_
    refine w_p (zAe (v := .bool _) rfl rfl) rfl ?_
    refine zBi (fun h55 => ?_) (fun h55 => ?_)
    ·
     try simp only [zS] at h55
     refine w_y rfl rfl rfl (zAe (v := .int _ _) rfl rfl) rfl ?_
     refine w_y rfl rfl rfl (zAe (v := .int _ _) rfl rfl) rfl ?_
     refine w_y rfl rfl rfl (y_geq rfl rfl rfl rfl) rfl ?_
     refine w_p (zA0 (v := .bool _) rfl rfl rfl rfl) rfl ?_
     refine w_p (zAe (v := .bool _) rfl rfl) rfl ?_
     refine zBi (fun h56 => ?_) (fun h56 => ?_)
     ·
      try simp only [zS] at h56
      refine w_y rfl rfl rfl (zAe (v := .pointer _) rfl rfl) rfl ?_
      refine w_y rfl rfl rfl (zAe (v := .int _ _) rfl rfl) rfl ?_
      refine w_y rfl rfl rfl (zAe (v := .int _ _) rfl rfl) rfl ?_
      refine w_y rfl rfl rfl (zAe (v := .int _ _) rfl rfl) rfl ?_
      refine zAt (zAn rfl rfl rfl) call101 rfl rfl rfl rfl (c101 p _ c m pb hp.cons.cons.cons ha.cons.cons.cons hok i hi2 _ _ (by omega) (by omega) (by omega) (by omega) hs50) ?_
      rintro _ w58 ⟨rfl, hs59⟩
      refine w_p (zA0 (v := .bool _) rfl rfl rfl rfl) rfl ?_
      refine zAf (zAd (hK53 _ _ ?_))
      refine zAz rfl rfl (fun h60 => ?_) (fun h60 => ?_)
      ·
       try simp only [zS] at h60
       refine zAb (w_p (zAh (o := 0) (i := 0) underlying132 rfl sizeOf3 rfl rfl rfl) rfl ?_)
       refine w_p (zAk isAgg3 hs59 rfl rfl (zAj (i := 1) (vs := [_]) rfl rfl)) rfl ?_
       refine w_p (zAh (o := 4) (i := 4) underlying48 rfl sizeOf28 rfl rfl rfl) rfl ?_
       refine w_p (zAh (o := 0) (i := 0) underlying28 rfl sizeOf3 rfl rfl rfl) rfl ?_
       refine w_p (zAk isAgg3 hs59 rfl rfl (zAj (i := 0) (vs := [_]) rfl rfl)) rfl ?_
       refine w_p (zBf rfl rfl rfl rfl (by omega) (by omega)) rfl ?_
       refine w_p (zAh (o := 0) (i := 0) underlying132 rfl sizeOf3 rfl rfl rfl) rfl ?_
       refine zA5 (i := 1) (v := .int _ _) (vs := [_]) zAa sizeOf3 rfl rfl rfl rfl rfl (by simp [Value.oneCell']) hs59 rfl (Nat.le_of_ble_eq_true rfl) (fun w61 hs62 => ?_)
       refine zAf (zAl (zAd (hK42 _ _ ?_)))
       refine zAb (w_p (zBf rfl rfl rfl rfl (by omega) (by omega)) rfl ?_)
       refine w_p (zAe (v := .int _ _) rfl rfl) rfl ?_
       refine zAf (zAd (hN34 _ _ (Nx.intro (p.farms.length - (i + 1)) (by omega) (by repeat (first | exact zAv | refine zAu rfl ?_ | refine zAs rfl ?_ _ | refine zAr rfl ?_)) ?_)))
       first
         | exact ⟨i + 1, x + p.farms[i].lo, (by rw [zB6 f0 _ hi2 hi3, ← hxx]; exact more_yes (by assumption) (by assumption) (by assumption)), rfl, by omega, rfl, hs62.tail⟩
         | exact ⟨i + 1, x, (by rw [zB6 f0 _ hi2 hi3, ← hxx]; exact more_no (fun hh => by first | exact absurd hh.1 (by assumption) | (have := hh.2.1; omega) | (have h2 := hh.2.2; simp_all; done))), rfl, by omega, rfl, hs62.tail⟩
         | exact ⟨i + 1, x, (by rw [zB6 f0 _ hi2 hi3, ← hxx]; exact more_no (fun hh => by rw [hh.2.2] at *; contradiction)), rfl, by omega, rfl, hs62.tail⟩
      try simp only [zS] at h60
      refine zAx (zAl (zAd (hK42 _ _ ?_)))
      refine zAb (w_p (zBf rfl rfl rfl rfl (by omega) (by omega)) rfl ?_)
      refine w_p (zAe (v := .int _ _) rfl rfl) rfl ?_
      refine zAf (zAd (hN34 _ _ (Nx.intro (p.farms.length - (i + 1)) (by omega) (by repeat (first | exact zAv | refine zAu rfl ?_ | refine zAs rfl ?_ _ | refine zAr rfl ?_)) ?_)))
      first
        | exact ⟨i + 1, x + p.farms[i].lo, (by rw [zB6 f0 _ hi2 hi3, ← hxx]; exact more_yes (by assumption) (by assumption) (by assumption)), rfl, by omega, rfl, hs59.tail⟩
        | exact ⟨i + 1, x, (by rw [zB6 f0 _ hi2 hi3, ← hxx]; exact more_no (fun hh => by first | exact absurd hh.1 (by assumption) | (have := hh.2.1; omega) | (have h2 := hh.2.2; simp_all; done))), rfl, by omega, rfl, hs59.tail⟩
        | exact ⟨i + 1, x, (by rw [zB6 f0 _ hi2 hi3, ← hxx]; exact more_no (fun hh => by rw [hh.2.2] at *; contradiction)), rfl, by omega, rfl, hs59.tail⟩
     try simp only [zS] at h56
     refine zAi rfl rfl rfl ?_
     refine zAi rfl rfl rfl ?_
     refine zAi rfl rfl rfl ?_
     refine zAi rfl rfl rfl ?_
     refine zAi rfl rfl rfl ?_
     refine w_p (zBb (v := _) rfl rfl rfl rfl) rfl ?_
     refine zAf (zAd (hK53 _ _ ?_))
     refine zB0 rfl rfl ?_
     refine zAx (zAl (zAd (hK42 _ _ ?_)))
     refine zAb (w_p (zBf rfl rfl rfl rfl (by omega) (by omega)) rfl ?_)
     refine w_p (zAe (v := .int _ _) rfl rfl) rfl ?_
     refine zAf (zAd (hN34 _ _ (Nx.intro (p.farms.length - (i + 1)) (by omega) (by repeat (first | exact zAv | refine zAu rfl ?_ | refine zAs rfl ?_ _ | refine zAr rfl ?_)) ?_)))
     first
       | exact ⟨i + 1, x + p.farms[i].lo, (by rw [zB6 f0 _ hi2 hi3, ← hxx]; exact more_yes (by assumption) (by assumption) (by assumption)), rfl, by omega, rfl, hs50.tail⟩
       | exact ⟨i + 1, x, (by rw [zB6 f0 _ hi2 hi3, ← hxx]; exact more_no (fun hh => by first | exact absurd hh.1 (by assumption) | (have := hh.2.1; omega) | (have h2 := hh.2.2; simp_all; done))), rfl, by omega, rfl, hs50.tail⟩
       | exact ⟨i + 1, x, (by rw [zB6 f0 _ hi2 hi3, ← hxx]; exact more_no (fun hh => by rw [hh.2.2] at *; contradiction)), rfl, by omega, rfl, hs50.tail⟩
    try simp only [zS] at h55
    refine zAi rfl rfl rfl ?_
    refine zAi rfl rfl rfl ?_
    refine zAi rfl rfl rfl ?_
    refine w_p (zBb (v := _) rfl rfl rfl rfl) rfl ?_
    refine w_p (zAe (v := .bool _) rfl rfl) rfl ?_
    refine zAi rfl rfl rfl ?_
    refine zAi rfl rfl rfl ?_
    refine zAi rfl rfl rfl ?_
    refine zAi rfl rfl rfl ?_
    refine zAi rfl rfl rfl ?_
    refine w_p (zBb (v := _) rfl rfl rfl rfl) rfl ?_
    refine zAf (zAd (hK53 _ _ ?_))
    refine zB0 rfl rfl ?_
    refine zAx (zAl (zAd (hK42 _ _ ?_)))
    refine zAb (w_p (zBf rfl rfl rfl rfl (by omega) (by omega)) rfl ?_)
    refine w_p (zAe (v := .int _ _) rfl rfl) rfl ?_
    refine zAf (zAd (hN34 _ _ (Nx.intro (p.farms.length - (i + 1)) (by omega) (by repeat (first | exact zAv | refine zAu rfl ?_ | refine zAs rfl ?_ _ | refine zAr rfl ?_)) ?_)))
    first
      | exact ⟨i + 1, x + p.farms[i].lo, (by rw [zB6 f0 _ hi2 hi3, ← hxx]; exact more_yes (by assumption) (by assumption) (by assumption)), rfl, by omega, rfl, hs50.tail⟩
      | exact ⟨i + 1, x, (by rw [zB6 f0 _ hi2 hi3, ← hxx]; exact more_no (fun hh => by first | exact absurd hh.1 (by assumption) | (have := hh.2.1; omega) | (have h2 := hh.2.2; simp_all; done))), rfl, by omega, rfl, hs50.tail⟩
      | exact ⟨i + 1, x, (by rw [zB6 f0 _ hi2 hi3, ← hxx]; exact more_no (fun hh => by rw [hh.2.2] at *; contradiction)), rfl, by omega, rfl, hs50.tail⟩
   try simp only [zS] at h41
   refine zBl (zAo (zAo (zA4 (zAd (hK30 _ _ ?_)))))
   refine zAg (fun K64 hK63 => ?_)
   refine zAg (fun K66 hK65 => ?_)
   refine zB7 [] [(0, 0), (1, 1), (2, 0), (3, 0), (4, 0), (5, 0), (6, 1), (7, 0)] zBu (by kernel_rfl) hs (fun w67 hs68 => ?_)
   refine zAp rfl zAa rfl (fun _ => (zAh (o := 0) (i := 0) underlying132 rfl sizeOf3 rfl rfl rfl)) ?_
   refine zBa rfl zAa rfl hs68 (fun _ hq => (zAk isAgg3 hq rfl rfl (zAj (i := 0) (vs := [_]) rfl rfl))) ?_
   refine zAp rfl zAa rfl (fun _ => (zAe (v := .pointer _) rfl rfl)) ?_
   refine zAp rfl zAa rfl (fun _ => (zBk rfl rfl)) ?_
   refine zAp rfl zAa rfl (fun _ => (zAh (o := 0) (i := 0) underlying151 rfl sizeOf31 rfl rfl rfl)) ?_
   refine zAp rfl zAa rfl (fun _ => (zAh (o := 0) (i := 0) underlying31 rfl sizeOf3 rfl rfl rfl)) ?_
   refine zBa rfl zAa rfl hs68 (fun _ hq => (zAk isAgg3 hq.tail.tail rfl rfl (show Ats _ _ _ _ [_] from Ats.part hp 0 1))) ?_
   refine zAp rfl zAa rfl (fun _ => (zBt rfl rfl rfl rfl)) ?_
   refine zB1 ?_
   refine zAd (hK65 _ _ ?_)
   refine zAz rfl rfl (fun h69 => ?_) (fun h69 => ?_)
   ·
    try simp only [zS] at h69
    refine zAg (fun K71 hK70 => ?_)
    refine zAb (w_p (zAc (v := _) rfl rfl) rfl ?_)
    refine zAf (zAd (hK70 _ _ ?_))
    refine zA2 (zAm (zA1 (zAm (zAm (zA1 (zAm (zA3 (l := [.tmp 6]) (vs := [_]) rfl ⟨⟨rfl, (rfl : _ = Value.int _ _)⟩, trivial⟩ ?_)))))))
    first
      | exact ⟨congrArg (Value.int .i64) (by unfold worst; rw [← fullTUpto_all l f0 (i := q) (by omega), hfu, if_pos rfl]; exact vainUpto_all l (by omega)), hs68.tail.tail⟩
      | exact ⟨congrArg (Value.int .i64) (by unfold worst; rw [if_neg]; rw [fullT_false l f0 (i := q + 1) (by rw [fullTUpto_succ l f0 (by omega), hfu, ← leastUpto_all (i := i) f0 _ (by omega), ← hxx]; simpa using ‹_›)]; simp), hs68.tail.tail⟩
   try simp only [zS] at h69
   refine zAx (zAd (hK63 _ _ ?_))
   refine zAb (w_p (zAe (v := .int _ _) rfl rfl) rfl ?_)
   refine w_p (zAh (o := 2) (i := 2) underlying132 rfl sizeOf3 rfl rfl rfl) rfl ?_
   refine w_p (zAk isAgg3 hs68 rfl rfl (zAj (i := 0) (vs := [_]) rfl rfl)) rfl ?_
   refine w_p (y_max2 rfl rfl rfl rfl) rfl ?_
   refine w_p (zAc (v := .int _ _) rfl rfl) rfl ?_
   refine zAf (zAl (zAd (hK18 _ _ ?_)))
   refine zAb (w_p (zAe (v := .int _ _) rfl rfl) rfl ?_)
   refine w_p (zBf rfl rfl rfl rfl (by omega) (by omega)) rfl ?_
   refine w_p (zAc (v := .int _ _) rfl rfl) rfl ?_
   refine zAf (zAd (hN10 _ _ (Nx.intro ((p.chi - p.clo + 1 - (q + 1 : Nat)).toNat) (by omega) (by repeat (first | exact zAv | refine zAu rfl ?_ | refine zAs rfl ?_ _ | refine zAr rfl ?_)) ?_)))
   exact ⟨q + 1, iv2 (vainUpto_succ l (by omega)).symm (by omega), by omega, rfl, (by rw [fullTUpto_succ l f0 (by omega), hfu, ← leastUpto_all (i := i) f0 _ (by omega), ← hxx]; simpa using ‹_›), hs68.tail⟩
  try simp only [zS] at h17
  refine zBl (zAo (zAo (zA4 (zAd (hK6 _ _ ?_)))))
  refine zAg (fun K73 hK72 => ?_)
  refine zAb (w_p (zAe (v := .int _ _) rfl rfl) rfl ?_)
  refine w_p (zAc (v := .int _ _) rfl rfl) rfl ?_
  refine zAf (zAd (hK72 _ _ ?_))
  refine zA2 (zA3 (l := [.tmp 6]) (vs := [_]) rfl ⟨⟨rfl, (rfl : _ = Value.int _ _)⟩, trivial⟩ ?_)
  first
    | exact ⟨congrArg (Value.int .i64) (by unfold worst; rw [← fullTUpto_all l f0 (i := q) (by omega), hfu, if_pos rfl]; exact vainUpto_all l (by omega)), hs.tail⟩
    | exact ⟨congrArg (Value.int .i64) (by unfold worst; rw [if_neg]; rw [fullT_false l f0 (i := q + 1) (by rw [fullTUpto_succ l f0 (by omega), hfu, ← leastUpto_all (i := i) f0 _ (by omega), ← hxx]; simpa using ‹_›)]; simp), hs.tail⟩

end Go.Proofs.Cb
/- Plain words of the cable layer: all cables, in order. No conditions. -/
namespace Go.Rt.Ca
/-- The days below one, and none. -/
def dys (below : Nat) : List Int := (List.range below).map (fun k : Nat => (k : Int)) ++ [-1]
def seg (ds : List Int) : Nat → List Int → List (List Int)
  | 0, pre => [pre]
  | n + 1, pre => ds.flatMap fun d => seg ds n (pre ++ [d])
theorem dys_len (below : Nat) : (dys below).length = below + 1 := by simp [dys]
theorem dys_get {below q : Nat} (h : q < below + 1) : (dys below)[q]? = some (if q = below then -1 else (q : Int)) := by
  unfold dys
  by_cases hq : q = below
  · subst hq; simp
  · have hlt : q < below := by omega
    rw [List.getElem?_append_left (by simpa using hlt)]; simp [hq, hlt]
theorem dys_drop {below q : Nat} (h : q < below + 1) : (dys below).drop q = (if q = below then -1 else (q : Int)) :: (dys below).drop (q + 1) := by
  have hl : q < (dys below).length := by rw [dys_len]; exact h
  rw [List.drop_eq_getElem_cons hl]
  have := dys_get h
  rw [List.getElem?_eq_getElem hl] at this
  rw [Option.some.inj this]
theorem dys_end (below : Nat) : (dys below).drop (below + 1) = [] := List.drop_of_length_le (by rw [dys_len]; omega)
theorem dys_in {below : Nat} {x : Int} (h : x ∈ dys below) : -1 ≤ x ∧ x < below := by
  unfold dys at h
  rcases List.mem_append.1 h with h | h
  · obtain ⟨k, hk, rfl⟩ := List.mem_map.1 h
    rw [List.mem_range] at hk; omega
  · rw [List.mem_singleton] at h; omega
theorem dys_nodup (below : Nat) : (dys below).Nodup := by
  unfold dys
  rw [List.nodup_append]
  refine ⟨?_, by simp, ?_⟩
  · rw [List.Nodup, List.pairwise_map]
    exact (List.nodup_range (n := below)).imp fun h e => h (by omega)
  · intro a ha b hb
    obtain ⟨k, _, rfl⟩ := List.mem_map.1 ha
    rw [List.mem_singleton] at hb
    omega
theorem seg_len {ds : List Int} : ∀ (n : Nat) (pre x : List Int), x ∈ seg ds n pre → x.length = pre.length + n
  | 0, pre, x, h => by simp only [seg, List.mem_singleton] at h; subst h; simp
  | n + 1, pre, x, h => by
    simp only [seg, List.mem_flatMap] at h
    obtain ⟨d, _, h⟩ := h
    have := seg_len n _ _ h
    simp at this; omega
theorem seg_take {ds : List Int} : ∀ (n : Nat) (pre x : List Int), x ∈ seg ds n pre → x.take pre.length = pre
  | 0, pre, x, h => by simp only [seg, List.mem_singleton] at h; subst h; simp
  | n + 1, pre, x, h => by
    simp only [seg, List.mem_flatMap] at h
    obtain ⟨d, _, h⟩ := h
    have := congrArg (List.take pre.length) (seg_take n _ _ h)
    simpa [List.take_take] using this
theorem nodup_flat {α β : Type} {f : α → List β} : ∀ (l : List α), l.Nodup → (∀ a ∈ l, (f a).Nodup) → (∀ a ∈ l, ∀ b ∈ l, a ≠ b → ∀ x ∈ f a, x ∉ f b) → (l.flatMap f).Nodup
  | [], _, _, _ => by simp
  | a :: l, hn, h1, h2 => by
    rw [List.flatMap_cons, List.nodup_append]
    rw [List.nodup_cons] at hn
    refine ⟨h1 a (.head _), nodup_flat l hn.2 (fun b hb => h1 b (.tail _ hb)) (fun b hb c hc => h2 b (.tail _ hb) c (.tail _ hc)), ?_⟩
    intro x hx y hy e
    subst e
    obtain ⟨b, hb, hxb⟩ := List.mem_flatMap.1 hy
    exact h2 a (.head _) b (.tail _ hb) (fun e => hn.1 (e ▸ hb)) x hx hxb
theorem seg_nodup {ds : List Int} (hd : ds.Nodup) : ∀ (n : Nat) (pre : List Int), (seg ds n pre).Nodup
  | 0, pre => by simp [seg]
  | n + 1, pre => by
    simp only [seg]
    refine nodup_flat ds hd (fun d _ => seg_nodup hd n _) ?_
    intro a _ b _ hab x hx hy
    have h1 := seg_take n _ _ hx
    have h2 := seg_take n _ _ hy
    simp only [List.length_append, List.length_singleton] at h1 h2
    rw [h1] at h2
    have := List.append_cancel_left h2
    simp at this
    exact hab this
theorem seg_mem {ds : List Int} : ∀ (n : Nat) (pre x : List Int), x ∈ seg ds n pre → ∀ y ∈ x, y ∈ pre ∨ y ∈ ds
  | 0, pre, x, h, y, hy => by simp only [seg, List.mem_singleton] at h; subst h; exact .inl hy
  | n + 1, pre, x, h, y, hy => by
    simp only [seg, List.mem_flatMap] at h
    obtain ⟨d, hd, h⟩ := h
    rcases seg_mem n _ _ h y hy with h1 | h1
    · rcases List.mem_append.1 h1 with h2 | h2
      · exact .inl h2
      · rw [List.mem_singleton] at h2; subst h2; exact .inr hd
    · exact .inr h1
/-- All cables. -/
def allC (below n : Nat) : List (List Int) := seg (dys below) n []
theorem all_len {below n : Nat} {x : List Int} (h : x ∈ allC below n) : x.length = n := by have := seg_len _ _ _ h; simpa using this
theorem all_in {below n : Nat} {x : List Int} (h : x ∈ allC below n) : ∀ y ∈ x, -1 ≤ y ∧ y < below := by
  intro y hy
  rcases seg_mem _ _ _ h y hy with h1 | h1
  · simp at h1
  · exact dys_in h1
theorem pad_take {x : List Int} (h : x.length ≤ 3) : (pad x).take x.length = x := by
  unfold pad
  rw [List.take_of_length_le h, List.take_left' rfl]
theorem pad_inj {x y : List Int} (hx : x.length ≤ 3) (h : x.length = y.length) (e : pad x = pad y) : x = y := by
  rw [← pad_take hx, ← pad_take (x := y) (by omega), e, h]
theorem allpad_nodup {below n : Nat} (h : n ≤ 3) : ((allC below n).map pad).Nodup := by
  rw [List.Nodup, List.pairwise_map]
  refine (seg_nodup (dys_nodup below) n []).imp_of_mem ?_
  intro a b ha hb hab e
  exact hab (pad_inj (by rw [all_len (below := below) ha]; exact h) (by rw [all_len (below := below) ha, all_len (below := below) hb]) e)
theorem pad_nz {x : List Int} (hx : ∀ y ∈ x, -1 ≤ y) : pad x ≠ [-2, 0, 0] := by
  intro e
  have : (-2 : Int) ∈ pad x := by rw [e]; simp
  unfold pad at this
  rcases List.mem_append.1 this with h | h
  · have := hx _ (List.mem_of_mem_take h); omega
  · have := List.mem_of_mem_drop h; simp at this
theorem start_notin {below n : Nat} : ([-2, 0, 0] : List Int) ∉ (allC below n).map pad := by
  intro h
  obtain ⟨x, hx, e⟩ := List.mem_map.1 h
  exact pad_nz (fun y hy => (all_in hx y hy).1) e
/-- What is kept of cables that are filled in from the left. -/
theorem cur_pad {cur pre : List Int} {n : Nat} (hc : cur.length = 3) (hn : pre.length = n) (h3 : n ≤ 3) (hk : cur.take n = pre) (hz : ∀ j, n ≤ j → cur.getD j 0 = 0) : cur = pad pre := by
  apply List.ext_getElem?
  intro j
  unfold pad
  rw [List.take_of_length_le (by omega)]
  by_cases hj : j < n
  · rw [List.getElem?_append_left (by omega), ← hk, List.getElem?_take, if_pos hj]
  · rw [List.getElem?_append_right (by omega), List.getElem?_drop]
    by_cases h3j : j < 3
    · have h1 := hz j (by omega)
      have h2 : cur[j]? = some 0 := by
        rw [List.getElem?_eq_getElem (by omega)]
        simpa [List.getD, show j < cur.length by omega] using h1
      rw [h2, show pre.length + (j - pre.length) = j by omega]
      match j, h3j with
      | 0, _ => rfl
      | 1, _ => rfl
      | 2, _ => rfl
    · rw [List.getElem?_eq_none (by omega), List.getElem?_eq_none (by simp; omega)]
theorem set_take {cur pre : List Int} {d : Nat} (z : Int) (hk : cur.take d = pre) (hd : d < cur.length) : (cur.set d z).take (d + 1) = pre ++ [z] := by
  rw [List.take_succ_eq_append_getElem (by simpa using hd), List.take_set_of_le (by omega), hk]; simp
theorem set_keep {cur pre : List Int} {d : Nat} (z : Int) (hk : cur.take d = pre) : (cur.set d z).take d = pre := by rw [List.take_set_of_le (by omega), hk]
theorem set_zero {cur : List Int} {d n : Nat} (z : Int) (hd : d < n) (hz : ∀ j, n ≤ j → cur.getD j 0 = 0) : ∀ j, n ≤ j → (cur.set d z).getD j 0 = 0 := by
  intro j hj
  have := hz j hj
  simp only [List.getD_eq_getElem?_getD, List.getElem?_set] at this ⊢
  rw [if_neg (by omega)]; exact this
theorem zCm {cur pre : List Int} {d : Nat} {z : Int} (h : cur.take (d + 1) = pre ++ [z]) (hp : pre.length = d) : cur.take d = pre := by
  have := congrArg (List.take d) h
  rw [List.take_take, Nat.min_eq_left (by omega)] at this
  rw [this, ← hp, List.take_left' rfl]
theorem zCt {α : Type} {l : List α} {i : Nat} {x : α} {r : List α} (h : l.drop i = x :: r) : l.drop (i + 1) = r := by
  rw [← List.tail_drop, h]; rfl
theorem zCu {α : Type} {l : List α} {i : Nat} {x : α} {r : List α} (h : l.drop i = x :: r) : i < l.length := by
  rcases Nat.lt_or_ge i l.length with h1 | h1
  · exact h1
  · rw [List.drop_of_length_le h1] at h; cases h
theorem drop_get {α : Type} {l : List α} {i : Nat} {x : α} {r : List α} (h : l.drop i = x :: r) : l[i]'(zCu h) = x := by
  have := List.drop_eq_getElem_cons (zCu h)
  rw [h] at this
  exact (List.cons.inj this).1.symm
theorem zCq {α : Type} {l : List α} {i : Nat} {x : α} {r : List α} (hn : l.Nodup) (h : l.drop i = x :: r) : x ∉ r := by
  have : (l.drop i).Nodup := hn.sublist (List.drop_sublist _ _)
  rw [h, List.nodup_cons] at this
  exact this.1
theorem drop_done {α : Type} {l : List α} {i : Nat} (hi : i ≤ l.length) (h : l.drop i = []) : i = l.length := by
  have := congrArg List.length h
  rw [List.length_drop] at this
  simp at this; omega
/-- The cables that do. -/
def doC (p : Port) : List (List Int) := (allC 11 p.farms.length).filter fun l => full p l
end Go.Rt.Ca
/- Plain words of the cable layer: the cables that do, as they are come to. No conditions. -/
namespace Go.Rt.Ca
theorem filter_drop {α : Type} (f : α → Bool) (l : List α) (i : Nat) : (l.filter f).drop ((l.take i).filter f).length = (l.drop i).filter f := by
  have h : l.filter f = (l.take i).filter f ++ (l.drop i).filter f := by rw [← List.filter_append, List.take_append_drop]
  rw [h, List.drop_left' rfl]
theorem filter_here {α : Type} {f : α → Bool} {l : List α} {i : Nat} (hi : i < l.length) (hf : f l[i] = true) : (l.filter f).drop ((l.take i).filter f).length = l[i] :: (l.drop (i + 1)).filter f := by
  rw [filter_drop, List.drop_eq_getElem_cons hi, List.filter_cons_of_pos hf]
theorem filter_yes {α : Type} {f : α → Bool} {l : List α} {i : Nat} (hi : i < l.length) (hf : f l[i] = true) : ((l.take (i + 1)).filter f).length = ((l.take i).filter f).length + 1 := by
  rw [List.take_succ_eq_append_getElem hi, List.filter_append, List.length_append, List.filter_cons_of_pos hf]; rfl
theorem filter_no {α : Type} {f : α → Bool} {l : List α} {i : Nat} (hi : i < l.length) (hf : f l[i] = false) : ((l.take (i + 1)).filter f).length = ((l.take i).filter f).length := by
  rw [List.take_succ_eq_append_getElem hi, List.filter_append, List.length_append, List.filter_cons_of_neg (by simp [hf])]; rfl
theorem zero_least {p : Port} (hok : p.Ok) {x : Load} (h : x.ints = [0, 0, 0]) : decide (p.hold ≤ x.least) = false := by
  have h1 : x.least = 0 := by
    unfold Load.ints at h
    simp only [List.cons.injEq] at h
    exact h.1
  have := hok.hold
  rw [h1]; simp; omega
theorem do_len {p : Port} {l : List Int} (h : l ∈ doC p) : l.length = p.farms.length := all_len (List.mem_filter.1 h).1
theorem do_full {p : Port} {l : List Int} (h : l ∈ doC p) : full p l = true := (List.mem_filter.1 h).2
theorem do_in {p : Port} {l : List Int} (h : l ∈ doC p) : ∀ y ∈ l, -1 ≤ y ∧ y ≤ 10 := by
  intro y hy
  have := all_in (List.mem_filter.1 h).1 y hy
  omega
theorem pad_of {l : List Int} {lo : Int} (h0 : lo ≤ 10) (h : ∀ y ∈ l, -1 ≤ y ∧ y ≤ lo) : ∀ y ∈ pad l, -1 ≤ y ∧ y ≤ 10 := by
  intro x hx
  unfold pad at hx
  rcases List.mem_append.1 hx with h1 | h1
  · have := h x (List.mem_of_mem_take h1); omega
  · have := List.mem_of_mem_drop h1
    simp only [List.mem_cons, List.not_mem_nil, or_false, or_self] at this
    omega
theorem all_len2 {below n i : Nat} (hi : i < (allC below n).length) : ((allC below n)[i]).length = n := all_len (List.getElem_mem hi)
theorem allpad_in {below n i : Nat} (hb : below ≤ 11) (hi : i < (allC below n).length) : ∀ y ∈ pad ((allC below n)[i]), -1 ≤ y ∧ y ≤ 10 :=
  pad_of (lo := 10) (by omega) fun y hy => by have := all_in (List.getElem_mem hi) y hy; omega
end Go.Rt.Ca
/- Plain words of the cable layer: the best cables, how long a cable can be held, what is told. No conditions. -/
namespace Go.Rt.Ca
structure Best where
  found : Bool
  b : List Int
  v : Int
  c : Int
def bstep (p : Port) (s : Best) (l : List Int) : Best := if s.found = false ∨ less [vain p l, cut p.farms l] [s.v, s.c] = true then ⟨true, l, vain p l, cut p.farms l⟩ else s
def bestUpto (p : Port) (Ls : List (List Int)) (i : Nat) : Best := (Ls.take i).foldl (bstep p) ⟨false, [0, 0, 0], 0, 0⟩
def best (p : Port) (Ls : List (List Int)) : Best := Ls.foldl (bstep p) ⟨false, [0, 0, 0], 0, 0⟩
theorem zCi {p : Port} {Ls : List (List Int)} {i : Nat} (hi : i < Ls.length) : bestUpto p Ls (i + 1) = bstep p (bestUpto p Ls i) Ls[i] := by
  unfold bestUpto; rw [List.take_succ_eq_append_getElem hi, List.foldl_append]; rfl
theorem bestUpto_all {p : Port} {Ls : List (List Int)} {i : Nat} (hi : Ls.length ≤ i) : bestUpto p Ls i = best p Ls := by
  unfold bestUpto best; rw [List.take_of_length_le hi]
theorem bstep_take {p : Port} {s : Best} {l : List Int} (h : s.found = false ∨ less [vain p l, cut p.farms l] [s.v, s.c] = true) : bstep p s l = ⟨true, l, vain p l, cut p.farms l⟩ := by unfold bstep; rw [if_pos h]
theorem bstep_keep {p : Port} {s : Best} {l : List Int} (h : s.found = true) (h2 : less [vain p l, cut p.farms l] [s.v, s.c] = false) : bstep p s l = s := by unfold bstep; rw [if_neg (by simp [h, h2])]
theorem best_len {p : Port} {Ls : List (List Int)} (h : ∀ l ∈ Ls, l.length = 3) (i : Nat) : (bestUpto p Ls i).b.length = 3 := by
  unfold bestUpto
  have : ∀ (L : List (List Int)) (s : Best), (∀ l ∈ L, l.length = 3) → s.b.length = 3 → (L.foldl (bstep p) s).b.length = 3 := by
    intro L
    induction L with
    | nil => intro s _ h; exact h
    | cons l L ih =>
      intro s hL hs
      refine ih _ (fun x hx => hL x (.tail _ hx)) ?_
      unfold bstep; split
      · exact hL l (.head _)
      · exact hs
  exact this _ _ (fun l hl => h l (List.mem_of_mem_take hl)) rfl
theorem best_in {p : Port} {Ls : List (List Int)} (h : ∀ l ∈ Ls, ∀ y ∈ l, -1 ≤ y ∧ y ≤ 10) (i : Nat) : ∀ y ∈ (bestUpto p Ls i).b, -1 ≤ y ∧ y ≤ 10 := by
  unfold bestUpto
  have : ∀ (L : List (List Int)) (s : Best), (∀ l ∈ L, ∀ y ∈ l, -1 ≤ y ∧ y ≤ 10) → (∀ y ∈ s.b, -1 ≤ y ∧ y ≤ 10) → ∀ y ∈ (L.foldl (bstep p) s).b, -1 ≤ y ∧ y ≤ 10 := by
    intro L
    induction L with
    | nil => intro s _ h; exact h
    | cons l L ih =>
      intro s hL hs
      refine ih _ (fun x hx => hL x (.tail _ hx)) ?_
      unfold bstep; split
      · exact hL l (.head _)
      · exact hs
  exact this _ _ (fun l hl => h l (List.mem_of_mem_take hl)) (by simp)
def doP (p : Port) : List (List Int) := (doC p).map pad
theorem doP_len {p : Port} : ∀ l ∈ doP p, l.length = 3 := by
  intro l hl
  obtain ⟨x, _, rfl⟩ := List.mem_map.1 hl
  exact zCp x
theorem doP_in {p : Port} : ∀ l ∈ doP p, ∀ y ∈ l, -1 ≤ y ∧ y ≤ 10 := by
  intro l hl
  obtain ⟨x, hx, rfl⟩ := List.mem_map.1 hl
  exact pad_of (lo := 10) (by omega) (do_in hx)
end Go.Rt.Ca
/- Plain words of the cable layer: what Plan, Held and Told return. No conditions. -/
namespace Go.Rt.Ca
def planL (p : Port) : List Int := if (check p).2.2 = 0 ∧ (best p (doP p)).found = true then (best p (doP p)).b.take p.farms.length else []
def planV (p : Port) : Int := if (check p).2.2 = 0 ∧ (best p (doP p)).found = true then vain p (best p (doP p)).b else 0
def planE (p : Port) : Int := if (check p).2.2 = 0 then (if (best p (doP p)).found = true then 0 else 9) else (check p).2.2
theorem plan_e1 {p : Port} (h : ¬ (check p).2.2 = 0) : planL p = [] ∧ planV p = 0 ∧ planE p = (check p).2.2 := by
  unfold planL planV planE
  rw [if_neg (fun hh => h hh.1), if_neg (fun hh => h hh.1), if_neg h]; exact ⟨rfl, rfl, rfl⟩
theorem plan_e2 {p : Port} (h : (check p).2.2 = 0) (hf : (best p (doP p)).found = false) : planL p = [] ∧ planV p = 0 ∧ planE p = 9 := by
  unfold planL planV planE
  rw [hf]; simp [h]
theorem plan_ok {p : Port} (h : (check p).2.2 = 0) (hf : (best p (doP p)).found = true) : planL p = (best p (doP p)).b.take p.farms.length ∧ planV p = vain p (best p (doP p)).b ∧ planE p = 0 := by
  unfold planL planV planE
  rw [hf]; simp [h]
def heldUpto (p : Port) (f i : Nat) : Int := ((doP p).take i).foldl (fun n l => max n (l.getD f 0)) 0
def held (p : Port) (f : Nat) : Int := (doP p).foldl (fun n l => max n (l.getD f 0)) 0
theorem heldUpto_succ {p : Port} {f i : Nat} (hi : i < (doP p).length) : heldUpto p f (i + 1) = max (heldUpto p f i) ((doP p)[i].getD f 0) := by
  unfold heldUpto; rw [List.take_succ_eq_append_getElem hi, List.foldl_append]; rfl
theorem heldUpto_all {p : Port} {f i : Nat} (hi : (doP p).length ≤ i) : heldUpto p f i = held p f := by unfold heldUpto held; rw [List.take_of_length_le hi]
def anyNever (p : Port) (f i : Nat) : Bool := ((doP p).take i).any fun l => decide (l.getD f 0 = -1)
theorem anyNever_succ {p : Port} {f i : Nat} (hi : i < (doP p).length) : anyNever p f (i + 1) = (anyNever p f i || decide ((doP p)[i].getD f 0 = -1)) := by
  unfold anyNever; rw [List.take_succ_eq_append_getElem hi, List.any_append]; simp
theorem anyNever_all {p : Port} {f i : Nat} (hi : (doP p).length ≤ i) : anyNever p f i = (doP p).any fun l => decide (l.getD f 0 = -1) := by unfold anyNever; rw [List.take_of_length_le hi]
theorem anyNever_true {p : Port} {f i : Nat} (h : anyNever p f i = true) : ((doP p).any fun l => decide (l.getD f 0 = -1)) = true := by
  unfold anyNever at h
  rw [List.any_eq_true] at h ⊢
  obtain ⟨x, hx, h⟩ := h
  exact ⟨x, List.mem_of_mem_take hx, h⟩
def heldD (p : Port) (f : Int) : Int := if (check p).2.2 = 0 ∧ out 0 (p.farms.length - 1) f = false then (if ((doP p).any fun l => decide (l.getD f.toNat 0 = -1)) then -1 else held p f.toNat) else 0
def heldE (p : Port) (f : Int) : Int := if (check p).2.2 = 0 then (if out 0 (p.farms.length - 1) f = false then (if doC p = [] then 9 else 0) else 4) else (check p).2.2
def toldStep (p : Port) (day : Int) (n : Int) (l : List Int) : Int := if 0 ≤ worst p l day ∧ (n < 0 ∨ worst p l day < n) then worst p l day else n
def toldUpto (p : Port) (d i : Nat) : Int := ((((allC d p.farms.length).map pad)).take i).foldl (toldStep p d) (-1)
def told (p : Port) (d : Nat) : Int := ((allC d p.farms.length).map pad).foldl (toldStep p d) (-1)
theorem zCx {p : Port} {d i : Nat} (hi : i < ((allC d p.farms.length).map pad).length) : toldUpto p d (i + 1) = toldStep p d (toldUpto p d i) ((allC d p.farms.length).map pad)[i] := by
  unfold toldUpto; rw [List.take_succ_eq_append_getElem hi, List.foldl_append]; rfl
theorem zDa {p : Port} {d i : Nat} (hi : ((allC d p.farms.length).map pad).length ≤ i) : toldUpto p d i = told p d := by unfold toldUpto told; rw [List.take_of_length_le hi]
theorem told_yes {p : Port} {day n : Int} {l : List Int} (h : 0 ≤ worst p l day) (h2 : n < 0 ∨ worst p l day < n) : worst p l day = toldStep p day n l := by unfold toldStep; rw [if_pos ⟨h, h2⟩]
theorem told_no {p : Port} {day n : Int} {l : List Int} (h : ¬ (0 ≤ worst p l day ∧ (n < 0 ∨ worst p l day < n))) : n = toldStep p day n l := by unfold toldStep; rw [if_neg h]
def toldD (p : Port) (day : Int) : Int := if (check p).2.2 = 0 ∧ out 0 10 day = false ∧ 0 ≤ told p day.toNat then told p day.toNat else 0
def toldE (p : Port) (day : Int) : Int := if (check p).2.2 = 0 then (if out 0 10 day = false then (if told p day.toNat < 0 then 9 else 0) else 7) else (check p).2.2
theorem keep_front {w0 w : World} {x : Nat × Obj} {Y F : List (Nat × Obj)} (h : St w0 w (x :: (Y ++ F))) : St w0 w (x :: F) := (h.perm (zBe [x] Y F)).drop
end Go.Rt.Ca
/- Plain words of the cable layer: who must cut too early. No conditions. -/
namespace Go.Rt.Ca
def setKeep (l : List Farm) (i : Nat) (k : Int) : List Farm := l.modify i fun f => { f with keep := k }
/-- A port of which a farm has another Keep. -/
def kept (p : Port) (i : Nat) (k : Int) : Port := { p with farms := setKeep p.farms i k }
def canAt (p : Port) (i : Nat) (k : Int) : Bool := !(doC (kept p i k)).isEmpty
def earlyK (p : Port) (i : Nat) : Int → Nat → Option Int
  | _, 0 => none
  | k, n + 1 => if canAt p i k then some k else earlyK p i (k + 1) n
def earlyFrom (p : Port) : Nat → List Farm → Int × Int × Int
  | _, [] => (0, 0, 9)
  | i, f :: l => match earlyK p i (f.keep + 1) (9 - f.keep).toNat with
    | some k => ((i : Int), k - f.keep, 0)
    | none => earlyFrom p (i + 1) l
def earlyD (p : Port) : Int × Int × Int := if (check p).2.2 = 0 then (if (doC p).isEmpty then earlyFrom p 0 p.farms else (0, 0, 2)) else (0, 0, (check p).2.2)
theorem early_here {p : Port} {i : Nat} (hi : i < p.farms.length) : earlyFrom p i (p.farms.drop i) = match earlyK p i (p.farms[i].keep + 1) (9 - p.farms[i].keep).toNat with
    | some k => ((i : Int), k - p.farms[i].keep, 0)
    | none => earlyFrom p (i + 1) (p.farms.drop (i + 1)) := by
  rw [List.drop_eq_getElem_cons hi]; rfl
theorem zC2 (l : List Farm) (i : Nat) (k : Int) : (setKeep l i k).length = l.length := by simp [setKeep]
theorem setKeep_same {l : List Farm} {i : Nat} (hi : i < l.length) : setKeep l i l[i].keep = l := by
  unfold setKeep
  apply List.ext_getElem?
  intro j
  rw [List.getElem?_modify]
  by_cases h : i = j
  · subst h; simp [hi]
  · simp [h]
theorem setKeep_set {l : List Farm} {i : Nat} {k k' : Int} : setKeep (setKeep l i k) i k' = setKeep l i k' := by
  unfold setKeep
  apply List.ext_getElem?
  intro j
  simp only [List.getElem?_modify]
  by_cases h : i = j
  · subst h; cases l[i]? <;> simp
  · simp [h]
theorem setKeep_get {l : List Farm} {i : Nat} (k : Int) (hi : i < l.length) : (setKeep l i k)[i]'(by rw [zC2]; exact hi) = { l[i] with keep := k } := by simp [setKeep]
theorem setKeep_cells {l : List Farm} {i : Nat} (k : Int) (hi : i < l.length) : ((setKeep l i k)[i]'(by rw [zC2]; exact hi)).cells = [.string l[i].name, .int .i64 l[i].way, .int .i64 l[i].notice, .int .i64 k, .int .i64 l[i].lo, .int .i64 l[i].hi] := by
  rw [setKeep_get k hi]; rfl
theorem kept_ok {p : Port} (hok : p.Ok) {i : Nat} {k : Int} (hi : i < p.farms.length) (h1 : p.farms[i].keep ≤ k) (h2 : k ≤ 9) : (kept p i k).Ok := by
  refine ⟨hok.hold, hok.come, by show (setKeep p.farms i k).length ≤ 3; rw [zC2]; exact hok.len, ?_⟩
  intro f hf
  obtain ⟨j, hj, rfl⟩ := List.getElem_of_mem hf
  have hj' : j < p.farms.length := by simpa [kept, setKeep] using hj
  have := hok.farm _ (List.getElem_mem hj')
  by_cases h : i = j
  · subst h
    have e : (kept p i k).farms[i] = { p.farms[i] with keep := k } := setKeep_get k hi
    rw [e]
    unfold Farm.Ok at this ⊢
    dsimp only
    omega
  · have e : (kept p i k).farms[j] = p.farms[j] := by simp [kept, setKeep, List.getElem_modify, h]
    rw [e]; exact this
theorem rows_set : ∀ (l : List Farm) (i : Nat) (k : Int), i < l.length → (rows l).flatten.set (i * 6 + 3) (.int .i64 k) = (rows (setKeep l i k)).flatten
  | [], i, _, h => by simp at h
  | f :: l, 0, k, _ => by simp [rows, setKeep, Farm.cells]
  | f :: l, i + 1, k, h => by
    have ih := rows_set l i k (by simpa using h)
    have e : rows (setKeep (f :: l) (i + 1) k) = f.cells :: rows (setKeep l i k) := by simp [rows, setKeep]
    rw [e, List.flatten_cons, ← ih]
    simp only [rows, List.map_cons, List.flatten_cons]
    rw [List.set_append_right _ _ (by simp [Farm.cells]; omega)]
    congr 2
    simp [Farm.cells]; omega
theorem cells_set {cs : List Value} {l : List Farm} {n i : Nat} {k : Int} (hn : l.length = n) (h : cs.take (n * 6) = (rows l).flatten) (hi : i < n) : (cs.set (i * 6 + 3) (.int .i64 k)).take (n * 6) = (rows (setKeep l i k)).flatten := by
  rw [List.take_set, h, rows_set l i k (by omega)]
end Go.Rt.Ca
/- Plain words of the cable layer: the examples of the document, evaluated. No conditions. -/
set_option maxRecDepth 100000
namespace Go.Rt.Ca
def fAlto : Farm := ⟨⟨#[97, 108, 116, 111]⟩, 1, 1, 5, 20, 25⟩
def fBajo : Farm := ⟨⟨#[98, 97, 106, 111]⟩, 2, 1, 4, 30, 30⟩
def fCima : Farm := ⟨⟨#[99, 105, 109, 97]⟩, 1, 2, 3, 40, 45⟩
def exPort (come : Int) (n : Nat) : Port := ⟨50, come, 8, [fAlto, fBajo, fCima].take n⟩
theorem ex_nm (come : Int) (n : Nat) : ∀ f ∈ (exPort come n).farms, f.name.size ≤ 9223372036854775807 := by
  intro f hf
  have h := List.mem_of_mem_take hf
  simp only [List.mem_cons, List.not_mem_nil, or_false] at h
  rcases h with rfl | rfl | rfl <;> decide
def fullR (p : Port) (l : List Int) : Int := if enterErr p l = 0 then does p l else 0
def vainR (p : Port) (l : List Int) : Int := if enterErr p l = 0 then vain p l else 0
theorem ex_q5 : enterErr (exPort 5 3) [2, 3, -1] = 0 := by decide +kernel
theorem ex_q5v : quayR (exPort 5 3) [2, 3, -1] = [[20, 25], [50, 55], [50, 55], [50, 55]] := by decide +kernel
theorem ex_q6 : enterErr (exPort 6 3) [2, 3, -1] = 0 := by decide +kernel
theorem ex_q5b : enterErr (exPort 5 3) [-1, -1, 3] = 0 := by decide +kernel
theorem ex_f6 : fullR (exPort 6 3) [2, 3, -1] = 1 := by decide +kernel
theorem ex_f5 : fullR (exPort 5 3) [2, 3, -1] = 0 := by decide +kernel
theorem ex_f5b : fullR (exPort 5 3) [-1, -1, 3] = 2 := by decide +kernel
theorem ex_v5 : vainR (exPort 5 3) [2, 3, -1] = 30 := by decide +kernel
theorem ex_p6 : planL (exPort 6 3) = [2, 3, -1] := by decide +kernel
theorem ex_p6v : planV (exPort 6 3) = 0 := by decide +kernel
theorem ex_p6e : planE (exPort 6 3) = 0 := by decide +kernel
theorem ex_p5 : planL (exPort 5 3) = [2, 0, 3] := by decide +kernel
theorem ex_p5v : planV (exPort 5 3) = 45 := by decide +kernel
theorem ex_p5e : planE (exPort 5 3) = 0 := by decide +kernel
theorem ex_t5 : planL (exPort 5 2) = [] := by decide +kernel
theorem ex_t5v : planV (exPort 5 2) = 0 := by decide +kernel
theorem ex_t5e : planE (exPort 5 2) = 9 := by decide +kernel
theorem ex_h60 : heldD (exPort 6 2) 0 = 4 := by decide +kernel
theorem ex_h60e : heldE (exPort 6 2) 0 = 0 := by decide +kernel
theorem ex_h63 : heldD (exPort 6 3) 3 = 0 := by decide +kernel
theorem ex_h63e : heldE (exPort 6 3) 3 = 4 := by decide +kernel
theorem ex_e5 : earlyD (exPort 5 2) = (1, 1, 0) := by decide +kernel
theorem ex_e6 : earlyD (exPort 6 3) = (0, 0, 2) := by decide +kernel
theorem ex_t3 : toldD (exPort 5 3) 3 = 30 := by decide +kernel
theorem ex_t3e : toldE (exPort 5 3) 3 = 0 := by decide +kernel
end Go.Rt.Ca
set_option maxRecDepth 20000
namespace Go.Proofs.Cb
open Go.Proofs.Tryz
open Go.Rt Go.Rt.Ca
attribute [local irreducible] WL WC Con Yd At Ats Sl Agree DW
theorem Try_CJ_fb5 (x0 : Int) (x1 : Int) (w : World) : (Instr.build 28 [(0, .int .i64 x0), (1, .int .i64 x1)].toArray).run Tryz.prog w = .ok (.agg #[.int .i64 x0, .int .i64 x1]) w := by kernel_rfl
theorem Try_CJ_fb6 (x0 : Int) (x1 : Int) (w : World) : (Instr.buildSlice 81 1 [(0, .agg #[.int .i64 x0, .int .i64 x1])].toArray).run Tryz.prog w = .ok (.slice (some ⟨w.heap.size, 0, none⟩) 1 1) (w.alloc (Go.Rt.blk 28 [.int .i64 x0, .int .i64 x1])) := by kernel_rfl
theorem Try_info28 : Tryz.prog.info? 28 = some Tryz.t28 := by kernel_rfl
theorem zC0 {α : Type} {L : List α} {f : α → Bool} {i : Nat} (hi : i < L.length) : (L.take (i + 1)).all f = ((L.take i).all f && f L[i]) := by
  rw [List.take_succ_eq_append_getElem hi, List.all_append]; simp
theorem drop_quay {w0 w : World} {B M1 F : List (Nat × Obj)} {x y z : Nat × Obj} (h : St w0 w (B ++ ([x] ++ (M1 ++ (y :: z :: F))))) : St w0 w (B ++ F) := by
  have e : B ++ ([x] ++ (M1 ++ (y :: z :: F))) = B ++ (([x] ++ (M1 ++ [y, z])) ++ F) := by simp
  rw [e] at h
  exact (h.perm (zBe _ _ _)).drop
theorem tup2 {a b c d : Int} (h : a = b) (h2 : c = d) : Value.tuple #[.int .i64 a, .int .i64 c] = .tuple #[.int .i64 b, .int .i64 d] := by rw [h, h2]
theorem c36 {w0 w : World} {F : List (Nat × Obj)} (p : Port) (a : Option Addr) (c : Nat) (hl3 : p.farms.length ≤ 9223372036854775807) (hc : p.farms.length ≤ c) (ha : Sl w0 F a 6 (rows p.farms)) (hnm : ∀ f ∈ p.farms, f.name.size ≤ 9223372036854775807) (al : Option Addr) (cl : Nat) (l : List Int) (hll : l.length ≤ 9223372036854775807) (hl : Sl w0 F al 1 (l.map fun x => [Value.int .i64 x])) (hs : St w0 w F) :
  Con Tryz.prog 36 [.agg (p.cells a c).toArray, .slice al l.length cl] w fun v w' => v = .tuple #[.int .i64 (vainR p l), .int .i64 (enterErr p l)] ∧ St w0 w' F := by
  refine zAw (n := 22) func36 rfl rfl (Nat.le_of_ble_eq_true rfl) ?_
  refine zAg (fun K2 hK1 => ?_)
  refine zAb (zB3 (v := .agg #[.int _ _, .int _ _, .int _ _, .slice _ _ _]) (cs := [_, _, _, _]) zAa rfl rfl rfl hs (fun b3 w4 hs5 => ?_))
  refine w_p (zAc (v := _) rfl rfl) rfl ?_
  refine w_p (zAc (v := _) rfl rfl) rfl ?_
  refine zAf (zAd (hK1 _ _ ?_))
  refine zAg (fun K7 hK6 => ?_)
  refine zAb (w_p (zA6 (vs := [_, _, _, _]) isAgg31 sizeOf31 hs5 rfl rfl (zAj (i := 0) (vs := [_, _, _, _]) rfl rfl)) rfl ?_)
  refine w_p (zAe (v := .slice _ _ _) rfl rfl) rfl ?_
  refine zAt zAa call71 rfl rfl rfl rfl (c71 p _ _ (by omega) (by omega) ha.cons hnm _ _ _ (by omega) hl.cons hs5) ?_
  rintro _ w9 (⟨hee, rfl, hs10⟩ | ⟨hee, m, pb, rfl, hs10⟩)
  ·
   refine w_p (zAe (v := .tuple _) rfl rfl) rfl ?_
   refine w_p (zAq (v := .pointer _) rfl rfl rfl) rfl ?_
   refine w_p (zAq (v := (ia _)) rfl rfl rfl) rfl ?_
   refine w_p (zAq (v := .int _ _) rfl rfl rfl) rfl ?_
   refine zA9 (cs := iv [0, 0, 0]) zAa zeroValue106 rfl hs10 (fun b11 w12 hs13 => ?_)
   refine w_p (zAc (v := .pointer _) rfl rfl) rfl ?_
   refine zCa (i := 0) (l := _) zAa sizeOf106 (by first | omega | rfl | (simp only [zCp, List.length_map, List.length_set, List.length_append, List.length_take, List.length_drop, List.length_replicate, List.length_cons, List.length_nil] <;> omega)) rfl rfl rfl rfl rfl hs13 rfl (by first | omega | rfl | (simp only [zCp, List.length_map, List.length_set, List.length_append, List.length_take, List.length_drop, List.length_replicate, List.length_cons, List.length_nil] <;> omega)) (fun w14 hs15 => ?_)
   refine w_p (zAc (v := .int _ _) rfl rfl) rfl ?_
   refine zAf (zAd (hK6 _ _ ?_))
   refine zAg (fun K17 hK16 => ?_)
   refine zAg (fun K19 hK18 => ?_)
   refine zAb (w_p (zAe (v := .int _ _) rfl rfl) rfl ?_)
   refine w_p (zCc rfl rfl rfl rfl) rfl ?_
   refine zAf (zAd (hK18 _ _ ?_))
   refine zAz rfl rfl (fun h20 => ?_) (fun h20 => ?_)
   ·
    try simp only [zS] at h20
    refine zAg (fun K22 hK21 => ?_)
    refine zAb (w_p (zAe (v := .int _ _) rfl rfl) rfl ?_)
    refine w_p (zAc (v := _) rfl rfl) rfl ?_
    refine w_p (zAc (v := .int _ _) rfl rfl) rfl ?_
    refine zAf (zAd (hK21 _ _ ?_))
    refine zA2 (zAm (zA3 (l := [.tmp 4, .tmp 5]) (vs := [_, _]) rfl ⟨⟨rfl, (rfl : _ = Value.int _ _)⟩, ⟨rfl, (rfl : _ = Value.int _ _)⟩, trivial⟩ ?_))
    first
      | contradiction
      | (refine ⟨tup2 ?_ ?_, hs15.tail.tail⟩ <;> simp only [vainR, hee, if_true, if_false] <;> first | rfl | exact vain_pad (zC7 hee).2.1 (check_ok (zC7 hee).1).len)
   try simp only [zS] at h20
   all_goals exact absurd (by assumption) hee
  refine w_p (zAe (v := .tuple _) rfl rfl) rfl ?_
  refine w_p (zAq (v := .pointer _) rfl rfl rfl) rfl ?_
  refine w_p (zAq (v := (ia _)) rfl rfl rfl) rfl ?_
  refine w_p (zAq (v := .int _ _) rfl rfl rfl) rfl ?_
  refine zA9 (cs := iv [0, 0, 0]) zAa zeroValue106 rfl hs10 (fun b23 w24 hs25 => ?_)
  refine w_p (zAc (v := .pointer _) rfl rfl) rfl ?_
  refine zCa (i := 0) (l := _) zAa sizeOf106 (by first | omega | rfl | (simp only [zCp, List.length_map, List.length_set, List.length_append, List.length_take, List.length_drop, List.length_replicate, List.length_cons, List.length_nil] <;> omega)) rfl rfl rfl rfl rfl hs25 rfl (by first | omega | rfl | (simp only [zCp, List.length_map, List.length_set, List.length_append, List.length_take, List.length_drop, List.length_replicate, List.length_cons, List.length_nil] <;> omega)) (fun w26 hs27 => ?_)
  refine w_p (zAc (v := .int _ _) rfl rfl) rfl ?_
  refine zAf (zAd (hK6 _ _ ?_))
  refine zAg (fun K29 hK28 => ?_)
  refine zAg (fun K31 hK30 => ?_)
  refine zAb (w_p (zAe (v := .int _ _) rfl rfl) rfl ?_)
  refine w_p (zCc rfl rfl rfl rfl) rfl ?_
  refine zAf (zAd (hK30 _ _ ?_))
  refine zAz rfl rfl (fun h32 => ?_) (fun h32 => ?_)
  ·
   try simp only [zS] at h32
   all_goals contradiction
  try simp only [zS] at h32
  refine zAx (zAd (hK28 _ _ ?_))
  refine zAg (fun K34 hK33 => ?_)
  refine zAb (w_p (zAe (v := .pointer _) rfl rfl) rfl ?_)
  refine w_p (zB4 (i := 0) isAgg106 sizeOf106 (by first | omega | rfl | (simp only [zCp, List.length_map, List.length_set, List.length_append, List.length_take, List.length_drop, List.length_replicate, List.length_cons, List.length_nil] <;> omega)) hs27 rfl rfl rfl) rfl ?_
  refine zAt zAa call53 rfl rfl rfl rfl (c53 (X := [_]) (M := [_]) p _ c m pb (zAj (i := 0) (vs := [_, _, _, _, _]) rfl rfl) ha.cons.cons (check_ok (zC7 hee).1) (pad l) (zCp l) (pad_in hee) (memo_new _ _ _) hs27) ?_
  rintro _ w36 ⟨rfl, M1, hM1, hs37⟩
  replace hs37 := (show St _ _ (_ :: M1 ++ (_ :: _ :: F)) from hs37)
  refine w_p (zAc (v := .int _ _) rfl rfl) rfl ?_
  refine w_p (zAc (v := _) rfl rfl) rfl ?_
  refine zAf (zAd (hK33 _ _ ?_))
  refine zA2 (zA3 (l := [.tmp 4, .tmp 5]) (vs := [_, _]) rfl ⟨⟨rfl, (rfl : _ = Value.int _ _)⟩, ⟨rfl, (rfl : _ = Value.int _ _)⟩, trivial⟩ ?_)
  first
    | contradiction
    | (refine ⟨tup2 ?_ ?_, hs37.tail.drop.tail.tail⟩ <;> simp only [vainR, hee, if_true, if_false] <;> first | rfl | exact vain_pad (zC7 hee).2.1 (check_ok (zC7 hee).1).len)

theorem c35 {w0 w : World} {F : List (Nat × Obj)} (p : Port) (a : Option Addr) (c : Nat) (hl3 : p.farms.length ≤ 9223372036854775807) (hc : p.farms.length ≤ c) (ha : Sl w0 F a 6 (rows p.farms)) (hnm : ∀ f ∈ p.farms, f.name.size ≤ 9223372036854775807) (al : Option Addr) (cl : Nat) (l : List Int) (hll : l.length ≤ 9223372036854775807) (hl : Sl w0 F al 1 (l.map fun x => [Value.int .i64 x])) (hs : St w0 w F) :
  Con Tryz.prog 35 [.agg (p.cells a c).toArray, .slice al l.length cl] w fun v w' => v = .tuple #[.int .i64 (fullR p l), .int .i64 (enterErr p l)] ∧ St w0 w' F := by
  refine zAw (n := 52) func35 rfl rfl (Nat.le_of_ble_eq_true rfl) ?_
  refine zAg (fun K2 hK1 => ?_)
  refine zAb (zB3 (v := .agg #[.int _ _, .int _ _, .int _ _, .slice _ _ _]) (cs := [_, _, _, _]) zAa rfl rfl rfl hs (fun b3 w4 hs5 => ?_))
  refine w_p (zAc (v := _) rfl rfl) rfl ?_
  refine w_p (zAc (v := _) rfl rfl) rfl ?_
  refine zAf (zAd (hK1 _ _ ?_))
  refine zAg (fun K7 hK6 => ?_)
  refine zAb (w_p (zA6 (vs := [_, _, _, _]) isAgg31 sizeOf31 hs5 rfl rfl (zAj (i := 0) (vs := [_, _, _, _]) rfl rfl)) rfl ?_)
  refine w_p (zAe (v := .slice _ _ _) rfl rfl) rfl ?_
  refine zAt zAa call71 rfl rfl rfl rfl (c71 p _ _ (by omega) (by omega) ha.cons hnm _ _ _ (by omega) hl.cons hs5) ?_
  rintro _ w9 (⟨hee, rfl, hs10⟩ | ⟨hee, m, pb, rfl, hs10⟩)
  ·
   refine w_p (zAe (v := .tuple _) rfl rfl) rfl ?_
   refine w_p (zAq (v := .pointer _) rfl rfl rfl) rfl ?_
   refine w_p (zAq (v := (ia _)) rfl rfl rfl) rfl ?_
   refine w_p (zAq (v := .int _ _) rfl rfl rfl) rfl ?_
   refine zA9 (cs := iv [0, 0, 0]) zAa zeroValue106 rfl hs10 (fun b11 w12 hs13 => ?_)
   refine w_p (zAc (v := .pointer _) rfl rfl) rfl ?_
   refine zCa (i := 0) (l := _) zAa sizeOf106 (by first | omega | rfl | (simp only [zCp, List.length_map, List.length_set, List.length_append, List.length_take, List.length_drop, List.length_replicate, List.length_cons, List.length_nil] <;> omega)) rfl rfl rfl rfl rfl hs13 rfl (by first | omega | rfl | (simp only [zCp, List.length_map, List.length_set, List.length_append, List.length_take, List.length_drop, List.length_replicate, List.length_cons, List.length_nil] <;> omega)) (fun w14 hs15 => ?_)
   refine w_p (zAc (v := .int _ _) rfl rfl) rfl ?_
   refine zAf (zAd (hK6 _ _ ?_))
   refine zAg (fun K17 hK16 => ?_)
   refine zAg (fun K19 hK18 => ?_)
   refine zAb (w_p (zAe (v := .int _ _) rfl rfl) rfl ?_)
   refine w_p (zCc rfl rfl rfl rfl) rfl ?_
   refine zAf (zAd (hK18 _ _ ?_))
   refine zAz rfl rfl (fun h20 => ?_) (fun h20 => ?_)
   ·
    try simp only [zS] at h20
    refine zAg (fun K22 hK21 => ?_)
    refine zAb (w_p (zAe (v := .int _ _) rfl rfl) rfl ?_)
    refine w_p (zAc (v := _) rfl rfl) rfl ?_
    refine w_p (zAc (v := .int _ _) rfl rfl) rfl ?_
    refine zAf (zAd (hK21 _ _ ?_))
    refine zA2 (zAm (zA3 (l := [.tmp 4, .tmp 5]) (vs := [_, _]) rfl ⟨⟨rfl, (rfl : _ = Value.int _ _)⟩, ⟨rfl, (rfl : _ = Value.int _ _)⟩, trivial⟩ ?_))
    first
      | contradiction
      | (refine ⟨tup2 ?_ ?_, hs15.tail.tail⟩ <;> simp only [fullR, hee, if_true, if_false]; done)
      | (rw [List.take_of_length_le (by omega), ← full_loads] at hs1
         rw [List.take_of_length_le (by omega), ← never_loads] at hs2
         refine ⟨tup2 ?_ ?_, ((show St w0 _ ([_] ++ (M1 ++ (_ :: _ :: F))) from St.cast hz hs15).drop.drop.tail.tail)⟩ <;> simp only [fullR, hee, if_true, if_false]
         rw [← does_pad (zC7 hee).2.1 hok.len]
         unfold does
         rw [← hs1, ← hs2]
         simp [h20])
   try simp only [zS] at h20
   all_goals exact absurd (by assumption) hee
  refine w_p (zAe (v := .tuple _) rfl rfl) rfl ?_
  refine w_p (zAq (v := .pointer _) rfl rfl rfl) rfl ?_
  refine w_p (zAq (v := (ia _)) rfl rfl rfl) rfl ?_
  refine w_p (zAq (v := .int _ _) rfl rfl rfl) rfl ?_
  refine zA9 (cs := iv [0, 0, 0]) zAa zeroValue106 rfl hs10 (fun b23 w24 hs25 => ?_)
  refine w_p (zAc (v := .pointer _) rfl rfl) rfl ?_
  refine zCa (i := 0) (l := _) zAa sizeOf106 (by first | omega | rfl | (simp only [zCp, List.length_map, List.length_set, List.length_append, List.length_take, List.length_drop, List.length_replicate, List.length_cons, List.length_nil] <;> omega)) rfl rfl rfl rfl rfl hs25 rfl (by first | omega | rfl | (simp only [zCp, List.length_map, List.length_set, List.length_append, List.length_take, List.length_drop, List.length_replicate, List.length_cons, List.length_nil] <;> omega)) (fun w26 hs27 => ?_)
  refine w_p (zAc (v := .int _ _) rfl rfl) rfl ?_
  refine zAf (zAd (hK6 _ _ ?_))
  refine zAg (fun K29 hK28 => ?_)
  refine zAg (fun K31 hK30 => ?_)
  refine zAb (w_p (zAe (v := .int _ _) rfl rfl) rfl ?_)
  refine w_p (zCc rfl rfl rfl rfl) rfl ?_
  refine zAf (zAd (hK30 _ _ ?_))
  refine zAz rfl rfl (fun h32 => ?_) (fun h32 => ?_)
  ·
   try simp only [zS] at h32
   all_goals contradiction
  try simp only [zS] at h32
  refine zAx (zAd (hK28 _ _ ?_))
  refine zAg (fun K34 hK33 => ?_)
  refine zAb (w_p (zAc (v := _) rfl rfl) rfl ?_)
  refine w_p (zAc (v := _) rfl rfl) rfl ?_
  refine zAf (zAd (hK33 _ _ ?_))
  refine zAg (fun K36 hK35 => ?_)
  refine zAg (fun K38 hK37 => ?_)
  refine zAb (w_p (zAe (v := .pointer _) rfl rfl) rfl ?_)
  refine w_p (zB4 (i := 0) isAgg106 sizeOf106 (by first | omega | rfl | (simp only [zCp, List.length_map, List.length_set, List.length_append, List.length_take, List.length_drop, List.length_replicate, List.length_cons, List.length_nil] <;> omega)) hs27 rfl rfl rfl) rfl ?_
  refine zAt zAa call72 rfl rfl rfl rfl (loads_con2 (X := [_]) (M := [_]) p _ c m pb (zAj (i := 0) (vs := [_, _, _, _, _]) rfl rfl) ha.cons.cons (check_ok (zC7 hee).1) (pad l) (zCp l) (pad_in hee) (memo_new _ _ _) hs27) ?_
  rintro _ w40 ⟨Z, M1, al2, cl2, rfl, hM1, hz, hsl, hs41⟩
  have hb2 : Ats w0 Z b3 0 (p.cells a c) := (zAj (w0 := w0) (L := (pb, blk 151 [.int .i64 p.hold, .int .i64 p.clo, .int .i64 p.chi, .slice a p.farms.length c, .map (some m)]) :: (b3, blk 31 (p.cells a c)) :: F) (i := 1) (vs := p.cells a c) rfl rfl).mono fun w h => (show St w0 w ([_] ++ (M1 ++ (_ :: _ :: F))) from St.cast hz h).drop.drop
  have hlo := loads_len p (pad l)
  have hok := check_ok (zC7 hee).1
  have hcome := hok.come
  refine w_p (zBd underlying129 rfl rfl) rfl ?_
  refine w_p (zAe (v := _) rfl rfl) rfl ?_
  refine zAf (zAd (hK37 _ _ ?_))
  refine zAy ?_
  refine zBp [9, 10, 12, 27, 28, 29, 30, 31, 32, 33, 34, 35, 36, 37, 38, 39, 40, 41, 42, 43, 44, 45, 46, 47] [9, 10, 27] (fun k vs w => ∃ (i : Nat) (s1 s2 : Bool), vs = [.bool s1, .bool s2, .int .i64 i] ∧ s1 = ((loads p (pad l)).take i).all (fun x => decide (p.hold ≤ x.least)) ∧ s2 = ((loads p (pad l)).take i).all (fun x => decide (x.most < p.hold)) ∧ i ≤ (loads p (pad l)).length ∧ k = (loads p (pad l)).length - i ∧ St w0 w Z) ((loads p (pad l)).length) ?_ ?_
  ·
   exact ⟨0, true, true, rfl, rfl, rfl, by omega, by omega, hs41⟩
  intro k vs μ w44 hI K43 hN42
  obtain ⟨i, s1, s2, rfl, hs1, hs2, hia, rfl, hs⟩ := hI
  refine zAg (fun K46 hK45 => ?_)
  refine zAb (w_p (zBt rfl rfl rfl rfl) rfl ?_)
  refine zAf (zAd (hK45 _ _ ?_))
  refine zAg (fun K48 hK47 => ?_)
  refine zAz rfl rfl (fun h49 => ?_) (fun h49 => ?_)
  ·
   try simp only [zS] at h49
   refine zAx (zAd (hK47 _ _ ?_))
   refine zAg (fun K51 hK50 => ?_)
   refine zAy ?_
   refine zAg (fun K53 hK52 => ?_)
   have hx2 : i < (loads p (pad l)).length := by omega
   obtain ⟨bx, ox, rfl, hx⟩ := sl_load hsl hx2
   refine zAb (w_p (zA7 underlying129 sizeOf132 rfl rfl rfl rfl (i := _) rfl (by omega)) rfl ?_)
   refine w_p (zA6 (vs := [_, _, _]) isAgg132 sizeOf132 hs rfl rfl hx) rfl ?_
   refine zA9 (cs := [_, _, _]) zAa zeroValue132 rfl hs (fun b54 w55 hs56 => ?_)
   refine zA5 (i := 0) (v := .agg #[.int _ _, .int _ _, .int _ _]) (vs := [_, _, _]) zAa sizeOf132 rfl rfl rfl rfl rfl (by simp [Value.oneCell']) hs56 rfl (Nat.le_of_ble_eq_true rfl) (fun w57 hs58 => ?_)
   refine zAf (zAd (hK52 _ _ ?_))
   refine zAg (fun K60 hK59 => ?_)
   refine zAb (w_p (zAe (v := .bool _) rfl rfl) rfl ?_)
   refine w_p (zAe (v := .bool _) rfl rfl) rfl ?_
   refine zBi (fun h61 => ?_) (fun h61 => ?_)
   ·
    try simp only [zS] at h61
    refine w_y rfl rfl rfl (zAh (o := 0) (i := 0) underlying132 rfl sizeOf3 rfl rfl rfl) rfl ?_
    refine w_y rfl rfl rfl (zAk isAgg3 hs58 rfl rfl (zAj (i := 0) (vs := [_]) rfl rfl)) rfl ?_
    refine w_y rfl rfl rfl (zAh (o := 0) (i := 0) underlying31 rfl sizeOf3 rfl rfl rfl) rfl ?_
    refine w_y rfl rfl rfl (zAk isAgg3 hs58.tail rfl rfl (show Ats _ _ _ _ [_] from Ats.part hb2 0 1)) rfl ?_
    refine w_y rfl rfl rfl (y_geq rfl rfl rfl rfl) rfl ?_
    refine w_p (zA0 (v := .bool _) rfl rfl rfl rfl) rfl ?_
    refine w_p (zAc (v := .bool _) rfl rfl) rfl ?_
    refine zAf (zAd (hK59 _ _ ?_))
    refine zAb (w_p (zAe (v := .bool _) rfl rfl) rfl ?_)
    refine w_p (zAe (v := .bool _) rfl rfl) rfl ?_
    refine zBi (fun h62 => ?_) (fun h62 => ?_)
    ·
     try simp only [zS] at h62
     refine w_y rfl rfl rfl (zAh (o := 1) (i := 1) underlying132 rfl sizeOf3 rfl rfl rfl) rfl ?_
     refine w_y rfl rfl rfl (zAk isAgg3 hs58 rfl rfl (zAj (i := 0) (vs := [_]) rfl rfl)) rfl ?_
     refine w_y rfl rfl rfl (zAh (o := 0) (i := 0) underlying31 rfl sizeOf3 rfl rfl rfl) rfl ?_
     refine w_y rfl rfl rfl (zAk isAgg3 hs58.tail rfl rfl (show Ats _ _ _ _ [_] from Ats.part hb2 0 1)) rfl ?_
     refine w_y rfl rfl rfl (zBt rfl rfl rfl rfl) rfl ?_
     refine w_p (zA0 (v := .bool _) rfl rfl rfl rfl) rfl ?_
     refine w_p (zAc (v := .bool _) rfl rfl) rfl ?_
     refine zAf (zAl (zAd (hK50 _ _ ?_)))
     refine zAb (w_p (zBf rfl rfl rfl rfl (by omega) (by omega)) rfl ?_)
     refine w_p (zAe (v := .int _ _) rfl rfl) rfl ?_
     refine zAf (zAd (hN42 _ _ (Nx.intro ((loads p (pad l)).length - (i + 1)) (by omega) (by repeat (first | exact zAv | refine zAu rfl ?_ | refine zAs rfl ?_ _ | refine zAr rfl ?_)) ?_)))
     exact ⟨i + 1, _, _, rfl, (by rw [zC0 hx2, ← hs1]; simp [h32, h49, h61, h62]), (by rw [zC0 hx2, ← hs2]; simp [h32, h49, h61, h62]), by omega, rfl, hs58.tail⟩
    try simp only [zS] at h62
    refine zAi rfl rfl rfl ?_
    refine zAi rfl rfl rfl ?_
    refine zAi rfl rfl rfl ?_
    refine zAi rfl rfl rfl ?_
    refine zAi rfl rfl rfl ?_
    refine w_p (zBb (v := _) rfl rfl rfl rfl) rfl ?_
    refine w_p (zAc (v := .bool _) rfl rfl) rfl ?_
    refine zAf (zAl (zAd (hK50 _ _ ?_)))
    refine zAb (w_p (zBf rfl rfl rfl rfl (by omega) (by omega)) rfl ?_)
    refine w_p (zAe (v := .int _ _) rfl rfl) rfl ?_
    refine zAf (zAd (hN42 _ _ (Nx.intro ((loads p (pad l)).length - (i + 1)) (by omega) (by repeat (first | exact zAv | refine zAu rfl ?_ | refine zAs rfl ?_ _ | refine zAr rfl ?_)) ?_)))
    exact ⟨i + 1, _, _, rfl, (by rw [zC0 hx2, ← hs1]; simp [h32, h49, h61, h62]), (by rw [zC0 hx2, ← hs2]; simp [h32, h49, h61, h62]), by omega, rfl, hs58.tail⟩
   try simp only [zS] at h61
   refine zAi rfl rfl rfl ?_
   refine zAi rfl rfl rfl ?_
   refine zAi rfl rfl rfl ?_
   refine zAi rfl rfl rfl ?_
   refine zAi rfl rfl rfl ?_
   refine w_p (zBb (v := _) rfl rfl rfl rfl) rfl ?_
   refine w_p (zAc (v := .bool _) rfl rfl) rfl ?_
   refine zAf (zAd (hK59 _ _ ?_))
   refine zAb (w_p (zAe (v := .bool _) rfl rfl) rfl ?_)
   refine w_p (zAe (v := .bool _) rfl rfl) rfl ?_
   refine zBi (fun h63 => ?_) (fun h63 => ?_)
   ·
    try simp only [zS] at h63
    refine w_y rfl rfl rfl (zAh (o := 1) (i := 1) underlying132 rfl sizeOf3 rfl rfl rfl) rfl ?_
    refine w_y rfl rfl rfl (zAk isAgg3 hs58 rfl rfl (zAj (i := 0) (vs := [_]) rfl rfl)) rfl ?_
    refine w_y rfl rfl rfl (zAh (o := 0) (i := 0) underlying31 rfl sizeOf3 rfl rfl rfl) rfl ?_
    refine w_y rfl rfl rfl (zAk isAgg3 hs58.tail rfl rfl (show Ats _ _ _ _ [_] from Ats.part hb2 0 1)) rfl ?_
    refine w_y rfl rfl rfl (zBt rfl rfl rfl rfl) rfl ?_
    refine w_p (zA0 (v := .bool _) rfl rfl rfl rfl) rfl ?_
    refine w_p (zAc (v := .bool _) rfl rfl) rfl ?_
    refine zAf (zAl (zAd (hK50 _ _ ?_)))
    refine zAb (w_p (zBf rfl rfl rfl rfl (by omega) (by omega)) rfl ?_)
    refine w_p (zAe (v := .int _ _) rfl rfl) rfl ?_
    refine zAf (zAd (hN42 _ _ (Nx.intro ((loads p (pad l)).length - (i + 1)) (by omega) (by repeat (first | exact zAv | refine zAu rfl ?_ | refine zAs rfl ?_ _ | refine zAr rfl ?_)) ?_)))
    exact ⟨i + 1, _, _, rfl, (by rw [zC0 hx2, ← hs1]; simp [h32, h49, h61, h63]), (by rw [zC0 hx2, ← hs2]; simp [h32, h49, h61, h63]), by omega, rfl, hs58.tail⟩
   try simp only [zS] at h63
   refine zAi rfl rfl rfl ?_
   refine zAi rfl rfl rfl ?_
   refine zAi rfl rfl rfl ?_
   refine zAi rfl rfl rfl ?_
   refine zAi rfl rfl rfl ?_
   refine w_p (zBb (v := _) rfl rfl rfl rfl) rfl ?_
   refine w_p (zAc (v := .bool _) rfl rfl) rfl ?_
   refine zAf (zAl (zAd (hK50 _ _ ?_)))
   refine zAb (w_p (zBf rfl rfl rfl rfl (by omega) (by omega)) rfl ?_)
   refine w_p (zAe (v := .int _ _) rfl rfl) rfl ?_
   refine zAf (zAd (hN42 _ _ (Nx.intro ((loads p (pad l)).length - (i + 1)) (by omega) (by repeat (first | exact zAv | refine zAu rfl ?_ | refine zAs rfl ?_ _ | refine zAr rfl ?_)) ?_)))
   exact ⟨i + 1, _, _, rfl, (by rw [zC0 hx2, ← hs1]; simp [h32, h49, h61, h63]), (by rw [zC0 hx2, ← hs2]; simp [h32, h49, h61, h63]), by omega, rfl, hs58.tail⟩
  try simp only [zS] at h49
  refine zBl (zAo (zAo (zA4 (zAd (hK35 _ _ ?_)))))
  refine zAg (fun K65 hK64 => ?_)
  refine zAy ?_
  refine zAg (fun K67 hK66 => ?_)
  refine zAb (w_p (zAe (v := .bool _) rfl rfl) rfl ?_)
  refine w_p (zAc (v := .bool _) rfl rfl) rfl ?_
  refine zAf (zAd (hK66 _ _ ?_))
  refine zAz rfl rfl (fun h68 => ?_) (fun h68 => ?_)
  ·
   try simp only [zS] at h68
   refine zAg (fun K70 hK69 => ?_)
   refine zAb (w_p (zAc (v := _) rfl rfl) rfl ?_)
   refine w_p (zAc (v := _) rfl rfl) rfl ?_
   refine zAf (zAd (hK69 _ _ ?_))
   refine zA2 (zA1 (zAm (zA3 (l := [.tmp 4, .tmp 5]) (vs := [_, _]) rfl ⟨⟨rfl, (rfl : _ = Value.int _ _)⟩, ⟨rfl, (rfl : _ = Value.int _ _)⟩, trivial⟩ ?_)))
   first
     | contradiction
     | (refine ⟨tup2 ?_ ?_, hs⟩ <;> simp only [fullR, hee, if_true, if_false]; done)
     | (rw [List.take_of_length_le (by omega), ← full_loads] at hs1
        rw [List.take_of_length_le (by omega), ← never_loads] at hs2
        refine ⟨tup2 ?_ ?_, ((show St w0 _ ([_] ++ (M1 ++ (_ :: _ :: F))) from St.cast hz hs).drop.drop.tail.tail)⟩ <;> simp only [fullR, hee, if_true, if_false]
        rw [← does_pad (zC7 hee).2.1 hok.len]
        unfold does
        rw [← hs1, ← hs2]
        simp [h32, h49, h68])
  try simp only [zS] at h68
  refine zAg (fun K72 hK71 => ?_)
  refine zAb (w_p (zAe (v := .bool _) rfl rfl) rfl ?_)
  refine w_p (zAc (v := .bool _) rfl rfl) rfl ?_
  refine zAf (zAd (hK71 _ _ ?_))
  refine zAz rfl rfl (fun h73 => ?_) (fun h73 => ?_)
  ·
   try simp only [zS] at h73
   refine zAg (fun K75 hK74 => ?_)
   refine zAb (w_p (zAc (v := _) rfl rfl) rfl ?_)
   refine w_p (zAc (v := _) rfl rfl) rfl ?_
   refine zAf (zAd (hK74 _ _ ?_))
   refine zA2 (zA1 (zAm (zA3 (l := [.tmp 4, .tmp 5]) (vs := [_, _]) rfl ⟨⟨rfl, (rfl : _ = Value.int _ _)⟩, ⟨rfl, (rfl : _ = Value.int _ _)⟩, trivial⟩ ?_)))
   first
     | contradiction
     | (refine ⟨tup2 ?_ ?_, hs⟩ <;> simp only [fullR, hee, if_true, if_false]; done)
     | (rw [List.take_of_length_le (by omega), ← full_loads] at hs1
        rw [List.take_of_length_le (by omega), ← never_loads] at hs2
        refine ⟨tup2 ?_ ?_, ((show St w0 _ ([_] ++ (M1 ++ (_ :: _ :: F))) from St.cast hz hs).drop.drop.tail.tail)⟩ <;> simp only [fullR, hee, if_true, if_false]
        rw [← does_pad (zC7 hee).2.1 hok.len]
        unfold does
        rw [← hs1, ← hs2]
        simp [h32, h49, h68, h73])
  try simp only [zS] at h73
  refine zAx (zAl (zAd (hK64 _ _ ?_)))
  refine zAg (fun K77 hK76 => ?_)
  refine zAb (w_p (zAc (v := _) rfl rfl) rfl ?_)
  refine w_p (zAc (v := _) rfl rfl) rfl ?_
  refine zAf (zAd (hK76 _ _ ?_))
  refine zA2 (zA3 (l := [.tmp 4, .tmp 5]) (vs := [_, _]) rfl ⟨⟨rfl, (rfl : _ = Value.int _ _)⟩, ⟨rfl, (rfl : _ = Value.int _ _)⟩, trivial⟩ ?_)
  first
    | contradiction
    | (refine ⟨tup2 ?_ ?_, hs⟩ <;> simp only [fullR, hee, if_true, if_false]; done)
    | (rw [List.take_of_length_le (by omega), ← full_loads] at hs1
       rw [List.take_of_length_le (by omega), ← never_loads] at hs2
       refine ⟨tup2 ?_ ?_, ((show St w0 _ ([_] ++ (M1 ++ (_ :: _ :: F))) from St.cast hz hs).drop.drop.tail.tail)⟩ <;> simp only [fullR, hee, if_true, if_false]
       rw [← does_pad (zC7 hee).2.1 hok.len]
       unfold does
       rw [← hs1, ← hs2]
       simp [h32, h49, h68, h73])

abbrev qcells (l : List Load) : List (List Value) := l.map fun x => [Value.int .i64 x.least, .int .i64 x.most]
theorem qcells_succ {l : List Load} {i : Nat} (hi : i < l.length) : (qcells (l.take i)).flatten ++ [[Value.int .i64 l[i].least, .int .i64 l[i].most]].flatten = (qcells (l.take (i + 1))).flatten := by
  rw [List.take_succ_eq_append_getElem hi]; simp only [qcells, List.map_append, List.map_cons, List.map_nil, List.flatten_append]
theorem q_none {p : Port} {l : List Int} (h : ¬ enterErr p l = 0) : quayR p l = [] := by unfold quayR; rw [if_neg h]
theorem q_some {p : Port} {l : List Int} (h : enterErr p l = 0) : qcells (loads p (pad l)) = sprow (quayR p l) := by
  unfold quayR; rw [if_pos h, loads_pad (zC7 h).2.1 (check_ok (zC7 h).1).len]; simp [qcells, quay]
theorem c34 {w0 w : World} {F : List (Nat × Obj)} (p : Port) (a : Option Addr) (c : Nat) (hl3 : p.farms.length ≤ 9223372036854775807) (hc : p.farms.length ≤ c) (ha : Sl w0 F a 6 (rows p.farms)) (hnm : ∀ f ∈ p.farms, f.name.size ≤ 9223372036854775807) (al : Option Addr) (cl : Nat) (l : List Int) (hll : l.length ≤ 9223372036854775807) (hl : Sl w0 F al 1 (l.map fun x => [Value.int .i64 x])) (hs : St w0 w F) :
  Con Tryz.prog 34 [.agg (p.cells a c).toArray, .slice al l.length cl] w fun v w' => ∃ B aq cq, v = .tuple #[.slice aq (quayR p l).length cq, .int .i64 (enterErr p l)] ∧ Sl w0 (B ++ F) aq 2 (sprow (quayR p l)) ∧ St w0 w' (B ++ F) := by
  refine zAw (n := 38) func34 rfl rfl (Nat.le_of_ble_eq_true rfl) ?_
  refine zAg (fun K2 hK1 => ?_)
  refine zAb (zB3 (v := .agg #[.int _ _, .int _ _, .int _ _, .slice _ _ _]) (cs := [_, _, _, _]) zAa rfl rfl rfl hs (fun b3 w4 hs5 => ?_))
  refine w_p (zAc (v := _) rfl rfl) rfl ?_
  refine w_p (zAc (v := _) rfl rfl) rfl ?_
  refine zAf (zAd (hK1 _ _ ?_))
  refine zAg (fun K7 hK6 => ?_)
  refine zAb (w_p (zA6 (vs := [_, _, _, _]) isAgg31 sizeOf31 hs5 rfl rfl (zAj (i := 0) (vs := [_, _, _, _]) rfl rfl)) rfl ?_)
  refine w_p (zAe (v := .slice _ _ _) rfl rfl) rfl ?_
  refine zAt zAa call71 rfl rfl rfl rfl (c71 p _ _ (by omega) (by omega) ha.cons hnm _ _ _ (by omega) hl.cons hs5) ?_
  rintro _ w9 (⟨hee, rfl, hs10⟩ | ⟨hee, m, pb, rfl, hs10⟩)
  ·
   refine w_p (zAe (v := .tuple _) rfl rfl) rfl ?_
   refine w_p (zAq (v := .pointer _) rfl rfl rfl) rfl ?_
   refine w_p (zAq (v := (ia _)) rfl rfl rfl) rfl ?_
   refine w_p (zAq (v := .int _ _) rfl rfl rfl) rfl ?_
   refine zA9 (cs := iv [0, 0, 0]) zAa zeroValue106 rfl hs10 (fun b11 w12 hs13 => ?_)
   refine w_p (zAc (v := .pointer _) rfl rfl) rfl ?_
   refine zCa (i := 0) (l := _) zAa sizeOf106 (by first | omega | rfl | (simp only [zCp, List.length_map, List.length_set, List.length_append, List.length_take, List.length_drop, List.length_replicate, List.length_cons, List.length_nil] <;> omega)) rfl rfl rfl rfl rfl hs13 rfl (by first | omega | rfl | (simp only [zCp, List.length_map, List.length_set, List.length_append, List.length_take, List.length_drop, List.length_replicate, List.length_cons, List.length_nil] <;> omega)) (fun w14 hs15 => ?_)
   refine w_p (zAc (v := .int _ _) rfl rfl) rfl ?_
   refine zAf (zAd (hK6 _ _ ?_))
   refine zAg (fun K17 hK16 => ?_)
   refine zAg (fun K19 hK18 => ?_)
   refine zAb (w_p (zAe (v := .int _ _) rfl rfl) rfl ?_)
   refine w_p (zCc rfl rfl rfl rfl) rfl ?_
   refine zAf (zAd (hK18 _ _ ?_))
   refine zAz rfl rfl (fun h20 => ?_) (fun h20 => ?_)
   ·
    try simp only [zS] at h20
    refine zAg (fun K22 hK21 => ?_)
    refine zAb (w_p (zAe (v := .int _ _) rfl rfl) rfl ?_)
    refine w_p (zAc (v := _) rfl rfl) rfl ?_
    refine w_p (zAc (v := .int _ _) rfl rfl) rfl ?_
    refine zAf (zAd (hK21 _ _ ?_))
    refine zA2 (zAm (zA3 (l := [.tmp 4, .tmp 5]) (vs := [_, _]) rfl ⟨⟨rfl, show _ = (.slice _ _ _ : Value) from rfl⟩, ⟨rfl, (rfl : _ = Value.int _ _)⟩, trivial⟩ ?_))
    first
      | contradiction
      | (refine ⟨[], none, 0, ?_, ?_, hs15.tail.tail⟩ <;> rw [q_none hee] <;> first | rfl | exact Sl.nil _ _)
      | (obtain ⟨aw, cw, rfl, hsw⟩ := hown.sl (w0 := w0) (rows := qcells (loads p (pad l))) (by intro row hr; obtain ⟨x, _, rfl⟩ := List.mem_map.1 hr; rfl) (by rw [List.length_map]; omega) (by rw [List.take_of_length_le (by omega)]) F
         rw [hee]
         rw [q_some hee] at hsw
         rw [show (qcells (loads p (pad l))).length = (quayR p l).length from by rw [q_some hee, List.length_map]]
         exact ⟨B, aw, cw, rfl, hsw, drop_quay (St.cast (congrArg (B ++ ·) hz) hs15)⟩)
   try simp only [zS] at h20
   all_goals exact absurd (by assumption) hee
  refine w_p (zAe (v := .tuple _) rfl rfl) rfl ?_
  refine w_p (zAq (v := .pointer _) rfl rfl rfl) rfl ?_
  refine w_p (zAq (v := (ia _)) rfl rfl rfl) rfl ?_
  refine w_p (zAq (v := .int _ _) rfl rfl rfl) rfl ?_
  refine zA9 (cs := iv [0, 0, 0]) zAa zeroValue106 rfl hs10 (fun b23 w24 hs25 => ?_)
  refine w_p (zAc (v := .pointer _) rfl rfl) rfl ?_
  refine zCa (i := 0) (l := _) zAa sizeOf106 (by first | omega | rfl | (simp only [zCp, List.length_map, List.length_set, List.length_append, List.length_take, List.length_drop, List.length_replicate, List.length_cons, List.length_nil] <;> omega)) rfl rfl rfl rfl rfl hs25 rfl (by first | omega | rfl | (simp only [zCp, List.length_map, List.length_set, List.length_append, List.length_take, List.length_drop, List.length_replicate, List.length_cons, List.length_nil] <;> omega)) (fun w26 hs27 => ?_)
  refine w_p (zAc (v := .int _ _) rfl rfl) rfl ?_
  refine zAf (zAd (hK6 _ _ ?_))
  refine zAg (fun K29 hK28 => ?_)
  refine zAg (fun K31 hK30 => ?_)
  refine zAb (w_p (zAe (v := .int _ _) rfl rfl) rfl ?_)
  refine w_p (zCc rfl rfl rfl rfl) rfl ?_
  refine zAf (zAd (hK30 _ _ ?_))
  refine zAz rfl rfl (fun h32 => ?_) (fun h32 => ?_)
  ·
   try simp only [zS] at h32
   all_goals contradiction
  try simp only [zS] at h32
  refine zAx (zAd (hK28 _ _ ?_))
  refine zAg (fun K34 hK33 => ?_)
  refine zAg (fun K36 hK35 => ?_)
  refine zAb (w_p (zAe (v := .pointer _) rfl rfl) rfl ?_)
  refine w_p (zB4 (i := 0) isAgg106 sizeOf106 (by first | omega | rfl | (simp only [zCp, List.length_map, List.length_set, List.length_append, List.length_take, List.length_drop, List.length_replicate, List.length_cons, List.length_nil] <;> omega)) hs27 rfl rfl rfl) rfl ?_
  refine zAt zAa call72 rfl rfl rfl rfl (loads_con2 (X := [_]) (M := [_]) p _ c m pb (zAj (i := 0) (vs := [_, _, _, _, _]) rfl rfl) ha.cons.cons (check_ok (zC7 hee).1) (pad l) (zCp l) (pad_in hee) (memo_new _ _ _) hs27) ?_
  rintro _ w38 ⟨Z, M1, al2, cl2, rfl, hM1, hz, hsl, hs39⟩
  have hlo := loads_len p (pad l)
  have hok := check_ok (zC7 hee).1
  have hcome := hok.come
  refine w_p (zBd underlying129 rfl rfl) rfl ?_
  refine w_p (zAe (v := _) rfl rfl) rfl ?_
  refine zAf (zAd (hK35 _ _ ?_))
  refine zAy ?_
  refine zBp [4, 9, 24, 25, 26, 27, 28, 29, 30, 31, 32, 33, 34, 35, 36] [4, 24] (fun k vs w => ∃ (i : Nat) (v : Value) (B : List (Nat × Obj)), vs = [v, .int .i64 i] ∧ i ≤ (loads p (pad l)).length ∧ k = (loads p (pad l)).length - i ∧ Rt.Own v 28 2 i (qcells ((loads p (pad l)).take i)).flatten B ∧ St w0 w (B ++ Z)) ((loads p (pad l)).length) ?_ ?_
  ·
   exact ⟨0, _, [], rfl, by omega, by omega, own_nil 28 2, hs39⟩
  intro k vs μ w42 hI K41 hN40
  obtain ⟨i, v, B, rfl, hia, rfl, hown, hs⟩ := hI
  refine zAg (fun K44 hK43 => ?_)
  refine zAb (w_p (zBt rfl rfl rfl rfl) rfl ?_)
  refine zAf (zAd (hK43 _ _ ?_))
  refine zAg (fun K46 hK45 => ?_)
  refine zAz rfl rfl (fun h47 => ?_) (fun h47 => ?_)
  ·
   try simp only [zS] at h47
   refine zAx (zAd (hK45 _ _ ?_))
   refine zAg (fun K49 hK48 => ?_)
   refine zAy ?_
   refine zAg (fun K51 hK50 => ?_)
   have hx2 : i < (loads p (pad l)).length := by omega
   obtain ⟨bx, ox, rfl, hx⟩ := sl_load hsl hx2
   refine zAb (w_p (zA7 underlying129 sizeOf132 rfl rfl rfl rfl (i := _) rfl (by omega)) rfl ?_)
   refine w_p (zA6 (vs := [_, _, _]) isAgg132 sizeOf132 hs.drop rfl rfl hx) rfl ?_
   refine zA9 (cs := [_, _, _]) zAa zeroValue132 rfl hs (fun b52 w53 hs54 => ?_)
   refine zA5 (i := 0) (v := .agg #[.int _ _, .int _ _, .int _ _]) (vs := [_, _, _]) zAa sizeOf132 rfl rfl rfl rfl rfl (by simp [Value.oneCell']) hs54 rfl (Nat.le_of_ble_eq_true rfl) (fun w55 hs56 => ?_)
   refine zAf (zAd (hK50 _ _ ?_))
   refine zAb (w_p (zAe (v := v) rfl rfl) rfl ?_)
   refine w_p (zAh (o := 0) (i := 0) underlying132 rfl sizeOf3 rfl rfl rfl) rfl ?_
   refine w_p (zAk isAgg3 hs56 rfl rfl (zAj (i := 0) (vs := [_]) rfl rfl)) rfl ?_
   refine w_p (zAh (o := 1) (i := 1) underlying132 rfl sizeOf3 rfl rfl rfl) rfl ?_
   refine w_p (zAk isAgg3 hs56 rfl rfl (zAj (i := 0) (vs := [_]) rfl rfl)) rfl ?_
   refine w_p (zBs (ps := [(0, _), (1, _)]) (pv := [(0, .int _ _), (1, .int _ _)]) rfl rfl (fun w => Try_CJ_fb5 _ _ w)) rfl ?_
   refine zBh (ps := [(0, _)]) (pv := [(0, .agg #[.int _ _, .int _ _])]) (cs := [_, _]) zAa rfl rfl (fun w => Try_CJ_fb6 _ _ w) hs56 (fun b57 w58 hs59 => ?_)
   refine zCw (X := (_ :: _ :: [])) (B := B) (rows := [[_, _]]) (sz := 2) (bytes := 16) zAa underlying81 Try_info28 rfl rfl rfl rfl rfl rfl rfl rfl rfl hs59 hown (zBr (i := 0) rfl (by simp) rfl) rfl (by simp) (by simp [Value.oneCell']) (by simp only [maxLen]; omega) (by omega) (fun v60 w61 B62 ho63 hs64 => ?_)
   replace hs64 := (show St _ _ (_ :: _ :: B62 ++ (Z)) from hs64)
   refine w_p (zAc (v := v60) rfl rfl) rfl ?_
   refine zAf (zAl (zAd (hK48 _ _ ?_)))
   refine zAb (w_p (zBf rfl rfl rfl rfl (by omega) (by omega)) rfl ?_)
   refine w_p (zAe (v := .int _ _) rfl rfl) rfl ?_
   refine zAf (zAd (hN40 _ _ (Nx.intro ((loads p (pad l)).length - (i + 1)) (by omega) (by repeat (first | exact zAv | refine zAu rfl ?_ | refine zAs rfl ?_ _ | refine zAr rfl ?_)) ?_)))
   exact ⟨i + 1, _, _, rfl, by omega, rfl, by rw [← qcells_succ hx2]; exact ho63, hs64.tail.tail⟩
  try simp only [zS] at h47
  refine zBl (zAo (zAo (zA4 (zAd (hK33 _ _ ?_)))))
  refine zAg (fun K66 hK65 => ?_)
  refine zAb (w_p (zAe (v := v) rfl rfl) rfl ?_)
  refine w_p (zAc (v := v) rfl rfl) rfl ?_
  refine w_p (zAc (v := _) rfl rfl) rfl ?_
  refine zAf (zAd (hK65 _ _ ?_))
  refine zA2 (zA3 (l := [.tmp 4, .tmp 5]) (vs := [_, _]) rfl ⟨⟨rfl, show _ = (v : Value) from rfl⟩, ⟨rfl, (rfl : _ = Value.int _ _)⟩, trivial⟩ ?_)
  first
    | contradiction
    | (refine ⟨[], none, 0, ?_, ?_, hs.drop⟩ <;> rw [q_none hee] <;> first | rfl | exact Sl.nil _ _)
    | (obtain ⟨aw, cw, rfl, hsw⟩ := hown.sl (w0 := w0) (rows := qcells (loads p (pad l))) (by intro row hr; obtain ⟨x, _, rfl⟩ := List.mem_map.1 hr; rfl) (by rw [List.length_map]; omega) (by rw [List.take_of_length_le (by omega)]) F
       rw [hee]
       rw [q_some hee] at hsw
       rw [show (qcells (loads p (pad l))).length = (quayR p l).length from by rw [q_some hee, List.length_map]]
       exact ⟨B, aw, cw, rfl, hsw, drop_quay (St.cast (congrArg (B ++ ·) hz) hs)⟩)

end Go.Proofs.Cb
set_option maxRecDepth 20000
namespace Go.Proofs.Cb
open Go.Proofs.Tryz
open Go.Rt Go.Rt.Ca
attribute [local irreducible] WL WC Con Yd At Ats Sl Agree DW

def NextC (n below bp bl bla bY bb bn : Nat) (Ls : List (List Int)) (J : Nat → List (Nat × Obj) → Prop) (Js : List (Nat × Obj) → Prop) (yv : Value) (w0 : World) (F : List (Nat × Obj)) (rem : Nat) : Prop :=
  ∀ (d : Nat) (pre cur last : List Int) (i : Nat) (R : List (List Int)) (B X : List (Nat × Obj)) (w : World), d + rem = n → pre.length = d → cur.length = 3 → cur.take d = pre → (∀ j, n ≤ j → cur.getD j 0 = 0) → i ≤ Ls.length →
    Ls.drop i = (seg (dys below) rem pre).map pad ++ R → last.length = 3 → last ∉ Ls.drop i → J i B → St w0 w ((bn, blk 123 [.func (.func 100) #[] #[.pointer (some ⟨bp, 0, none⟩), .pointer (some ⟨bl, 0, none⟩), .pointer (some ⟨bla, 0, none⟩), .pointer (some ⟨bY, 0, none⟩), .pointer (some ⟨bb, 0, none⟩), .pointer (some ⟨bn, 0, none⟩)]]) :: (bla, blk 106 (iv last)) :: (bl, blk 106 (iv cur)) :: (bY, blk 153 [yv]) :: (X ++ (B ++ F))) →
    Con Tryz.prog 100 [.int .i64 (d : Int), .pointer (some ⟨bp, 0, none⟩), .pointer (some ⟨bl, 0, none⟩), .pointer (some ⟨bla, 0, none⟩), .pointer (some ⟨bY, 0, none⟩), .pointer (some ⟨bb, 0, none⟩), .pointer (some ⟨bn, 0, none⟩)] w fun v w' => ∃ (cur' last' : List Int) (B' : List (Nat × Obj)), cur'.length = 3 ∧ last'.length = 3 ∧ cur'.take d = pre ∧ (∀ j, n ≤ j → cur'.getD j 0 = 0) ∧ St w0 w' ((bn, blk 123 [.func (.func 100) #[] #[.pointer (some ⟨bp, 0, none⟩), .pointer (some ⟨bl, 0, none⟩), .pointer (some ⟨bla, 0, none⟩), .pointer (some ⟨bY, 0, none⟩), .pointer (some ⟨bb, 0, none⟩), .pointer (some ⟨bn, 0, none⟩)]]) :: (bla, blk 106 (iv last')) :: (bl, blk 106 (iv cur')) :: (bY, blk 153 [yv]) :: (X ++ (B' ++ F))) ∧
      ((v = .bool true ∧ ∃ i', i' ≤ Ls.length ∧ Ls.drop i' = R ∧ last' ∉ R ∧ J i' B') ∨ (v = .bool false ∧ Js B'))
theorem seg_more {Ls R : List (List Int)} {below q r i : Nat} {pre : List Int} (hq : q < below + 1) (h : Ls.drop i = (((dys below).drop q).flatMap fun x => seg (dys below) r (pre ++ [x])).map pad ++ R) :
    Ls.drop i = (seg (dys below) r (pre ++ [if q = below then -1 else (q : Int)])).map pad ++ ((((dys below).drop (q + 1)).flatMap fun x => seg (dys below) r (pre ++ [x])).map pad ++ R) := by
  rw [dys_drop hq, List.flatMap_cons, List.map_append, List.append_assoc] at h; exact h
theorem c100 {w0 : World} {F : List (Nat × Obj)} (p : Port) (a : Option Addr) (c m pb : Nat) (hp : Ats w0 F pb 0 [.int .i64 p.hold, .int .i64 p.clo, .int .i64 p.chi, .slice a p.farms.length c, .map (some m)]) (ha : Sl w0 F a 6 (rows p.farms)) (hok : p.Ok) (n below bp bl bla bY bb bn : Nat) (hbe : below ≤ 11) (h1 : Ats w0 F bp 0 [.pointer (some ⟨pb, 0, none⟩)]) (h5 : Ats w0 F bb 0 [.int .i64 (below : Int)]) (hn : n = p.farms.length) (Ls : List (List Int)) (hnd : Ls.Nodup) (J : Nat → List (Nat × Obj) → Prop) (Js : List (Nat × Obj) → Prop) (yv : Value) (hy : ∀ (i : Nat) (x : List Int) (R : List (List Int)) (B X : List (Nat × Obj)) (w : World), Ls.drop i = x :: R → J i B → St w0 w (X ++ (B ++ F)) → FCon Tryz.prog yv [ia x] w fun v w' => ∃ B', St w0 w' (X ++ (B' ++ F)) ∧ (v = .bool true ∧ J (i + 1) B' ∨ v = .bool false ∧ Js B')) (rem : Nat) (ih : ∀ r, rem = r + 1 → NextC n below bp bl bla bY bb bn Ls J Js yv w0 F r) : NextC n below bp bl bla bY bb bn Ls J Js yv w0 F rem := by
  intro d pre cur last i R B X w hdr hpl hcl hk hz hi hpos hll hlast hJ hs
  have hlen3 := hok.len
  have hcl3 := hcl
  refine zAw (n := 44) func100 rfl rfl (Nat.le_of_ble_eq_true rfl) ?_
  refine zAg (fun K2 hK1 => ?_)
  refine zAb (w_p (zAc (v := _) rfl rfl) rfl ?_)
  refine zAf (zAd (hK1 _ _ ?_))
  refine zAg (fun K4 hK3 => ?_)
  refine zAg (fun K6 hK5 => ?_)
  refine zAb (w_p (zAe (v := .int _ _) rfl rfl) rfl ?_)
  refine w_p (zAk isAgg103 hs.tail.tail.tail.tail.drop.drop rfl rfl h1) rfl ?_
  refine w_p (zBk rfl rfl) rfl ?_
  refine w_p (zAh (o := 0) (i := 0) underlying151 rfl sizeOf31 rfl rfl rfl) rfl ?_
  refine w_p (zAh (o := 3) (i := 2) underlying31 rfl sizeOf29 rfl rfl rfl) rfl ?_
  refine w_p (zAk isAgg29 hs.tail.tail.tail.tail.drop.drop rfl rfl (show Ats _ _ _ _ [_] from Ats.part hp 3 1)) rfl ?_
  refine w_p (zBd underlying29 rfl rfl) rfl ?_
  refine w_p (zBy rfl rfl rfl rfl) rfl ?_
  refine zAf (zAd (hK5 _ _ ?_))
  refine zAz rfl rfl (fun h7 => ?_) (fun h7 => ?_)
  ·
   try simp only [zS] at h7
   refine zAg (fun K9 hK8 => ?_)
   refine zAg (fun K11 hK10 => ?_)
   have hr0 : rem = 0 := by omega
   subst hr0
   have hcur := cur_pad (n := d) hcl hpl (by omega) hk (by have hdn : d = n := (by omega); subst hdn; exact hz)
   simp only [seg, List.map_cons, List.map_nil, List.cons_append, List.nil_append, ← hcur] at hpos
   have hne : ¬ cur = last := fun e => hlast (by rw [hpos, ← e]; exact .head _)
   refine zAb (w_p (zB4 (i := 2) isAgg106 sizeOf106 (by first | omega | rfl | (simp only [List.length_map, List.length_set, List.length_append, List.length_take, List.length_drop, List.length_replicate, List.length_cons, List.length_nil] <;> omega)) hs rfl rfl rfl) rfl ?_)
   refine w_p (zB4 (i := 1) isAgg106 sizeOf106 (by first | omega | rfl | (simp only [List.length_map, List.length_set, List.length_append, List.length_take, List.length_drop, List.length_replicate, List.length_cons, List.length_nil] <;> omega)) hs rfl rfl rfl) rfl ?_
   refine w_p (y_eqFlat (l := _) (m := _) eqGuardType106 Try_flat106 (by first | omega | rfl | (simp only [List.length_map, List.length_set, List.length_append, List.length_take, List.length_drop, List.length_replicate, List.length_cons, List.length_nil] <;> omega)) (by first | omega | rfl | (simp only [List.length_map, List.length_set, List.length_append, List.length_take, List.length_drop, List.length_replicate, List.length_cons, List.length_nil] <;> omega)) rfl rfl rfl rfl rfl rfl) rfl ?_
   refine zAf (zAd (hK10 _ _ ?_))
   refine zAz rfl rfl (fun h12 => ?_) (fun h12 => ?_)
   ·
    try simp only [zS] at h12
    exact absurd (by assumption) hne
   try simp only [zS] at h12
   refine zAx (zAd (hK8 _ _ ?_))
   refine zAg (fun K14 hK13 => ?_)
   refine zAb (w_p (zB4 (i := 2) isAgg106 sizeOf106 (by first | omega | rfl | (simp only [List.length_map, List.length_set, List.length_append, List.length_take, List.length_drop, List.length_replicate, List.length_cons, List.length_nil] <;> omega)) hs rfl rfl rfl) rfl ?_)
   refine zCa (i := 1) (l := _) zAa sizeOf106 (by first | omega | rfl | (simp only [List.length_map, List.length_set, List.length_append, List.length_take, List.length_drop, List.length_replicate, List.length_cons, List.length_nil] <;> omega)) rfl rfl rfl rfl rfl hs rfl (by first | omega | rfl | (simp only [List.length_map, List.length_set, List.length_append, List.length_take, List.length_drop, List.length_replicate, List.length_cons, List.length_nil] <;> omega)) (fun w15 hs16 => ?_)
   refine zAf (zAd (hK13 _ _ ?_))
   refine zAg (fun K18 hK17 => ?_)
   refine zAb (w_p (zAk isAgg153 hs16 rfl rfl (zAj (i := 3) (vs := [_]) rfl rfl)) rfl ?_)
   refine w_p (zB4 (i := 2) isAgg106 sizeOf106 (by first | omega | rfl | (simp only [List.length_map, List.length_set, List.length_append, List.length_take, List.length_drop, List.length_replicate, List.length_cons, List.length_nil] <;> omega)) hs16 rfl rfl rfl) rfl ?_
   refine w_callV zAa rfl rfl rfl rfl (hy i _ R B (_ :: _ :: _ :: _ :: X) _ hpos hJ hs16) ?_
   rintro _ w20 ⟨B1, hs21, (⟨rfl, hJ1⟩ | ⟨rfl, hJ1⟩)⟩
   ·
    replace hs21 := (show St _ _ (_ :: _ :: _ :: _ :: X ++ (B1 ++ (F))) from hs21)
    refine w_p (zAc (v := .bool _) rfl rfl) rfl ?_
    refine zAf (zAd (hK17 _ _ ?_))
    refine zA2 (zAm (zA3 (l := [.tmp 8]) (vs := [_]) rfl ⟨⟨rfl, (rfl : _ = Value.bool _)⟩, trivial⟩ ?_))
    first
      | exact ⟨cur, cur, B1, hcl, hcl, hk, hz, hs21, .inl ⟨rfl, i + 1, zCu hpos, zCt hpos, zCq hnd hpos, hJ1⟩⟩
      | exact ⟨cur, cur, B1, hcl, hcl, hk, hz, hs21, .inr ⟨rfl, hJ1⟩⟩
      | exact ⟨cur2, last2, B2, hc2, hl2, zCm hk2 hpl, hz2, hs21, .inr ⟨rfl, hJ2⟩⟩
      | exact ⟨cur, last, B, hcl, hll, hk, hz, hs21, .inl ⟨rfl, i, hi, (by rw [hpos, show q = below + 1 from by omega, dys_end]; rfl), (by rw [← show Ls.drop i = R from by rw [hpos, show q = below + 1 from by omega, dys_end]; rfl]; exact hlast), hJ⟩⟩
   replace hs21 := (show St _ _ (_ :: _ :: _ :: _ :: X ++ (B1 ++ (F))) from hs21)
   refine w_p (zAc (v := .bool _) rfl rfl) rfl ?_
   refine zAf (zAd (hK17 _ _ ?_))
   refine zA2 (zAm (zA3 (l := [.tmp 8]) (vs := [_]) rfl ⟨⟨rfl, (rfl : _ = Value.bool _)⟩, trivial⟩ ?_))
   first
     | exact ⟨cur, cur, B1, hcl, hcl, hk, hz, hs21, .inl ⟨rfl, i + 1, zCu hpos, zCt hpos, zCq hnd hpos, hJ1⟩⟩
     | exact ⟨cur, cur, B1, hcl, hcl, hk, hz, hs21, .inr ⟨rfl, hJ1⟩⟩
     | exact ⟨cur2, last2, B2, hc2, hl2, zCm hk2 hpl, hz2, hs21, .inr ⟨rfl, hJ2⟩⟩
     | exact ⟨cur, last, B, hcl, hll, hk, hz, hs21, .inl ⟨rfl, i, hi, (by rw [hpos, show q = below + 1 from by omega, dys_end]; rfl), (by rw [← show Ls.drop i = R from by rw [hpos, show q = below + 1 from by omega, dys_end]; rfl]; exact hlast), hJ⟩⟩
  try simp only [zS] at h7
  refine zAx (zAd (hK3 _ _ ?_))
  refine zAg (fun K23 hK22 => ?_)
  refine zAg (fun K25 hK24 => ?_)
  obtain ⟨r, rfl⟩ : ∃ r, rem = r + 1 := ⟨rem - 1, by omega⟩
  have ih2 := ih r rfl
  simp only [seg] at hpos
  refine zAb (w_p (zAk isAgg3 hs.tail.tail.tail.tail.drop.drop rfl rfl h5) rfl ?_)
  refine w_p (zBf rfl rfl rfl rfl (by omega) (by omega)) rfl ?_
  refine w_p (zAe (v := _) rfl rfl) rfl ?_
  refine zAf (zAd (hK24 _ _ ?_))
  refine zAy ?_
  refine zBp [8, 9, 27, 28, 29, 30, 31, 32, 33, 34, 35, 36, 37, 38, 39, 40, 41, 42, 43] [27] (fun k vs w => ∃ (q : Nat) (cur last : List Int) (i : Nat) (B : List (Nat × Obj)), vs = [.int .i64 q] ∧ q ≤ below + 1 ∧ k = below + 1 - q ∧ cur.length = 3 ∧ last.length = 3 ∧ cur.take d = pre ∧ (∀ j, n ≤ j → cur.getD j 0 = 0) ∧ i ≤ Ls.length ∧ Ls.drop i = (((dys below).drop q).flatMap fun x => seg (dys below) r (pre ++ [x])).map pad ++ R ∧ last ∉ Ls.drop i ∧ J i B ∧ St w0 w ((bn, blk 123 [.func (.func 100) #[] #[.pointer (some ⟨bp, 0, none⟩), .pointer (some ⟨bl, 0, none⟩), .pointer (some ⟨bla, 0, none⟩), .pointer (some ⟨bY, 0, none⟩), .pointer (some ⟨bb, 0, none⟩), .pointer (some ⟨bn, 0, none⟩)]]) :: (bla, blk 106 (iv last)) :: (bl, blk 106 (iv cur)) :: (bY, blk 153 [yv]) :: (X ++ (B ++ F)))) (below + 1) ?_ ?_
  ·
   exact ⟨0, cur, last, i, B, rfl, by omega, by omega, hcl, hll, hk, hz, hi, hpos, hlast, hJ, hs⟩
  intro k vs μ w28 hI K27 hN26
  clear hk hz hi hpos hll hlast hJ hs hcl hcl3
  obtain ⟨q, cur, last, i, B, rfl, hq, rfl, hcl, hll, hk, hz, hi, hpos, hlast, hJ, hs⟩ := hI
  have hcl3 := hcl
  refine zAg (fun K30 hK29 => ?_)
  refine zAb (w_p (zBt rfl rfl rfl rfl) rfl ?_)
  refine zAf (zAd (hK29 _ _ ?_))
  refine zAg (fun K32 hK31 => ?_)
  refine zAz rfl rfl (fun h33 => ?_) (fun h33 => ?_)
  ·
   try simp only [zS] at h33
   refine zAx (zAd (hK31 _ _ ?_))
   refine zAg (fun K35 hK34 => ?_)
   refine zAy ?_
   refine zAg (fun K37 hK36 => ?_)
   refine zAb (w_p (zAe (v := .int _ _) rfl rfl) rfl ?_)
   refine w_p (zAc (v := .int _ _) rfl rfl) rfl ?_
   refine zAf (zAd (hK36 _ _ ?_))
   refine zAg (fun K39 hK38 => ?_)
   refine zAg (fun K41 hK40 => ?_)
   refine zAb (w_p (zAe (v := .int _ _) rfl rfl) rfl ?_)
   refine w_p (zAe (v := .int _ _) rfl rfl) rfl ?_
   refine w_p (zB2 underlying106 sizeOf3 rfl rfl rfl rfl (i := d) (by first | rfl | omega) (by omega)) rfl ?_
   refine w_storeAtI (i := 2) (j := d) zAa sizeOf3 rfl rfl rfl rfl hs rfl (by first | omega | rfl | (simp only [List.length_map, List.length_set, List.length_append, List.length_take, List.length_drop, List.length_replicate, List.length_cons, List.length_nil] <;> omega)) (fun w42 hs43 => ?_)
   refine zAf (zAd (hK40 _ _ ?_))
   refine zAg (fun K45 hK44 => ?_)
   refine zAb (w_p (zAe (v := .int _ _) rfl rfl) rfl ?_)
   refine w_p (zAk isAgg3 hs43.tail.tail.tail.tail.drop.drop rfl rfl h5) rfl ?_
   refine w_p (zBy rfl rfl rfl rfl) rfl ?_
   refine zAf (zAd (hK44 _ _ ?_))
   refine zAz rfl rfl (fun h46 => ?_) (fun h46 => ?_)
   ·
    try simp only [zS] at h46
    refine zAb (w_p (zAe (v := .int _ _) rfl rfl) rfl ?_)
    refine w_p (zB2 underlying106 sizeOf3 rfl rfl rfl rfl (i := d) (by first | rfl | omega) (by omega)) rfl ?_
    refine w_storeAtI (i := 2) (j := d) zAa sizeOf3 rfl rfl rfl rfl hs43 rfl (by first | omega | rfl | (simp only [List.length_map, List.length_set, List.length_append, List.length_take, List.length_drop, List.length_replicate, List.length_cons, List.length_nil] <;> omega)) (fun w47 hs48 => ?_)
    refine zAf (zAd (hK38 _ _ ?_))
    refine zAg (fun K50 hK49 => ?_)
    refine zAb ?_
    first
      | have hdy : (if q = below then (-1 : Int) else (q : Int)) = -1 := if_pos (by omega)
      | have hdy : (if q = below then (-1 : Int) else (q : Int)) = (q : Int) := if_neg (by omega)
    refine w_p (zAk isAgg123 hs48 rfl rfl (zAj (i := 0) (vs := [_]) rfl rfl)) rfl ?_
    refine w_p (zAe (v := .int _ _) rfl rfl) rfl ?_
    refine w_p (zBf rfl rfl rfl rfl (by omega) (by omega)) rfl ?_
    refine zAt zAa call100 rfl rfl rfl rfl (ih2 (d + 1) (pre ++ [if q = below then -1 else (q : Int)]) _ last i _ B X _ (by omega) (by simp; omega) (by first | omega | (simp only [List.length_set]; omega)) (by rw [hdy]; exact set_take _ (by first | exact hk | exact set_keep _ hk) (by first | omega | (simp only [List.length_set]; omega))) (by first | exact set_zero _ (by omega) (set_zero _ (by omega) hz) | exact set_zero _ (by omega) hz) hi (seg_more (by omega) hpos) hll hlast hJ hs48) ?_
    rintro _ w52 ⟨cur2, last2, B2, hc2, hl2, hk2, hz2, hs53, (⟨rfl, i2, hi2, hp2, hn2, hJ2⟩ | ⟨rfl, hJ2⟩)⟩
    ·
     refine w_p (zDc rfl rfl) rfl ?_
     refine zAf (zAd (hK49 _ _ ?_))
     refine zB0 rfl rfl ?_
     refine zAx (zAl (zAd (hK34 _ _ ?_)))
     refine zAb (w_p (zBf rfl rfl rfl rfl (by omega) (by omega)) rfl ?_)
     refine w_p (zAe (v := .int _ _) rfl rfl) rfl ?_
     refine zAf (zAd (hN26 _ _ (Nx.intro (below + 1 - (q + 1)) (by omega) (by repeat (first | exact zAv | refine zAu rfl ?_ | refine zAs rfl ?_ _ | refine zAr rfl ?_)) ?_)))
     exact ⟨q + 1, cur2, last2, i2, B2, rfl, by omega, rfl, hc2, hl2, zCm hk2 hpl, hz2, hi2, hp2, (by rw [hp2]; exact hn2), hJ2, hs53⟩
    refine w_p (zDc rfl rfl) rfl ?_
    refine zAf (zAd (hK49 _ _ ?_))
    refine zCg rfl rfl ?_
    refine zAg (fun K55 hK54 => ?_)
    refine zAb (w_p (zAc (v := _) rfl rfl) rfl ?_)
    refine zAf (zAd (hK54 _ _ ?_))
    refine zA2 (zA1 (zAm (zAm (zA1 (zAm (zA3 (l := [.tmp 8]) (vs := [_]) rfl ⟨⟨rfl, (rfl : _ = Value.bool _)⟩, trivial⟩ ?_))))))
    first
      | exact ⟨cur, cur, B1, hcl, hcl, hk, hz, hs53, .inl ⟨rfl, i + 1, zCu hpos, zCt hpos, zCq hnd hpos, hJ1⟩⟩
      | exact ⟨cur, cur, B1, hcl, hcl, hk, hz, hs53, .inr ⟨rfl, hJ1⟩⟩
      | exact ⟨cur2, last2, B2, hc2, hl2, zCm hk2 hpl, hz2, hs53, .inr ⟨rfl, hJ2⟩⟩
      | exact ⟨cur, last, B, hcl, hll, hk, hz, hs53, .inl ⟨rfl, i, hi, (by rw [hpos, show q = below + 1 from by omega, dys_end]; rfl), (by rw [← show Ls.drop i = R from by rw [hpos, show q = below + 1 from by omega, dys_end]; rfl]; exact hlast), hJ⟩⟩
   try simp only [zS] at h46
   refine zAx (zAd (hK38 _ _ ?_))
   refine zAg (fun K57 hK56 => ?_)
   refine zAb ?_
   first
     | have hdy : (if q = below then (-1 : Int) else (q : Int)) = -1 := if_pos (by omega)
     | have hdy : (if q = below then (-1 : Int) else (q : Int)) = (q : Int) := if_neg (by omega)
   refine w_p (zAk isAgg123 hs43 rfl rfl (zAj (i := 0) (vs := [_]) rfl rfl)) rfl ?_
   refine w_p (zAe (v := .int _ _) rfl rfl) rfl ?_
   refine w_p (zBf rfl rfl rfl rfl (by omega) (by omega)) rfl ?_
   refine zAt zAa call100 rfl rfl rfl rfl (ih2 (d + 1) (pre ++ [if q = below then -1 else (q : Int)]) _ last i _ B X _ (by omega) (by simp; omega) (by first | omega | (simp only [List.length_set]; omega)) (by rw [hdy]; exact set_take _ (by first | exact hk | exact set_keep _ hk) (by first | omega | (simp only [List.length_set]; omega))) (by first | exact set_zero _ (by omega) (set_zero _ (by omega) hz) | exact set_zero _ (by omega) hz) hi (seg_more (by omega) hpos) hll hlast hJ hs43) ?_
   rintro _ w59 ⟨cur2, last2, B2, hc2, hl2, hk2, hz2, hs60, (⟨rfl, i2, hi2, hp2, hn2, hJ2⟩ | ⟨rfl, hJ2⟩)⟩
   ·
    refine w_p (zDc rfl rfl) rfl ?_
    refine zAf (zAd (hK56 _ _ ?_))
    refine zB0 rfl rfl ?_
    refine zAx (zAl (zAd (hK34 _ _ ?_)))
    refine zAb (w_p (zBf rfl rfl rfl rfl (by omega) (by omega)) rfl ?_)
    refine w_p (zAe (v := .int _ _) rfl rfl) rfl ?_
    refine zAf (zAd (hN26 _ _ (Nx.intro (below + 1 - (q + 1)) (by omega) (by repeat (first | exact zAv | refine zAu rfl ?_ | refine zAs rfl ?_ _ | refine zAr rfl ?_)) ?_)))
    exact ⟨q + 1, cur2, last2, i2, B2, rfl, by omega, rfl, hc2, hl2, zCm hk2 hpl, hz2, hi2, hp2, (by rw [hp2]; exact hn2), hJ2, hs60⟩
   refine w_p (zDc rfl rfl) rfl ?_
   refine zAf (zAd (hK56 _ _ ?_))
   refine zCg rfl rfl ?_
   refine zAg (fun K62 hK61 => ?_)
   refine zAb (w_p (zAc (v := _) rfl rfl) rfl ?_)
   refine zAf (zAd (hK61 _ _ ?_))
   refine zA2 (zA1 (zAm (zAm (zA1 (zAm (zA3 (l := [.tmp 8]) (vs := [_]) rfl ⟨⟨rfl, (rfl : _ = Value.bool _)⟩, trivial⟩ ?_))))))
   first
     | exact ⟨cur, cur, B1, hcl, hcl, hk, hz, hs60, .inl ⟨rfl, i + 1, zCu hpos, zCt hpos, zCq hnd hpos, hJ1⟩⟩
     | exact ⟨cur, cur, B1, hcl, hcl, hk, hz, hs60, .inr ⟨rfl, hJ1⟩⟩
     | exact ⟨cur2, last2, B2, hc2, hl2, zCm hk2 hpl, hz2, hs60, .inr ⟨rfl, hJ2⟩⟩
     | exact ⟨cur, last, B, hcl, hll, hk, hz, hs60, .inl ⟨rfl, i, hi, (by rw [hpos, show q = below + 1 from by omega, dys_end]; rfl), (by rw [← show Ls.drop i = R from by rw [hpos, show q = below + 1 from by omega, dys_end]; rfl]; exact hlast), hJ⟩⟩
  try simp only [zS] at h33
  refine zBl (zAo (zAo (zA4 (zAd (hK22 _ _ ?_)))))
  refine zAg (fun K64 hK63 => ?_)
  refine zAb (w_p (zAc (v := _) rfl rfl) rfl ?_)
  refine zAf (zAd (hK63 _ _ ?_))
  refine zA2 (zA3 (l := [.tmp 8]) (vs := [_]) rfl ⟨⟨rfl, (rfl : _ = Value.bool _)⟩, trivial⟩ ?_)
  first
    | exact ⟨cur, cur, B1, hcl, hcl, hk, hz, hs, .inl ⟨rfl, i + 1, zCu hpos, zCt hpos, zCq hnd hpos, hJ1⟩⟩
    | exact ⟨cur, cur, B1, hcl, hcl, hk, hz, hs, .inr ⟨rfl, hJ1⟩⟩
    | exact ⟨cur2, last2, B2, hc2, hl2, zCm hk2 hpl, hz2, hs, .inr ⟨rfl, hJ2⟩⟩
    | exact ⟨cur, last, B, hcl, hll, hk, hz, hs, .inl ⟨rfl, i, hi, (by rw [hpos, show q = below + 1 from by omega, dys_end]; rfl), (by rw [← show Ls.drop i = R from by rw [hpos, show q = below + 1 from by omega, dys_end]; rfl]; exact hlast), hJ⟩⟩

end Go.Proofs.Cb
set_option maxRecDepth 20000
namespace Go.Proofs.Cb
open Go.Proofs.Tryz
open Go.Rt Go.Rt.Ca
attribute [local irreducible] WL WC Con Yd At Ats Sl Agree DW

theorem next_all {w0 : World} {F : List (Nat × Obj)} (p : Port) (a : Option Addr) (c m pb : Nat) (hp : Ats w0 F pb 0 [.int .i64 p.hold, .int .i64 p.clo, .int .i64 p.chi, .slice a p.farms.length c, .map (some m)]) (ha : Sl w0 F a 6 (rows p.farms)) (hok : p.Ok) (n below bp bl bla bY bb bn : Nat) (hbe : below ≤ 11) (h1 : Ats w0 F bp 0 [.pointer (some ⟨pb, 0, none⟩)]) (h5 : Ats w0 F bb 0 [.int .i64 (below : Int)]) (hn : n = p.farms.length) (Ls : List (List Int)) (hnd : Ls.Nodup) (J : Nat → List (Nat × Obj) → Prop) (Js : List (Nat × Obj) → Prop) (yv : Value) (hy : ∀ (i : Nat) (x : List Int) (R : List (List Int)) (B X : List (Nat × Obj)) (w : World), Ls.drop i = x :: R → J i B → St w0 w (X ++ (B ++ F)) → FCon Tryz.prog yv [ia x] w fun v w' => ∃ B', St w0 w' (X ++ (B' ++ F)) ∧ (v = .bool true ∧ J (i + 1) B' ∨ v = .bool false ∧ Js B')) (rem : Nat) : NextC n below bp bl bla bY bb bn Ls J Js yv w0 F rem := by
  induction rem with
  | zero => exact c100 p a c m pb hp ha hok n below bp bl bla bY bb bn hbe h1 h5 hn Ls hnd J Js yv hy 0 (fun r h => by omega)
  | succ r ih => exact c100 p a c m pb hp ha hok n below bp bl bla bY bb bn hbe h1 h5 hn Ls hnd J Js yv hy (r + 1) (fun q h => by have : q = r := (by omega); subst this; exact ih)
theorem iter_lists {w0 : World} {F : List (Nat × Obj)} {Ls : List (List Int)} {J : Nat → List (Nat × Obj) → Prop} {Js : List (Nat × Obj) → Prop} {yv : Value}
    (hy : ∀ i (hi : i < (Ls.map ia).length) B X w, J i B → St w0 w (X ++ (B ++ F)) → FCon Tryz.prog yv [(Ls.map ia)[i]] w fun v w' => ∃ B', St w0 w' (X ++ (B' ++ F)) ∧ (v = .bool true ∧ J (i + 1) B' ∨ v = .bool false ∧ Js B')) :
    ∀ (i : Nat) (x : List Int) (R : List (List Int)) (B X : List (Nat × Obj)) (w : World), Ls.drop i = x :: R → J i B → St w0 w (X ++ (B ++ F)) → FCon Tryz.prog yv [ia x] w fun v w' => ∃ B', St w0 w' (X ++ (B' ++ F)) ∧ (v = .bool true ∧ J (i + 1) B' ∨ v = .bool false ∧ Js B') := by
  intro i x R B X w hd hJ hs
  have := hy i (by simpa using zCu hd) B X w hJ hs
  rw [List.getElem_map, drop_get hd] at this
  exact this
theorem all_iter {w0 : World} {F : List (Nat × Obj)} (p : Port) (a : Option Addr) (c m pb : Nat) (hp : Ats w0 F pb 0 [.int .i64 p.hold, .int .i64 p.clo, .int .i64 p.chi, .slice a p.farms.length c, .map (some m)]) (ha : Sl w0 F a 6 (rows p.farms)) (hok : p.Ok) (below bp bb : Nat) (hbe : below ≤ 11) (h1 : Ats w0 F bp 0 [.pointer (some ⟨pb, 0, none⟩)]) (h5 : Ats w0 F bb 0 [.int .i64 (below : Int)]) : Iter Tryz.prog 99 [] [.pointer (some ⟨bp, 0, none⟩), .pointer (some ⟨bb, 0, none⟩)] (((allC below p.farms.length).map pad).map ia) w0 F := by
  intro J Js yv B X w hyv hy hJ hs
  obtain ⟨yf, ya, yb, rfl⟩ := hyv
  have hlen3 := hok.len
  show Con Tryz.prog 99 [.func yf ya yb, .pointer (some ⟨bp, 0, none⟩), .pointer (some ⟨bb, 0, none⟩)] w _
  refine zAw (n := 11) func99 rfl rfl (Nat.le_of_ble_eq_true rfl) ?_
  refine zAg (fun K2 hK1 => ?_)
  refine zAb (zB3 (v := .func _ _ _) (cs := [_]) zAa rfl rfl rfl hs (fun b3 w4 hs5 => ?_))
  refine zAf (zAd (hK1 _ _ ?_))
  refine zAg (fun K7 hK6 => ?_)
  refine zAb (zA9 (cs := iv [0, 0, 0]) zAa zeroValue106 rfl hs5 (fun b8 w9 hs10 => ?_))
  refine zA9 (cs := iv [0, 0, 0]) zAa zeroValue106 rfl hs10 (fun b11 w12 hs13 => ?_)
  refine zAf (zAd (hK6 _ _ ?_))
  refine zAg (fun K15 hK14 => ?_)
  refine zAb (w_p (zB2 underlying106 sizeOf3 rfl rfl rfl rfl (i := 0) rfl (by omega)) rfl ?_)
  refine w_storeAtI (i := 0) (j := 0) zAa sizeOf3 rfl rfl rfl rfl hs13 rfl (by first | omega | rfl | (simp only [List.length_map, List.length_set, List.length_append, List.length_take, List.length_drop, List.length_replicate, List.length_cons, List.length_nil] <;> omega)) (fun w16 hs17 => ?_)
  refine zAf (zAd (hK14 _ _ ?_))
  refine zAg (fun K19 hK18 => ?_)
  refine zAb (zA9 (cs := [_]) zAa zeroValue123 rfl hs17 (fun b20 w21 hs22 => ?_))
  refine zAf (zAd (hK18 _ _ ?_))
  refine zAg (fun K24 hK23 => ?_)
  refine zAb (w_p (zB9 (fv := []) (cv := [_, _, _, _, _, _]) rfl rfl rfl rfl) rfl ?_)
  refine zA5 (i := 0) (v := .func _ _ _) (vs := [_]) zAa sizeOf123 rfl rfl rfl rfl rfl (by simp [Value.oneCell']) hs22 rfl (Nat.le_of_ble_eq_true rfl) (fun w25 hs26 => ?_)
  refine zAf (zAd (hK23 _ _ ?_))
  refine zAb (w_p (zAk isAgg123 hs26 rfl rfl (zAj (i := 0) (vs := [_]) rfl rfl)) rfl ?_)
  refine zAt zAa call100 rfl rfl rfl rfl (next_all p a c m pb hp ha hok p.farms.length below bp b8 b11 b3 bb b20 hbe h1 h5 rfl ((allC below p.farms.length).map pad) (allpad_nodup hlen3) J Js (.func yf ya yb) (iter_lists hy) p.farms.length 0 [] (List.replicate 3 0) [-2, 0, 0] 0 [] B X _ (by omega) rfl rfl rfl (fun j _ => by match j with | 0 => rfl | 1 => rfl | 2 => rfl | _ + 3 => rfl) (by omega) (by rw [List.append_nil]; rfl) rfl (by rw [List.drop_zero]; exact start_notin) hJ hs26) ?_
  rintro _ w28 ⟨cur2, last2, B2, _, _, _, _, hs29, hB2⟩
  refine zAf (q_end (l := []) (vs := []) rfl trivial ?_)
  refine ⟨B2, hs29.tail.tail.tail.tail, ?_⟩
  rcases hB2 with ⟨_, i', hi', hd', _, hJ'⟩ | ⟨_, hJ'⟩
  · left; rw [List.length_map, ← drop_done hi' hd']; exact hJ'
  · exact .inr hJ'

end Go.Proofs.Cb
set_option maxRecDepth 20000
namespace Go.Proofs.Cb
open Go.Proofs.Tryz
open Go.Rt Go.Rt.Ca
attribute [local irreducible] WL WC Con Yd At Ats Sl Agree DW
theorem Try_CM_fb6  (w : World) : (Instr.build 132 [].toArray).run Tryz.prog w = .ok (.agg #[.int .i64 0, .int .i64 0, .int .i64 0]) w := by kernel_rfl
theorem Try_flat132 : flatInts Tryz.prog 132 3 = true := by kernel_rfl
theorem c76 {w0 w : World} {F : List (Nat × Obj)} (pb : Nat) (z : Int) (hs : St w0 w F) :
  Con Tryz.prog 76 [.pointer (some ⟨pb, 0, none⟩), .int .i64 z] w fun v w' => ∃ bp bb, v = .func (.func 99) #[] #[.pointer (some ⟨bp, 0, none⟩), .pointer (some ⟨bb, 0, none⟩)] ∧ St w0 w' ((bb, blk 3 [.int .i64 z]) :: (bp, blk 103 [.pointer (some ⟨pb, 0, none⟩)]) :: F) := by
  refine zAw (n := 6) func76 rfl rfl (Nat.le_of_ble_eq_true rfl) ?_
  refine zAg (fun K2 hK1 => ?_)
  refine zAb (zB3 (v := .pointer _) (cs := [_]) zAa rfl rfl rfl hs (fun b3 w4 hs5 => ?_))
  refine zB3 (v := .int _ _) (cs := [_]) zAa rfl rfl rfl hs5 (fun b6 w7 hs8 => ?_)
  refine w_p (zAc (v := _) rfl rfl) rfl ?_
  refine zAf (zAd (hK1 _ _ ?_))
  refine zAg (fun K10 hK9 => ?_)
  refine zAb (w_p (zB9 (fv := []) (cv := [_, _]) rfl rfl rfl rfl) rfl ?_)
  refine w_p (zAc (v := .func _ _ _) rfl rfl) rfl ?_
  refine zAf (zAd (hK9 _ _ ?_))
  refine zA2 (zA3 (l := [.tmp 4]) (vs := [_]) rfl ⟨⟨rfl, show _ = (.func _ _ _ : Value) from rfl⟩, trivial⟩ ?_)
  exact ⟨_, _, rfl, hs8⟩

theorem c51 {w0 w : World} {F : List (Nat × Obj)} (pb : Nat) (hs : St w0 w F) :
  Con Tryz.prog 51 [.pointer (some ⟨pb, 0, none⟩)] w fun v w' => ∃ bq, v = .func (.func 87) #[] #[.pointer (some ⟨bq, 0, none⟩)] ∧ St w0 w' ((bq, blk 103 [.pointer (some ⟨pb, 0, none⟩)]) :: F) := by
  refine zAw (n := 4) func51 rfl rfl (Nat.le_of_ble_eq_true rfl) ?_
  refine zAg (fun K2 hK1 => ?_)
  refine zAb (zB3 (v := .pointer _) (cs := [_]) zAa rfl rfl rfl hs (fun b3 w4 hs5 => ?_))
  refine w_p (zAc (v := _) rfl rfl) rfl ?_
  refine zAf (zAd (hK1 _ _ ?_))
  refine zAg (fun K7 hK6 => ?_)
  refine zAb (w_p (zB9 (fv := []) (cv := [_]) rfl rfl rfl rfl) rfl ?_)
  refine w_p (zAc (v := .func _ _ _) rfl rfl) rfl ?_
  refine zAf (zAd (hK6 _ _ ?_))
  refine zA2 (zA3 (l := [.tmp 2]) (vs := [_]) rfl ⟨⟨rfl, show _ = (.func _ _ _ : Value) from rfl⟩, trivial⟩ ?_)
  exact ⟨_, rfl, hs5⟩

theorem does_perm {x y z : Nat × Obj} (X B F : List (Nat × Obj)) : (x :: y :: z :: (X ++ (B ++ F))).Perm ((z :: B) ++ (x :: y :: (X ++ F))) :=
  (List.Perm.cons x (List.Perm.cons y (List.Perm.cons z (zBe X B F)))).trans (zBe [x, y] (z :: B) (X ++ F))
theorem bi {a b : Bool} {c d : Int} (h : a = b) (k : c = d) : [Value.bool a, Value.int .i64 c] = [Value.bool b, Value.int .i64 d] := by rw [h, k]
theorem does_back {w0 w : World} {x y : Nat × Obj} {X B F : List (Nat × Obj)} (h : St w0 w (B ++ (x :: y :: (X ++ F)))) : St w0 w (X ++ (B ++ F)) := by
  have h1 := (h.perm (zBe B [x, y] (X ++ F))).tail.tail
  exact St.perm (L := B ++ (X ++ F)) h1 (zBe B X F)
theorem y_call {w0 w : World} {F Y B Xr X : List (Nat × Obj)} {u v : Nat × Obj} {Ls : List (List Int)} {J : Nat → List (Nat × Obj) → Prop} {Js : List (Nat × Obj) → Prop} {yv : Value}
    (hy : ∀ (i : Nat) (x : List Int) (R : List (List Int)) (B X : List (Nat × Obj)) (w : World), Ls.drop i = x :: R → J i B → St w0 w (X ++ (B ++ F)) → FCon Tryz.prog yv [ia x] w fun v w' => ∃ B', St w0 w' (X ++ (B' ++ F)) ∧ (v = .bool true ∧ J (i + 1) B' ∨ v = .bool false ∧ Js B'))
    {i : Nat} {x : List Int} {R : List (List Int)} (hd : Ls.drop i = x :: R) (hJ : J i B) (hs : St w0 w (Y ++ (B ++ (Xr ++ (u :: v :: (X ++ F)))))) :
    FCon Tryz.prog yv [ia x] w fun r w' => ∃ B', St w0 w' (Y ++ (B' ++ (Xr ++ (u :: v :: (X ++ F))))) ∧ (r = .bool true ∧ J (i + 1) B' ∨ r = .bool false ∧ Js B') := by
  have key : ∀ B : List (Nat × Obj), (Y ++ (B ++ (Xr ++ (u :: v :: (X ++ F))))).Perm ((Y ++ (Xr ++ (u :: v :: X))) ++ (B ++ F)) := by
    intro B
    have e : B ++ (Xr ++ (u :: v :: (X ++ F))) = B ++ ((Xr ++ (u :: v :: X)) ++ F) := by simp
    rw [e, List.append_assoc Y]
    exact List.Perm.append_left Y (zBe B (Xr ++ (u :: v :: X)) F)
  refine (hy i x R B _ w hd hJ (hs.perm (key B))).mono ?_
  rintro r w' ⟨B', hs', h⟩
  exact ⟨B', hs'.perm (key B').symm, h⟩
theorem does_iter {w0 : World} {F : List (Nat × Obj)} (p : Port) (a : Option Addr) (c m pb : Nat) (hp : Ats w0 F pb 0 [.int .i64 p.hold, .int .i64 p.clo, .int .i64 p.chi, .slice a p.farms.length c, .map (some m)]) (ha : Sl w0 F a 6 (rows p.farms)) (hok : p.Ok) (b1 : Nat) (h1 : Ats w0 F b1 0 [.pointer (some ⟨pb, 0, none⟩)]) : Iter Tryz.prog 87 [] [.pointer (some ⟨b1, 0, none⟩)] (((doC p).map pad).map ia) w0 F := by
  intro J Js yv B X w hyv hy0 hJ hs
  have hy := iter_lists hy0
  obtain ⟨yf, ya, yb, rfl⟩ := hyv
  have hlen3 := hok.len
  have hcome := hok.come
  show Con Tryz.prog 87 [.func yf ya yb, .pointer (some ⟨b1, 0, none⟩)] w _
  refine zDe (n := 53) func87 rfl rfl (Nat.le_of_ble_eq_true rfl) ?_
  refine zAg (fun K2 hK1 => ?_)
  refine zAb (zB3 (v := .func _ _ _) (cs := [_]) zAa rfl rfl rfl hs (fun b3 w4 hs5 => ?_))
  refine zAf (zAd (hK1 _ _ ?_))
  refine zAg (fun K7 hK6 => ?_)
  refine zAb (w_p (zAk isAgg103 hs5.tail.drop.drop rfl rfl h1) rfl ?_)
  refine zAt zAa call76 rfl rfl rfl rfl (c76 _ _ hs5) ?_
  rintro _ w9 ⟨bp, bb, rfl, hs10⟩
  refine zAf (zAd (hK6 _ _ ?_))
  refine zAy ?_
  refine w_range (_ :: B) (fun i Bx => ∃ B', Bx = (b3, blk 153 [.func yf ya yb]) :: B' ∧ J (((allC 11 p.farms.length).take i).filter fun l => full p l).length B') (fun c Bx => c = .ret ∧ ∃ B', Bx = (b3, blk 153 [.func yf ya yb]) :: B' ∧ Js B') rfl rfl rfl call99 (all_iter p a c m pb hp.app.cons.cons ha.app.cons.cons hok 11 bp bb (by omega) (zAj (i := 1) (vs := [_]) rfl rfl) (zAj (i := 0) (vs := [_]) rfl rfl)) hs10 (does_perm X B F) ⟨B, rfl, hJ⟩ ?_ ?_ ?_
  ·
   intro lp i hi Bx Xr Xr2 w12 hJ hs K hK11
   obtain ⟨B1, rfl, hJ1⟩ := hJ
   have hi2 : i < (allC 11 p.farms.length).length := by simpa using hi
   rw [List.getElem_map, List.getElem_map]
   have hlen := zCp (allC 11 p.farms.length)[i]
   have hl1 := allpad_in (by omega) hi2
   have hfp := full_pad (p := p) (all_len2 hi2) hlen3
   obtain ⟨l, hl⟩ : ∃ l, l = pad (allC 11 p.farms.length)[i] := ⟨_, rfl⟩
   rw [← hl] at hlen hl1 hfp ⊢
   replace hs := (show St _ _ (_ :: (B1 ++ (Xr ++ (_ :: _ :: (X ++ F))))) from hs)
   refine zAb (zA9 (cs := iv [0, 0, 0]) zAa zeroValue106 rfl hs (fun b13 w14 hs15 => ?_))
   refine zCa (i := 0) (l := _) zAa sizeOf106 (by first | omega | rfl | (simp only [zCp, List.length_map, List.length_set, List.length_append, List.length_take, List.length_drop, List.length_replicate, List.length_cons, List.length_nil] <;> omega)) rfl rfl rfl rfl rfl hs15 rfl (by first | omega | rfl | (simp only [zCp, List.length_map, List.length_set, List.length_append, List.length_take, List.length_drop, List.length_replicate, List.length_cons, List.length_nil] <;> omega)) (fun w16 hs17 => ?_)
   refine zAf (zAd (hK11 _ _ (_ :: _ :: B1) hs17 (fun w18 hs19 => ?_)))
   replace hs19 := (show St _ _ (_ :: _ :: B1 ++ (Xr2 ++ (_ :: _ :: X ++ (F)))) from hs19)
   refine zAy ?_
   refine zAg (fun K21 hK20 => ?_)
   refine zAb (w_p (zAc (v := _) rfl rfl) rfl ?_)
   refine zAf (zAd (hK20 _ _ ?_))
   refine zAg (fun K23 hK22 => ?_)
   refine zAg (fun K25 hK24 => ?_)
   refine zAb (w_p (zAk isAgg103 hs19.tail.tail.drop.drop.tail.tail.drop rfl rfl h1) rfl ?_)
   refine w_p (zBk rfl rfl) rfl ?_
   refine w_p (zAh (o := 0) (i := 0) underlying151 rfl sizeOf31 rfl rfl rfl) rfl ?_
   refine w_p (zAh (o := 1) (i := 1) underlying31 rfl sizeOf28 rfl rfl rfl) rfl ?_
   refine w_p (zAh (o := 0) (i := 0) underlying28 rfl sizeOf3 rfl rfl rfl) rfl ?_
   refine w_p (zAk isAgg3 hs19.tail.tail.drop.drop.tail.tail.drop rfl rfl (show Ats _ _ _ _ [_] from Ats.part hp 1 1)) rfl ?_
   refine w_p (zAc (v := .int _ _) rfl rfl) rfl ?_
   refine zAf (zAd (hK24 _ _ ?_))
   refine zAy ?_
   refine zBp [4, 5, 6, 16, 17, 18, 19, 20, 21, 22, 23, 24, 25, 26, 27, 28, 29, 30, 31, 32, 33, 34, 35, 36, 37, 38, 39, 40, 41, 42, 43, 44, 45] [4, 5] (fun k vs w => ∃ (q : Nat), vs = [.bool (fullUpto p l q), .int .i64 (p.clo + q)] ∧ (q : Int) ≤ p.chi - p.clo + 1 ∧ k = (p.chi - p.clo + 1 - q).toNat ∧ St w0 w ((b13, blk 106 (iv l)) :: (b3, blk 153 [.func yf ya yb]) :: (B1 ++ (Xr2 ++ ((bb, blk 3 [.int .i64 11]) :: (bp, blk 103 [.pointer (some ⟨pb, 0, none⟩)]) :: (X ++ F)))))) ((p.chi - p.clo + 1).toNat) ?_ ?_
   ·
    exact ⟨0, bi (show true = fullUpto p l 0 by simp [fullUpto]) (by omega), by omega, by simp, hs19⟩
   intro k vs μ w28 hI K27 hN26
   obtain ⟨q, rfl, hq, rfl, hs⟩ := hI
   generalize hfu : fullUpto p l q = fu
   refine zAg (fun K30 hK29 => ?_)
   refine zAg (fun K32 hK31 => ?_)
   refine zAb (w_p (zAe (v := .bool _) rfl rfl) rfl ?_)
   refine w_p (zAe (v := .bool _) rfl rfl) rfl ?_
   refine zBi (fun h33 => ?_) (fun h33 => ?_)
   ·
    subst h33
    refine w_y rfl rfl rfl (zAe (v := .int _ _) rfl rfl) rfl ?_
    refine w_y rfl rfl rfl (zAk isAgg103 hs.tail.tail.drop.drop.tail.tail.drop rfl rfl h1) rfl ?_
    refine w_y rfl rfl rfl (zBk rfl rfl) rfl ?_
    refine w_y rfl rfl rfl (zAh (o := 0) (i := 0) underlying151 rfl sizeOf31 rfl rfl rfl) rfl ?_
    refine w_y rfl rfl rfl (zAh (o := 1) (i := 1) underlying31 rfl sizeOf28 rfl rfl rfl) rfl ?_
    refine w_y rfl rfl rfl (zAh (o := 1) (i := 1) underlying28 rfl sizeOf3 rfl rfl rfl) rfl ?_
    refine w_y rfl rfl rfl (zAk isAgg3 hs.tail.tail.drop.drop.tail.tail.drop rfl rfl (show Ats _ _ _ _ [_] from Ats.part hp 2 1)) rfl ?_
    refine w_y rfl rfl rfl (y_leq rfl rfl rfl rfl) rfl ?_
    refine w_p (zA0 (v := .bool _) rfl rfl rfl rfl) rfl ?_
    refine zAf (zAd (hK31 _ _ ?_))
    refine zAz rfl rfl (fun h34 => ?_) (fun h34 => ?_)
    ·
     try simp only [zS] at h34
     refine zAx (zAd (hK29 _ _ ?_))
     refine zAg (fun K36 hK35 => ?_)
     refine zAy ?_
     refine zAg (fun K38 hK37 => ?_)
     refine zAb (w_p (zAk isAgg103 hs.tail.tail.drop.drop.tail.tail.drop rfl rfl h1) rfl ?_)
     refine w_p (zB4 (i := 0) isAgg106 sizeOf106 (by first | omega | rfl | (simp only [zCp, List.length_map, List.length_set, List.length_append, List.length_take, List.length_drop, List.length_replicate, List.length_cons, List.length_nil] <;> omega)) hs rfl rfl rfl) rfl ?_
     refine w_p (zAe (v := .int _ _) rfl rfl) rfl ?_
     refine zAt zAa call88 rfl rfl rfl rfl (c88 p _ c m pb hp.app.cons.cons.app.app.cons.cons ha.app.cons.cons.app.app.cons.cons hok l hlen hl1 _ (by omega) (by omega) hs) ?_
     rintro _ w40 ⟨rfl, hs41⟩
     refine zA9 (cs := [_, _, _]) zAa zeroValue132 rfl hs41 (fun b42 w43 hs44 => ?_)
     refine zA5 (i := 0) (v := .agg #[.int _ _, .int _ _, .int _ _]) (vs := [_, _, _]) zAa sizeOf132 rfl rfl rfl rfl rfl (by simp [Value.oneCell']) hs44 rfl (Nat.le_of_ble_eq_true rfl) (fun w45 hs46 => ?_)
     refine zAf (zAd (hK37 _ _ ?_))
     refine zB7 [] [(0, 1), (1, 0), (2, 0), (3, 0), (4, 0), (5, 1), (6, 1), (7, 0), (8, 0), (9, 0), (10, 1), (11, 0), (12, 0), (13, 0)] zBu (by kernel_rfl) hs46 (fun w47 hs48 => ?_)
     refine zBa rfl zAa rfl hs48 (fun _ hq => (zA6 (vs := [_, _, _]) isAgg132 sizeOf132 hq rfl rfl (zAj (i := 0) (vs := [_, _, _]) rfl rfl))) ?_
     refine zAp rfl zAa rfl (fun _ => (zBs (ps := []) (pv := []) rfl rfl (fun w => Try_CM_fb6  w))) ?_
     refine zAp rfl zAa rfl (fun _ => (y_neFlat (l := [_, _, _]) (m := [_, _, _]) eqGuardType132 Try_flat132 (by first | omega | rfl | (simp only [zCp, List.length_map, List.length_set, List.length_append, List.length_take, List.length_drop, List.length_replicate, List.length_cons, List.length_nil] <;> omega)) (by first | omega | rfl | (simp only [zCp, List.length_map, List.length_set, List.length_append, List.length_take, List.length_drop, List.length_replicate, List.length_cons, List.length_nil] <;> omega)) rfl rfl rfl rfl rfl rfl)) ?_
     refine zAp rfl zAa rfl (fun _ => (zAe (v := .bool _) rfl rfl)) ?_
     refine zDk (fun h49 => ?_) (fun h49 => ?_)
     ·
      try simp only [zS] at h49
      refine zAp rfl (zAn rfl rfl rfl) rfl (fun _ => (zAh (o := 0) (i := 0) underlying132 rfl sizeOf3 rfl rfl rfl)) ?_
      refine zBa rfl (zAn rfl rfl rfl) rfl hs48 (fun _ hq => (zAk isAgg3 hq rfl rfl (zAj (i := 0) (vs := [_]) rfl rfl))) ?_
      refine zBa rfl (zAn rfl rfl rfl) rfl hs48 (fun _ hq => (zAk isAgg103 hq.tail.tail.tail.drop.drop.tail.tail.drop rfl rfl h1)) ?_
      refine zAp rfl (zAn rfl rfl rfl) rfl (fun _ => (zBk rfl rfl)) ?_
      refine zAp rfl (zAn rfl rfl rfl) rfl (fun _ => (zAh (o := 0) (i := 0) underlying151 rfl sizeOf31 rfl rfl rfl)) ?_
      refine zAp rfl (zAn rfl rfl rfl) rfl (fun _ => (zAh (o := 0) (i := 0) underlying31 rfl sizeOf3 rfl rfl rfl)) ?_
      refine zBa rfl (zAn rfl rfl rfl) rfl hs48 (fun _ hq => (zAk isAgg3 hq.tail.tail.tail.drop.drop.tail.tail.drop rfl rfl (show Ats _ _ _ _ [_] from Ats.part hp 0 1))) ?_
      refine zAp rfl (zAn rfl rfl rfl) rfl (fun _ => (y_geq rfl rfl rfl rfl)) ?_
      refine zAp rfl zAa rfl (fun _ => (zA0 (v := .bool _) rfl rfl rfl rfl)) ?_
      refine zAp rfl zAa rfl (fun _ => (zAc (v := .bool _) rfl rfl)) ?_
      refine zB1 ?_
      refine zAl (zAd (hK35 _ _ ?_))
      refine zAb (w_p (zAe (v := .int _ _) rfl rfl) rfl ?_)
      refine w_p (zBf rfl rfl rfl rfl (by omega) (by omega)) rfl ?_
      refine w_p (zAc (v := .int _ _) rfl rfl) rfl ?_
      refine zAf (zAd (hN26 _ _ (Nx.intro ((p.chi - p.clo + 1 - (q + 1 : Nat)).toNat) (by omega) (by repeat (first | exact zAv | refine zAu rfl ?_ | refine zAs rfl ?_ _ | refine zAr rfl ?_)) ?_)))
      first
        | exact ⟨q + 1, bi (by rw [fullUpto_succ l (by omega), zero_least hok (x := on p.farms l (p.clo + q)) (by assumption)]; simp) (by omega), by omega, rfl, hs48.tail⟩
        | exact ⟨q + 1, bi (by rw [fullUpto_succ l (by omega), hfu]; simp) (by omega), by omega, rfl, hs48.tail⟩
     try simp only [zS] at h49
     refine zBg rfl rfl rfl rfl ?_
     refine zCj rfl rfl rfl rfl hs48 ?_
     refine zCj rfl rfl rfl rfl hs48 ?_
     refine zBg rfl rfl rfl rfl ?_
     refine zBg rfl rfl rfl rfl ?_
     refine zBg rfl rfl rfl rfl ?_
     refine zCj rfl rfl rfl rfl hs48 ?_
     refine zBg rfl rfl rfl rfl ?_
     refine zAp rfl zAa rfl (fun _ => (zBb (v := _) rfl rfl rfl rfl)) ?_
     refine zAp rfl zAa rfl (fun _ => (zAc (v := .bool _) rfl rfl)) ?_
     refine zB1 ?_
     refine zAl (zAd (hK35 _ _ ?_))
     refine zAb (w_p (zAe (v := .int _ _) rfl rfl) rfl ?_)
     refine w_p (zBf rfl rfl rfl rfl (by omega) (by omega)) rfl ?_
     refine w_p (zAc (v := .int _ _) rfl rfl) rfl ?_
     refine zAf (zAd (hN26 _ _ (Nx.intro ((p.chi - p.clo + 1 - (q + 1 : Nat)).toNat) (by omega) (by repeat (first | exact zAv | refine zAu rfl ?_ | refine zAs rfl ?_ _ | refine zAr rfl ?_)) ?_)))
     first
       | exact ⟨q + 1, bi (by rw [fullUpto_succ l (by omega), zero_least hok (x := on p.farms l (p.clo + q)) (by assumption)]; simp) (by omega), by omega, rfl, hs48.tail⟩
       | exact ⟨q + 1, bi (by rw [fullUpto_succ l (by omega), hfu]; simp) (by omega), by omega, rfl, hs48.tail⟩
    try simp only [zS] at h34
    refine zBl (zAo (zAo (zA4 (zAd (hK22 _ _ ?_)))))
    refine zAg (fun K51 hK50 => ?_)
    refine zAb (w_p (zAe (v := .bool _) rfl rfl) rfl ?_)
    refine w_p (zAe (v := .bool _) rfl rfl) rfl ?_
    refine w_y rfl rfl rfl (zAk isAgg153 hs rfl rfl (zAj (i := 1) (vs := [_]) rfl rfl)) rfl ?_
    refine w_y rfl rfl rfl (zB4 (i := 0) isAgg106 sizeOf106 (by first | omega | rfl | (simp only [zCp, List.length_map, List.length_set, List.length_append, List.length_take, List.length_drop, List.length_replicate, List.length_cons, List.length_nil] <;> omega)) hs rfl rfl rfl) rfl ?_
    refine w_callV (zAn rfl rfl rfl) rfl rfl rfl rfl (y_call (Y := [_, _]) hy (R := (((allC 11 p.farms.length).drop (i + 1)).filter fun l => full p l).map pad) (by rw [hl, ← List.map_drop, doC, filter_here hi2 (hfp.symm.trans (by rw [← fullUpto_all l (i := q) (by omega)]; exact hfu))]; rfl) hJ1 hs) ?_
    rintro _ w53 ⟨B2, hs54, (⟨rfl, hJ2⟩ | ⟨rfl, hJ2⟩)⟩
    ·
     replace hs54 := (show St _ _ (_ :: _ :: B2 ++ (Xr2 ++ (_ :: _ :: X ++ (F)))) from hs54)
     refine w_y rfl rfl rfl (zDc rfl rfl) rfl ?_
     refine w_p (zA0 (v := .bool _) rfl rfl rfl rfl) rfl ?_
     refine zAf (zAd (hK50 _ _ ?_))
     refine zB0 rfl rfl ?_
     refine zAx (zAl (zCr (_ :: B2) hs54.tail ?_))
     first
       | exact ⟨B2, rfl, by rw [filter_yes hi2 (hfp.symm.trans (by rw [← fullUpto_all l (i := q) (by omega)]; exact hfu))]; exact hJ2⟩
       | exact ⟨B1, rfl, by rw [filter_no hi2 (hfp.symm.trans (full_false l hfu))]; exact hJ1⟩
    replace hs54 := (show St _ _ (_ :: _ :: B2 ++ (Xr2 ++ (_ :: _ :: X ++ (F)))) from hs54)
    refine w_y rfl rfl rfl (zDc rfl rfl) rfl ?_
    refine w_p (zA0 (v := .bool _) rfl rfl rfl rfl) rfl ?_
    refine zAf (zAd (hK50 _ _ ?_))
    refine zCg rfl rfl ?_
    refine zA2 (zA1 (rd_ret (_ :: B2) hs54.tail ?_))
    exact ⟨rfl, B2, rfl, hJ2⟩
   subst h33
   refine zAi rfl rfl rfl ?_
   refine zAi rfl rfl rfl ?_
   refine zAi rfl rfl rfl ?_
   refine zAi rfl rfl rfl ?_
   refine zAi rfl rfl rfl ?_
   refine zAi rfl rfl rfl ?_
   refine zAi rfl rfl rfl ?_
   refine zAi rfl rfl rfl ?_
   refine w_p (zBb (v := _) rfl rfl rfl rfl) rfl ?_
   refine zAf (zAd (hK31 _ _ ?_))
   refine zB0 rfl rfl ?_
   refine zBl (zAo (zAo (zA4 (zAd (hK22 _ _ ?_)))))
   refine zAg (fun K56 hK55 => ?_)
   refine zAb (w_p (zAe (v := .bool _) rfl rfl) rfl ?_)
   refine w_p (zAe (v := .bool _) rfl rfl) rfl ?_
   refine zAi rfl rfl rfl ?_
   refine zAi rfl rfl rfl ?_
   refine zAi rfl rfl rfl ?_
   refine zAi rfl rfl rfl ?_
   refine w_p (zBb (v := _) rfl rfl rfl rfl) rfl ?_
   refine zAf (zAd (hK55 _ _ ?_))
   refine zB0 rfl rfl ?_
   refine zAx (zAl (zCr (_ :: B1) hs.tail ?_))
   first
     | exact ⟨B2, rfl, by rw [filter_yes hi2 (hfp.symm.trans (by rw [← fullUpto_all l (i := q) (by omega)]; exact hfu))]; exact hJ2⟩
     | exact ⟨B1, rfl, by rw [filter_no hi2 (hfp.symm.trans (full_false l hfu))]; exact hJ1⟩
  ·
   intro bd Bx w57 hJ hs
   obtain ⟨B1, rfl, hJ1⟩ := hJ
   refine zAl (q_endM (i := 0) (l := []) (vs := []) hs rfl rfl (fun w58 hs59 => ⟨trivial, ?_⟩))
   first
     | exact ⟨B1, does_back hs59.tail.tail, .inl (by rw [List.length_map, List.length_map] at *; rw [List.take_length] at hJ1; exact hJ1)⟩
     | exact ⟨B1, does_back hs59.tail.tail, .inr hJ1⟩
  intro bd c Bx w60 hJ hs
  obtain ⟨rfl, B1, rfl, hJ1⟩ := hJ
  refine zA2 (zA1 (q_retM (i := 0) (l := []) (vs := []) hs rfl rfl (fun w61 hs62 => ⟨trivial, ?_⟩)))
  first
    | exact ⟨B1, does_back hs62.tail.tail, .inl (by rw [List.length_map, List.length_map] at *; rw [List.take_length] at hJ1; exact hJ1)⟩
    | exact ⟨B1, does_back hs62.tail.tail, .inr hJ1⟩

end Go.Proofs.Cb
set_option maxRecDepth 20000
namespace Go.Proofs.Cb
open Go.Proofs.Tryz
open Go.Rt Go.Rt.Ca
attribute [local irreducible] WL WC Con Yd At Ats Sl Agree DW
theorem Try_CN_fb7 (x0 : Int) (x1 : Int) (w : World) : (Instr.build 112 [(0, .int .i64 x0), (1, .int .i64 x1)].toArray).run Tryz.prog w = .ok (.agg #[.int .i64 x0, .int .i64 x1]) w := by kernel_rfl
theorem c74 {w0 w : World} {F : List (Nat × Obj)} (p : Port) (a : Option Addr) (c m pb : Nat) (hp : Ats w0 F pb 0 [.int .i64 p.hold, .int .i64 p.clo, .int .i64 p.chi, .slice a p.farms.length c, .map (some m)]) (ha : Sl w0 F a 6 (rows p.farms)) (hok : p.Ok) (hs : St w0 w F) :
  Con Tryz.prog 74 [.pointer (some ⟨pb, 0, none⟩)] w fun v w' => v = .bool (!(doC p).isEmpty) ∧ St w0 w' F := by
  refine zDe (n := 6) func74 rfl rfl (Nat.le_of_ble_eq_true rfl) ?_
  refine zAg (fun K2 hK1 => ?_)
  refine zAb (zA9 (cs := [_]) zAa zeroValue4 rfl hs (fun b3 w4 hs5 => ?_))
  refine zAf (zAd (hK1 _ _ ?_))
  refine zAg (fun K7 hK6 => ?_)
  refine zAg (fun K9 hK8 => ?_)
  refine zAb (w_p (zAe (v := .pointer _) rfl rfl) rfl ?_)
  refine zAt zAa call51 rfl rfl rfl rfl (c51 _ hs5) ?_
  rintro _ w11 ⟨bq, rfl, hs12⟩
  refine zAf (zAd (hK8 _ _ ?_))
  refine zAy ?_
  refine w_range ([_]) (fun i Bx => i = 0 ∧ Bx = [(b3, blk 4 [.bool false])]) (fun c Bx => c = .ret ∧ Bx = [(b3, blk 4 [.bool true])] ∧ 0 < (doC p).length) rfl rfl rfl call87 (does_iter p a c m pb hp.cons ha.cons hok bq (zAj (i := 0) (vs := [_]) rfl rfl)) hs12 (List.Perm.swap _ _ _) ⟨rfl, rfl⟩ ?_ ?_ ?_
  ·
   intro lp i hi Bx Xr Xr2 w14 hJ hs K hK13
   obtain ⟨rfl, rfl⟩ := hJ
   have hi0 : 0 < (doC p).length := by simpa using hi
   replace hs := (show St _ _ (_ :: (Xr ++ (_ :: F))) from hs)
   refine zAx (zAd (hK13 _ _ (_ :: []) hs (fun w15 hs16 => ?_)))
   replace hs16 := (show St _ _ (_ :: Xr2 ++ (_ :: F)) from hs16)
   refine zAy ?_
   refine zAg (fun K18 hK17 => ?_)
   refine zAb (zA5 (i := 0) (v := .bool _) (vs := [_]) zAa sizeOf4 rfl rfl rfl rfl rfl (by simp [Value.oneCell']) hs16 rfl (Nat.le_of_ble_eq_true rfl) (fun w19 hs20 => ?_))
   refine zAf (zAd (hK17 _ _ ?_))
   refine zA2 (zA1 (rd_ret (_ :: []) hs20 ?_))
   exact ⟨rfl, rfl, hi0⟩
  ·
   intro bd Bx w21 hJ hs
   obtain ⟨h0, rfl⟩ := hJ
   rw [List.length_map, List.length_map] at h0
   refine zAl (zAd (hK6 _ _ ?_))
   refine zAg (fun K23 hK22 => ?_)
   refine zAb (zA5 (i := 1) (v := .bool _) (vs := [_]) zAa sizeOf4 rfl rfl rfl rfl rfl (by simp [Value.oneCell']) hs rfl (Nat.le_of_ble_eq_true rfl) (fun w24 hs25 => ?_))
   refine zAf (zAd (hK22 _ _ ?_))
   refine zA2 (q_retM (i := 0) (l := [.cell 2 4]) (vs := [_]) hs25 rfl rfl (fun w26 hs27 => ⟨⟨⟨rfl, _, rfl, zBo isAgg4 hs27 (zAj (i := 1) (vs := [_]) rfl rfl)⟩, trivial⟩, ?_⟩))
   first
     | exact ⟨congrArg Value.bool (by rw [List.length_eq_zero_iff.1 h0]; rfl), hs27.tail.tail.tail⟩
     | exact ⟨congrArg Value.bool (by cases hd : doC p with | nil => rw [hd] at h0; simp at h0 | cons _ _ => rfl), hs27.tail.tail.tail⟩
  intro bd c Bx w28 hJ hs
  obtain ⟨rfl, rfl, h0⟩ := hJ
  refine zA2 (zA1 (zAm (q_retM (i := 0) (l := [.cell 2 4]) (vs := [_]) hs rfl rfl (fun w29 hs30 => ⟨⟨⟨rfl, _, rfl, zBo isAgg4 hs30 (zAj (i := 1) (vs := [_]) rfl rfl)⟩, trivial⟩, ?_⟩))))
  first
    | exact ⟨congrArg Value.bool (by rw [List.length_eq_zero_iff.1 h0]; rfl), hs30.tail.tail.tail⟩
    | exact ⟨congrArg Value.bool (by cases hd : doC p with | nil => rw [hd] at h0; simp at h0 | cons _ _ => rfl), hs30.tail.tail.tail⟩

theorem c52 {w0 w : World} {X M F : List (Nat × Obj)} (p : Port) (a : Option Addr) (c m pb : Nat) (hp : Ats w0 F pb 0 [.int .i64 p.hold, .int .i64 p.clo, .int .i64 p.chi, .slice a p.farms.length c, .map (some m)]) (ha : Sl w0 F a 6 (rows p.farms)) (hok : p.Ok) (bf : Nat) (hbf : Ats w0 F bf 0 [.pointer (some ⟨pb, 0, none⟩)]) (l : List Int) (hlen : l.length = 3) (hl1 : ∀ x ∈ l, -1 ≤ x ∧ x ≤ 10) (hM : Memo w0 p m M) (hs : St w0 w (X ++ (M ++ F))) :
  Con Tryz.prog 52 [ia l, .pointer (some ⟨bf, 0, none⟩)] w fun v w' => v = .agg #[.int .i64 (vain p l), .int .i64 (cut p.farms l)] ∧ ∃ M', Memo w0 p m M' ∧ St w0 w' (X ++ (M' ++ F)) := by
  refine zAw (n := 11) func52 rfl rfl (Nat.le_of_ble_eq_true rfl) ?_
  refine zAg (fun K2 hK1 => ?_)
  refine zAb (w_boxI (l := _) zAa rfl rfl rfl hs (fun b3 w4 hs5 => ?_))
  refine zA9 (cs := [_, _]) zAa zeroValue112 rfl hs5 (fun b6 w7 hs8 => ?_)
  refine zAf (zAd (hK1 _ _ ?_))
  refine zAg (fun K10 hK9 => ?_)
  refine w_drawC (C := fun w => ∃ M, Memo w0 p m M ∧ St w0 w ((b6, blk 112 [.int .i64 0, .int .i64 0]) :: (b3, blk 106 (iv l)) :: (X ++ (M ++ F)))) [7] [(0, 1), (1, 1), (3, 1), (4, 1), (2, 2), (5, 2), (6, 0), (7, 3)] zBu (by kernel_rfl) ⟨_, hM, hs8⟩ (fun _ ⟨M, h1, h2⟩ => ⟨M, h1, h2.drew⟩) (fun w11 ⟨M, hM, hs12⟩ => ?_)
  refine zCv rfl zAa rfl ⟨_, hM, hs12⟩ (fun _ ⟨M, hM, hq⟩ => (zAk isAgg103 hq.tail.tail.drop.drop rfl rfl hbf)) ?_
  refine zCv rfl zAa rfl ⟨_, hM, hs12⟩ (fun _ ⟨M, hM, hq⟩ => (zB4 (i := 1) isAgg106 sizeOf106 (by first | omega | rfl | (simp only [List.length_map, List.length_set, List.length_append, List.length_take, List.length_drop, List.length_replicate, List.length_cons, List.length_nil] <;> omega)) hq rfl rfl rfl)) ?_
  refine zCv rfl zAa rfl ⟨_, hM, hs12⟩ (fun _ ⟨M, hM, hq⟩ => (zAk isAgg103 hq.tail.tail.drop.drop rfl rfl hbf)) ?_
  refine zCv rfl zAa rfl ⟨_, hM, hs12⟩ (fun _ ⟨M, hM, hq⟩ => (zB4 (i := 1) isAgg106 sizeOf106 (by first | omega | rfl | (simp only [List.length_map, List.length_set, List.length_append, List.length_take, List.length_drop, List.length_replicate, List.length_cons, List.length_nil] <;> omega)) hq rfl rfl rfl)) ?_
  refine zCl rfl ?_
  refine zAt zAa call53 rfl rfl rfl rfl (c53 (X := _ :: _ :: X) p _ c m pb hp ha hok l hlen hl1 hM hs12) ?_
  rintro _ w14 ⟨rfl, M1, hM1, hs15⟩
  replace hs15 := (show St _ _ (_ :: _ :: X ++ (M1 ++ (F))) from hs15)
  refine zAf (qn ⟨⟨_, hM1, hs15⟩, ?_⟩)
  refine zCl rfl ?_
  refine zAt zAa call54 rfl rfl rfl rfl (c54 p _ c m pb hp.app.app.cons.cons ha.app.app.cons.cons hok l hlen hl1 hs15) ?_
  rintro _ w17 ⟨rfl, hs18⟩
  refine zAf (qn ⟨⟨_, hM1, hs18⟩, ?_⟩)
  refine zAp rfl zAa rfl (fun _ => (zBs (ps := [(0, _), (1, _)]) (pv := [(0, .int _ _), (1, .int _ _)]) rfl rfl (fun w => Try_CN_fb7 _ _ w))) ?_
  refine zC8 rfl ?_
  refine zA5 (i := 0) (v := .agg #[.int _ _, .int _ _]) (vs := [_, _]) zAa sizeOf112 rfl rfl rfl rfl rfl (by simp [Value.oneCell']) hs18 rfl (Nat.le_of_ble_eq_true rfl) (fun w19 hs20 => ?_)
  refine zAf (qn ?_)
  refine zB1 ?_
  refine zAd (hK9 _ _ ?_)
  refine zA2 (zA3 (l := [.cell 3 112]) (vs := [_]) rfl ⟨⟨rfl, _, rfl, zBx (vs := [_, _]) isAgg112 sizeOf112 hs20 (zAj (i := 0) (vs := [_, _]) rfl rfl)⟩, trivial⟩ ?_)
  exact ⟨rfl, M1, hM1, hs20.tail.tail⟩

theorem best_perm {x y z u : Nat × Obj} (X M F : List (Nat × Obj)) : (x :: y :: z :: u :: (X ++ (M ++ F))).Perm ((x :: y :: z :: u :: M) ++ (X ++ F)) :=
  (List.Perm.cons x (List.Perm.cons y (List.Perm.cons z (List.Perm.cons u (zBe X M F)))))
theorem c50 {w0 w : World} {X M F : List (Nat × Obj)} (p : Port) (a : Option Addr) (c m pb : Nat) (hp : Ats w0 F pb 0 [.int .i64 p.hold, .int .i64 p.clo, .int .i64 p.chi, .slice a p.farms.length c, .map (some m)]) (ha : Sl w0 F a 6 (rows p.farms)) (hok : p.Ok) (bq bf : Nat) (hbq : Ats w0 F bq 0 [.pointer (some ⟨pb, 0, none⟩)]) (hbf : Ats w0 F bf 0 [.pointer (some ⟨pb, 0, none⟩)]) (hM : Memo w0 p m M) (hs : St w0 w (X ++ (M ++ F))) :
  Con Tryz.prog 50 [.func (.func 87) #[] #[.pointer (some ⟨bq, 0, none⟩)], .func (.func 52) #[] #[.pointer (some ⟨bf, 0, none⟩)]] w fun v w' => v = .tuple #[ia (best p (doP p)).b, .bool (best p (doP p)).found] ∧ ∃ M', Memo w0 p m M' ∧ St w0 w' (X ++ (M' ++ F)) := by
  refine zDe (n := 26) func50 rfl rfl (Nat.le_of_ble_eq_true rfl) ?_
  refine zAg (fun K2 hK1 => ?_)
  refine zAb (zB3 (v := .func _ _ _) (cs := [_]) zAa rfl rfl rfl hs (fun b3 w4 hs5 => ?_))
  refine zA9 (cs := iv [0, 0, 0]) zAa zeroValue106 rfl hs5 (fun b6 w7 hs8 => ?_)
  refine zA9 (cs := [_]) zAa zeroValue4 rfl hs8 (fun b9 w10 hs11 => ?_)
  refine zAf (zAd (hK1 _ _ ?_))
  refine zAg (fun K13 hK12 => ?_)
  refine zAb (zA9 (cs := [_, _]) zAa zeroValue112 rfl hs11 (fun b14 w15 hs16 => ?_))
  refine zAf (zAd (hK12 _ _ ?_))
  refine zAg (fun K18 hK17 => ?_)
  refine zAg (fun K20 hK19 => ?_)
  refine zAb (w_p (zAe (v := .func _ _ _) rfl rfl) rfl ?_)
  refine zAf (zAd (hK19 _ _ ?_))
  refine zAy ?_
  refine w_range (_ :: _ :: _ :: _ :: M) (fun i Bx => ∃ s M', s = bestUpto p (doP p) i ∧ Bx = (b14, blk 112 [.int .i64 s.v, .int .i64 s.c]) :: (b9, blk 4 [.bool s.found]) :: (b6, blk 106 (iv s.b)) :: (b3, blk 114 [.func (.func 52) #[] #[.pointer (some ⟨bf, 0, none⟩)]]) :: M' ∧ Memo w0 p m M') (fun _ _ => False) rfl rfl rfl call87 (does_iter p a c m pb (hp.app (L' := X)) (ha.app (L' := X)) hok bq (hbq.app (L' := X))) hs16 (best_perm X M F) ⟨⟨false, [0, 0, 0], 0, 0⟩, M, rfl, rfl, hM⟩ ?_ ?_ ?_
  ·
   intro lp i hi Bx Xr Xr2 w22 hJ hs K hK21
   obtain ⟨s, M1, hs0, rfl, hM1⟩ := hJ
   have hi2 : i < (doP p).length := by simpa [doP] using hi
   have hslen : s.b.length = 3 := by rw [hs0]; exact best_len doP_len i
   rw [List.getElem_map, show ((doC p).map pad)[i]'(by simpa [doP] using hi2) = (doP p)[i] from rfl]
   have hlen := doP_len _ (List.getElem_mem hi2)
   have hl1 := doP_in _ (List.getElem_mem hi2)
   obtain ⟨l, hl⟩ : ∃ l, l = (doP p)[i] := ⟨_, rfl⟩
   rw [← hl] at hlen hl1 ⊢
   replace hs := (show St _ _ (_ :: _ :: _ :: _ :: (M1 ++ (Xr ++ (X ++ F)))) from hs)
   refine zAb (zA9 (cs := iv [0, 0, 0]) zAa zeroValue106 rfl hs (fun b23 w24 hs25 => ?_))
   refine zCa (i := 0) (l := _) zAa sizeOf106 (by first | omega | rfl | (simp only [hslen, List.length_map, List.length_set, List.length_append, List.length_take, List.length_drop, List.length_replicate, List.length_cons, List.length_nil] <;> omega)) rfl rfl rfl rfl rfl hs25 rfl (by first | omega | rfl | (simp only [hslen, List.length_map, List.length_set, List.length_append, List.length_take, List.length_drop, List.length_replicate, List.length_cons, List.length_nil] <;> omega)) (fun w26 hs27 => ?_)
   refine zAf (zAd (hK21 _ _ (_ :: _ :: _ :: _ :: _ :: M1) hs27 (fun w28 hs29 => ?_)))
   replace hs29 := (show St _ _ (_ :: _ :: _ :: _ :: _ :: M1 ++ (Xr2 ++ (X ++ (F)))) from hs29)
   refine zAy ?_
   refine zAg (fun K31 hK30 => ?_)
   refine zAb (w_p (zAk isAgg114 hs29 rfl rfl (zAj (i := 4) (vs := [_]) rfl rfl)) rfl ?_)
   refine w_p (zB4 (i := 0) isAgg106 sizeOf106 (by first | omega | rfl | (simp only [hslen, List.length_map, List.length_set, List.length_append, List.length_take, List.length_drop, List.length_replicate, List.length_cons, List.length_nil] <;> omega)) hs29 rfl rfl rfl) rfl ?_
   refine zAt zAa call52 rfl rfl rfl rfl ((c52 (X := _ :: _ :: _ :: _ :: _ :: []) (F := Xr2 ++ (X ++ F)) p _ c m pb (hp.app (L' := X)).app (ha.app (L' := X)).app hok bf (hbf.app (L' := X)).app l hlen hl1 hM1 hs29)) ?_
   rintro _ w33 ⟨rfl, M2, hM2, hs34⟩
   replace hs34 := (show St _ _ (_ :: _ :: _ :: _ :: _ :: M2 ++ (Xr2 ++ (X ++ (F)))) from hs34)
   refine zA9 (cs := [_, _]) zAa zeroValue112 rfl hs34 (fun b35 w36 hs37 => ?_)
   refine zA5 (i := 0) (v := .agg #[.int _ _, .int _ _]) (vs := [_, _]) zAa sizeOf112 rfl rfl rfl rfl rfl (by simp [Value.oneCell']) hs37 rfl (Nat.le_of_ble_eq_true rfl) (fun w38 hs39 => ?_)
   refine zAf (zAd (hK30 _ _ ?_))
   refine zAg (fun K41 hK40 => ?_)
   refine zB7 [] [(0, 1), (1, 0), (2, 0), (3, 0), (4, 0), (5, 2), (6, 0), (7, 0)] zBu (by kernel_rfl) hs39 (fun w42 hs43 => ?_)
   refine zBa rfl zAa rfl hs43 (fun _ hq => (zAk isAgg4 hq rfl rfl (zAj (i := 3) (vs := [_]) rfl rfl))) ?_
   refine zAp rfl zAa rfl (fun _ => (zDc rfl rfl)) ?_
   refine zAp rfl zAa rfl (fun _ => (zAe (v := .bool _) rfl rfl)) ?_
   refine zDk (fun h44 => ?_) (fun h44 => ?_)
   ·
    try simp only [zS] at h44
    refine zBg rfl rfl rfl rfl ?_
    refine zBg rfl rfl rfl rfl ?_
    refine zCl rfl ?_
    refine zAi rfl rfl rfl ?_
    refine zAf (qn ⟨hs43, ?_⟩)
    refine zBg rfl rfl rfl rfl ?_
    refine zAp rfl zAa rfl (fun _ => (zA0 (v := _) rfl rfl rfl rfl)) ?_
    refine zB1 ?_
    refine zAd (hK40 _ _ ?_)
    refine zCg rfl rfl ?_
    refine w_drawC (C := fun w => ∃ bc : List Int, bc.length = 3 ∧ St w0 w ((b35, blk 112 [.int .i64 (vain p l), .int .i64 (cut p.farms l)]) :: (b23, blk 106 (iv l)) :: (b14, blk 112 [.int .i64 s.v, .int .i64 s.c]) :: (b9, blk 4 [.bool s.found]) :: (b6, blk 106 (iv bc)) :: (b3, blk 114 [.func (.func 52) #[] #[.pointer (some ⟨bf, 0, none⟩)]]) :: (M2 ++ (Xr2 ++ (X ++ F))))) [3, 4] [(0, 1), (1, 1), (2, 2), (3, 3), (4, 3)] zBu (by kernel_rfl) ⟨_, (by first | exact hslen | exact hlen | assumption), hs43⟩ (fun _ ⟨bc, h1, h2⟩ => ⟨bc, h1, h2.drew⟩) (fun w45 ⟨bc, hbc, hs46⟩ => ?_)
    refine zCv rfl zAa rfl ⟨_, (by first | exact hslen | exact hlen | assumption), hs46⟩ (fun _ ⟨bc, hbc, hq⟩ => (zB4 (i := 1) isAgg106 sizeOf106 (by first | omega | rfl | (simp only [hslen, List.length_map, List.length_set, List.length_append, List.length_take, List.length_drop, List.length_replicate, List.length_cons, List.length_nil] <;> omega)) hq rfl rfl rfl)) ?_
    refine zCv rfl zAa rfl ⟨_, (by first | exact hslen | exact hlen | assumption), hs46⟩ (fun _ ⟨bc, hbc, hq⟩ => (zA6 (vs := [_, _]) isAgg112 sizeOf112 hq rfl rfl (zAj (i := 0) (vs := [_, _]) rfl rfl))) ?_
    refine zCl rfl ?_
    refine zCa (i := 4) (l := _) zAa sizeOf106 (by first | omega | rfl | (simp only [hslen, List.length_map, List.length_set, List.length_append, List.length_take, List.length_drop, List.length_replicate, List.length_cons, List.length_nil] <;> omega)) rfl rfl rfl rfl rfl hs46 rfl (by first | omega | rfl | (simp only [hslen, List.length_map, List.length_set, List.length_append, List.length_take, List.length_drop, List.length_replicate, List.length_cons, List.length_nil] <;> omega)) (fun w47 hs48 => ?_)
    refine zAf (qn ⟨⟨_, (by first | exact hslen | exact hlen | assumption), hs48⟩, ?_⟩)
    refine zC8 rfl ?_
    refine zA5 (i := 2) (v := .agg #[.int _ _, .int _ _]) (vs := [_, _]) zAa sizeOf112 rfl rfl rfl rfl rfl (by simp [Value.oneCell']) hs48 rfl (Nat.le_of_ble_eq_true rfl) (fun w49 hs50 => ?_)
    refine zAf (qn ?_)
    refine zC8 rfl ?_
    refine zA5 (i := 3) (v := .bool _) (vs := [_]) zAa sizeOf4 rfl rfl rfl rfl rfl (by simp [Value.oneCell']) hs50 rfl (Nat.le_of_ble_eq_true rfl) (fun w51 hs52 => ?_)
    refine zAf (qn ?_)
    refine zB1 ?_
    refine zAl (zCr (_ :: _ :: _ :: _ :: M2) hs52.tail.tail ?_)
    first
      | exact ⟨⟨true, l, vain p l, cut p.farms l⟩, M2, by rw [zCi hi2, ← hs0, ← hl]; exact (bstep_take (.inl (by assumption))).symm, rfl, hM2⟩
      | exact ⟨⟨true, l, vain p l, cut p.farms l⟩, M2, by rw [zCi hi2, ← hs0, ← hl]; exact (bstep_take (.inr (by rw [← hz]; exact decide_eq_true (by assumption)))).symm, rfl, hM2⟩
      | exact ⟨s, M2, by rw [zCi hi2, ← hs0, ← hl]; exact (bstep_keep (by assumption) (by rw [← hz]; exact decide_eq_false (by omega))).symm, rfl, hM2⟩
   try simp only [zS] at h44
   refine zAp rfl (zAn rfl rfl rfl) rfl (fun _ => (y_sliceA underlying112 sizeOf3 rfl rfl)) ?_
   refine zAp rfl (zAn rfl rfl rfl) rfl (fun _ => (y_sliceA underlying112 sizeOf3 rfl rfl)) ?_
   refine zCl rfl ?_
   refine zAt (zAn rfl rfl rfl) call86 rfl rfl rfl rfl (c86 _ _ [_, _] [_, _] _ _ (by simp) (by simp) (zBr (i := 0) (rows := [[_], [_]]) rfl (by simp) rfl) (zBr (i := 2) (rows := [[_], [_]]) rfl (by simp) rfl) hs43) ?_
   rintro _ w54 ⟨⟨z, rfl, hz⟩, hs55⟩
   refine zAf (qn ⟨hs55, ?_⟩)
   refine zAp rfl (zAn rfl rfl rfl) rfl (fun _ => (zBt rfl rfl rfl rfl)) ?_
   refine zAp rfl zAa rfl (fun _ => (zBb (v := .bool _) rfl rfl rfl rfl)) ?_
   refine zB1 ?_
   refine zAd (hK40 _ _ ?_)
   refine zAz rfl rfl (fun h56 => ?_) (fun h56 => ?_)
   ·
    try simp only [zS] at h56
    refine w_drawC (C := fun w => ∃ bc : List Int, bc.length = 3 ∧ St w0 w ((b35, blk 112 [.int .i64 (vain p l), .int .i64 (cut p.farms l)]) :: (b23, blk 106 (iv l)) :: (b14, blk 112 [.int .i64 s.v, .int .i64 s.c]) :: (b9, blk 4 [.bool s.found]) :: (b6, blk 106 (iv bc)) :: (b3, blk 114 [.func (.func 52) #[] #[.pointer (some ⟨bf, 0, none⟩)]]) :: (M2 ++ (Xr2 ++ (X ++ F))))) [3, 4] [(0, 1), (1, 1), (2, 2), (3, 3), (4, 3)] zBu (by kernel_rfl) ⟨_, (by first | exact hslen | exact hlen | assumption), hs55⟩ (fun _ ⟨bc, h1, h2⟩ => ⟨bc, h1, h2.drew⟩) (fun w57 ⟨bc, hbc, hs58⟩ => ?_)
    refine zCv rfl zAa rfl ⟨_, (by first | exact hslen | exact hlen | assumption), hs58⟩ (fun _ ⟨bc, hbc, hq⟩ => (zB4 (i := 1) isAgg106 sizeOf106 (by first | omega | rfl | (simp only [hslen, List.length_map, List.length_set, List.length_append, List.length_take, List.length_drop, List.length_replicate, List.length_cons, List.length_nil] <;> omega)) hq rfl rfl rfl)) ?_
    refine zCv rfl zAa rfl ⟨_, (by first | exact hslen | exact hlen | assumption), hs58⟩ (fun _ ⟨bc, hbc, hq⟩ => (zA6 (vs := [_, _]) isAgg112 sizeOf112 hq rfl rfl (zAj (i := 0) (vs := [_, _]) rfl rfl))) ?_
    refine zCl rfl ?_
    refine zCa (i := 4) (l := _) zAa sizeOf106 (by first | omega | rfl | (simp only [hslen, List.length_map, List.length_set, List.length_append, List.length_take, List.length_drop, List.length_replicate, List.length_cons, List.length_nil] <;> omega)) rfl rfl rfl rfl rfl hs58 rfl (by first | omega | rfl | (simp only [hslen, List.length_map, List.length_set, List.length_append, List.length_take, List.length_drop, List.length_replicate, List.length_cons, List.length_nil] <;> omega)) (fun w59 hs60 => ?_)
    refine zAf (qn ⟨⟨_, (by first | exact hslen | exact hlen | assumption), hs60⟩, ?_⟩)
    refine zC8 rfl ?_
    refine zA5 (i := 2) (v := .agg #[.int _ _, .int _ _]) (vs := [_, _]) zAa sizeOf112 rfl rfl rfl rfl rfl (by simp [Value.oneCell']) hs60 rfl (Nat.le_of_ble_eq_true rfl) (fun w61 hs62 => ?_)
    refine zAf (qn ?_)
    refine zC8 rfl ?_
    refine zA5 (i := 3) (v := .bool _) (vs := [_]) zAa sizeOf4 rfl rfl rfl rfl rfl (by simp [Value.oneCell']) hs62 rfl (Nat.le_of_ble_eq_true rfl) (fun w63 hs64 => ?_)
    refine zAf (qn ?_)
    refine zB1 ?_
    refine zAl (zCr (_ :: _ :: _ :: _ :: M2) hs64.tail.tail ?_)
    first
      | exact ⟨⟨true, l, vain p l, cut p.farms l⟩, M2, by rw [zCi hi2, ← hs0, ← hl]; exact (bstep_take (.inl (by assumption))).symm, rfl, hM2⟩
      | exact ⟨⟨true, l, vain p l, cut p.farms l⟩, M2, by rw [zCi hi2, ← hs0, ← hl]; exact (bstep_take (.inr (by rw [← hz]; exact decide_eq_true (by assumption)))).symm, rfl, hM2⟩
      | exact ⟨s, M2, by rw [zCi hi2, ← hs0, ← hl]; exact (bstep_keep (by assumption) (by rw [← hz]; exact decide_eq_false (by omega))).symm, rfl, hM2⟩
   try simp only [zS] at h56
   refine zAx (zAl (zCr (_ :: _ :: _ :: _ :: M2) hs55.tail.tail ?_))
   first
     | exact ⟨⟨true, l, vain p l, cut p.farms l⟩, M2, by rw [zCi hi2, ← hs0, ← hl]; exact (bstep_take (.inl (by assumption))).symm, rfl, hM2⟩
     | exact ⟨⟨true, l, vain p l, cut p.farms l⟩, M2, by rw [zCi hi2, ← hs0, ← hl]; exact (bstep_take (.inr (by rw [← hz]; exact decide_eq_true (by assumption)))).symm, rfl, hM2⟩
     | exact ⟨s, M2, by rw [zCi hi2, ← hs0, ← hl]; exact (bstep_keep (by assumption) (by rw [← hz]; exact decide_eq_false (by omega))).symm, rfl, hM2⟩
  ·
   intro bd Bx w65 hJ hs
   obtain ⟨s, M1, hs0, rfl, hM1⟩ := hJ
   have hslen : s.b.length = 3 := by rw [hs0]; exact best_len doP_len _
   replace hs := (show St _ _ (_ :: _ :: _ :: _ :: _ :: (M1 ++ (X ++ F))) from hs)
   refine zAl (zAd (hK17 _ _ ?_))
   refine zAg (fun K67 hK66 => ?_)
   refine zB7 [3] [(0, 1), (1, 1), (2, 2), (3, 3)] zBu (by kernel_rfl) hs (fun w68 hs69 => ?_)
   refine zBa rfl zAa rfl hs69 (fun _ hq => (zB4 (i := 3) isAgg106 sizeOf106 (by first | omega | rfl | (simp only [hslen, List.length_map, List.length_set, List.length_append, List.length_take, List.length_drop, List.length_replicate, List.length_cons, List.length_nil] <;> omega)) hq rfl rfl rfl)) ?_
   refine zBa rfl zAa rfl hs69 (fun _ hq => (zAk isAgg4 hq rfl rfl (zAj (i := 2) (vs := [_]) rfl rfl))) ?_
   refine zCl rfl ?_
   refine zCa (i := 3) (l := _) zAa sizeOf106 (by first | omega | rfl | (simp only [hslen, List.length_map, List.length_set, List.length_append, List.length_take, List.length_drop, List.length_replicate, List.length_cons, List.length_nil] <;> omega)) rfl rfl rfl rfl rfl hs69 rfl (by first | omega | rfl | (simp only [hslen, List.length_map, List.length_set, List.length_append, List.length_take, List.length_drop, List.length_replicate, List.length_cons, List.length_nil] <;> omega)) (fun w70 hs71 => ?_)
   refine zAf (qn ⟨hs71, ?_⟩)
   refine zC8 rfl ?_
   refine zA5 (i := 2) (v := .bool _) (vs := [_]) zAa sizeOf4 rfl rfl rfl rfl rfl (by simp [Value.oneCell']) hs71 rfl (Nat.le_of_ble_eq_true rfl) (fun w72 hs73 => ?_)
   refine zAf (qn ?_)
   refine zB1 ?_
   refine zAd (hK66 _ _ ?_)
   refine zA2 (q_retM (i := 0) (l := [.cell 4 106, .cell 5 4]) (vs := [_, _]) hs73 rfl rfl (fun w74 hs75 => ⟨⟨⟨rfl, _, rfl, run_loadI (i := 3) isAgg106 sizeOf106 (by first | omega | rfl | (simp only [hslen, List.length_map, List.length_set, List.length_append, List.length_take, List.length_drop, List.length_replicate, List.length_cons, List.length_nil] <;> omega)) hs75 rfl⟩, ⟨rfl, _, rfl, zBo isAgg4 hs75 (zAj (i := 2) (vs := [_]) rfl rfl)⟩, trivial⟩, ?_⟩))
   rw [List.length_map, List.length_map] at *
   have hbe : s = best p (doP p) := hs0.trans (bestUpto_all (by simp [doP]))
   rw [← hbe]
   exact ⟨rfl, M1, hM1, St.perm (L := M1 ++ (X ++ F)) hs75.tail.tail.tail.tail.tail (zBe M1 X F)⟩
  intro _ _ _ _ hJ
  exact hJ.elim

end Go.Proofs.Cb
