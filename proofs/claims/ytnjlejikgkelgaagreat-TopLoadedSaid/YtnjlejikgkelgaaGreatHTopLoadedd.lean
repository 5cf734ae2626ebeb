/- Own texts of this claim, joined. No conditions. -/
import Derived.Test.YtnjlejikgkelgaaGreatHTopLoadeda
import Derived.Test.YtnjlejikgkelgaaGreatHTopLoadedb
import Derived.Test.YtnjlejikgkelgaaGreatHTopLoadedc
set_option linter.unusedVariables false
set_option linter.unusedSimpArgs false
set_option maxRecDepth 20000
namespace Go.Proofs.Cb
open Go.Proofs.Tryz
open Go.Rt Go.Rt.Ca
attribute [local irreducible] WL WC Con Yd At Ats Sl Agree DW

theorem sl_load {w0 : World} {F : List (Nat × Obj)} {a : Option Addr} {l : List Load} {i : Nat} (h : Sl w0 F a 3 (lrows l)) (hi : i < l.length) :
    ∃ b off, a = some ⟨b, off, none⟩ ∧ Ats w0 F b (off + i * 3) [.int .i64 l[i].least, .int .i64 l[i].most, .int .i64 l[i].vain] := by
  obtain ⟨b, off, ha, _, hat⟩ := h.at (i := i) (row := iv l[i].ints) (by simp [hi])
  exact ⟨b, off, ha, hat⟩
theorem zGu {w0 w : World} {X M F : List (Nat × Obj)} (p : Port) (a : Option Addr) (c m pb : Nat) (hp : Ats w0 F pb 0 [.int .i64 p.hold, .int .i64 p.clo, .int .i64 p.chi, .slice a p.farms.length c, .map (some m)]) (ha : Sl w0 F a 6 (rows p.farms)) (hok : p.Ok) (l : List Int) (hlen : l.length = 3) (hl1 : ∀ x ∈ l, -1 ≤ x ∧ x ≤ 10) (hM : Memo w0 p m M) (hs : St w0 w (X ++ (M ++ F))) :
    Con Tryz.prog 38 [.pointer (some ⟨pb, 0, none⟩), ia l] w fun v w' => ∃ Z M' a c, v = .slice a (loads p l).length c ∧ Memo w0 p m M' ∧ Z = X ++ (M' ++ F) ∧ Sl w0 Z a 3 (lrows (loads p l)) ∧ St w0 w' Z :=
  (loads_con p a c m pb hp ha hok l hlen hl1 hM hs).mono fun v w' ⟨M', a, c, h1, h2, h3, h4⟩ => ⟨_, M', a, c, h1, h2, rfl, h3, h4⟩
theorem c48 {w0 w : World} {X M F : List (Nat × Obj)} (p : Port) (a : Option Addr) (c m pb : Nat) (hp : Ats w0 F pb 0 [.int .i64 p.hold, .int .i64 p.clo, .int .i64 p.chi, .slice a p.farms.length c, .map (some m)]) (ha : Sl w0 F a 6 (rows p.farms)) (hok : p.Ok) (l : List Int) (hlen : l.length = 3) (hl1 : ∀ x ∈ l, -1 ≤ x ∧ x ≤ 10) (hM : Memo w0 p m M) (hs : St w0 w (X ++ (M ++ F))) :
  Con Tryz.prog 48 [.pointer (some ⟨pb, 0, none⟩), ia l] w fun v w' => v = .int .i64 (vain p l) ∧ ∃ M', Memo w0 p m M' ∧ St w0 w' (X ++ (M' ++ F)) := by
  refine zAu (n := 21) func48 rfl rfl (zNl rfl) ?_
  have hcome := hok.come
  have hll := zD5 p l
  refine zAf (fun K2 g6 => (zAa (zF7 (l := _) zAb rfl rfl rfl hs (fun b3 w4 g4 => ?_))))
  refine zBg rfl rfl (zAe (zAc (g6 _ _ (zAf (fun K7 g7 => (zAf (fun K9 g8 => (zAa (w_p (zAi (v := .pointer _) rfl rfl) rfl (w_p (zB5 (i := 0) isAgg81 sizeOf81 (by first | omega | rfl | (simp only [zL] <;> omega)) g4 rfl rfl rfl) rfl ?_))))))))))
  refine zAs zAb call38 rfl rfl rfl rfl (zGu (X := _ :: X) p _ c m pb hp ha hok l hlen hl1 hM g4) ?_
  rintro _ gi ⟨Z, M1, al, cl, rfl, g9, hz, hsl, ga⟩
  refine w_p (zBm underlying84 rfl rfl) rfl (w_p (zAi (v := _) rfl rfl) rfl (zAe (zAc (g8 _ _ (zAz ?_)))))
  refine zB3 [4,6,11,12,13,14,15,16,17,18,19] [4,11] (fun k vs w => ∃ i : Nat, vs = [.int .i64 (vainUpto p l i), .int .i64 i] ∧ i ≤ (loads p l).length ∧ k = (loads p l).length - i ∧ St w0 w Z) ((loads p l).length) ?_ ?_
  ·
   exact ⟨0, rfl, by omega, by omega, ga⟩
  intro k vs μ gj hI gk gb
  obtain ⟨i, rfl, hia, rfl, hs⟩ := hI
  refine zAf (fun gl gc => (zAa (w_p (zCl rfl rfl rfl rfl) rfl (zAe (zAc (gc _ _ (zAf (fun gm gd => (zAy rfl rfl (fun g0 => ?_) (fun g0 => ?_))))))))))
  ·
   try simp only [zS] at g0
   refine zAv (zAc (gd _ _ (zAf (fun gn ge => (zAz ?_)))))
   refine zAf (fun go gf => ?_)
   have hx2 : i < (loads p l).length := by omega
   obtain ⟨bx, ox, rfl, hx⟩ := sl_load hsl hx2
   refine zAa (w_p (zBc underlying84 sizeOf87 rfl rfl rfl rfl (i := _) rfl (by omega)) rfl (w_p (zA7 (vs := [_,_,_]) isAgg87 sizeOf87 hs rfl rfl hx) rfl (zBb (cs := [_,_,_]) zAb zeroValue87 rfl hs (fun gp gq gg => ?_))))
   refine zA4 (i := 0) (v := .agg #[.int _ _, .int _ _, .int _ _]) (vs := [_,_,_]) zAb sizeOf87 rfl rfl rfl rfl rfl (by simp [Value.oneCell']) gg rfl (zNl rfl) (fun gr g5 => ?_)
   refine zAe (zAc (gf _ _ (zAa (zBa rfl rfl (w_p (zAd (o := 2) (i := 2) underlying87 rfl sizeOf3 rfl rfl rfl) rfl (w_p (zAj isAgg3 g5 rfl rfl (zAh (i := 0) (vs := [_]) rfl rfl)) rfl ?_))))))
   refine w_p (zF4 rfl rfl rfl rfl) rfl (zBl rfl rfl (zAe (zAl (zAc (ge _ _ (zAa (w_p (zBj rfl rfl rfl rfl (by omega) (by omega)) rfl (zBa rfl rfl (zAe (zAc (gb _ _ (nxI ((loads p l).length - (i + 1)) (by omega) ?_))))))))))))
   exact ⟨i + 1, iv2 (vainUpto_get hx2) rfl, by omega, rfl, g5.tail⟩
  try simp only [zS] at g0
  refine zBq (zAo (zAo (zA8 (zAc (g7 _ _ (zAf (fun gt gh => (zAa (zBa rfl rfl (zBl rfl rfl (zAe (zAc (gh _ _ (zA2 (zA9 (l := [.tmp 4]) (vs := [_]) rfl ⟨⟨rfl, (rfl : _ = Value.int _ _)⟩, trivial⟩ ?_)))))))))))))))
  exact ⟨congrArg (Value.int .i64) (zF8 l (by omega)), M1, g9, (show St w0 _ (_ :: (X ++ (M1 ++ F))) from St.cast hz hs).tail⟩

theorem cut_yes {n : Int} {f : Farm} {c : Int} (h : ¬ c = -1) : cutStep n (f, c) = n + f.hi := by unfold cutStep; rw [if_neg h]
theorem cut_no {n : Int} {f : Farm} {c : Int} (h : c = -1) : cutStep n (f, c) = n := by unfold cutStep; rw [if_pos h]
theorem c54 {w0 w : World} {F : List (Nat × Obj)} (p : Port) (a : Option Addr) (c m pb : Nat) (hp : Ats w0 F pb 0 [.int .i64 p.hold, .int .i64 p.clo, .int .i64 p.chi, .slice a p.farms.length c, .map (some m)]) (ha : Sl w0 F a 6 (rows p.farms)) (hok : p.Ok) (l : List Int) (hlen : l.length = 3) (hl1 : ∀ x ∈ l, -1 ≤ x ∧ x ≤ 10) (hs : St w0 w F) :
  Con Tryz.prog 54 [.pointer (some ⟨pb, 0, none⟩), ia l] w fun v w' => v = .int .i64 (cut p.farms l) ∧ St w0 w' F := by
  refine zAu (n := 29) func54 rfl rfl (zNl rfl) ?_
  have hlen3 := hok.len
  refine zAf (fun K2 g9 => (zAa (zF7 (l := _) zAb rfl rfl rfl hs (fun b3 w4 g6 => ?_))))
  refine zBg rfl rfl (zAe (zAc (g9 _ _ (zAf (fun K7 ga => (zAf (fun K9 gb => (zAa (w_p (zAi (v := .pointer _) rfl rfl) rfl (w_p (zBi rfl rfl) rfl ?_))))))))))
  refine w_p (zAd (o := 0) (i := 0) underlying137 rfl sizeOf26 rfl rfl rfl) rfl (w_p (zAd (o := 3) (i := 2) underlying26 rfl sizeOf24 rfl rfl rfl) rfl (w_p (zAj isAgg24 g6.tail rfl rfl (show Ats _ _ _ _ [_] from Ats.part hp 3 1)) rfl (w_p (zBm underlying24 rfl rfl) rfl ?_)))
  refine w_p (zAi (v := _) rfl rfl) rfl (zAe (zAc (gb _ _ (zAz ?_))))
  refine zB3 [4,5,6,13,14,15,16,17,18,19,20,21,22,23,24,25,26,27] [4,13] (fun k vs w => ∃ (i : Nat) (x : Int), x = cutUpto p.farms l i ∧ vs = [.int .i64 x, .int .i64 i] ∧ i ≤ p.farms.length ∧ k = p.farms.length - i ∧ St w0 w ((b3, blk 81 (iv l)) :: F)) (p.farms.length) ?_ ?_
  ·
   exact ⟨0,0, rfl, rfl, by omega, by omega, g6⟩
  intro k vs μ gi hI gj g7
  obtain ⟨i, x, hxx, rfl, hia, rfl, hs⟩ := hI
  refine zAf (fun gk gc => (zAa (w_p (zCl rfl rfl rfl rfl) rfl (zAe (zAc (gc _ _ (zAf (fun gl gd => (zAy rfl rfl (fun g4 => ?_) (fun g4 => ?_))))))))))
  ·
   try simp only [zS] at g4
   refine zAv (zAc (gd _ _ (zAf (fun gm g8 => (zAz ?_)))))
   refine zAf (fun gn ge => ?_)
   have hi2 : i < p.farms.length := by omega
   have hi3 : i < l.length := by omega
   obtain ⟨bx, ox, rfl, hx⟩ := sl_farm ha hi2
   have hfo := hok.farm _ (List.getElem_mem hi2)
   have hfo2 := hfo
   unfold Farm.Ok at hfo2
   have hgd : l[i] = l.getD i 0 := by simp [List.getD, hi3]
   have hl2 := hl1 (l.getD i 0) (by rw [← hgd]; exact List.getElem_mem hi3)
   have hb := cutUpto_bound (fs := p.farms) (l := l) i (by omega) hok.farm
   rw [← hxx] at hb
   refine zAa (zBa rfl rfl (w_p (zBc underlying24 sizeOf46 rfl rfl rfl rfl (i := _) rfl (by omega)) rfl (w_p (zA7 (vs := [_,_,_,_,_,_]) isAgg46 sizeOf46 hs.tail rfl rfl hx) rfl (zBb (cs := [_,_,_,_,_,_]) zAb zeroValue46 rfl hs (fun go gp gf => ?_)))))
   refine zBl rfl rfl (zA4 (i := 0) (v := .agg #[.string _, .int _ _, .int _ _, .int _ _, .int _ _, .int _ _]) (vs := [_,_,_,_,_,_]) zAb sizeOf46 rfl rfl rfl rfl rfl (by simp [Value.oneCell']) gf rfl (zNl rfl) (fun gq g0 => ?_))
   refine zAe (zAc (ge _ _ (zAf (fun gr gg => (zAa (zBa rfl rfl (w_p (zC3 underlying81 sizeOf3 rfl rfl rfl rfl (i := i) (by first | rfl | omega) (by omega)) rfl ?_)))))))
   refine w_p (zAj isAgg3 g0 rfl rfl (zD8 (i := 1) (j := i) rfl (by first | omega | rfl | (simp only [zL] <;> omega)))) rfl ?_
   refine w_p (zCt rfl rfl rfl rfl) rfl (zAe (zAc (gg _ _ (zAy rfl rfl (fun g5 => ?_) (fun g5 => ?_)))))
   ·
    try simp only [zS] at g5
    refine zAa (zBa rfl rfl (w_p (zAd (o := 4) (i := 4) underlying46 rfl sizeOf23 rfl rfl rfl) rfl (w_p (zAd (o := 1) (i := 1) underlying23 rfl sizeOf3 rfl rfl rfl) rfl (w_p (zAj isAgg3 g0 rfl rfl (zAh (i := 0) (vs := [_]) rfl rfl)) rfl ?_))))
    refine w_p (zBj rfl rfl rfl rfl (by omega) (by omega)) rfl (zBl rfl rfl (zAe (zAl (zAc (g8 _ _ (zAa (w_p (zBj rfl rfl rfl rfl (by omega) (by omega)) rfl ?_)))))))
    refine zBa rfl rfl (zAe (zAc (g7 _ _ (nxI (p.farms.length - (i + 1)) (by omega) ?_))))
    first
      | exact ⟨i + 1, x + p.farms[i].hi, (by rw [zE4 hi2 hi3, ← hxx]; exact (cut_yes (by assumption)).symm), rfl, by omega, rfl, g0.tail⟩
      | exact ⟨i + 1, x, (by rw [zE4 hi2 hi3, ← hxx]; exact (cut_no (by assumption)).symm), rfl, by omega, rfl, g0.tail⟩
   try simp only [zS] at g5
   refine zAv (zAl (zAc (g8 _ _ (zAa (w_p (zBj rfl rfl rfl rfl (by omega) (by omega)) rfl (zBa rfl rfl (zAe (zAc (g7 _ _ (nxI (p.farms.length - (i + 1)) (by omega) ?_))))))))))
   first
     | exact ⟨i + 1, x + p.farms[i].hi, (by rw [zE4 hi2 hi3, ← hxx]; exact (cut_yes (by assumption)).symm), rfl, by omega, rfl, g0.tail⟩
     | exact ⟨i + 1, x, (by rw [zE4 hi2 hi3, ← hxx]; exact (cut_no (by assumption)).symm), rfl, by omega, rfl, g0.tail⟩
  try simp only [zS] at g4
  refine zBq (zAo (zAo (zA8 (zAc (ga _ _ (zAf (fun gt gh => (zAa (zBa rfl rfl (zBl rfl rfl (zAe (zAc (gh _ _ (zA2 (zA9 (l := [.tmp 4]) (vs := [_]) rfl ⟨⟨rfl, (rfl : _ = Value.int _ _)⟩, trivial⟩ ?_)))))))))))))))
  exact ⟨congrArg (Value.int .i64) (by rw [hxx]; exact cutUpto_all (by omega)), hs.tail⟩

theorem c59 {w0 w : World} {F : List (Nat × Obj)} (p : Port) (a : Option Addr) (c m pb : Nat) (hp : Ats w0 F pb 0 [.int .i64 p.hold, .int .i64 p.clo, .int .i64 p.chi, .slice a p.farms.length c, .map (some m)]) (ha : Sl w0 F a 6 (rows p.farms)) (hok : p.Ok) (l : List Int) (hlen : l.length = 3) (hl1 : ∀ x ∈ l, -1 ≤ x ∧ x ≤ 10) (f0 : Int) (hf0 : 0 ≤ f0) (hf1 : f0 ≤ 11) (hs : St w0 w F) :
  Con Tryz.prog 59 [.pointer (some ⟨pb, 0, none⟩), ia l, .int .i64 f0] w fun v w' => v = .int .i64 (worst p l f0) ∧ St w0 w' F := by
  refine zAu (n := 88) func59 rfl rfl (zNl rfl) ?_
  have hlen3 := hok.len
  have hcome := hok.come
  refine zAf (fun K2 gi => (zAa (zF7 (l := _) zAb rfl rfl rfl hs (fun b3 w4 gg => ?_))))
  refine zBg rfl rfl (zAe (zAc (gi _ _ (zAf (fun K7 gj => (zAf (fun K9 gk => (zAa (w_p (zAi (v := .pointer _) rfl rfl) rfl (w_p (zBi rfl rfl) rfl ?_))))))))))
  refine w_p (zAd (o := 0) (i := 0) underlying137 rfl sizeOf26 rfl rfl rfl) rfl (w_p (zAd (o := 1) (i := 1) underlying26 rfl sizeOf23 rfl rfl rfl) rfl (w_p (zAd (o := 0) (i := 0) underlying23 rfl sizeOf3 rfl rfl rfl) rfl (w_p (zAj isAgg3 gg.tail rfl rfl (show Ats _ _ _ _ [_] from Ats.part hp 1 1)) rfl ?_)))
  refine zBl rfl rfl (zAe (zAc (gk _ _ (zAz ?_))))
  refine zB3 [6,7,8,9,10,11,18,19,20,21,22,23,24,25,26,27,28,29,30,31,32,33,34,35,36,37,38,39,40,41,42,43,44,45,46,47,48,49,50,51,52,53,54,55,56,57,58,59,60,61,62,63,64,65,66,67,68,69,70,71,72,73,74,75,76,77,78,79,80,81,82,83,84,85,86] [6,7] (fun k vs w => ∃ (q : Nat), vs = [.int .i64 (vainUpto p l q), .int .i64 (p.clo + q)] ∧ (q : Int) ≤ p.chi - p.clo + 1 ∧ k = (p.chi - p.clo + 1 - q).toNat ∧ fullTUpto p l f0 q = true ∧ St w0 w ((b3, blk 81 (iv l)) :: F)) ((p.chi - p.clo + 1).toNat) ?_ ?_
  ·
   exact ⟨0, iv2 (show (0 : Int) = vainUpto p l 0 from rfl) (by omega), by omega, by simp, by simp [fullTUpto], gg⟩
  intro k vs μ gF hI gG gl
  obtain ⟨q, rfl, hq, rfl, hfu, hs⟩ := hI
  refine zAf (fun gH gm => (zAf (fun gI gn => (zAa (zBa rfl rfl (w_p (zAi (v := .pointer _) rfl rfl) rfl (w_p (zBi rfl rfl) rfl (w_p (zAd (o := 0) (i := 0) underlying137 rfl sizeOf26 rfl rfl rfl) rfl ?_))))))))
  refine w_p (zAd (o := 1) (i := 1) underlying26 rfl sizeOf23 rfl rfl rfl) rfl (w_p (zAd (o := 1) (i := 1) underlying23 rfl sizeOf3 rfl rfl rfl) rfl (w_p (zAj isAgg3 hs.tail rfl rfl (show Ats _ _ _ _ [_] from Ats.part hp 2 1)) rfl (w_p (y_leq rfl rfl rfl rfl) rfl ?_)))
  refine zAe (zAc (gn _ _ (zAy rfl rfl (fun g8 => ?_) (fun g8 => ?_))))
  ·
   try simp only [zS] at g8
   refine zAv (zAc (gm _ _ (zAf (fun gJ go => (zAz ?_)))))
   refine zAf (fun gK gp => (zAa (w_p (zAi (v := .pointer _) rfl rfl) rfl (w_p (zB5 (i := 0) isAgg81 sizeOf81 (by first | omega | rfl | (simp only [zL] <;> omega)) hs rfl rfl rfl) rfl ?_))))
   refine zBa rfl rfl (zAs zAb call72 rfl rfl rfl rfl (c72 p _ c m pb hp.cons ha.cons hok l hlen hl1 _ (by omega) (by omega) hs) ?_)
   rintro _ gL ⟨rfl, gq⟩
   refine zBb (cs := [_,_,_]) zAb zeroValue87 rfl gq (fun gr gM gt => ?_)
   refine zA4 (i := 0) (v := .agg #[.int _ _, .int _ _, .int _ _]) (vs := [_,_,_]) zAb sizeOf87 rfl rfl rfl rfl rfl (by simp [Value.oneCell']) gt rfl (zNl rfl) (fun gN gh => ?_)
   refine zAe (zAc (gp _ _ (zAf (fun gO gu => (zAf (fun gP gv => (zAa (w_p (zAi (v := .pointer _) rfl rfl) rfl (w_p (zBi rfl rfl) rfl ?_)))))))))
   refine w_p (zAd (o := 0) (i := 0) underlying137 rfl sizeOf26 rfl rfl rfl) rfl (w_p (zAd (o := 3) (i := 2) underlying26 rfl sizeOf24 rfl rfl rfl) rfl (w_p (zAj isAgg24 gh.tail.tail rfl rfl (show Ats _ _ _ _ [_] from Ats.part hp 3 1)) rfl (w_p (zBm underlying24 rfl rfl) rfl ?_)))
   refine w_p (zAi (v := _) rfl rfl) rfl (zAe (zAc (gv _ _ (zAz ?_))))
   refine zB3 [9,10,11,38,39,40,41,42,43,44,45,46,47,48,49,50,51,52,53,54,55,56,57,58,59,60,61,62,63,64,65,66,67,68,69,70,71,72,73,74] [38] (fun k vs w => ∃ (i : Nat) (x : Int), x = leastUpto p.farms l f0 (p.clo + q) i ∧ vs = [.int .i64 i] ∧ i ≤ p.farms.length ∧ k = p.farms.length - i ∧ St w0 w ((gr, blk 87 [.int .i64 x, .int .i64 (on p.farms l (p.clo + q)).most, .int .i64 (on p.farms l (p.clo + q)).vain]) :: (b3, blk 81 (iv l)) :: F)) (p.farms.length) ?_ ?_
   ·
    exact ⟨0, _, rfl, rfl, by omega, by omega, gh⟩
   intro k vs μ gQ hI gR g6
   obtain ⟨i, x, hxx, rfl, hia, rfl, hs⟩ := hI
   refine zAf (fun gT gw => (zAa (w_p (zCl rfl rfl rfl rfl) rfl (zAe (zAc (gw _ _ (zAf (fun gU gx => (zAy rfl rfl (fun g9 => ?_) (fun g9 => ?_))))))))))
   ·
    try simp only [zS] at g9
    refine zAv (zAc (gx _ _ (zAf (fun gV g7 => (zAz ?_)))))
    refine zAf (fun gW gy => ?_)
    have hi2 : i < p.farms.length := by omega
    have hi3 : i < l.length := by omega
    obtain ⟨bx, ox, rfl, hx⟩ := sl_farm ha hi2
    have hfo := hok.farm _ (List.getElem_mem hi2)
    have hfo2 := hfo
    unfold Farm.Ok at hfo2
    have hgd : l[i] = l.getD i 0 := by simp [List.getD, hi3]
    have hl2 := hl1 (l.getD i 0) (by rw [← hgd]; exact List.getElem_mem hi3)
    have hb := leastUpto_bound (fs := p.farms) (l := l) f0 (p.clo + q) i (by omega) (by omega) hok.farm
    rw [← hxx] at hb
    refine zAa (zBa rfl rfl (w_p (zBc underlying24 sizeOf46 rfl rfl rfl rfl (i := _) rfl (by omega)) rfl (w_p (zA7 (vs := [_,_,_,_,_,_]) isAgg46 sizeOf46 hs.tail.tail rfl rfl hx) rfl (zBb (cs := [_,_,_,_,_,_]) zAb zeroValue46 rfl hs (fun gX gY gz => ?_)))))
    refine zBl rfl rfl (zA4 (i := 0) (v := .agg #[.string _, .int _ _, .int _ _, .int _ _, .int _ _, .int _ _]) (vs := [_,_,_,_,_,_]) zAb sizeOf46 rfl rfl rfl rfl rfl (by simp [Value.oneCell']) gz rfl (zNl rfl) (fun gZ g0 => ?_))
    refine zAe (zAc (gy _ _ (zAf (fun hD gA => (zAa (zBa rfl rfl (w_p (zAd (o := 1) (i := 1) underlying46 rfl sizeOf3 rfl rfl rfl) rfl (w_p (zAj isAgg3 g0 rfl rfl (zAh (i := 0) (vs := [_]) rfl rfl)) rfl ?_))))))))
    refine w_p (zEi rfl rfl rfl rfl (by omega) (by omega)) rfl (w_p (zAd (o := 2) (i := 2) underlying46 rfl sizeOf3 rfl rfl rfl) rfl (w_p (zAj isAgg3 g0 rfl rfl (zAh (i := 0) (vs := [_]) rfl rfl)) rfl ?_))
    refine w_p (zEi rfl rfl rfl rfl (by omega) (by omega)) rfl (w_p (y_min2 rfl rfl rfl rfl) rfl (zBl rfl rfl (zAe (zAc (gA _ _ (zAf (fun hO ga => (zAa (zBa rfl rfl (w_p (zC3 underlying81 sizeOf3 rfl rfl rfl rfl (i := i) (by first | rfl | omega) (by omega)) rfl ?_))))))))))
    refine w_p (zAj isAgg3 g0 rfl rfl (zD8 (i := 2) (j := i) rfl (by first | omega | rfl | (simp only [zL] <;> omega)))) rfl ?_
    refine w_p (zBw rfl rfl rfl rfl) rfl (w_p (zAi (v := .bool _) rfl rfl) rfl (zBk (fun gb => ?_) (fun gb => ?_)))
    ·
     try simp only [zS] at gb
     refine w_y rfl rfl rfl (zA1 rfl rfl) rfl ?_
     refine w_y rfl rfl rfl (zA1 rfl rfl) rfl ?_
     refine w_y rfl rfl rfl (zF5 rfl rfl rfl rfl) rfl ?_
     refine w_p (zAx (v := .bool _) rfl rfl rfl rfl) rfl (w_p (zAi (v := .bool _) rfl rfl) rfl (zBk (fun gc => ?_) (fun gc => ?_)))
     ·
      try simp only [zS] at gc
      refine w_y rfl rfl rfl (zAi (v := .pointer _) rfl rfl) rfl ?_
      refine w_y rfl rfl rfl (zA1 rfl rfl) rfl ?_
      refine w_y rfl rfl rfl (zA1 rfl rfl) rfl ?_
      refine w_y rfl rfl rfl (zA1 rfl rfl) rfl ?_
      refine zAs (zAp rfl rfl rfl) call83 rfl rfl rfl rfl (c83 p _ c m pb hp.cons.cons.cons ha.cons.cons.cons hok i hi2 _ _ (by omega) (by omega) (by omega) (by omega) g0) ?_
      rintro _ hP ⟨rfl, g4⟩
      refine w_p (zAx (v := .bool _) rfl rfl rfl rfl) rfl (zAe (zAc (ga _ _ (zAy rfl rfl (fun gd => ?_) (fun gd => ?_)))))
      ·
       try simp only [zS] at gd
       refine zAa (w_p (zAd (o := 0) (i := 0) underlying87 rfl sizeOf3 rfl rfl rfl) rfl (w_p (zAj isAgg3 g4 rfl rfl (zAh (i := 1) (vs := [_]) rfl rfl)) rfl (w_p (zAd (o := 4) (i := 4) underlying46 rfl sizeOf23 rfl rfl rfl) rfl ?_)))
       refine w_p (zAd (o := 0) (i := 0) underlying23 rfl sizeOf3 rfl rfl rfl) rfl (w_p (zAj isAgg3 g4 rfl rfl (zAh (i := 0) (vs := [_]) rfl rfl)) rfl (w_p (zBj rfl rfl rfl rfl (by omega) (by omega)) rfl ?_))
       refine w_p (zAd (o := 0) (i := 0) underlying87 rfl sizeOf3 rfl rfl rfl) rfl (zA4 (i := 1) (v := .int _ _) (vs := [_]) zAb sizeOf3 rfl rfl rfl rfl rfl (by simp [Value.oneCell']) g4 rfl (zNl rfl) (fun hX ge => ?_))
       refine zAe (zAl (zAc (g7 _ _ (zAa (w_p (zBj rfl rfl rfl rfl (by omega) (by omega)) rfl (zBa rfl rfl (zAe (zAc (g6 _ _ (nxI (p.farms.length - (i + 1)) (by omega) ?_))))))))))
       first
         | exact ⟨i + 1, x + p.farms[i].lo, (by rw [zCf f0 _ hi2 hi3, ← hxx]; exact zJd (by assumption) (by assumption) (by assumption)), rfl, by omega, rfl, ge.tail⟩
         | exact ⟨i + 1, x, (by rw [zCf f0 _ hi2 hi3, ← hxx]; exact zGg (fun hh => by first | exact absurd hh.1 (by assumption) | (have := hh.2.1; omega) | (have h2 := hh.2.2; simp_all; done))), rfl, by omega, rfl, ge.tail⟩
         | exact ⟨i + 1, x, (by rw [zCf f0 _ hi2 hi3, ← hxx]; exact zGg (fun hh => by rw [hh.2.2] at *; contradiction)), rfl, by omega, rfl, ge.tail⟩
      try simp only [zS] at gd
      refine zAv (zAl (zAc (g7 _ _ (zAa (w_p (zBj rfl rfl rfl rfl (by omega) (by omega)) rfl (zBa rfl rfl (zAe (zAc (g6 _ _ (nxI (p.farms.length - (i + 1)) (by omega) ?_))))))))))
      first
        | exact ⟨i + 1, x + p.farms[i].lo, (by rw [zCf f0 _ hi2 hi3, ← hxx]; exact zJd (by assumption) (by assumption) (by assumption)), rfl, by omega, rfl, g4.tail⟩
        | exact ⟨i + 1, x, (by rw [zCf f0 _ hi2 hi3, ← hxx]; exact zGg (fun hh => by first | exact absurd hh.1 (by assumption) | (have := hh.2.1; omega) | (have h2 := hh.2.2; simp_all; done))), rfl, by omega, rfl, g4.tail⟩
        | exact ⟨i + 1, x, (by rw [zCf f0 _ hi2 hi3, ← hxx]; exact zGg (fun hh => by rw [hh.2.2] at *; contradiction)), rfl, by omega, rfl, g4.tail⟩
     try simp only [zS] at gc
     refine zAg rfl rfl rfl ?_
     refine zAg rfl rfl rfl ?_
     refine zAg rfl rfl rfl ?_
     refine zAg rfl rfl rfl ?_
     refine zAg rfl rfl rfl ?_
     refine w_p (zBd (v := _) rfl rfl rfl rfl) rfl (zAe (zAc (ga _ _ (zCc rfl rfl ?_))))
     refine zAv (zAl (zAc (g7 _ _ (zAa (w_p (zBj rfl rfl rfl rfl (by omega) (by omega)) rfl (zBa rfl rfl (zAe (zAc (g6 _ _ (nxI (p.farms.length - (i + 1)) (by omega) ?_))))))))))
     first
       | exact ⟨i + 1, x + p.farms[i].lo, (by rw [zCf f0 _ hi2 hi3, ← hxx]; exact zJd (by assumption) (by assumption) (by assumption)), rfl, by omega, rfl, g0.tail⟩
       | exact ⟨i + 1, x, (by rw [zCf f0 _ hi2 hi3, ← hxx]; exact zGg (fun hh => by first | exact absurd hh.1 (by assumption) | (have := hh.2.1; omega) | (have h2 := hh.2.2; simp_all; done))), rfl, by omega, rfl, g0.tail⟩
       | exact ⟨i + 1, x, (by rw [zCf f0 _ hi2 hi3, ← hxx]; exact zGg (fun hh => by rw [hh.2.2] at *; contradiction)), rfl, by omega, rfl, g0.tail⟩
    try simp only [zS] at gb
    refine zAg rfl rfl rfl ?_
    refine zAg rfl rfl rfl ?_
    refine zAg rfl rfl rfl ?_
    refine w_p (zBd (v := _) rfl rfl rfl rfl) rfl (w_p (zAi (v := .bool _) rfl rfl) rfl (zAg rfl rfl rfl ?_))
    refine zAg rfl rfl rfl ?_
    refine zAg rfl rfl rfl ?_
    refine zAg rfl rfl rfl ?_
    refine zAg rfl rfl rfl ?_
    refine w_p (zBd (v := _) rfl rfl rfl rfl) rfl (zAe (zAc (ga _ _ (zCc rfl rfl ?_))))
    refine zAv (zAl (zAc (g7 _ _ (zAa (w_p (zBj rfl rfl rfl rfl (by omega) (by omega)) rfl (zBa rfl rfl (zAe (zAc (g6 _ _ (nxI (p.farms.length - (i + 1)) (by omega) ?_))))))))))
    first
      | exact ⟨i + 1, x + p.farms[i].lo, (by rw [zCf f0 _ hi2 hi3, ← hxx]; exact zJd (by assumption) (by assumption) (by assumption)), rfl, by omega, rfl, g0.tail⟩
      | exact ⟨i + 1, x, (by rw [zCf f0 _ hi2 hi3, ← hxx]; exact zGg (fun hh => by first | exact absurd hh.1 (by assumption) | (have := hh.2.1; omega) | (have h2 := hh.2.2; simp_all; done))), rfl, by omega, rfl, g0.tail⟩
      | exact ⟨i + 1, x, (by rw [zCf f0 _ hi2 hi3, ← hxx]; exact zGg (fun hh => by rw [hh.2.2] at *; contradiction)), rfl, by omega, rfl, g0.tail⟩
   try simp only [zS] at g9
   refine zBq (zAo (zAo (zA8 (zAc (gu _ _ (zAf (fun hY gB => (zAf (fun j0 gC => (zCs [] [(0,0),(1,1),(2,0),(3,0),(4,0),(5,0),(6,1),(7,0)] zCg (by kernel_rfl) hs (fun j1 g5 => ?_)))))))))))
   refine d_w rfl (fun _ => zAd (o := 0) (i := 0) underlying87 rfl sizeOf3 rfl rfl rfl) rfl ?_
   refine zBh rfl zAb rfl g5 (fun _ hq => (zAj isAgg3 hq rfl rfl (zAh (i := 0) (vs := [_]) rfl rfl))) ?_
   refine d_w rfl (fun _ => zAi (v := .pointer _) rfl rfl) rfl ?_
   refine d_w rfl (fun _ => zBi rfl rfl) rfl ?_
   refine d_w rfl (fun _ => zAd (o := 0) (i := 0) underlying137 rfl sizeOf26 rfl rfl rfl) rfl ?_
   refine d_w rfl (fun _ => zAd (o := 0) (i := 0) underlying26 rfl sizeOf3 rfl rfl rfl) rfl ?_
   refine zBh rfl zAb rfl g5 (fun _ hq => (zAj isAgg3 hq.tail.tail rfl rfl (show Ats _ _ _ _ [_] from Ats.part hp 0 1))) ?_
   refine d_w rfl (fun _ => zCl rfl rfl rfl rfl) rfl ?_
   refine zB0 ?_
   refine zAc (gC _ _ (zAy rfl rfl (fun gf => ?_) (fun gf => ?_)))
   ·
    try simp only [zS] at gf
    refine zAf (fun j2 gD => (zAa (zBg rfl rfl (zAe (zAc (gD _ _ (zA2 (zAk (zAt (zAk (zAk (zAt (zAk (zA9 (l := [.tmp 6]) (vs := [_]) rfl ⟨⟨rfl, (rfl : _ = Value.int _ _)⟩, trivial⟩ ?_))))))))))))))
    first
      | exact ⟨congrArg (Value.int .i64) (by unfold worst; rw [← zHv l f0 (i := q) (by omega), hfu, if_pos rfl]; exact zF8 l (by omega)), g5.tail.tail⟩
      | exact ⟨congrArg (Value.int .i64) (by unfold worst; rw [if_neg]; rw [fullT_false l f0 (i := q + 1) (by rw [zE6 l f0 (by omega), hfu, ← zFw (i := i) f0 _ (by omega), ← hxx]; simpa using ‹_›)]; simp), g5.tail.tail⟩
   try simp only [zS] at gf
   refine zAv (zAc (gB _ _ (zAa (zBa rfl rfl (w_p (zAd (o := 2) (i := 2) underlying87 rfl sizeOf3 rfl rfl rfl) rfl (w_p (zAj isAgg3 g5 rfl rfl (zAh (i := 0) (vs := [_]) rfl rfl)) rfl ?_))))))
   refine w_p (zF4 rfl rfl rfl rfl) rfl (zBl rfl rfl (zAe (zAl (zAc (go _ _ (zAa (zBa rfl rfl (w_p (zBj rfl rfl rfl rfl (by omega) (by omega)) rfl ?_))))))))
   refine zBl rfl rfl (zAe (zAc (gl _ _ (nxI ((p.chi - p.clo + 1 - (q + 1 : Nat)).toNat) (by omega) ?_))))
   exact ⟨q + 1, iv2 (vainUpto_succ l (by omega)).symm (by omega), by omega, rfl, (by rw [zE6 l f0 (by omega), hfu, ← zFw (i := i) f0 _ (by omega), ← hxx]; simpa using ‹_›), g5.tail⟩
  try simp only [zS] at g8
  refine zBq (zAo (zAo (zA8 (zAc (gj _ _ (zAf (fun j3 gE => (zAa (zBa rfl rfl (zBl rfl rfl (zAe (zAc (gE _ _ (zA2 (zA9 (l := [.tmp 6]) (vs := [_]) rfl ⟨⟨rfl, (rfl : _ = Value.int _ _)⟩, trivial⟩ ?_)))))))))))))))
  first
    | exact ⟨congrArg (Value.int .i64) (by unfold worst; rw [← zHv l f0 (i := q) (by omega), hfu, if_pos rfl]; exact zF8 l (by omega)), hs.tail⟩
    | exact ⟨congrArg (Value.int .i64) (by unfold worst; rw [if_neg]; rw [fullT_false l f0 (i := q + 1) (by rw [zE6 l f0 (by omega), hfu, ← zFw (i := i) f0 _ (by omega), ← hxx]; simpa using ‹_›)]; simp), hs.tail⟩

end Go.Proofs.Cb
set_option maxRecDepth 20000
namespace Go.Proofs.Cb
open Go.Proofs.Tryz
open Go.Rt Go.Rt.Ca
attribute [local irreducible] WL WC Con Yd At Ats Sl Agree DW
theorem Try_CJ_fb5 (x0 : Int) (x1 : Int) (w : World) : (Instr.build 23 [(0, .int .i64 x0),(1, .int .i64 x1)].toArray).run Tryz.prog w = .ok (.agg #[.int .i64 x0, .int .i64 x1]) w := by kernel_rfl
theorem Try_CJ_fb6 (x0 : Int) (x1 : Int) (w : World) : (Instr.buildSlice 50 1 [(0, .agg #[.int .i64 x0, .int .i64 x1])].toArray).run Tryz.prog w = .ok (.slice (some ⟨w.heap.size, 0, none⟩) 1 1) (w.alloc (Go.Rt.blk 23 [.int .i64 x0, .int .i64 x1])) := by kernel_rfl
theorem Try_info23 : Tryz.prog.info? 23 = some Tryz.t23 := by kernel_rfl
theorem zDb {α : Type} {L : List α} {f : α → Bool} {i : Nat} (hi : i < L.length) : (L.take (i + 1)).all f = ((L.take i).all f && f L[i]) := by
  rw [List.take_succ_eq_append_getElem hi, List.all_append]; simp
theorem zH0 {w0 w : World} {B M1 F : List (Nat × Obj)} {x y z : Nat × Obj} (h : St w0 w (B ++ ([x] ++ (M1 ++ (y :: z :: F))))) : St w0 w (B ++ F) := by
  have e : B ++ ([x] ++ (M1 ++ (y :: z :: F))) = B ++ (([x] ++ (M1 ++ [y, z])) ++ F) := by simp
  rw [e] at h
  exact (h.perm (zAq _ _ _)).drop
theorem tup2 {a b c d : Int} (h : a = b) (h2 : c = d) : Value.tuple #[.int .i64 a, .int .i64 c] = .tuple #[.int .i64 b, .int .i64 d] := by rw [h, h2]
theorem c20 {w0 w : World} {F : List (Nat × Obj)} (p : Port) (a : Option Addr) (c : Nat) (hl3 : p.farms.length ≤ 9223372036854775807) (hc : p.farms.length ≤ c) (ha : Sl w0 F a 6 (rows p.farms)) (hnm : ∀ f ∈ p.farms, f.name.size ≤ 9223372036854775807) (al : Option Addr) (cl : Nat) (l : List Int) (hll : l.length ≤ 9223372036854775807) (hl : Sl w0 F al 1 (l.map fun x => [Value.int .i64 x])) (hs : St w0 w F) :
  Con Tryz.prog 20 [.agg (p.cells a c).toArray, .slice al l.length cl] w fun v w' => v = .tuple #[.int .i64 (vainR p l), .int .i64 (enterErr p l)] ∧ St w0 w' F := by
  refine zAu (n := 22) func20 rfl rfl (zNl rfl) ?_
  refine zAf (fun K2 ga => (zAa (zCa (v := .agg #[.int _ _, .int _ _, .int _ _, .slice _ _ _]) (cs := [_,_,_,_]) zAb rfl rfl rfl hs (fun b3 w4 g7 => ?_))))
  refine zBg rfl rfl (zBg rfl rfl (zAe (zAc (ga _ _ (zAf (fun K7 g8 => (zAa (w_p (zA7 (vs := [_,_,_,_]) isAgg26 sizeOf26 g7 rfl rfl (zAh (i := 0) (vs := [_,_,_,_]) rfl rfl)) rfl ?_))))))))
  refine w_p (zAi (v := .slice _ _ _) rfl rfl) rfl (zAs zAb call37 rfl rfl rfl rfl (c37 p _ _ (by omega) (by omega) ha.cons hnm _ _ _ (by omega) hl.cons g7) ?_)
  rintro _ w9 (⟨hee, rfl, g0⟩ | ⟨hee, m, pb, rfl, g0⟩)
  ·
   refine w_p (zAi (v := .tuple _) rfl rfl) rfl (w_p (zAn (v := .pointer _) rfl rfl rfl) rfl (w_p (zAn (v := (ia _)) rfl rfl rfl) rfl (w_p (zAn (v := .int _ _) rfl rfl rfl) rfl ?_)))
   refine zBb (cs := iv [0,0,0]) zAb zeroValue81 rfl g0 (fun gj gk gb => ?_)
   refine w_p (zAm (v := .pointer _) rfl rfl) rfl (zCm (i := 0) (l := _) zAb sizeOf81 (by first | omega | rfl | (simp only [zB6, zL] <;> omega)) rfl rfl rfl rfl rfl gb rfl (by first | omega | rfl | (simp only [zB6, zL] <;> omega)) (fun gl gc => ?_))
   refine zBl rfl rfl (zAe (zAc (g8 _ _ (zAf (fun gm gn => (zAf (fun go gd => (zAa (zBa rfl rfl (w_p (zCt rfl rfl rfl rfl) rfl (zAe (zAc (gd _ _ (zAy rfl rfl (fun g4 => ?_) (fun g4 => ?_)))))))))))))))
   ·
    try simp only [zS] at g4
    refine zAf (fun gp ge => (zAa (zBa rfl rfl (zBg rfl rfl (zBl rfl rfl (zAe (zAc (ge _ _ (zA2 (zAk (zA9 (l := [.tmp 4, .tmp 5]) (vs := [_,_]) rfl ⟨⟨rfl, (rfl : _ = Value.int _ _)⟩, ⟨rfl, (rfl : _ = Value.int _ _)⟩, trivial⟩ ?_)))))))))))
    first
      | contradiction
      | (refine ⟨tup2 ?_ ?_, gc.tail.tail⟩ <;> simp only [vainR, hee, if_true, if_false] <;> first | rfl | exact vain_pad (zC1 hee).2.1 (check_ok (zC1 hee).1).len)
   try simp only [zS] at g4
   all_goals exact absurd (by assumption) hee
  refine w_p (zAi (v := .tuple _) rfl rfl) rfl (w_p (zAn (v := .pointer _) rfl rfl rfl) rfl (w_p (zAn (v := (ia _)) rfl rfl rfl) rfl (w_p (zAn (v := .int _ _) rfl rfl rfl) rfl ?_)))
  refine zBb (cs := iv [0,0,0]) zAb zeroValue81 rfl g0 (fun gq gr gf => ?_)
  refine w_p (zAm (v := .pointer _) rfl rfl) rfl (zCm (i := 0) (l := _) zAb sizeOf81 (by first | omega | rfl | (simp only [zB6, zL] <;> omega)) rfl rfl rfl rfl rfl gf rfl (by first | omega | rfl | (simp only [zB6, zL] <;> omega)) (fun gt g9 => ?_))
  refine zBl rfl rfl (zAe (zAc (g8 _ _ (zAf (fun gu gg => (zAf (fun gv gh => (zAa (zBa rfl rfl (w_p (zCt rfl rfl rfl rfl) rfl (zAe (zAc (gh _ _ (zAy rfl rfl (fun g5 => ?_) (fun g5 => ?_)))))))))))))))
  ·
   try simp only [zS] at g5
   all_goals contradiction
  try simp only [zS] at g5
  refine zAv (zAc (gg _ _ (zAf (fun gw gi => (zAa (w_p (zAi (v := .pointer _) rfl rfl) rfl (w_p (zB5 (i := 0) isAgg81 sizeOf81 (by first | omega | rfl | (simp only [zB6, zL] <;> omega)) g9 rfl rfl rfl) rfl ?_)))))))
  refine zAs zAb call48 rfl rfl rfl rfl (c48 (X := [_]) (M := [_]) p _ c m pb (zAh (i := 0) (vs := [_,_,_,_,_]) rfl rfl) ha.cons.cons (check_ok (zC1 hee).1) (pad l) (zB6 l) (pad_in hee) (zEz _ _ _) g9) ?_
  rintro _ gx ⟨rfl, M1, gy, g6⟩
  replace g6 := (show St _ _ (_ :: M1 ++ (_ :: _ :: F)) from g6)
  refine zBl rfl rfl (zBg rfl rfl (zAe (zAc (gi _ _ (zA2 (zA9 (l := [.tmp 4, .tmp 5]) (vs := [_,_]) rfl ⟨⟨rfl, (rfl : _ = Value.int _ _)⟩, ⟨rfl, (rfl : _ = Value.int _ _)⟩, trivial⟩ ?_))))))
  first
    | contradiction
    | (refine ⟨tup2 ?_ ?_, g6.tail.drop.tail.tail⟩ <;> simp only [vainR, hee, if_true, if_false] <;> first | rfl | exact vain_pad (zC1 hee).2.1 (check_ok (zC1 hee).1).len)

theorem c19 {w0 w : World} {F : List (Nat × Obj)} (p : Port) (a : Option Addr) (c : Nat) (hl3 : p.farms.length ≤ 9223372036854775807) (hc : p.farms.length ≤ c) (ha : Sl w0 F a 6 (rows p.farms)) (hnm : ∀ f ∈ p.farms, f.name.size ≤ 9223372036854775807) (al : Option Addr) (cl : Nat) (l : List Int) (hll : l.length ≤ 9223372036854775807) (hl : Sl w0 F al 1 (l.map fun x => [Value.int .i64 x])) (hs : St w0 w F) :
  Con Tryz.prog 19 [.agg (p.cells a c).toArray, .slice al l.length cl] w fun v w' => v = .tuple #[.int .i64 (fullR p l), .int .i64 (enterErr p l)] ∧ St w0 w' F := by
  refine zAu (n := 52) func19 rfl rfl (zNl rfl) ?_
  refine zAf (fun K2 gm => (zAa (zCa (v := .agg #[.int _ _, .int _ _, .int _ _, .slice _ _ _]) (cs := [_,_,_,_]) zAb rfl rfl rfl hs (fun b3 w4 gh => ?_))))
  refine zBg rfl rfl (zBg rfl rfl (zAe (zAc (gm _ _ (zAf (fun K7 gi => (zAa (w_p (zA7 (vs := [_,_,_,_]) isAgg26 sizeOf26 gh rfl rfl (zAh (i := 0) (vs := [_,_,_,_]) rfl rfl)) rfl ?_))))))))
  refine w_p (zAi (v := .slice _ _ _) rfl rfl) rfl (zAs zAb call37 rfl rfl rfl rfl (c37 p _ _ (by omega) (by omega) ha.cons hnm _ _ _ (by omega) hl.cons gh) ?_)
  rintro _ w9 (⟨hee, rfl, gg⟩ | ⟨hee, m, pb, rfl, gg⟩)
  ·
   refine w_p (zAi (v := .tuple _) rfl rfl) rfl (w_p (zAn (v := .pointer _) rfl rfl rfl) rfl (w_p (zAn (v := (ia _)) rfl rfl rfl) rfl (w_p (zAn (v := .int _ _) rfl rfl rfl) rfl ?_)))
   refine zBb (cs := iv [0,0,0]) zAb zeroValue81 rfl gg (fun gI gJ gn => ?_)
   refine w_p (zAm (v := .pointer _) rfl rfl) rfl (zCm (i := 0) (l := _) zAb sizeOf81 (by first | omega | rfl | (simp only [zB6, zL] <;> omega)) rfl rfl rfl rfl rfl gn rfl (by first | omega | rfl | (simp only [zB6, zL] <;> omega)) (fun gK gj => ?_))
   refine zBl rfl rfl (zAe (zAc (gi _ _ (zAf (fun gL gM => (zAf (fun gN go => (zAa (zBa rfl rfl (w_p (zCt rfl rfl rfl rfl) rfl (zAe (zAc (go _ _ (zAy rfl rfl (fun gd => ?_) (fun gd => ?_)))))))))))))))
   ·
    try simp only [zS] at gd
    refine zAf (fun gO gp => (zAa (zBa rfl rfl (zBg rfl rfl (zBl rfl rfl (zAe (zAc (gp _ _ (zA2 (zAk (zA9 (l := [.tmp 4, .tmp 5]) (vs := [_,_]) rfl ⟨⟨rfl, (rfl : _ = Value.int _ _)⟩, ⟨rfl, (rfl : _ = Value.int _ _)⟩, trivial⟩ ?_)))))))))))
    first
      | contradiction
      | (refine ⟨tup2 ?_ ?_, gj.tail.tail⟩ <;> simp only [fullR, hee, if_true, if_false]; done)
      | (rw [List.take_of_length_le (by omega), ← zGx] at g5
         rw [List.take_of_length_le (by omega), ← zFt] at g6
         refine ⟨tup2 ?_ ?_, ((show St w0 _ ([_] ++ (M1 ++ (_ :: _ :: F))) from St.cast hz gj).drop.drop.tail.tail)⟩ <;> simp only [fullR, hee, if_true, if_false]
         rw [← zJm (zC1 hee).2.1 hok.len]
         unfold does
         rw [← g5, ← g6]
         simp [gd])
   try simp only [zS] at gd
   all_goals exact absurd (by assumption) hee
  refine w_p (zAi (v := .tuple _) rfl rfl) rfl (w_p (zAn (v := .pointer _) rfl rfl rfl) rfl (w_p (zAn (v := (ia _)) rfl rfl rfl) rfl (w_p (zAn (v := .int _ _) rfl rfl rfl) rfl ?_)))
  refine zBb (cs := iv [0,0,0]) zAb zeroValue81 rfl gg (fun gP gQ gq => ?_)
  refine w_p (zAm (v := .pointer _) rfl rfl) rfl (zCm (i := 0) (l := _) zAb sizeOf81 (by first | omega | rfl | (simp only [zB6, zL] <;> omega)) rfl rfl rfl rfl rfl gq rfl (by first | omega | rfl | (simp only [zB6, zL] <;> omega)) (fun gR gk => ?_))
  refine zBl rfl rfl (zAe (zAc (gi _ _ (zAf (fun gT gr => (zAf (fun gU gt => (zAa (zBa rfl rfl (w_p (zCt rfl rfl rfl rfl) rfl (zAe (zAc (gt _ _ (zAy rfl rfl (fun g0 => ?_) (fun g0 => ?_)))))))))))))))
  ·
   try simp only [zS] at g0
   all_goals contradiction
  try simp only [zS] at g0
  refine zAv (zAc (gr _ _ (zAf (fun gV gu => (zAa (zBg rfl rfl (zBg rfl rfl (zAe (zAc (gu _ _ (zAf (fun gW gv => (zAf (fun gX gw => (zAa (w_p (zAi (v := .pointer _) rfl rfl) rfl ?_))))))))))))))))
  refine w_p (zB5 (i := 0) isAgg81 sizeOf81 (by first | omega | rfl | (simp only [zB6, zL] <;> omega)) gk rfl rfl rfl) rfl ?_
  refine zAs zAb call38 rfl rfl rfl rfl (zGu (X := [_]) (M := [_]) p _ c m pb (zAh (i := 0) (vs := [_,_,_,_,_]) rfl rfl) ha.cons.cons (check_ok (zC1 hee).1) (pad l) (zB6 l) (pad_in hee) (zEz _ _ _) gk) ?_
  rintro _ gY ⟨Z, M1, al2, cl2, rfl, gZ, hz, hsl, gx⟩
  have hb2 : Ats w0 Z b3 0 (p.cells a c) := (zAh (w0 := w0) (L := (pb, blk 137 [.int .i64 p.hold, .int .i64 p.clo, .int .i64 p.chi, .slice a p.farms.length c, .map (some m)]) :: (b3, blk 26 (p.cells a c)) :: F) (i := 1) (vs := p.cells a c) rfl rfl).mono fun w h => (show St w0 w ([_] ++ (M1 ++ (_ :: _ :: F))) from St.cast hz h).drop.drop
  have hlo := zD5 p (pad l)
  have hok := check_ok (zC1 hee).1
  have hcome := hok.come
  refine w_p (zBm underlying84 rfl rfl) rfl (w_p (zAi (v := _) rfl rfl) rfl (zAe (zAc (gw _ _ (zAz ?_)))))
  refine zB3 [9,10,12,27,28,29,30,31,32,33,34,35,36,37,38,39,40,41,42,43,44,45,46,47] [9,10,27] (fun k vs w => ∃ (i : Nat) (s1 s2 : Bool), vs = [.bool s1, .bool s2, .int .i64 i] ∧ s1 = ((loads p (pad l)).take i).all (fun x => decide (p.hold ≤ x.least)) ∧ s2 = ((loads p (pad l)).take i).all (fun x => decide (x.most < p.hold)) ∧ i ≤ (loads p (pad l)).length ∧ k = (loads p (pad l)).length - i ∧ St w0 w Z) ((loads p (pad l)).length) ?_ ?_
  ·
   exact ⟨0, true, true, rfl, rfl, rfl, by omega, by omega, gx⟩
  intro k vs μ hD hI hO ge
  obtain ⟨i, s1, s2, rfl, g5, g6, hia, rfl, hs⟩ := hI
  refine zAf (fun hP gy => (zAa (w_p (zCl rfl rfl rfl rfl) rfl (zAe (zAc (gy _ _ (zAf (fun hX gz => (zAy rfl rfl (fun g4 => ?_) (fun g4 => ?_))))))))))
  ·
   try simp only [zS] at g4
   refine zAv (zAc (gz _ _ (zAf (fun hY gf => (zAz ?_)))))
   refine zAf (fun j0 gA => ?_)
   have hx2 : i < (loads p (pad l)).length := by omega
   obtain ⟨bx, ox, rfl, hx⟩ := sl_load hsl hx2
   refine zAa (w_p (zBc underlying84 sizeOf87 rfl rfl rfl rfl (i := _) rfl (by omega)) rfl (w_p (zA7 (vs := [_,_,_]) isAgg87 sizeOf87 hs rfl rfl hx) rfl (zBb (cs := [_,_,_]) zAb zeroValue87 rfl hs (fun j1 j2 gB => ?_))))
   refine zA4 (i := 0) (v := .agg #[.int _ _, .int _ _, .int _ _]) (vs := [_,_,_]) zAb sizeOf87 rfl rfl rfl rfl rfl (by simp [Value.oneCell']) gB rfl (zNl rfl) (fun j3 g8 => ?_)
   refine zAe (zAc (gA _ _ (zAf (fun j4 gl => (zAa (w_p (zAi (v := .bool _) rfl rfl) rfl (w_p (zAi (v := .bool _) rfl rfl) rfl (zBk (fun g7 => ?_) (fun g7 => ?_)))))))))
   ·
    try simp only [zS] at g7
    refine w_y rfl rfl rfl (zAd (o := 0) (i := 0) underlying87 rfl sizeOf3 rfl rfl rfl) rfl ?_
    refine w_y rfl rfl rfl (zAj isAgg3 g8 rfl rfl (zAh (i := 0) (vs := [_]) rfl rfl)) rfl ?_
    refine w_y rfl rfl rfl (zAd (o := 0) (i := 0) underlying26 rfl sizeOf3 rfl rfl rfl) rfl ?_
    refine w_y rfl rfl rfl (zAj isAgg3 g8.tail rfl rfl (show Ats _ _ _ _ [_] from Ats.part hb2 0 1)) rfl ?_
    refine w_y rfl rfl rfl (zF5 rfl rfl rfl rfl) rfl ?_
    refine w_p (zAx (v := .bool _) rfl rfl rfl rfl) rfl (w_p (zAm (v := .bool _) rfl rfl) rfl (zAe (zAc (gl _ _ (zAa (w_p (zAi (v := .bool _) rfl rfl) rfl ?_))))))
    refine w_p (zAi (v := .bool _) rfl rfl) rfl (zBk (fun g9 => ?_) (fun g9 => ?_))
    ·
     try simp only [zS] at g9
     refine w_y rfl rfl rfl (zAd (o := 1) (i := 1) underlying87 rfl sizeOf3 rfl rfl rfl) rfl ?_
     refine w_y rfl rfl rfl (zAj isAgg3 g8 rfl rfl (zAh (i := 0) (vs := [_]) rfl rfl)) rfl ?_
     refine w_y rfl rfl rfl (zAd (o := 0) (i := 0) underlying26 rfl sizeOf3 rfl rfl rfl) rfl ?_
     refine w_y rfl rfl rfl (zAj isAgg3 g8.tail rfl rfl (show Ats _ _ _ _ [_] from Ats.part hb2 0 1)) rfl ?_
     refine w_y rfl rfl rfl (zCl rfl rfl rfl rfl) rfl ?_
     refine w_p (zAx (v := .bool _) rfl rfl rfl rfl) rfl (w_p (zAm (v := .bool _) rfl rfl) rfl (zAe (zAl (zAc (gf _ _ (zAa (w_p (zBj rfl rfl rfl rfl (by omega) (by omega)) rfl ?_)))))))
     refine zBa rfl rfl (zAe (zAc (ge _ _ (nxI ((loads p (pad l)).length - (i + 1)) (by omega) ?_))))
     exact ⟨i + 1, _,_, rfl, (by rw [zDb hx2, ← g5]; simp [g0, g4, g7, g9]), (by rw [zDb hx2, ← g6]; simp [g0, g4, g7, g9]), by omega, rfl, g8.tail⟩
    try simp only [zS] at g9
    refine zAg rfl rfl rfl ?_
    refine zAg rfl rfl rfl ?_
    refine zAg rfl rfl rfl ?_
    refine zAg rfl rfl rfl ?_
    refine zAg rfl rfl rfl ?_
    refine w_p (zBd (v := _) rfl rfl rfl rfl) rfl (w_p (zAm (v := .bool _) rfl rfl) rfl (zAe (zAl (zAc (gf _ _ (zAa (w_p (zBj rfl rfl rfl rfl (by omega) (by omega)) rfl ?_)))))))
    refine zBa rfl rfl (zAe (zAc (ge _ _ (nxI ((loads p (pad l)).length - (i + 1)) (by omega) ?_))))
    exact ⟨i + 1, _,_, rfl, (by rw [zDb hx2, ← g5]; simp [g0, g4, g7, g9]), (by rw [zDb hx2, ← g6]; simp [g0, g4, g7, g9]), by omega, rfl, g8.tail⟩
   try simp only [zS] at g7
   refine zAg rfl rfl rfl ?_
   refine zAg rfl rfl rfl ?_
   refine zAg rfl rfl rfl ?_
   refine zAg rfl rfl rfl ?_
   refine zAg rfl rfl rfl ?_
   refine w_p (zBd (v := _) rfl rfl rfl rfl) rfl (w_p (zAm (v := .bool _) rfl rfl) rfl (zAe (zAc (gl _ _ (zAa (w_p (zAi (v := .bool _) rfl rfl) rfl ?_))))))
   refine w_p (zAi (v := .bool _) rfl rfl) rfl (zBk (fun ga => ?_) (fun ga => ?_))
   ·
    try simp only [zS] at ga
    refine w_y rfl rfl rfl (zAd (o := 1) (i := 1) underlying87 rfl sizeOf3 rfl rfl rfl) rfl ?_
    refine w_y rfl rfl rfl (zAj isAgg3 g8 rfl rfl (zAh (i := 0) (vs := [_]) rfl rfl)) rfl ?_
    refine w_y rfl rfl rfl (zAd (o := 0) (i := 0) underlying26 rfl sizeOf3 rfl rfl rfl) rfl ?_
    refine w_y rfl rfl rfl (zAj isAgg3 g8.tail rfl rfl (show Ats _ _ _ _ [_] from Ats.part hb2 0 1)) rfl ?_
    refine w_y rfl rfl rfl (zCl rfl rfl rfl rfl) rfl ?_
    refine w_p (zAx (v := .bool _) rfl rfl rfl rfl) rfl (w_p (zAm (v := .bool _) rfl rfl) rfl (zAe (zAl (zAc (gf _ _ (zAa (w_p (zBj rfl rfl rfl rfl (by omega) (by omega)) rfl ?_)))))))
    refine zBa rfl rfl (zAe (zAc (ge _ _ (nxI ((loads p (pad l)).length - (i + 1)) (by omega) ?_))))
    exact ⟨i + 1, _,_, rfl, (by rw [zDb hx2, ← g5]; simp [g0, g4, g7, ga]), (by rw [zDb hx2, ← g6]; simp [g0, g4, g7, ga]), by omega, rfl, g8.tail⟩
   try simp only [zS] at ga
   refine zAg rfl rfl rfl ?_
   refine zAg rfl rfl rfl ?_
   refine zAg rfl rfl rfl ?_
   refine zAg rfl rfl rfl ?_
   refine zAg rfl rfl rfl ?_
   refine w_p (zBd (v := _) rfl rfl rfl rfl) rfl (w_p (zAm (v := .bool _) rfl rfl) rfl (zAe (zAl (zAc (gf _ _ (zAa (w_p (zBj rfl rfl rfl rfl (by omega) (by omega)) rfl ?_)))))))
   refine zBa rfl rfl (zAe (zAc (ge _ _ (nxI ((loads p (pad l)).length - (i + 1)) (by omega) ?_))))
   exact ⟨i + 1, _,_, rfl, (by rw [zDb hx2, ← g5]; simp [g0, g4, g7, ga]), (by rw [zDb hx2, ← g6]; simp [g0, g4, g7, ga]), by omega, rfl, g8.tail⟩
  try simp only [zS] at g4
  refine zBq (zAo (zAo (zA8 (zAc (gv _ _ (zAf (fun j5 gC => (zAz ?_))))))))
  refine zAf (fun j6 gD => (zAa (w_p (zAi (v := .bool _) rfl rfl) rfl (w_p (zAm (v := .bool _) rfl rfl) rfl (zAe (zAc (gD _ _ (zAy rfl rfl (fun gb => ?_) (fun gb => ?_)))))))))
  ·
   try simp only [zS] at gb
   refine zAf (fun j7 gE => (zAa (zBg rfl rfl (zBg rfl rfl (zAe (zAc (gE _ _ (zA2 (zAt (zAk (zA9 (l := [.tmp 4, .tmp 5]) (vs := [_,_]) rfl ⟨⟨rfl, (rfl : _ = Value.int _ _)⟩, ⟨rfl, (rfl : _ = Value.int _ _)⟩, trivial⟩ ?_)))))))))))
   first
     | contradiction
     | (refine ⟨tup2 ?_ ?_, hs⟩ <;> simp only [fullR, hee, if_true, if_false]; done)
     | (rw [List.take_of_length_le (by omega), ← zGx] at g5
        rw [List.take_of_length_le (by omega), ← zFt] at g6
        refine ⟨tup2 ?_ ?_, ((show St w0 _ ([_] ++ (M1 ++ (_ :: _ :: F))) from St.cast hz hs).drop.drop.tail.tail)⟩ <;> simp only [fullR, hee, if_true, if_false]
        rw [← zJm (zC1 hee).2.1 hok.len]
        unfold does
        rw [← g5, ← g6]
        simp [g0, g4, gb])
  try simp only [zS] at gb
  refine zAf (fun j8 gF => (zAa (w_p (zAi (v := .bool _) rfl rfl) rfl (w_p (zAm (v := .bool _) rfl rfl) rfl (zAe (zAc (gF _ _ (zAy rfl rfl (fun gc => ?_) (fun gc => ?_)))))))))
  ·
   try simp only [zS] at gc
   refine zAf (fun j9 gG => (zAa (zBg rfl rfl (zBg rfl rfl (zAe (zAc (gG _ _ (zA2 (zAt (zAk (zA9 (l := [.tmp 4, .tmp 5]) (vs := [_,_]) rfl ⟨⟨rfl, (rfl : _ = Value.int _ _)⟩, ⟨rfl, (rfl : _ = Value.int _ _)⟩, trivial⟩ ?_)))))))))))
   first
     | contradiction
     | (refine ⟨tup2 ?_ ?_, hs⟩ <;> simp only [fullR, hee, if_true, if_false]; done)
     | (rw [List.take_of_length_le (by omega), ← zGx] at g5
        rw [List.take_of_length_le (by omega), ← zFt] at g6
        refine ⟨tup2 ?_ ?_, ((show St w0 _ ([_] ++ (M1 ++ (_ :: _ :: F))) from St.cast hz hs).drop.drop.tail.tail)⟩ <;> simp only [fullR, hee, if_true, if_false]
        rw [← zJm (zC1 hee).2.1 hok.len]
        unfold does
        rw [← g5, ← g6]
        simp [g0, g4, gb, gc])
  try simp only [zS] at gc
  refine zAv (zAl (zAc (gC _ _ (zAf (fun ja gH => (zAa (zBg rfl rfl (zBg rfl rfl (zAe (zAc (gH _ _ (zA2 (zA9 (l := [.tmp 4, .tmp 5]) (vs := [_,_]) rfl ⟨⟨rfl, (rfl : _ = Value.int _ _)⟩, ⟨rfl, (rfl : _ = Value.int _ _)⟩, trivial⟩ ?_)))))))))))))
  first
    | contradiction
    | (refine ⟨tup2 ?_ ?_, hs⟩ <;> simp only [fullR, hee, if_true, if_false]; done)
    | (rw [List.take_of_length_le (by omega), ← zGx] at g5
       rw [List.take_of_length_le (by omega), ← zFt] at g6
       refine ⟨tup2 ?_ ?_, ((show St w0 _ ([_] ++ (M1 ++ (_ :: _ :: F))) from St.cast hz hs).drop.drop.tail.tail)⟩ <;> simp only [fullR, hee, if_true, if_false]
       rw [← zJm (zC1 hee).2.1 hok.len]
       unfold does
       rw [← g5, ← g6]
       simp [g0, g4, gb, gc])

abbrev qcells (l : List Load) : List (List Value) := l.map fun x => [Value.int .i64 x.least, .int .i64 x.most]
theorem qcells_succ {l : List Load} {i : Nat} (hi : i < l.length) : (qcells (l.take i)).flatten ++ [[Value.int .i64 l[i].least, .int .i64 l[i].most]].flatten = (qcells (l.take (i + 1))).flatten := by
  rw [List.take_succ_eq_append_getElem hi]; simp only [qcells, List.map_append, List.map_cons, List.map_nil, List.flatten_append]
theorem q_none {p : Port} {l : List Int} (h : ¬ enterErr p l = 0) : quayR p l = [] := by unfold quayR; rw [if_neg h]
theorem zI1 {p : Port} {l : List Int} (h : enterErr p l = 0) : qcells (loads p (pad l)) = sprow (quayR p l) := by
  unfold quayR; rw [if_pos h, loads_pad (zC1 h).2.1 (check_ok (zC1 h).1).len]; simp [qcells, quay]
theorem c11 {w0 w : World} {F : List (Nat × Obj)} (p : Port) (a : Option Addr) (c : Nat) (hl3 : p.farms.length ≤ 9223372036854775807) (hc : p.farms.length ≤ c) (ha : Sl w0 F a 6 (rows p.farms)) (hnm : ∀ f ∈ p.farms, f.name.size ≤ 9223372036854775807) (al : Option Addr) (cl : Nat) (l : List Int) (hll : l.length ≤ 9223372036854775807) (hl : Sl w0 F al 1 (l.map fun x => [Value.int .i64 x])) (hs : St w0 w F) :
  Con Tryz.prog 11 [.agg (p.cells a c).toArray, .slice al l.length cl] w fun v w' => ∃ B aq cq, v = .tuple #[.slice aq (quayR p l).length cq, .int .i64 (enterErr p l)] ∧ Sl w0 (B ++ F) aq 2 (sprow (quayR p l)) ∧ St w0 w' (B ++ F) := by
  refine zAu (n := 38) func11 rfl rfl (zNl rfl) ?_
  refine zAf (fun K2 gd => (zAa (zCa (v := .agg #[.int _ _, .int _ _, .int _ _, .slice _ _ _]) (cs := [_,_,_,_]) zAb rfl rfl rfl hs (fun b3 w4 g9 => ?_))))
  refine zBg rfl rfl (zBg rfl rfl (zAe (zAc (gd _ _ (zAf (fun K7 ga => (zAa (w_p (zA7 (vs := [_,_,_,_]) isAgg26 sizeOf26 g9 rfl rfl (zAh (i := 0) (vs := [_,_,_,_]) rfl rfl)) rfl ?_))))))))
  refine w_p (zAi (v := .slice _ _ _) rfl rfl) rfl (zAs zAb call37 rfl rfl rfl rfl (c37 p _ _ (by omega) (by omega) ha.cons hnm _ _ _ (by omega) hl.cons g9) ?_)
  rintro _ w9 (⟨hee, rfl, g0⟩ | ⟨hee, m, pb, rfl, g0⟩)
  ·
   refine w_p (zAi (v := .tuple _) rfl rfl) rfl (w_p (zAn (v := .pointer _) rfl rfl rfl) rfl (w_p (zAn (v := (ia _)) rfl rfl rfl) rfl (w_p (zAn (v := .int _ _) rfl rfl rfl) rfl ?_)))
   refine zBb (cs := iv [0,0,0]) zAb zeroValue81 rfl g0 (fun gz gA ge => ?_)
   refine w_p (zAm (v := .pointer _) rfl rfl) rfl (zCm (i := 0) (l := _) zAb sizeOf81 (by first | omega | rfl | (simp only [zB6, zL] <;> omega)) rfl rfl rfl rfl rfl ge rfl (by first | omega | rfl | (simp only [zB6, zL] <;> omega)) (fun gB gb => ?_))
   refine zBl rfl rfl (zAe (zAc (ga _ _ (zAf (fun gC gD => (zAf (fun gE gf => (zAa (zBa rfl rfl (w_p (zCt rfl rfl rfl rfl) rfl (zAe (zAc (gf _ _ (zAy rfl rfl (fun g4 => ?_) (fun g4 => ?_)))))))))))))))
   ·
    try simp only [zS] at g4
    refine zAf (fun gF gg => (zAa (zBa rfl rfl (zBg rfl rfl (zBl rfl rfl (zAe (zAc (gg _ _ (zA2 (zAk (zA9 (l := [.tmp 4, .tmp 5]) (vs := [_,_]) rfl ⟨⟨rfl, show _ = (.slice _ _ _ : Value) from rfl⟩, ⟨rfl, (rfl : _ = Value.int _ _)⟩, trivial⟩ ?_)))))))))))
    first
      | contradiction
      | (refine ⟨[], none, 0, ?_, ?_, gb.tail.tail⟩ <;> rw [q_none hee] <;> first | rfl | exact Sl.nil _ _)
      | (obtain ⟨aw, cw, rfl, hsw⟩ := hown.sl (w0 := w0) (rows := qcells (loads p (pad l))) (by intro row hr; obtain ⟨x, _, rfl⟩ := List.mem_map.1 hr; rfl) (by rw [List.length_map]; omega) (by rw [List.take_of_length_le (by omega)]) F
         rw [hee]
         rw [zI1 hee] at hsw
         rw [show (qcells (loads p (pad l))).length = (quayR p l).length from by rw [zI1 hee, List.length_map]]
         exact ⟨B, aw, cw, rfl, hsw, zH0 (St.cast (congrArg (B ++ ·) hz) gb)⟩)
   try simp only [zS] at g4
   all_goals exact absurd (by assumption) hee
  refine w_p (zAi (v := .tuple _) rfl rfl) rfl (w_p (zAn (v := .pointer _) rfl rfl rfl) rfl (w_p (zAn (v := (ia _)) rfl rfl rfl) rfl (w_p (zAn (v := .int _ _) rfl rfl rfl) rfl ?_)))
  refine zBb (cs := iv [0,0,0]) zAb zeroValue81 rfl g0 (fun gG gH gh => ?_)
  refine w_p (zAm (v := .pointer _) rfl rfl) rfl (zCm (i := 0) (l := _) zAb sizeOf81 (by first | omega | rfl | (simp only [zB6, zL] <;> omega)) rfl rfl rfl rfl rfl gh rfl (by first | omega | rfl | (simp only [zB6, zL] <;> omega)) (fun gI gc => ?_))
  refine zBl rfl rfl (zAe (zAc (ga _ _ (zAf (fun gJ gi => (zAf (fun gK gj => (zAa (zBa rfl rfl (w_p (zCt rfl rfl rfl rfl) rfl (zAe (zAc (gj _ _ (zAy rfl rfl (fun g5 => ?_) (fun g5 => ?_)))))))))))))))
  ·
   try simp only [zS] at g5
   all_goals contradiction
  try simp only [zS] at g5
  refine zAv (zAc (gi _ _ (zAf (fun gL gk => (zAf (fun gM gl => (zAa (w_p (zAi (v := .pointer _) rfl rfl) rfl (w_p (zB5 (i := 0) isAgg81 sizeOf81 (by first | omega | rfl | (simp only [zB6, zL] <;> omega)) gc rfl rfl rfl) rfl ?_)))))))))
  refine zAs zAb call38 rfl rfl rfl rfl (zGu (X := [_]) (M := [_]) p _ c m pb (zAh (i := 0) (vs := [_,_,_,_,_]) rfl rfl) ha.cons.cons (check_ok (zC1 hee).1) (pad l) (zB6 l) (pad_in hee) (zEz _ _ _) gc) ?_
  rintro _ gN ⟨Z, M1, al2, cl2, rfl, gO, hz, hsl, gm⟩
  have hlo := zD5 p (pad l)
  have hok := check_ok (zC1 hee).1
  have hcome := hok.come
  refine w_p (zBm underlying84 rfl rfl) rfl (w_p (zAi (v := _) rfl rfl) rfl (zAe (zAc (gl _ _ (zAz ?_)))))
  refine zB3 [4,9,24,25,26,27,28,29,30,31,32,33,34,35,36] [4,24] (fun k vs w => ∃ (i : Nat) (v : Value) (B : List (Nat × Obj)), vs = [v, .int .i64 i] ∧ i ≤ (loads p (pad l)).length ∧ k = (loads p (pad l)).length - i ∧ Rt.Own v 23 2 i (qcells ((loads p (pad l)).take i)).flatten B ∧ St w0 w (B ++ Z)) ((loads p (pad l)).length) ?_ ?_
  ·
   exact ⟨0, _, [], rfl, by omega, by omega, zD4 23 2, gm⟩
  intro k vs μ gP hI gQ gn
  obtain ⟨i, v, B, rfl, hia, rfl, hown, hs⟩ := hI
  refine zAf (fun gR go => (zAa (w_p (zCl rfl rfl rfl rfl) rfl (zAe (zAc (go _ _ (zAf (fun gT gp => (zAy rfl rfl (fun g6 => ?_) (fun g6 => ?_))))))))))
  ·
   try simp only [zS] at g6
   refine zAv (zAc (gp _ _ (zAf (fun gU gq => (zAz ?_)))))
   refine zAf (fun gV gr => ?_)
   have hx2 : i < (loads p (pad l)).length := by omega
   obtain ⟨bx, ox, rfl, hx⟩ := sl_load hsl hx2
   refine zAa (w_p (zBc underlying84 sizeOf87 rfl rfl rfl rfl (i := _) rfl (by omega)) rfl (w_p (zA7 (vs := [_,_,_]) isAgg87 sizeOf87 hs.drop rfl rfl hx) rfl (zBb (cs := [_,_,_]) zAb zeroValue87 rfl hs (fun gW gX gt => ?_))))
   refine zA4 (i := 0) (v := .agg #[.int _ _, .int _ _, .int _ _]) (vs := [_,_,_]) zAb sizeOf87 rfl rfl rfl rfl rfl (by simp [Value.oneCell']) gt rfl (zNl rfl) (fun gY g7 => ?_)
   refine zAe (zAc (gr _ _ (zAa (w_p (zAi (v := v) rfl rfl) rfl (w_p (zAd (o := 0) (i := 0) underlying87 rfl sizeOf3 rfl rfl rfl) rfl (w_p (zAj isAgg3 g7 rfl rfl (zAh (i := 0) (vs := [_]) rfl rfl)) rfl ?_))))))
   refine w_p (zAd (o := 1) (i := 1) underlying87 rfl sizeOf3 rfl rfl rfl) rfl (w_p (zAj isAgg3 g7 rfl rfl (zAh (i := 0) (vs := [_]) rfl rfl)) rfl (w_p (zBy (ps := [(0, _),(1, _)]) (pv := [(0, .int _ _),(1, .int _ _)]) rfl rfl (fun w => Try_CJ_fb5 _ _ w)) rfl ?_))
   refine zA0 (ps := [(0, _)]) (pv := [(0, .agg #[.int _ _, .int _ _])]) (cs := [_,_]) zAb rfl rfl (fun w => Try_CJ_fb6 _ _ w) g7 (fun gZ hD gu => ?_)
   refine zBu (X := (_ :: _ :: [])) (B := B) (rows := [[_,_]]) (sz := 2) (bytes := 16) zAb underlying50 Try_info23 rfl rfl rfl rfl rfl rfl rfl rfl rfl gu hown (zBp (i := 0) rfl (by simp) rfl) rfl (by simp) (by simp [Value.oneCell']) (by simp only [maxLen]; omega) (by omega) (fun gv hO gw gx g8 => ?_)
   replace g8 := (show St _ _ (_ :: _ :: gw ++ (Z)) from g8)
   refine w_p (zAm (v := gv) rfl rfl) rfl (zAe (zAl (zAc (gq _ _ (zAa (w_p (zBj rfl rfl rfl rfl (by omega) (by omega)) rfl (zBa rfl rfl (zAe (zAc (gn _ _ (nxI ((loads p (pad l)).length - (i + 1)) (by omega) ?_)))))))))))
   exact ⟨i + 1, _,_, rfl, by omega, rfl, by rw [← qcells_succ hx2]; exact gx, g8.tail.tail⟩
  try simp only [zS] at g6
  refine zBq (zAo (zAo (zA8 (zAc (gk _ _ (zAf (fun hP gy => (zAa (w_p (zAi (v := v) rfl rfl) rfl (w_p (zAm (v := v) rfl rfl) rfl ?_))))))))))
  refine zBg rfl rfl (zAe (zAc (gy _ _ (zA2 (zA9 (l := [.tmp 4, .tmp 5]) (vs := [_,_]) rfl ⟨⟨rfl, show _ = (v : Value) from rfl⟩, ⟨rfl, (rfl : _ = Value.int _ _)⟩, trivial⟩ ?_)))))
  first
    | contradiction
    | (refine ⟨[], none, 0, ?_, ?_, hs.drop⟩ <;> rw [q_none hee] <;> first | rfl | exact Sl.nil _ _)
    | (obtain ⟨aw, cw, rfl, hsw⟩ := hown.sl (w0 := w0) (rows := qcells (loads p (pad l))) (by intro row hr; obtain ⟨x, _, rfl⟩ := List.mem_map.1 hr; rfl) (by rw [List.length_map]; omega) (by rw [List.take_of_length_le (by omega)]) F
       rw [hee]
       rw [zI1 hee] at hsw
       rw [show (qcells (loads p (pad l))).length = (quayR p l).length from by rw [zI1 hee, List.length_map]]
       exact ⟨B, aw, cw, rfl, hsw, zH0 (St.cast (congrArg (B ++ ·) hz) hs)⟩)

end Go.Proofs.Cb
set_option maxRecDepth 20000
namespace Go.Proofs.Cb
open Go.Proofs.Tryz
open Go.Rt Go.Rt.Ca
attribute [local irreducible] WL WC Con Yd At Ats Sl Agree DW
theorem c11b {w0 w : World} {F : List (Nat × Obj)} (p : Port) (a : Option Addr) (c : Nat) (hl3 : p.farms.length ≤ 9223372036854775807) (hc : p.farms.length ≤ c) (ha : Sl w0 F a 6 (rows p.farms)) (hnm : ∀ f ∈ p.farms, f.name.size ≤ 9223372036854775807) (al : Option Addr) (cl : Nat) (l : List Int) (hll : l.length ≤ 9223372036854775807) (hl : Sl w0 F al 1 (l.map fun x => [Value.int .i64 x])) (hs : St w0 w F) :
  Con Tryz.prog 11 [.agg (p.cells a c).toArray, .slice al l.length cl] w fun v w' => ∃ B aq cq, v = .tuple #[.slice aq (quayR p l).length cq, .int .i64 (enterErr p l)] ∧ Sl w0 B aq 2 (sprow (quayR p l)) ∧ St w0 w' (B ++ F) := by
  refine zAu (n := 38) func11 rfl rfl (zNl rfl) ?_
  refine zAf (fun K2 gd => (zAa (zCa (v := .agg #[.int _ _, .int _ _, .int _ _, .slice _ _ _]) (cs := [_,_,_,_]) zAb rfl rfl rfl hs (fun b3 w4 g9 => ?_))))
  refine zBg rfl rfl (zBg rfl rfl (zAe (zAc (gd _ _ (zAf (fun K7 ga => (zAa (w_p (zA7 (vs := [_,_,_,_]) isAgg26 sizeOf26 g9 rfl rfl (zAh (i := 0) (vs := [_,_,_,_]) rfl rfl)) rfl ?_))))))))
  refine w_p (zAi (v := .slice _ _ _) rfl rfl) rfl (zAs zAb call37 rfl rfl rfl rfl (c37 p _ _ (by omega) (by omega) ha.cons hnm _ _ _ (by omega) hl.cons g9) ?_)
  rintro _ w9 (⟨hee, rfl, g0⟩ | ⟨hee, m, pb, rfl, g0⟩)
  ·
   refine w_p (zAi (v := .tuple _) rfl rfl) rfl (w_p (zAn (v := .pointer _) rfl rfl rfl) rfl (w_p (zAn (v := (ia _)) rfl rfl rfl) rfl (w_p (zAn (v := .int _ _) rfl rfl rfl) rfl ?_)))
   refine zBb (cs := iv [0,0,0]) zAb zeroValue81 rfl g0 (fun gz gA ge => ?_)
   refine w_p (zAm (v := .pointer _) rfl rfl) rfl (zCm (i := 0) (l := _) zAb sizeOf81 (by first | omega | rfl | (simp only [zB6, zL] <;> omega)) rfl rfl rfl rfl rfl ge rfl (by first | omega | rfl | (simp only [zB6, zL] <;> omega)) (fun gB gb => ?_))
   refine zBl rfl rfl (zAe (zAc (ga _ _ (zAf (fun gC gD => (zAf (fun gE gf => (zAa (zBa rfl rfl (w_p (zCt rfl rfl rfl rfl) rfl (zAe (zAc (gf _ _ (zAy rfl rfl (fun g4 => ?_) (fun g4 => ?_)))))))))))))))
   ·
    try simp only [zS] at g4
    refine zAf (fun gF gg => (zAa (zBa rfl rfl (zBg rfl rfl (zBl rfl rfl (zAe (zAc (gg _ _ (zA2 (zAk (zA9 (l := [.tmp 4, .tmp 5]) (vs := [_,_]) rfl ⟨⟨rfl, show _ = (.slice _ _ _ : Value) from rfl⟩, ⟨rfl, (rfl : _ = Value.int _ _)⟩, trivial⟩ ?_)))))))))))
    first
      | contradiction
      | (refine ⟨[], none, 0, ?_, ?_, gb.tail.tail⟩ <;> rw [q_none hee] <;> first | rfl | exact Sl.nil _ _)
      | (obtain ⟨aw, cw, rfl, hsw⟩ := hown.sl (w0 := w0) (rows := qcells (loads p (pad l))) (by intro row hr; obtain ⟨x, _, rfl⟩ := List.mem_map.1 hr; rfl) (by rw [List.length_map]; omega) (by rw [List.take_of_length_le (by omega)]) []
         rw [List.append_nil] at hsw
         rw [hee]
         rw [zI1 hee] at hsw
         rw [show (qcells (loads p (pad l))).length = (quayR p l).length from by rw [zI1 hee, List.length_map]]
         exact ⟨B, aw, cw, rfl, hsw, zH0 (St.cast (congrArg (B ++ ·) hz) gb)⟩)
   try simp only [zS] at g4
   all_goals exact absurd (by assumption) hee
  refine w_p (zAi (v := .tuple _) rfl rfl) rfl (w_p (zAn (v := .pointer _) rfl rfl rfl) rfl (w_p (zAn (v := (ia _)) rfl rfl rfl) rfl (w_p (zAn (v := .int _ _) rfl rfl rfl) rfl ?_)))
  refine zBb (cs := iv [0,0,0]) zAb zeroValue81 rfl g0 (fun gG gH gh => ?_)
  refine w_p (zAm (v := .pointer _) rfl rfl) rfl (zCm (i := 0) (l := _) zAb sizeOf81 (by first | omega | rfl | (simp only [zB6, zL] <;> omega)) rfl rfl rfl rfl rfl gh rfl (by first | omega | rfl | (simp only [zB6, zL] <;> omega)) (fun gI gc => ?_))
  refine zBl rfl rfl (zAe (zAc (ga _ _ (zAf (fun gJ gi => (zAf (fun gK gj => (zAa (zBa rfl rfl (w_p (zCt rfl rfl rfl rfl) rfl (zAe (zAc (gj _ _ (zAy rfl rfl (fun g5 => ?_) (fun g5 => ?_)))))))))))))))
  ·
   try simp only [zS] at g5
   all_goals contradiction
  try simp only [zS] at g5
  refine zAv (zAc (gi _ _ (zAf (fun gL gk => (zAf (fun gM gl => (zAa (w_p (zAi (v := .pointer _) rfl rfl) rfl (w_p (zB5 (i := 0) isAgg81 sizeOf81 (by first | omega | rfl | (simp only [zB6, zL] <;> omega)) gc rfl rfl rfl) rfl ?_)))))))))
  refine zAs zAb call38 rfl rfl rfl rfl (zGu (X := [_]) (M := [_]) p _ c m pb (zAh (i := 0) (vs := [_,_,_,_,_]) rfl rfl) ha.cons.cons (check_ok (zC1 hee).1) (pad l) (zB6 l) (pad_in hee) (zEz _ _ _) gc) ?_
  rintro _ gN ⟨Z, M1, al2, cl2, rfl, gO, hz, hsl, gm⟩
  have hlo := zD5 p (pad l)
  have hok := check_ok (zC1 hee).1
  have hcome := hok.come
  refine w_p (zBm underlying84 rfl rfl) rfl (w_p (zAi (v := _) rfl rfl) rfl (zAe (zAc (gl _ _ (zAz ?_)))))
  refine zB3 [4,9,24,25,26,27,28,29,30,31,32,33,34,35,36] [4,24] (fun k vs w => ∃ (i : Nat) (v : Value) (B : List (Nat × Obj)), vs = [v, .int .i64 i] ∧ i ≤ (loads p (pad l)).length ∧ k = (loads p (pad l)).length - i ∧ Rt.Own v 23 2 i (qcells ((loads p (pad l)).take i)).flatten B ∧ St w0 w (B ++ Z)) ((loads p (pad l)).length) ?_ ?_
  ·
   exact ⟨0, _, [], rfl, by omega, by omega, zD4 23 2, gm⟩
  intro k vs μ gP hI gQ gn
  obtain ⟨i, v, B, rfl, hia, rfl, hown, hs⟩ := hI
  refine zAf (fun gR go => (zAa (w_p (zCl rfl rfl rfl rfl) rfl (zAe (zAc (go _ _ (zAf (fun gT gp => (zAy rfl rfl (fun g6 => ?_) (fun g6 => ?_))))))))))
  ·
   try simp only [zS] at g6
   refine zAv (zAc (gp _ _ (zAf (fun gU gq => (zAz ?_)))))
   refine zAf (fun gV gr => ?_)
   have hx2 : i < (loads p (pad l)).length := by omega
   obtain ⟨bx, ox, rfl, hx⟩ := sl_load hsl hx2
   refine zAa (w_p (zBc underlying84 sizeOf87 rfl rfl rfl rfl (i := _) rfl (by omega)) rfl (w_p (zA7 (vs := [_,_,_]) isAgg87 sizeOf87 hs.drop rfl rfl hx) rfl (zBb (cs := [_,_,_]) zAb zeroValue87 rfl hs (fun gW gX gt => ?_))))
   refine zA4 (i := 0) (v := .agg #[.int _ _, .int _ _, .int _ _]) (vs := [_,_,_]) zAb sizeOf87 rfl rfl rfl rfl rfl (by simp [Value.oneCell']) gt rfl (zNl rfl) (fun gY g7 => ?_)
   refine zAe (zAc (gr _ _ (zAa (w_p (zAi (v := v) rfl rfl) rfl (w_p (zAd (o := 0) (i := 0) underlying87 rfl sizeOf3 rfl rfl rfl) rfl (w_p (zAj isAgg3 g7 rfl rfl (zAh (i := 0) (vs := [_]) rfl rfl)) rfl ?_))))))
   refine w_p (zAd (o := 1) (i := 1) underlying87 rfl sizeOf3 rfl rfl rfl) rfl (w_p (zAj isAgg3 g7 rfl rfl (zAh (i := 0) (vs := [_]) rfl rfl)) rfl (w_p (zBy (ps := [(0, _),(1, _)]) (pv := [(0, .int _ _),(1, .int _ _)]) rfl rfl (fun w => Try_CJ_fb5 _ _ w)) rfl ?_))
   refine zA0 (ps := [(0, _)]) (pv := [(0, .agg #[.int _ _, .int _ _])]) (cs := [_,_]) zAb rfl rfl (fun w => Try_CJ_fb6 _ _ w) g7 (fun gZ hD gu => ?_)
   refine zBu (X := (_ :: _ :: [])) (B := B) (rows := [[_,_]]) (sz := 2) (bytes := 16) zAb underlying50 Try_info23 rfl rfl rfl rfl rfl rfl rfl rfl rfl gu hown (zBp (i := 0) rfl (by simp) rfl) rfl (by simp) (by simp [Value.oneCell']) (by simp only [maxLen]; omega) (by omega) (fun gv hO gw gx g8 => ?_)
   replace g8 := (show St _ _ (_ :: _ :: gw ++ (Z)) from g8)
   refine w_p (zAm (v := gv) rfl rfl) rfl (zAe (zAl (zAc (gq _ _ (zAa (w_p (zBj rfl rfl rfl rfl (by omega) (by omega)) rfl (zBa rfl rfl (zAe (zAc (gn _ _ (nxI ((loads p (pad l)).length - (i + 1)) (by omega) ?_)))))))))))
   exact ⟨i + 1, _,_, rfl, by omega, rfl, by rw [← qcells_succ hx2]; exact gx, g8.tail.tail⟩
  try simp only [zS] at g6
  refine zBq (zAo (zAo (zA8 (zAc (gk _ _ (zAf (fun hP gy => (zAa (w_p (zAi (v := v) rfl rfl) rfl (w_p (zAm (v := v) rfl rfl) rfl ?_))))))))))
  refine zBg rfl rfl (zAe (zAc (gy _ _ (zA2 (zA9 (l := [.tmp 4, .tmp 5]) (vs := [_,_]) rfl ⟨⟨rfl, show _ = (v : Value) from rfl⟩, ⟨rfl, (rfl : _ = Value.int _ _)⟩, trivial⟩ ?_)))))
  first
    | contradiction
    | (refine ⟨[], none, 0, ?_, ?_, hs.drop⟩ <;> rw [q_none hee] <;> first | rfl | exact Sl.nil _ _)
    | (obtain ⟨aw, cw, rfl, hsw⟩ := hown.sl (w0 := w0) (rows := qcells (loads p (pad l))) (by intro row hr; obtain ⟨x, _, rfl⟩ := List.mem_map.1 hr; rfl) (by rw [List.length_map]; omega) (by rw [List.take_of_length_le (by omega)]) []
       rw [List.append_nil] at hsw
       rw [hee]
       rw [zI1 hee] at hsw
       rw [show (qcells (loads p (pad l))).length = (quayR p l).length from by rw [zI1 hee, List.length_map]]
       exact ⟨B, aw, cw, rfl, hsw, zH0 (St.cast (congrArg (B ++ ·) hz) hs)⟩)

end Go.Proofs.Cb
set_option maxRecDepth 20000
namespace Go.Proofs.Cb
open Go.Proofs.Tryz
open Go.Rt Go.Rt.Ca
attribute [local irreducible] WL WC Con Yd At Ats Sl Agree DW

def NextC (n below bp bl bla bY bb bn : Nat) (Ls : List (List Int)) (J : Nat → List (Nat × Obj) → Prop) (Js : List (Nat × Obj) → Prop) (yv : Value) (w0 : World) (F : List (Nat × Obj)) (rem : Nat) : Prop :=
  ∀ (d : Nat) (pre cur last : List Int) (i : Nat) (R : List (List Int)) (B X : List (Nat × Obj)) (w : World), d + rem = n → pre.length = d → cur.length = 3 → cur.take d = pre → (∀ j, n ≤ j → cur.getD j 0 = 0) → i ≤ Ls.length →
    Ls.drop i = (seg (dys below) rem pre).map pad ++ R → last.length = 3 → last ∉ Ls.drop i → J i B → St w0 w ((bn, blk 126 [.func (.func 82) #[] #[.pointer (some ⟨bp, 0, none⟩), .pointer (some ⟨bl, 0, none⟩), .pointer (some ⟨bla, 0, none⟩), .pointer (some ⟨bY, 0, none⟩), .pointer (some ⟨bb, 0, none⟩), .pointer (some ⟨bn, 0, none⟩)]]) :: (bla, blk 81 (iv last)) :: (bl, blk 81 (iv cur)) :: (bY, blk 148 [yv]) :: (X ++ (B ++ F))) →
    Con Tryz.prog 82 [.int .i64 (d : Int), .pointer (some ⟨bp, 0, none⟩), .pointer (some ⟨bl, 0, none⟩), .pointer (some ⟨bla, 0, none⟩), .pointer (some ⟨bY, 0, none⟩), .pointer (some ⟨bb, 0, none⟩), .pointer (some ⟨bn, 0, none⟩)] w fun v w' => ∃ (cur' last' : List Int) (B' : List (Nat × Obj)), cur'.length = 3 ∧ last'.length = 3 ∧ cur'.take d = pre ∧ (∀ j, n ≤ j → cur'.getD j 0 = 0) ∧ St w0 w' ((bn, blk 126 [.func (.func 82) #[] #[.pointer (some ⟨bp, 0, none⟩), .pointer (some ⟨bl, 0, none⟩), .pointer (some ⟨bla, 0, none⟩), .pointer (some ⟨bY, 0, none⟩), .pointer (some ⟨bb, 0, none⟩), .pointer (some ⟨bn, 0, none⟩)]]) :: (bla, blk 81 (iv last')) :: (bl, blk 81 (iv cur')) :: (bY, blk 148 [yv]) :: (X ++ (B' ++ F))) ∧
      ((v = .bool true ∧ ∃ i', i' ≤ Ls.length ∧ Ls.drop i' = R ∧ last' ∉ R ∧ J i' B') ∨ (v = .bool false ∧ Js B'))
theorem seg_more {Ls R : List (List Int)} {below q r i : Nat} {pre : List Int} (hq : q < below + 1) (h : Ls.drop i = (((dys below).drop q).flatMap fun x => seg (dys below) r (pre ++ [x])).map pad ++ R) :
    Ls.drop i = (seg (dys below) r (pre ++ [if q = below then -1 else (q : Int)])).map pad ++ ((((dys below).drop (q + 1)).flatMap fun x => seg (dys below) r (pre ++ [x])).map pad ++ R) := by
  rw [dys_drop hq, List.flatMap_cons, List.map_append, List.append_assoc] at h; exact h
theorem c82 {w0 : World} {F : List (Nat × Obj)} (p : Port) (a : Option Addr) (c m pb : Nat) (hp : Ats w0 F pb 0 [.int .i64 p.hold, .int .i64 p.clo, .int .i64 p.chi, .slice a p.farms.length c, .map (some m)]) (ha : Sl w0 F a 6 (rows p.farms)) (hok : p.Ok) (n below bp bl bla bY bb bn : Nat) (hbe : below ≤ 11) (h1 : Ats w0 F bp 0 [.pointer (some ⟨pb, 0, none⟩)]) (h5 : Ats w0 F bb 0 [.int .i64 (below : Int)]) (hn : n = p.farms.length) (Ls : List (List Int)) (hnd : Ls.Nodup) (J : Nat → List (Nat × Obj) → Prop) (Js : List (Nat × Obj) → Prop) (yv : Value) (hy : ∀ (i : Nat) (x : List Int) (R : List (List Int)) (B X : List (Nat × Obj)) (w : World), Ls.drop i = x :: R → J i B → St w0 w (X ++ (B ++ F)) → FCon Tryz.prog yv [ia x] w fun v w' => ∃ B', St w0 w' (X ++ (B' ++ F)) ∧ (v = .bool true ∧ J (i + 1) B' ∨ v = .bool false ∧ Js B')) (rem : Nat) (ih : ∀ r, rem = r + 1 → NextC n below bp bl bla bY bb bn Ls J Js yv w0 F r) : NextC n below bp bl bla bY bb bn Ls J Js yv w0 F rem := by
  intro d pre cur last i R B X w hdr hpl hcl hk hz hi hpos hll hlast hJ hs
  have hlen3 := hok.len
  have hcl3 := hcl
  refine zAu (n := 44) func82 rfl rfl (zNl rfl) ?_
  refine zAf (fun K2 gi => (zAa (zBg rfl rfl (zAe (zAc (gi _ _ (zAf (fun K4 gj => (zAf (fun K6 gk => (zAa (zBa rfl rfl (w_p (zAj isAgg79 hs.tail.tail.tail.tail.drop.drop rfl rfl h1) rfl ?_)))))))))))))
  refine w_p (zBi rfl rfl) rfl (w_p (zAd (o := 0) (i := 0) underlying137 rfl sizeOf26 rfl rfl rfl) rfl (w_p (zAd (o := 3) (i := 2) underlying26 rfl sizeOf24 rfl rfl rfl) rfl (w_p (zAj isAgg24 hs.tail.tail.tail.tail.drop.drop rfl rfl (show Ats _ _ _ _ [_] from Ats.part hp 3 1)) rfl ?_)))
  refine w_p (zBm underlying24 rfl rfl) rfl (w_p (zBw rfl rfl rfl rfl) rfl (zAe (zAc (gk _ _ (zAy rfl rfl (fun h7 => ?_) (fun h7 => ?_))))))
  ·
   try simp only [zS] at h7
   refine zAf (fun K9 gl => (zAf (fun gz gm => ?_)))
   have hr0 : rem = 0 := by omega
   subst hr0
   have hcur := cur_pad (n := d) hcl hpl (by omega) hk (by have hdn : d = n := (by omega); subst hdn; exact hz)
   simp only [seg, List.map_cons, List.map_nil, List.cons_append, List.nil_append, ← hcur] at hpos
   have hne : ¬ cur = last := fun e => hlast (by rw [hpos, ← e]; exact .head _)
   refine zAa (w_p (zB5 (i := 2) isAgg81 sizeOf81 (by first | omega | rfl | (simp only [zL] <;> omega)) hs rfl rfl rfl) rfl ?_)
   refine w_p (zB5 (i := 1) isAgg81 sizeOf81 (by first | omega | rfl | (simp only [zL] <;> omega)) hs rfl rfl rfl) rfl ?_
   refine w_p (zHj (l := _) (m := _) eqGuardType81 Try_flat81 (by first | omega | rfl | (simp only [zL] <;> omega)) (by first | omega | rfl | (simp only [zL] <;> omega)) rfl rfl rfl rfl rfl rfl) rfl ?_
   refine zAe (zAc (gm _ _ (zAy rfl rfl (fun g7 => ?_) (fun g7 => ?_))))
   ·
    try simp only [zS] at g7
    exact absurd (by assumption) hne
   try simp only [zS] at g7
   refine zAv (zAc (gl _ _ (zAf (fun gA gn => (zAa (w_p (zB5 (i := 2) isAgg81 sizeOf81 (by first | omega | rfl | (simp only [zL] <;> omega)) hs rfl rfl rfl) rfl ?_))))))
   refine zCm (i := 1) (l := _) zAb sizeOf81 (by first | omega | rfl | (simp only [zL] <;> omega)) rfl rfl rfl rfl rfl hs rfl (by first | omega | rfl | (simp only [zL] <;> omega)) (fun gB g8 => ?_)
   refine zAe (zAc (gn _ _ (zAf (fun gC gb => (zAa (w_p (zAj isAgg148 g8 rfl rfl (zAh (i := 3) (vs := [_]) rfl rfl)) rfl (w_p (zB5 (i := 2) isAgg81 sizeOf81 (by first | omega | rfl | (simp only [zL] <;> omega)) g8 rfl rfl rfl) rfl ?_)))))))
   refine zEt zAb rfl rfl rfl rfl (hy i _ R B (_ :: _ :: _ :: _ :: X) _ hpos hJ g8) ?_
   rintro _ gD ⟨B1, g0, (⟨rfl, hJ1⟩ | ⟨rfl, hJ1⟩)⟩
   ·
    replace g0 := (show St _ _ (_ :: _ :: _ :: _ :: X ++ (B1 ++ (F))) from g0)
    refine w_p (zAm (v := .bool _) rfl rfl) rfl (zAe (zAc (gb _ _ (zA2 (zAk (zA9 (l := [.tmp 8]) (vs := [_]) rfl ⟨⟨rfl, (rfl : _ = Value.bool _)⟩, trivial⟩ ?_))))))
    first
      | exact ⟨cur, cur, B1, hcl, hcl, hk, hz, g0, .inl ⟨rfl, i + 1, zCo hpos, zCb hpos, zCj hnd hpos, hJ1⟩⟩
      | exact ⟨cur, cur, B1, hcl, hcl, hk, hz, g0, .inr ⟨rfl, hJ1⟩⟩
      | exact ⟨cur2, last2, B2, hc2, hl2, zB2 hk2 hpl, hz2, g0, .inr ⟨rfl, hJ2⟩⟩
      | exact ⟨cur, last, B, hcl, hll, hk, hz, g0, .inl ⟨rfl, i, hi, (by rw [hpos, show q = below + 1 from by omega, zE7]; rfl), (by rw [← show Ls.drop i = R from by rw [hpos, show q = below + 1 from by omega, zE7]; rfl]; exact hlast), hJ⟩⟩
   replace g0 := (show St _ _ (_ :: _ :: _ :: _ :: X ++ (B1 ++ (F))) from g0)
   refine w_p (zAm (v := .bool _) rfl rfl) rfl (zAe (zAc (gb _ _ (zA2 (zAk (zA9 (l := [.tmp 8]) (vs := [_]) rfl ⟨⟨rfl, (rfl : _ = Value.bool _)⟩, trivial⟩ ?_))))))
   first
     | exact ⟨cur, cur, B1, hcl, hcl, hk, hz, g0, .inl ⟨rfl, i + 1, zCo hpos, zCb hpos, zCj hnd hpos, hJ1⟩⟩
     | exact ⟨cur, cur, B1, hcl, hcl, hk, hz, g0, .inr ⟨rfl, hJ1⟩⟩
     | exact ⟨cur2, last2, B2, hc2, hl2, zB2 hk2 hpl, hz2, g0, .inr ⟨rfl, hJ2⟩⟩
     | exact ⟨cur, last, B, hcl, hll, hk, hz, g0, .inl ⟨rfl, i, hi, (by rw [hpos, show q = below + 1 from by omega, zE7]; rfl), (by rw [← show Ls.drop i = R from by rw [hpos, show q = below + 1 from by omega, zE7]; rfl]; exact hlast), hJ⟩⟩
  try simp only [zS] at h7
  refine zAv (zAc (gj _ _ (zAf (fun gE go => (zAf (fun gF gp => ?_))))))
  obtain ⟨r, rfl⟩ : ∃ r, rem = r + 1 := ⟨rem - 1, by omega⟩
  have ih2 := ih r rfl
  simp only [seg] at hpos
  refine zAa (w_p (zAj isAgg3 hs.tail.tail.tail.tail.drop.drop rfl rfl h5) rfl (w_p (zBj rfl rfl rfl rfl (by omega) (by omega)) rfl (w_p (zAi (v := _) rfl rfl) rfl (zAe (zAc (gp _ _ (zAz ?_)))))))
  refine zB3 [8,9,27,28,29,30,31,32,33,34,35,36,37,38,39,40,41,42,43] [27] (fun k vs w => ∃ (q : Nat) (cur last : List Int) (i : Nat) (B : List (Nat × Obj)), vs = [.int .i64 q] ∧ q ≤ below + 1 ∧ k = below + 1 - q ∧ cur.length = 3 ∧ last.length = 3 ∧ cur.take d = pre ∧ (∀ j, n ≤ j → cur.getD j 0 = 0) ∧ i ≤ Ls.length ∧ Ls.drop i = (((dys below).drop q).flatMap fun x => seg (dys below) r (pre ++ [x])).map pad ++ R ∧ last ∉ Ls.drop i ∧ J i B ∧ St w0 w ((bn, blk 126 [.func (.func 82) #[] #[.pointer (some ⟨bp, 0, none⟩), .pointer (some ⟨bl, 0, none⟩), .pointer (some ⟨bla, 0, none⟩), .pointer (some ⟨bY, 0, none⟩), .pointer (some ⟨bb, 0, none⟩), .pointer (some ⟨bn, 0, none⟩)]]) :: (bla, blk 81 (iv last)) :: (bl, blk 81 (iv cur)) :: (bY, blk 148 [yv]) :: (X ++ (B ++ F)))) (below + 1) ?_ ?_
  ·
   exact ⟨0, cur, last, i, B, rfl, by omega, by omega, hcl, hll, hk, hz, hi, hpos, hlast, hJ, hs⟩
  intro k vs μ gG hI gH gc
  clear hk hz hi hpos hll hlast hJ hs hcl hcl3
  obtain ⟨q, cur, last, i, B, rfl, hq, rfl, hcl, hll, hk, hz, hi, hpos, hlast, hJ, hs⟩ := hI
  have hcl3 := hcl
  refine zAf (fun gI gq => (zAa (w_p (zCl rfl rfl rfl rfl) rfl (zAe (zAc (gq _ _ (zAf (fun gJ gr => (zAy rfl rfl (fun g9 => ?_) (fun g9 => ?_))))))))))
  ·
   try simp only [zS] at g9
   refine zAv (zAc (gr _ _ (zAf (fun gK gd => (zAz ?_)))))
   refine zAf (fun gL gt => (zAa (zBa rfl rfl (zBl rfl rfl (zAe (zAc (gt _ _ (zAf (fun gM ge => (zAf (fun gN gu => (zAa (zBa rfl rfl (zBa rfl rfl ?_))))))))))))))
   refine w_p (zC3 underlying81 sizeOf3 rfl rfl rfl rfl (i := d) (by first | rfl | omega) (by omega)) rfl ?_
   refine zDz (i := 2) (j := d) zAb sizeOf3 rfl rfl rfl rfl hs rfl (by first | omega | rfl | (simp only [zL] <;> omega)) (fun gO g6 => ?_)
   refine zAe (zAc (gu _ _ (zAf (fun gP gv => (zAa (zBa rfl rfl (w_p (zAj isAgg3 g6.tail.tail.tail.tail.drop.drop rfl rfl h5) rfl (w_p (zBw rfl rfl rfl rfl) rfl (zAe (zAc (gv _ _ (zAy rfl rfl (fun ga => ?_) (fun ga => ?_)))))))))))))
   ·
    try simp only [zS] at ga
    refine zAa (zBa rfl rfl (w_p (zC3 underlying81 sizeOf3 rfl rfl rfl rfl (i := d) (by first | rfl | omega) (by omega)) rfl ?_))
    refine zDz (i := 2) (j := d) zAb sizeOf3 rfl rfl rfl rfl g6 rfl (by first | omega | rfl | (simp only [zL] <;> omega)) (fun gQ gf => ?_)
    refine zAe (zAc (ge _ _ (zAf (fun gR gg => (zAa ?_)))))
    first
      | have hdy : (if q = below then (-1 : Int) else (q : Int)) = -1 := if_pos (by omega)
      | have hdy : (if q = below then (-1 : Int) else (q : Int)) = (q : Int) := if_neg (by omega)
    refine w_p (zAj isAgg126 gf rfl rfl (zAh (i := 0) (vs := [_]) rfl rfl)) rfl (zBa rfl rfl (w_p (zBj rfl rfl rfl rfl (by omega) (by omega)) rfl (zAs zAb call82 rfl rfl rfl rfl (ih2 (d + 1) (pre ++ [if q = below then -1 else (q : Int)]) _ last i _ B X _ (by omega) (by simp; omega) (by first | omega | (simp only [List.length_set]; omega)) (by rw [hdy]; exact zC5 _ (by first | exact hk | exact set_keep _ hk) (by first | omega | (simp only [List.length_set]; omega))) (by first | exact zCv _ (by omega) (zCv _ (by omega) hz) | exact zCv _ (by omega) hz) hi (seg_more (by omega) hpos) hll hlast hJ gf) ?_)))
    rintro _ gT ⟨cur2, last2, B2, hc2, hl2, hk2, hz2, g4, (⟨rfl, i2, hi2, hp2, hn2, hJ2⟩ | ⟨rfl, hJ2⟩)⟩
    ·
     refine w_p (zDi rfl rfl) rfl (zAe (zAc (gg _ _ (zCc rfl rfl ?_))))
     refine zAv (zAl (zAc (gd _ _ (zAa (w_p (zBj rfl rfl rfl rfl (by omega) (by omega)) rfl (zBa rfl rfl (zAe (zAc (gc _ _ (nxI (below + 1 - (q + 1)) (by omega) ?_))))))))))
     exact ⟨q + 1, cur2, last2, i2, B2, rfl, by omega, rfl, hc2, hl2, zB2 hk2 hpl, hz2, hi2, hp2, (by rw [hp2]; exact hn2), hJ2, g4⟩
    refine w_p (zDi rfl rfl) rfl (zAe (zAc (gg _ _ (zCh rfl rfl ?_))))
    refine zAf (fun gU gw => (zAa (zBg rfl rfl (zAe (zAc (gw _ _ (zA2 (zAt (zAk (zAk (zAt (zAk (zA9 (l := [.tmp 8]) (vs := [_]) rfl ⟨⟨rfl, (rfl : _ = Value.bool _)⟩, trivial⟩ ?_)))))))))))))
    first
      | exact ⟨cur, cur, B1, hcl, hcl, hk, hz, g4, .inl ⟨rfl, i + 1, zCo hpos, zCb hpos, zCj hnd hpos, hJ1⟩⟩
      | exact ⟨cur, cur, B1, hcl, hcl, hk, hz, g4, .inr ⟨rfl, hJ1⟩⟩
      | exact ⟨cur2, last2, B2, hc2, hl2, zB2 hk2 hpl, hz2, g4, .inr ⟨rfl, hJ2⟩⟩
      | exact ⟨cur, last, B, hcl, hll, hk, hz, g4, .inl ⟨rfl, i, hi, (by rw [hpos, show q = below + 1 from by omega, zE7]; rfl), (by rw [← show Ls.drop i = R from by rw [hpos, show q = below + 1 from by omega, zE7]; rfl]; exact hlast), hJ⟩⟩
   try simp only [zS] at ga
   refine zAv (zAc (ge _ _ (zAf (fun gV gh => (zAa ?_)))))
   first
     | have hdy : (if q = below then (-1 : Int) else (q : Int)) = -1 := if_pos (by omega)
     | have hdy : (if q = below then (-1 : Int) else (q : Int)) = (q : Int) := if_neg (by omega)
   refine w_p (zAj isAgg126 g6 rfl rfl (zAh (i := 0) (vs := [_]) rfl rfl)) rfl (zBa rfl rfl (w_p (zBj rfl rfl rfl rfl (by omega) (by omega)) rfl (zAs zAb call82 rfl rfl rfl rfl (ih2 (d + 1) (pre ++ [if q = below then -1 else (q : Int)]) _ last i _ B X _ (by omega) (by simp; omega) (by first | omega | (simp only [List.length_set]; omega)) (by rw [hdy]; exact zC5 _ (by first | exact hk | exact set_keep _ hk) (by first | omega | (simp only [List.length_set]; omega))) (by first | exact zCv _ (by omega) (zCv _ (by omega) hz) | exact zCv _ (by omega) hz) hi (seg_more (by omega) hpos) hll hlast hJ g6) ?_)))
   rintro _ gW ⟨cur2, last2, B2, hc2, hl2, hk2, hz2, g5, (⟨rfl, i2, hi2, hp2, hn2, hJ2⟩ | ⟨rfl, hJ2⟩)⟩
   ·
    refine w_p (zDi rfl rfl) rfl (zAe (zAc (gh _ _ (zCc rfl rfl ?_))))
    refine zAv (zAl (zAc (gd _ _ (zAa (w_p (zBj rfl rfl rfl rfl (by omega) (by omega)) rfl (zBa rfl rfl (zAe (zAc (gc _ _ (nxI (below + 1 - (q + 1)) (by omega) ?_))))))))))
    exact ⟨q + 1, cur2, last2, i2, B2, rfl, by omega, rfl, hc2, hl2, zB2 hk2 hpl, hz2, hi2, hp2, (by rw [hp2]; exact hn2), hJ2, g5⟩
   refine w_p (zDi rfl rfl) rfl (zAe (zAc (gh _ _ (zCh rfl rfl ?_))))
   refine zAf (fun gX gx => (zAa (zBg rfl rfl (zAe (zAc (gx _ _ (zA2 (zAt (zAk (zAk (zAt (zAk (zA9 (l := [.tmp 8]) (vs := [_]) rfl ⟨⟨rfl, (rfl : _ = Value.bool _)⟩, trivial⟩ ?_)))))))))))))
   first
     | exact ⟨cur, cur, B1, hcl, hcl, hk, hz, g5, .inl ⟨rfl, i + 1, zCo hpos, zCb hpos, zCj hnd hpos, hJ1⟩⟩
     | exact ⟨cur, cur, B1, hcl, hcl, hk, hz, g5, .inr ⟨rfl, hJ1⟩⟩
     | exact ⟨cur2, last2, B2, hc2, hl2, zB2 hk2 hpl, hz2, g5, .inr ⟨rfl, hJ2⟩⟩
     | exact ⟨cur, last, B, hcl, hll, hk, hz, g5, .inl ⟨rfl, i, hi, (by rw [hpos, show q = below + 1 from by omega, zE7]; rfl), (by rw [← show Ls.drop i = R from by rw [hpos, show q = below + 1 from by omega, zE7]; rfl]; exact hlast), hJ⟩⟩
  try simp only [zS] at g9
  refine zBq (zAo (zAo (zA8 (zAc (go _ _ (zAf (fun gY gy => (zAa (zBg rfl rfl (zAe (zAc (gy _ _ (zA2 (zA9 (l := [.tmp 8]) (vs := [_]) rfl ⟨⟨rfl, (rfl : _ = Value.bool _)⟩, trivial⟩ ?_))))))))))))))
  first
    | exact ⟨cur, cur, B1, hcl, hcl, hk, hz, hs, .inl ⟨rfl, i + 1, zCo hpos, zCb hpos, zCj hnd hpos, hJ1⟩⟩
    | exact ⟨cur, cur, B1, hcl, hcl, hk, hz, hs, .inr ⟨rfl, hJ1⟩⟩
    | exact ⟨cur2, last2, B2, hc2, hl2, zB2 hk2 hpl, hz2, hs, .inr ⟨rfl, hJ2⟩⟩
    | exact ⟨cur, last, B, hcl, hll, hk, hz, hs, .inl ⟨rfl, i, hi, (by rw [hpos, show q = below + 1 from by omega, zE7]; rfl), (by rw [← show Ls.drop i = R from by rw [hpos, show q = below + 1 from by omega, zE7]; rfl]; exact hlast), hJ⟩⟩

end Go.Proofs.Cb
set_option maxRecDepth 20000
namespace Go.Proofs.Cb
open Go.Proofs.Tryz
open Go.Rt Go.Rt.Ca
attribute [local irreducible] WL WC Con Yd At Ats Sl Agree DW

theorem next_all {w0 : World} {F : List (Nat × Obj)} (p : Port) (a : Option Addr) (c m pb : Nat) (hp : Ats w0 F pb 0 [.int .i64 p.hold, .int .i64 p.clo, .int .i64 p.chi, .slice a p.farms.length c, .map (some m)]) (ha : Sl w0 F a 6 (rows p.farms)) (hok : p.Ok) (n below bp bl bla bY bb bn : Nat) (hbe : below ≤ 11) (h1 : Ats w0 F bp 0 [.pointer (some ⟨pb, 0, none⟩)]) (h5 : Ats w0 F bb 0 [.int .i64 (below : Int)]) (hn : n = p.farms.length) (Ls : List (List Int)) (hnd : Ls.Nodup) (J : Nat → List (Nat × Obj) → Prop) (Js : List (Nat × Obj) → Prop) (yv : Value) (hy : ∀ (i : Nat) (x : List Int) (R : List (List Int)) (B X : List (Nat × Obj)) (w : World), Ls.drop i = x :: R → J i B → St w0 w (X ++ (B ++ F)) → FCon Tryz.prog yv [ia x] w fun v w' => ∃ B', St w0 w' (X ++ (B' ++ F)) ∧ (v = .bool true ∧ J (i + 1) B' ∨ v = .bool false ∧ Js B')) (rem : Nat) : NextC n below bp bl bla bY bb bn Ls J Js yv w0 F rem := by
  induction rem with
  | zero => exact c82 p a c m pb hp ha hok n below bp bl bla bY bb bn hbe h1 h5 hn Ls hnd J Js yv hy 0 (fun r h => by omega)
  | succ r ih => exact c82 p a c m pb hp ha hok n below bp bl bla bY bb bn hbe h1 h5 hn Ls hnd J Js yv hy (r + 1) (fun q h => by have : q = r := (by omega); subst this; exact ih)
theorem iter_lists {w0 : World} {F : List (Nat × Obj)} {Ls : List (List Int)} {J : Nat → List (Nat × Obj) → Prop} {Js : List (Nat × Obj) → Prop} {yv : Value}
    (hy : ∀ i (hi : i < (Ls.map ia).length) B X w, J i B → St w0 w (X ++ (B ++ F)) → FCon Tryz.prog yv [(Ls.map ia)[i]] w fun v w' => ∃ B', St w0 w' (X ++ (B' ++ F)) ∧ (v = .bool true ∧ J (i + 1) B' ∨ v = .bool false ∧ Js B')) :
    ∀ (i : Nat) (x : List Int) (R : List (List Int)) (B X : List (Nat × Obj)) (w : World), Ls.drop i = x :: R → J i B → St w0 w (X ++ (B ++ F)) → FCon Tryz.prog yv [ia x] w fun v w' => ∃ B', St w0 w' (X ++ (B' ++ F)) ∧ (v = .bool true ∧ J (i + 1) B' ∨ v = .bool false ∧ Js B') := by
  intro i x R B X w hd hJ hs
  have := hy i (by simpa using zCo hd) B X w hJ hs
  rw [List.getElem_map, zDg hd] at this
  exact this
theorem all_iter {w0 : World} {F : List (Nat × Obj)} (p : Port) (a : Option Addr) (c m pb : Nat) (hp : Ats w0 F pb 0 [.int .i64 p.hold, .int .i64 p.clo, .int .i64 p.chi, .slice a p.farms.length c, .map (some m)]) (ha : Sl w0 F a 6 (rows p.farms)) (hok : p.Ok) (below bp bb : Nat) (hbe : below ≤ 11) (h1 : Ats w0 F bp 0 [.pointer (some ⟨pb, 0, none⟩)]) (h5 : Ats w0 F bb 0 [.int .i64 (below : Int)]) : Iter Tryz.prog 81 [] [.pointer (some ⟨bp, 0, none⟩), .pointer (some ⟨bb, 0, none⟩)] (((allC below p.farms.length).map pad).map ia) w0 F := by
  intro J Js yv B X w hyv hy hJ hs
  obtain ⟨yf, ya, yb, rfl⟩ := hyv
  have hlen3 := hok.len
  show Con Tryz.prog 81 [.func yf ya yb, .pointer (some ⟨bp, 0, none⟩), .pointer (some ⟨bb, 0, none⟩)] w _
  refine zAu (n := 11) func81 rfl rfl (zNl rfl) ?_
  refine zAf (fun K2 g4 => (zAa (zCa (v := .func _ _ _) (cs := [_]) zAb rfl rfl rfl hs (fun b3 w4 g5 => ?_))))
  refine zAe (zAc (g4 _ _ (zAf (fun K7 g6 => (zAa (zBb (cs := iv [0,0,0]) zAb zeroValue81 rfl g5 (fun b8 w9 g7 => ?_)))))))
  refine zBb (cs := iv [0,0,0]) zAb zeroValue81 rfl g7 (fun g8 gh g9 => ?_)
  refine zAe (zAc (g6 _ _ (zAf (fun gi ga => (zAa (w_p (zC3 underlying81 sizeOf3 rfl rfl rfl rfl (i := 0) rfl (by omega)) rfl (zDz (i := 0) (j := 0) zAb sizeOf3 rfl rfl rfl rfl g9 rfl (by first | omega | rfl | (simp only [zL] <;> omega)) (fun gj gb => ?_))))))))
  refine zAe (zAc (ga _ _ (zAf (fun gk gc => (zAa (zBb (cs := [_]) zAb zeroValue126 rfl gb (fun gd gl ge => ?_)))))))
  refine zAe (zAc (gc _ _ (zAf (fun gm gf => (zAa (w_p (zCd (fv := []) (cv := [_,_,_,_,_,_]) rfl rfl rfl rfl) rfl (zA4 (i := 0) (v := .func _ _ _) (vs := [_]) zAb sizeOf126 rfl rfl rfl rfl rfl (by simp [Value.oneCell']) ge rfl (zNl rfl) (fun gn g0 => ?_))))))))
  refine zAe (zAc (gf _ _ (zAa (w_p (zAj isAgg126 g0 rfl rfl (zAh (i := 0) (vs := [_]) rfl rfl)) rfl (zAs zAb call82 rfl rfl rfl rfl (next_all p a c m pb hp ha hok p.farms.length below bp b8 g8 b3 bb gd hbe h1 h5 rfl ((allC below p.farms.length).map pad) (allpad_nodup hlen3) J Js (.func yf ya yb) (iter_lists hy) p.farms.length 0 [] (List.replicate 3 0) [-2,0,0] 0 [] B X _ (by omega) rfl rfl rfl (fun j _ => by match j with | 0 => rfl | 1 => rfl | 2 => rfl | _ + 3 => rfl) (by omega) (by rw [List.append_nil]; rfl) rfl (by rw [List.drop_zero]; exact start_notin) hJ g0) ?_)))))
  rintro _ go ⟨cur2, last2, B2, _,_,_,_, gg, hB2⟩
  refine zAe (q_end (l := []) (vs := []) rfl trivial ?_)
  refine ⟨B2, gg.tail.tail.tail.tail, ?_⟩
  rcases hB2 with ⟨_, i', hi', hd', _, hJ'⟩ | ⟨_, hJ'⟩
  · left; rw [List.length_map, ← zCx hi' hd']; exact hJ'
  · exact .inr hJ'

end Go.Proofs.Cb
set_option maxRecDepth 20000
namespace Go.Proofs.Cb
open Go.Proofs.Tryz
open Go.Rt Go.Rt.Ca
attribute [local irreducible] WL WC Con Yd At Ats Sl Agree DW
theorem Try_CM_fb6  (w : World) : (Instr.build 87 [].toArray).run Tryz.prog w = .ok (.agg #[.int .i64 0, .int .i64 0, .int .i64 0]) w := by kernel_rfl
theorem Try_flat87 : flatInts Tryz.prog 87 3 = true := by kernel_rfl
theorem c58 {w0 w : World} {F : List (Nat × Obj)} (pb : Nat) (z : Int) (hs : St w0 w F) :
  Con Tryz.prog 58 [.pointer (some ⟨pb, 0, none⟩), .int .i64 z] w fun v w' => ∃ bp bb, v = .func (.func 81) #[] #[.pointer (some ⟨bp, 0, none⟩), .pointer (some ⟨bb, 0, none⟩)] ∧ St w0 w' ((bb, blk 3 [.int .i64 z]) :: (bp, blk 79 [.pointer (some ⟨pb, 0, none⟩)]) :: F) := by
  refine zAu (n := 6) func58 rfl rfl (zNl rfl) ?_
  refine zAf (fun K2 g0 => (zAa (zCa (v := .pointer _) (cs := [_]) zAb rfl rfl rfl hs (fun b3 w4 g4 => ?_))))
  refine zCa (v := .int _ _) (cs := [_]) zAb rfl rfl rfl g4 (fun b6 w7 g5 => ?_)
  refine zBg rfl rfl (zAe (zAc (g0 _ _ (zAf (fun g7 g6 => (zAa (w_p (zCd (fv := []) (cv := [_,_]) rfl rfl rfl rfl) rfl (w_p (zAm (v := .func _ _ _) rfl rfl) rfl ?_))))))))
  refine zAe (zAc (g6 _ _ (zA2 (zA9 (l := [.tmp 4]) (vs := [_]) rfl ⟨⟨rfl, show _ = (.func _ _ _ : Value) from rfl⟩, trivial⟩ ?_))))
  exact ⟨_, _, rfl, g5⟩

theorem c52 {w0 w : World} {F : List (Nat × Obj)} (pb : Nat) (hs : St w0 w F) :
  Con Tryz.prog 52 [.pointer (some ⟨pb, 0, none⟩)] w fun v w' => ∃ bq, v = .func (.func 78) #[] #[.pointer (some ⟨bq, 0, none⟩)] ∧ St w0 w' ((bq, blk 79 [.pointer (some ⟨pb, 0, none⟩)]) :: F) := by
  refine zAu (n := 4) func52 rfl rfl (zNl rfl) ?_
  refine zAf (fun K2 g0 => (zAa (zCa (v := .pointer _) (cs := [_]) zAb rfl rfl rfl hs (fun b3 w4 g4 => ?_))))
  refine zBg rfl rfl (zAe (zAc (g0 _ _ (zAf (fun K7 g5 => (zAa (w_p (zCd (fv := []) (cv := [_]) rfl rfl rfl rfl) rfl (w_p (zAm (v := .func _ _ _) rfl rfl) rfl ?_))))))))
  refine zAe (zAc (g5 _ _ (zA2 (zA9 (l := [.tmp 2]) (vs := [_]) rfl ⟨⟨rfl, show _ = (.func _ _ _ : Value) from rfl⟩, trivial⟩ ?_))))
  exact ⟨_, rfl, g4⟩

theorem does_perm {x y z : Nat × Obj} (X B F : List (Nat × Obj)) : (x :: y :: z :: (X ++ (B ++ F))).Perm ((z :: B) ++ (x :: y :: (X ++ F))) :=
  (List.Perm.cons x (List.Perm.cons y (List.Perm.cons z (zAq X B F)))).trans (zAq [x, y] (z :: B) (X ++ F))
theorem bi {a b : Bool} {c d : Int} (h : a = b) (k : c = d) : [Value.bool a, Value.int .i64 c] = [Value.bool b, Value.int .i64 d] := by rw [h, k]
theorem zH1 {w0 w : World} {x y : Nat × Obj} {X B F : List (Nat × Obj)} (h : St w0 w (B ++ (x :: y :: (X ++ F)))) : St w0 w (X ++ (B ++ F)) := by
  have h1 := (h.perm (zAq B [x, y] (X ++ F))).tail.tail
  exact St.perm (L := B ++ (X ++ F)) h1 (zAq B X F)
theorem y_call {w0 w : World} {F Y B Xr X : List (Nat × Obj)} {u v : Nat × Obj} {Ls : List (List Int)} {J : Nat → List (Nat × Obj) → Prop} {Js : List (Nat × Obj) → Prop} {yv : Value}
    (hy : ∀ (i : Nat) (x : List Int) (R : List (List Int)) (B X : List (Nat × Obj)) (w : World), Ls.drop i = x :: R → J i B → St w0 w (X ++ (B ++ F)) → FCon Tryz.prog yv [ia x] w fun v w' => ∃ B', St w0 w' (X ++ (B' ++ F)) ∧ (v = .bool true ∧ J (i + 1) B' ∨ v = .bool false ∧ Js B'))
    {i : Nat} {x : List Int} {R : List (List Int)} (hd : Ls.drop i = x :: R) (hJ : J i B) (hs : St w0 w (Y ++ (B ++ (Xr ++ (u :: v :: (X ++ F)))))) :
    FCon Tryz.prog yv [ia x] w fun r w' => ∃ B', St w0 w' (Y ++ (B' ++ (Xr ++ (u :: v :: (X ++ F))))) ∧ (r = .bool true ∧ J (i + 1) B' ∨ r = .bool false ∧ Js B') := by
  have key : ∀ B : List (Nat × Obj), (Y ++ (B ++ (Xr ++ (u :: v :: (X ++ F))))).Perm ((Y ++ (Xr ++ (u :: v :: X))) ++ (B ++ F)) := by
    intro B
    have e : B ++ (Xr ++ (u :: v :: (X ++ F))) = B ++ ((Xr ++ (u :: v :: X)) ++ F) := by simp
    rw [e, List.append_assoc Y]
    exact List.Perm.append_left Y (zAq B (Xr ++ (u :: v :: X)) F)
  refine (hy i x R B _ w hd hJ (hs.perm (key B))).mono ?_
  rintro r w' ⟨B', hs', h⟩
  exact ⟨B', hs'.perm (key B').symm, h⟩
theorem does_iter {w0 : World} {F : List (Nat × Obj)} (p : Port) (a : Option Addr) (c m pb : Nat) (hp : Ats w0 F pb 0 [.int .i64 p.hold, .int .i64 p.clo, .int .i64 p.chi, .slice a p.farms.length c, .map (some m)]) (ha : Sl w0 F a 6 (rows p.farms)) (hok : p.Ok) (b1 : Nat) (h1 : Ats w0 F b1 0 [.pointer (some ⟨pb, 0, none⟩)]) : Iter Tryz.prog 78 [] [.pointer (some ⟨b1,0, none⟩)] (((doC p).map pad).map ia) w0 F := by
  intro J Js yv B X w hyv hy0 hJ hs
  have hy := iter_lists hy0
  obtain ⟨yf, ya, yb, rfl⟩ := hyv
  have hlen3 := hok.len
  have hcome := hok.come
  show Con Tryz.prog 78 [.func yf ya yb, .pointer (some ⟨b1,0, none⟩)] w _
  refine zDr (n := 53) func78 rfl rfl (zNl rfl) ?_
  refine zAf (fun K2 gh => (zAa (zCa (v := .func _ _ _) (cs := [_]) zAb rfl rfl rfl hs (fun b3 w4 g9 => ?_))))
  refine zAe (zAc (gh _ _ (zAf (fun K7 gi => (zAa (w_p (zAj isAgg79 g9.tail.drop.drop rfl rfl h1) rfl (zAs zAb call58 rfl rfl rfl rfl (c58 _ _ g9) ?_)))))))
  rintro _ w9 ⟨bp, bb, rfl, gj⟩
  refine zAe (zAc (gi _ _ (zAz ?_)))
  refine w_range (_ :: B) (fun i Bx => ∃ B', Bx = (b3, blk 148 [.func yf ya yb]) :: B' ∧ J (((allC 11 p.farms.length).take i).filter fun l => full p l).length B') (fun c Bx => c = .ret ∧ ∃ B', Bx = (b3, blk 148 [.func yf ya yb]) :: B' ∧ Js B') rfl rfl rfl call81 (all_iter p a c m pb hp.app.cons.cons ha.app.cons.cons hok 11 bp bb (by omega) (zAh (i := 1) (vs := [_]) rfl rfl) (zAh (i := 0) (vs := [_]) rfl rfl)) gj (does_perm X B F) ⟨B, rfl, hJ⟩ ?_ ?_ ?_
  ·
   intro lp i hi Bx Xr Xr2 gx hJ hs K gk
   obtain ⟨B1, rfl, hJ1⟩ := hJ
   have hi2 : i < (allC 11 p.farms.length).length := by simpa using hi
   rw [List.getElem_map, List.getElem_map]
   have hlen := zB6 (allC 11 p.farms.length)[i]
   have hl1 := allpad_in (by omega) hi2
   have hfp := full_pad (p := p) (all_len2 hi2) hlen3
   obtain ⟨l, hl⟩ : ∃ l, l = pad (allC 11 p.farms.length)[i] := ⟨_, rfl⟩
   rw [← hl] at hlen hl1 hfp ⊢
   replace hs := (show St _ _ (_ :: (B1 ++ (Xr ++ (_ :: _ :: (X ++ F))))) from hs)
   refine zAa (zBb (cs := iv [0,0,0]) zAb zeroValue81 rfl hs (fun gl gy gm => ?_))
   refine zCm (i := 0) (l := _) zAb sizeOf81 (by first | omega | rfl | (simp only [zB6, zL] <;> omega)) rfl rfl rfl rfl rfl gm rfl (by first | omega | rfl | (simp only [zB6, zL] <;> omega)) (fun gz gn => ?_)
   refine zAe (zAc (gk _ _ (_ :: _ :: B1) gn (fun gA g5 => ?_)))
   replace g5 := (show St _ _ (_ :: _ :: B1 ++ (Xr2 ++ (_ :: _ :: X ++ (F)))) from g5)
   refine zAz ?_
   refine zAf (fun gB go => (zAa (zBg rfl rfl (zAe (zAc (go _ _ (zAf (fun gC ga => (zAf (fun gD gp => (zAa (w_p (zAj isAgg79 g5.tail.tail.drop.drop.tail.tail.drop rfl rfl h1) rfl ?_))))))))))))
   refine w_p (zBi rfl rfl) rfl (w_p (zAd (o := 0) (i := 0) underlying137 rfl sizeOf26 rfl rfl rfl) rfl (w_p (zAd (o := 1) (i := 1) underlying26 rfl sizeOf23 rfl rfl rfl) rfl (w_p (zAd (o := 0) (i := 0) underlying23 rfl sizeOf3 rfl rfl rfl) rfl ?_)))
   refine w_p (zAj isAgg3 g5.tail.tail.drop.drop.tail.tail.drop rfl rfl (show Ats _ _ _ _ [_] from Ats.part hp 1 1)) rfl (zBl rfl rfl (zAe (zAc (gp _ _ (zAz ?_)))))
   refine zB3 [4,5,6,16,17,18,19,20,21,22,23,24,25,26,27,28,29,30,31,32,33,34,35,36,37,38,39,40,41,42,43,44,45] [4,5] (fun k vs w => ∃ (q : Nat), vs = [.bool (fullUpto p l q), .int .i64 (p.clo + q)] ∧ (q : Int) ≤ p.chi - p.clo + 1 ∧ k = (p.chi - p.clo + 1 - q).toNat ∧ St w0 w ((gl, blk 81 (iv l)) :: (b3, blk 148 [.func yf ya yb]) :: (B1 ++ (Xr2 ++ ((bb, blk 3 [.int .i64 11]) :: (bp, blk 79 [.pointer (some ⟨pb, 0, none⟩)]) :: (X ++ F)))))) ((p.chi - p.clo + 1).toNat) ?_ ?_
   ·
    exact ⟨0, bi (show true = fullUpto p l 0 by simp [fullUpto]) (by omega), by omega, by simp, g5⟩
   intro k vs μ gE hI gF gb
   obtain ⟨q, rfl, hq, rfl, hs⟩ := hI
   generalize hfu : fullUpto p l q = fu
   refine zAf (fun gG gq => (zAf (fun gH gc => (zAa (w_p (zAi (v := .bool _) rfl rfl) rfl (w_p (zAi (v := .bool _) rfl rfl) rfl (zBk (fun g6 => ?_) (fun g6 => ?_))))))))
   ·
    subst g6
    refine w_y rfl rfl rfl (zA1 rfl rfl) rfl ?_
    refine w_y rfl rfl rfl (zAj isAgg79 hs.tail.tail.drop.drop.tail.tail.drop rfl rfl h1) rfl ?_
    refine w_y rfl rfl rfl (zBi rfl rfl) rfl ?_
    refine w_y rfl rfl rfl (zAd (o := 0) (i := 0) underlying137 rfl sizeOf26 rfl rfl rfl) rfl ?_
    refine w_y rfl rfl rfl (zAd (o := 1) (i := 1) underlying26 rfl sizeOf23 rfl rfl rfl) rfl ?_
    refine w_y rfl rfl rfl (zAd (o := 1) (i := 1) underlying23 rfl sizeOf3 rfl rfl rfl) rfl ?_
    refine w_y rfl rfl rfl (zAj isAgg3 hs.tail.tail.drop.drop.tail.tail.drop rfl rfl (show Ats _ _ _ _ [_] from Ats.part hp 2 1)) rfl ?_
    refine w_y rfl rfl rfl (y_leq rfl rfl rfl rfl) rfl ?_
    refine w_p (zAx (v := .bool _) rfl rfl rfl rfl) rfl (zAe (zAc (gc _ _ (zAy rfl rfl (fun g7 => ?_) (fun g7 => ?_)))))
    ·
     try simp only [zS] at g7
     refine zAv (zAc (gq _ _ (zAf (fun gI gd => (zAz ?_)))))
     refine zAf (fun gJ gr => (zAa (w_p (zAj isAgg79 hs.tail.tail.drop.drop.tail.tail.drop rfl rfl h1) rfl (w_p (zB5 (i := 0) isAgg81 sizeOf81 (by first | omega | rfl | (simp only [zB6, zL] <;> omega)) hs rfl rfl rfl) rfl ?_))))
     refine zBa rfl rfl (zAs zAb call72 rfl rfl rfl rfl (c72 p _ c m pb hp.app.cons.cons.app.app.cons.cons ha.app.cons.cons.app.app.cons.cons hok l hlen hl1 _ (by omega) (by omega) hs) ?_)
     rintro _ gK ⟨rfl, gt⟩
     refine zBb (cs := [_,_,_]) zAb zeroValue87 rfl gt (fun gL gM gu => ?_)
     refine zA4 (i := 0) (v := .agg #[.int _ _, .int _ _, .int _ _]) (vs := [_,_,_]) zAb sizeOf87 rfl rfl rfl rfl rfl (by simp [Value.oneCell']) gu rfl (zNl rfl) (fun gN gv => ?_)
     refine zAe (zAc (gr _ _ (zCs [] [(0,1),(1,0),(2,0),(3,0),(4,0),(5,1),(6,1),(7,0),(8,0),(9,0),(10,1),(11,0),(12,0),(13,0)] zCg (by kernel_rfl) gv (fun gO g0 => ?_))))
     refine zBh rfl zAb rfl g0 (fun _ hq => (zA7 (vs := [_,_,_]) isAgg87 sizeOf87 hq rfl rfl (zAh (i := 0) (vs := [_,_,_]) rfl rfl))) ?_
     refine d_w rfl (fun _ => zBy (ps := []) (pv := []) rfl rfl (fun w => Try_CM_fb6  w)) rfl ?_
     refine d_w rfl (fun _ => y_neFlat (l := [_,_,_]) (m := [_,_,_]) eqGuardType87 Try_flat87 (by first | omega | rfl | (simp only [zB6, zL] <;> omega)) (by first | omega | rfl | (simp only [zB6, zL] <;> omega)) rfl rfl rfl rfl rfl rfl) rfl ?_
     refine d_w rfl (fun _ => zAi (v := .bool _) rfl rfl) rfl ?_
     refine zDu (fun g8 => ?_) (fun g8 => ?_)
     ·
      try simp only [zS] at g8
      refine zBx rfl (zAp rfl rfl rfl) rfl (fun _ => (zAd (o := 0) (i := 0) underlying87 rfl sizeOf3 rfl rfl rfl)) ?_
      refine zBh rfl (zAp rfl rfl rfl) rfl g0 (fun _ hq => (zAj isAgg3 hq rfl rfl (zAh (i := 0) (vs := [_]) rfl rfl))) ?_
      refine zBh rfl (zAp rfl rfl rfl) rfl g0 (fun _ hq => (zAj isAgg79 hq.tail.tail.tail.drop.drop.tail.tail.drop rfl rfl h1)) ?_
      refine zBx rfl (zAp rfl rfl rfl) rfl (fun _ => (zBi rfl rfl)) ?_
      refine zBx rfl (zAp rfl rfl rfl) rfl (fun _ => (zAd (o := 0) (i := 0) underlying137 rfl sizeOf26 rfl rfl rfl)) ?_
      refine zBx rfl (zAp rfl rfl rfl) rfl (fun _ => (zAd (o := 0) (i := 0) underlying26 rfl sizeOf3 rfl rfl rfl)) ?_
      refine zBh rfl (zAp rfl rfl rfl) rfl g0 (fun _ hq => (zAj isAgg3 hq.tail.tail.tail.drop.drop.tail.tail.drop rfl rfl (show Ats _ _ _ _ [_] from Ats.part hp 0 1))) ?_
      refine zBx rfl (zAp rfl rfl rfl) rfl (fun _ => (zF5 rfl rfl rfl rfl)) ?_
      refine d_w rfl (fun _ => zAx (v := .bool _) rfl rfl rfl rfl) rfl ?_
      refine d_w rfl (fun _ => zAm (v := .bool _) rfl rfl) rfl ?_
      refine zB0 ?_
      refine zAl (zAc (gd _ _ (zAa (zBa rfl rfl (w_p (zBj rfl rfl rfl rfl (by omega) (by omega)) rfl (zBl rfl rfl (zAe (zAc (gb _ _ (nxI ((p.chi - p.clo + 1 - (q + 1 : Nat)).toNat) (by omega) ?_))))))))))
      first
        | exact ⟨q + 1, bi (by rw [zEo l (by omega), zero_least hok (x := on p.farms l (p.clo + q)) (by assumption)]; simp) (by omega), by omega, rfl, g0.tail⟩
        | exact ⟨q + 1, bi (by rw [zEo l (by omega), hfu]; simp) (by omega), by omega, rfl, g0.tail⟩
     try simp only [zS] at g8
     refine zB8 rfl rfl rfl rfl ?_
     refine zDv rfl rfl rfl rfl g0 ?_
     refine zDv rfl rfl rfl rfl g0 ?_
     refine zB8 rfl rfl rfl rfl ?_
     refine zB8 rfl rfl rfl rfl ?_
     refine zB8 rfl rfl rfl rfl ?_
     refine zDv rfl rfl rfl rfl g0 ?_
     refine zB8 rfl rfl rfl rfl ?_
     refine d_w rfl (fun _ => zBd (v := _) rfl rfl rfl rfl) rfl ?_
     refine d_w rfl (fun _ => zAm (v := .bool _) rfl rfl) rfl ?_
     refine zB0 ?_
     refine zAl (zAc (gd _ _ (zAa (zBa rfl rfl (w_p (zBj rfl rfl rfl rfl (by omega) (by omega)) rfl (zBl rfl rfl (zAe (zAc (gb _ _ (nxI ((p.chi - p.clo + 1 - (q + 1 : Nat)).toNat) (by omega) ?_))))))))))
     first
       | exact ⟨q + 1, bi (by rw [zEo l (by omega), zero_least hok (x := on p.farms l (p.clo + q)) (by assumption)]; simp) (by omega), by omega, rfl, g0.tail⟩
       | exact ⟨q + 1, bi (by rw [zEo l (by omega), hfu]; simp) (by omega), by omega, rfl, g0.tail⟩
    try simp only [zS] at g7
    refine zBq (zAo (zAo (zA8 (zAc (ga _ _ (zAf (fun gP ge => (zAa (w_p (zAi (v := .bool _) rfl rfl) rfl (w_p (zAi (v := .bool _) rfl rfl) rfl ?_))))))))))
    refine w_y rfl rfl rfl (zAj isAgg148 hs rfl rfl (zAh (i := 1) (vs := [_]) rfl rfl)) rfl ?_
    refine w_y rfl rfl rfl (zB5 (i := 0) isAgg81 sizeOf81 (by first | omega | rfl | (simp only [zB6, zL] <;> omega)) hs rfl rfl rfl) rfl ?_
    refine zEt (zAp rfl rfl rfl) rfl rfl rfl rfl (y_call (Y := [_,_]) hy (R := (((allC 11 p.farms.length).drop (i + 1)).filter fun l => full p l).map pad) (by rw [hl, ← List.map_drop, doC, filter_here hi2 (hfp.symm.trans (by rw [← zGn l (i := q) (by omega)]; exact hfu))]; rfl) hJ1 hs) ?_
    rintro _ gQ ⟨B2, g4, (⟨rfl, hJ2⟩ | ⟨rfl, hJ2⟩)⟩
    ·
     replace g4 := (show St _ _ (_ :: _ :: B2 ++ (Xr2 ++ (_ :: _ :: X ++ (F)))) from g4)
     refine w_y rfl rfl rfl (zDi rfl rfl) rfl ?_
     refine w_p (zAx (v := .bool _) rfl rfl rfl rfl) rfl (zAe (zAc (ge _ _ (zCc rfl rfl ?_))))
     refine zAv (zAl (zCu (_ :: B2) g4.tail ?_))
     first
       | exact ⟨B2, rfl, by rw [filter_yes hi2 (hfp.symm.trans (by rw [← zGn l (i := q) (by omega)]; exact hfu))]; exact hJ2⟩
       | exact ⟨B1, rfl, by rw [filter_no hi2 (hfp.symm.trans (full_false l hfu))]; exact hJ1⟩
    replace g4 := (show St _ _ (_ :: _ :: B2 ++ (Xr2 ++ (_ :: _ :: X ++ (F)))) from g4)
    refine w_y rfl rfl rfl (zDi rfl rfl) rfl ?_
    refine w_p (zAx (v := .bool _) rfl rfl rfl rfl) rfl (zAe (zAc (ge _ _ (zCh rfl rfl ?_))))
    refine zA2 (zAt (rd_ret (_ :: B2) g4.tail ?_))
    exact ⟨rfl, B2, rfl, hJ2⟩
   subst g6
   refine zAg rfl rfl rfl ?_
   refine zAg rfl rfl rfl ?_
   refine zAg rfl rfl rfl ?_
   refine zAg rfl rfl rfl ?_
   refine zAg rfl rfl rfl ?_
   refine zAg rfl rfl rfl ?_
   refine zAg rfl rfl rfl ?_
   refine zAg rfl rfl rfl ?_
   refine w_p (zBd (v := _) rfl rfl rfl rfl) rfl (zAe (zAc (gc _ _ (zCc rfl rfl ?_))))
   refine zBq (zAo (zAo (zA8 (zAc (ga _ _ (zAf (fun gR gw => (zAa (w_p (zAi (v := .bool _) rfl rfl) rfl (w_p (zAi (v := .bool _) rfl rfl) rfl ?_))))))))))
   refine zAg rfl rfl rfl ?_
   refine zAg rfl rfl rfl ?_
   refine zAg rfl rfl rfl ?_
   refine zAg rfl rfl rfl ?_
   refine w_p (zBd (v := _) rfl rfl rfl rfl) rfl (zAe (zAc (gw _ _ (zCc rfl rfl ?_))))
   refine zAv (zAl (zCu (_ :: B1) hs.tail ?_))
   first
     | exact ⟨B2, rfl, by rw [filter_yes hi2 (hfp.symm.trans (by rw [← zGn l (i := q) (by omega)]; exact hfu))]; exact hJ2⟩
     | exact ⟨B1, rfl, by rw [filter_no hi2 (hfp.symm.trans (full_false l hfu))]; exact hJ1⟩
  ·
   intro bd Bx gT hJ hs
   obtain ⟨B1, rfl, hJ1⟩ := hJ
   refine zAl (q_endM (i := 0) (l := []) (vs := []) hs rfl rfl (fun gU gf => ⟨trivial, ?_⟩))
   first
     | exact ⟨B1, zH1 gf.tail.tail, .inl (by rw [List.length_map, List.length_map] at *; rw [List.take_length] at hJ1; exact hJ1)⟩
     | exact ⟨B1, zH1 gf.tail.tail, .inr hJ1⟩
  intro bd c Bx gV hJ hs
  obtain ⟨rfl, B1, rfl, hJ1⟩ := hJ
  refine zA2 (zAt (zEw (i := 0) (l := []) (vs := []) hs rfl rfl (fun gW gg => ⟨trivial, ?_⟩)))
  first
    | exact ⟨B1, zH1 gg.tail.tail, .inl (by rw [List.length_map, List.length_map] at *; rw [List.take_length] at hJ1; exact hJ1)⟩
    | exact ⟨B1, zH1 gg.tail.tail, .inr hJ1⟩

end Go.Proofs.Cb
set_option maxRecDepth 20000
namespace Go.Proofs.Cb
open Go.Proofs.Tryz
open Go.Rt Go.Rt.Ca
attribute [local irreducible] WL WC Con Yd At Ats Sl Agree DW
theorem Try_CN_fb7 (x0 : Int) (x1 : Int) (w : World) : (Instr.build 112 [(0, .int .i64 x0),(1, .int .i64 x1)].toArray).run Tryz.prog w = .ok (.agg #[.int .i64 x0, .int .i64 x1]) w := by kernel_rfl
theorem c56 {w0 w : World} {F : List (Nat × Obj)} (p : Port) (a : Option Addr) (c m pb : Nat) (hp : Ats w0 F pb 0 [.int .i64 p.hold, .int .i64 p.clo, .int .i64 p.chi, .slice a p.farms.length c, .map (some m)]) (ha : Sl w0 F a 6 (rows p.farms)) (hok : p.Ok) (hs : St w0 w F) :
  Con Tryz.prog 56 [.pointer (some ⟨pb, 0, none⟩)] w fun v w' => v = .bool (!(doC p).isEmpty) ∧ St w0 w' F := by
  refine zDr (n := 6) func56 rfl rfl (zNl rfl) ?_
  refine zAf (fun K2 g6 => (zAa (zBb (cs := [_]) zAb zeroValue4 rfl hs (fun b3 w4 g7 => ?_))))
  refine zAe (zAc (g6 _ _ (zAf (fun K7 g8 => (zAf (fun K9 g9 => (zAa (w_p (zAi (v := .pointer _) rfl rfl) rfl (zAs zAb call52 rfl rfl rfl rfl (c52 _ g7) ?_)))))))))
  rintro _ gg ⟨bq, rfl, ga⟩
  refine zAe (zAc (g9 _ _ (zAz ?_)))
  refine w_range ([_]) (fun i Bx => i = 0 ∧ Bx = [(b3, blk 4 [.bool false])]) (fun c Bx => c = .ret ∧ Bx = [(b3, blk 4 [.bool true])] ∧ 0 < (doC p).length) rfl rfl rfl call78 (does_iter p a c m pb hp.cons ha.cons hok bq (zAh (i := 0) (vs := [_]) rfl rfl)) ga (List.Perm.swap _ _ _) ⟨rfl, rfl⟩ ?_ ?_ ?_
  ·
   intro lp i hi Bx Xr Xr2 gh hJ hs K gb
   obtain ⟨rfl, rfl⟩ := hJ
   have hi0 : 0 < (doC p).length := by simpa using hi
   replace hs := (show St _ _ (_ :: (Xr ++ (_ :: F))) from hs)
   refine zAv (zAc (gb _ _ (_ :: []) hs (fun gi g0 => ?_)))
   replace g0 := (show St _ _ (_ :: Xr2 ++ (_ :: F)) from g0)
   refine zAz ?_
   refine zAf (fun gj gc => (zAa (zA4 (i := 0) (v := .bool _) (vs := [_]) zAb sizeOf4 rfl rfl rfl rfl rfl (by simp [Value.oneCell']) g0 rfl (zNl rfl) (fun gk gd => ?_))))
   refine zAe (zAc (gc _ _ (zA2 (zAt (rd_ret (_ :: []) gd ?_)))))
   exact ⟨rfl, rfl, hi0⟩
  ·
   intro bd Bx gl hJ hs
   obtain ⟨h0, rfl⟩ := hJ
   rw [List.length_map, List.length_map] at h0
   refine zAl (zAc (g8 _ _ (zAf (fun gm ge => (zAa (zA4 (i := 1) (v := .bool _) (vs := [_]) zAb sizeOf4 rfl rfl rfl rfl rfl (by simp [Value.oneCell']) hs rfl (zNl rfl) (fun gn gf => ?_)))))))
   refine zAe (zAc (ge _ _ (zA2 (zEw (i := 0) (l := [.cell 2 4]) (vs := [_]) gf rfl rfl (fun go g4 => ⟨⟨⟨rfl, _, rfl, zB1 isAgg4 g4 (zAh (i := 1) (vs := [_]) rfl rfl)⟩, trivial⟩, ?_⟩)))))
   first
     | exact ⟨congrArg Value.bool (by rw [List.length_eq_zero_iff.1 h0]; rfl), g4.tail.tail.tail⟩
     | exact ⟨congrArg Value.bool (by cases hd : doC p with | nil => rw [hd] at h0; simp at h0 | cons _ _ => rfl), g4.tail.tail.tail⟩
  intro bd c Bx gp hJ hs
  obtain ⟨rfl, rfl, h0⟩ := hJ
  refine zA2 (zAt (zAk (zEw (i := 0) (l := [.cell 2 4]) (vs := [_]) hs rfl rfl (fun gq g5 => ⟨⟨⟨rfl, _, rfl, zB1 isAgg4 g5 (zAh (i := 1) (vs := [_]) rfl rfl)⟩, trivial⟩, ?_⟩))))
  first
    | exact ⟨congrArg Value.bool (by rw [List.length_eq_zero_iff.1 h0]; rfl), g5.tail.tail.tail⟩
    | exact ⟨congrArg Value.bool (by cases hd : doC p with | nil => rw [hd] at h0; simp at h0 | cons _ _ => rfl), g5.tail.tail.tail⟩

theorem c53 {w0 w : World} {X M F : List (Nat × Obj)} (p : Port) (a : Option Addr) (c m pb : Nat) (hp : Ats w0 F pb 0 [.int .i64 p.hold, .int .i64 p.clo, .int .i64 p.chi, .slice a p.farms.length c, .map (some m)]) (ha : Sl w0 F a 6 (rows p.farms)) (hok : p.Ok) (bf : Nat) (hbf : Ats w0 F bf 0 [.pointer (some ⟨pb, 0, none⟩)]) (l : List Int) (hlen : l.length = 3) (hl1 : ∀ x ∈ l, -1 ≤ x ∧ x ≤ 10) (hM : Memo w0 p m M) (hs : St w0 w (X ++ (M ++ F))) :
  Con Tryz.prog 53 [ia l, .pointer (some ⟨bf, 0, none⟩)] w fun v w' => v = .agg #[.int .i64 (vain p l), .int .i64 (cut p.farms l)] ∧ ∃ M', Memo w0 p m M' ∧ St w0 w' (X ++ (M' ++ F)) := by
  refine zAu (n := 11) func53 rfl rfl (zNl rfl) ?_
  refine zAf (fun K2 g8 => (zAa (zF7 (l := _) zAb rfl rfl rfl hs (fun b3 w4 g9 => ?_))))
  refine zBb (cs := [_,_]) zAb zeroValue112 rfl g9 (fun b6 w7 ga => ?_)
  refine zAe (zAc (g8 _ _ (zAf (fun gc gb => (w_drawC (C := fun w => ∃ M, Memo w0 p m M ∧ St w0 w ((b6, blk 112 [.int .i64 0, .int .i64 0]) :: (b3, blk 81 (iv l)) :: (X ++ (M ++ F)))) [7] [(0,1),(1,1),(3,1),(4,1),(2,2),(5,2),(6,0),(7,3)] zCg (by kernel_rfl) ⟨_, hM, ga⟩ (fun _ ⟨M, h1, h2⟩ => ⟨M, h1, h2.drew⟩) (fun gd ⟨M, hM, g0⟩ => ?_))))))
  refine zE8 rfl zAb rfl ⟨_, hM, g0⟩ (fun _ ⟨M, hM, hq⟩ => (zAj isAgg79 hq.tail.tail.drop.drop rfl rfl hbf)) ?_
  refine zE8 rfl zAb rfl ⟨_, hM, g0⟩ (fun _ ⟨M, hM, hq⟩ => (zB5 (i := 1) isAgg81 sizeOf81 (by first | omega | rfl | (simp only [zL] <;> omega)) hq rfl rfl rfl)) ?_
  refine zE8 rfl zAb rfl ⟨_, hM, g0⟩ (fun _ ⟨M, hM, hq⟩ => (zAj isAgg79 hq.tail.tail.drop.drop rfl rfl hbf)) ?_
  refine zE8 rfl zAb rfl ⟨_, hM, g0⟩ (fun _ ⟨M, hM, hq⟩ => (zB5 (i := 1) isAgg81 sizeOf81 (by first | omega | rfl | (simp only [zL] <;> omega)) hq rfl rfl rfl)) ?_
  refine zC9 rfl ?_
  refine zAs zAb call48 rfl rfl rfl rfl (c48 (X := _ :: _ :: X) p _ c m pb hp ha hok l hlen hl1 hM g0) ?_
  rintro _ ge ⟨rfl, M1, g5, g4⟩
  replace g4 := (show St _ _ (_ :: _ :: X ++ (M1 ++ (F))) from g4)
  refine zAe (qn ⟨⟨_, g5, g4⟩, ?_⟩)
  refine zC9 rfl ?_
  refine zAs zAb call54 rfl rfl rfl rfl (c54 p _ c m pb hp.app.app.cons.cons ha.app.app.cons.cons hok l hlen hl1 g4) ?_
  rintro _ gf ⟨rfl, g6⟩
  refine zAe (qn ⟨⟨_, g5, g6⟩, ?_⟩)
  refine d_w rfl (fun _ => zBy (ps := [(0, _),(1, _)]) (pv := [(0, .int _ _),(1, .int _ _)]) rfl rfl (fun w => Try_CN_fb7 _ _ w)) rfl ?_
  refine zDt rfl ?_
  refine zA4 (i := 0) (v := .agg #[.int _ _, .int _ _]) (vs := [_,_]) zAb sizeOf112 rfl rfl rfl rfl rfl (by simp [Value.oneCell']) g6 rfl (zNl rfl) (fun gg g7 => ?_)
  refine zAe (qn ?_)
  refine zB0 ?_
  refine zAc (gb _ _ (zA2 (zA9 (l := [.cell 3 112]) (vs := [_]) rfl ⟨⟨rfl, _, rfl, zCe (vs := [_,_]) isAgg112 sizeOf112 g7 (zAh (i := 0) (vs := [_,_]) rfl rfl)⟩, trivial⟩ ?_)))
  exact ⟨rfl, M1, g5, g7.tail.tail⟩

theorem best_perm {x y z u : Nat × Obj} (X M F : List (Nat × Obj)) : (x :: y :: z :: u :: (X ++ (M ++ F))).Perm ((x :: y :: z :: u :: M) ++ (X ++ F)) :=
  (List.Perm.cons x (List.Perm.cons y (List.Perm.cons z (List.Perm.cons u (zAq X M F)))))
theorem c51 {w0 w : World} {X M F : List (Nat × Obj)} (p : Port) (a : Option Addr) (c m pb : Nat) (hp : Ats w0 F pb 0 [.int .i64 p.hold, .int .i64 p.clo, .int .i64 p.chi, .slice a p.farms.length c, .map (some m)]) (ha : Sl w0 F a 6 (rows p.farms)) (hok : p.Ok) (bq bf : Nat) (hbq : Ats w0 F bq 0 [.pointer (some ⟨pb, 0, none⟩)]) (hbf : Ats w0 F bf 0 [.pointer (some ⟨pb, 0, none⟩)]) (hM : Memo w0 p m M) (hs : St w0 w (X ++ (M ++ F))) :
  Con Tryz.prog 51 [.func (.func 78) #[] #[.pointer (some ⟨bq, 0, none⟩)], .func (.func 53) #[] #[.pointer (some ⟨bf, 0, none⟩)]] w fun v w' => v = .tuple #[ia (best p (doP p)).b, .bool (best p (doP p)).found] ∧ ∃ M', Memo w0 p m M' ∧ St w0 w' (X ++ (M' ++ F)) := by
  refine zDr (n := 26) func51 rfl rfl (zNl rfl) ?_
  refine zAf (fun K2 gn => (zAa (zCa (v := .func _ _ _) (cs := [_]) zAb rfl rfl rfl hs (fun b3 w4 go => ?_))))
  refine zBb (cs := iv [0,0,0]) zAb zeroValue81 rfl go (fun b6 w7 gp => ?_)
  refine zBb (cs := [_]) zAb zeroValue4 rfl gp (fun b9 gI gq => ?_)
  refine zAe (zAc (gn _ _ (zAf (fun gJ gr => (zAa (zBb (cs := [_,_]) zAb zeroValue112 rfl gq (fun g7 gK gt => ?_)))))))
  refine zAe (zAc (gr _ _ (zAf (fun gL gu => (zAf (fun gM gv => (zAa (w_p (zAi (v := .func _ _ _) rfl rfl) rfl (zAe (zAc (gv _ _ (zAz ?_))))))))))))
  refine w_range (_ :: _ :: _ :: _ :: M) (fun i Bx => ∃ s M', s = bestUpto p (doP p) i ∧ Bx = (g7, blk 112 [.int .i64 s.v, .int .i64 s.c]) :: (b9, blk 4 [.bool s.found]) :: (b6, blk 81 (iv s.b)) :: (b3, blk 113 [.func (.func 53) #[] #[.pointer (some ⟨bf, 0, none⟩)]]) :: M' ∧ Memo w0 p m M') (fun _ _ => False) rfl rfl rfl call78 (does_iter p a c m pb (hp.app (L' := X)) (ha.app (L' := X)) hok bq (hbq.app (L' := X))) gt (best_perm X M F) ⟨⟨false, [0,0,0], 0,0⟩, M, rfl, rfl, hM⟩ ?_ ?_ ?_
  ·
   intro lp i hi Bx Xr Xr2 gN hJ hs K gw
   obtain ⟨s, M1, g0, rfl, g8⟩ := hJ
   have hi2 : i < (doP p).length := by simpa [doP] using hi
   have hslen : s.b.length = 3 := by rw [g0]; exact best_len doP_len i
   rw [List.getElem_map, show ((doC p).map pad)[i]'(by simpa [doP] using hi2) = (doP p)[i] from rfl]
   have hlen := doP_len _ (List.getElem_mem hi2)
   have hl1 := doP_in _ (List.getElem_mem hi2)
   obtain ⟨l, hl⟩ : ∃ l, l = (doP p)[i] := ⟨_, rfl⟩
   rw [← hl] at hlen hl1 ⊢
   replace hs := (show St _ _ (_ :: _ :: _ :: _ :: (M1 ++ (Xr ++ (X ++ F)))) from hs)
   refine zAa (zBb (cs := iv [0,0,0]) zAb zeroValue81 rfl hs (fun gh gO gx => ?_))
   refine zCm (i := 0) (l := _) zAb sizeOf81 (by first | omega | rfl | (simp only [hslen, zL] <;> omega)) rfl rfl rfl rfl rfl gx rfl (by first | omega | rfl | (simp only [hslen, zL] <;> omega)) (fun gP gy => ?_)
   refine zAe (zAc (gw _ _ (_ :: _ :: _ :: _ :: _ :: M1) gy (fun gQ g5 => ?_)))
   replace g5 := (show St _ _ (_ :: _ :: _ :: _ :: _ :: M1 ++ (Xr2 ++ (X ++ (F)))) from g5)
   refine zAz ?_
   refine zAf (fun gR gz => (zAa (w_p (zAj isAgg113 g5 rfl rfl (zAh (i := 4) (vs := [_]) rfl rfl)) rfl (w_p (zB5 (i := 0) isAgg81 sizeOf81 (by first | omega | rfl | (simp only [hslen, zL] <;> omega)) g5 rfl rfl rfl) rfl ?_))))
   refine zAs zAb call53 rfl rfl rfl rfl ((c53 (X := _ :: _ :: _ :: _ :: _ :: []) (F := Xr2 ++ (X ++ F)) p _ c m pb (hp.app (L' := X)).app (ha.app (L' := X)).app hok bf (hbf.app (L' := X)).app l hlen hl1 g8 g5)) ?_
   rintro _ gT ⟨rfl, M2, g4, g9⟩
   replace g9 := (show St _ _ (_ :: _ :: _ :: _ :: _ :: M2 ++ (Xr2 ++ (X ++ (F)))) from g9)
   refine zBb (cs := [_,_]) zAb zeroValue112 rfl g9 (fun gi gU gA => ?_)
   refine zA4 (i := 0) (v := .agg #[.int _ _, .int _ _]) (vs := [_,_]) zAb sizeOf112 rfl rfl rfl rfl rfl (by simp [Value.oneCell']) gA rfl (zNl rfl) (fun gV gB => ?_)
   refine zAe (zAc (gz _ _ (zAf (fun gW gj => (zCs [] [(0,1),(1,0),(2,0),(3,0),(4,0),(5,2),(6,0),(7,0)] zCg (by kernel_rfl) gB (fun gX g6 => ?_))))))
   refine zBh rfl zAb rfl g6 (fun _ hq => (zAj isAgg4 hq rfl rfl (zAh (i := 3) (vs := [_]) rfl rfl))) ?_
   refine d_w rfl (fun _ => zDi rfl rfl) rfl ?_
   refine d_w rfl (fun _ => zAi (v := .bool _) rfl rfl) rfl ?_
   refine zDu (fun ga => ?_) (fun ga => ?_)
   ·
    try simp only [zS] at ga
    refine zB8 rfl rfl rfl rfl ?_
    refine zB8 rfl rfl rfl rfl ?_
    refine zC9 rfl ?_
    refine zAg rfl rfl rfl ?_
    refine zAe (qn ⟨g6, ?_⟩)
    refine zB8 rfl rfl rfl rfl ?_
    refine d_w rfl (fun _ => zAx (v := _) rfl rfl rfl rfl) rfl ?_
    refine zB0 ?_
    refine zAc (gj _ _ (zCh rfl rfl ?_))
    refine w_drawC (C := fun w => ∃ bc : List Int, bc.length = 3 ∧ St w0 w ((gi, blk 112 [.int .i64 (vain p l), .int .i64 (cut p.farms l)]) :: (gh, blk 81 (iv l)) :: (g7, blk 112 [.int .i64 s.v, .int .i64 s.c]) :: (b9, blk 4 [.bool s.found]) :: (b6, blk 81 (iv bc)) :: (b3, blk 113 [.func (.func 53) #[] #[.pointer (some ⟨bf, 0, none⟩)]]) :: (M2 ++ (Xr2 ++ (X ++ F))))) [3,4] [(0,1),(1,1),(2,2),(3,3),(4,3)] zCg (by kernel_rfl) ⟨_, (by first | exact hslen | exact hlen | assumption), g6⟩ (fun _ ⟨bc, h1, h2⟩ => ⟨bc, h1, h2.drew⟩) (fun gY ⟨bc, hbc, gb⟩ => ?_)
    refine zE8 rfl zAb rfl ⟨_, (by first | exact hslen | exact hlen | assumption), gb⟩ (fun _ ⟨bc, hbc, hq⟩ => (zB5 (i := 1) isAgg81 sizeOf81 (by first | omega | rfl | (simp only [hslen, zL] <;> omega)) hq rfl rfl rfl)) ?_
    refine zE8 rfl zAb rfl ⟨_, (by first | exact hslen | exact hlen | assumption), gb⟩ (fun _ ⟨bc, hbc, hq⟩ => (zA7 (vs := [_,_]) isAgg112 sizeOf112 hq rfl rfl (zAh (i := 0) (vs := [_,_]) rfl rfl))) ?_
    refine zC9 rfl ?_
    refine zCm (i := 4) (l := _) zAb sizeOf81 (by first | omega | rfl | (simp only [hslen, zL] <;> omega)) rfl rfl rfl rfl rfl gb rfl (by first | omega | rfl | (simp only [hslen, zL] <;> omega)) (fun gZ gk => ?_)
    refine zAe (qn ⟨⟨_, (by first | exact hslen | exact hlen | assumption), gk⟩, ?_⟩)
    refine zDt rfl ?_
    refine zA4 (i := 2) (v := .agg #[.int _ _, .int _ _]) (vs := [_,_]) zAb sizeOf112 rfl rfl rfl rfl rfl (by simp [Value.oneCell']) gk rfl (zNl rfl) (fun hD gC => ?_)
    refine zAe (qn ?_)
    refine zDt rfl ?_
    refine zA4 (i := 3) (v := .bool _) (vs := [_]) zAb sizeOf4 rfl rfl rfl rfl rfl (by simp [Value.oneCell']) gC rfl (zNl rfl) (fun hO gD => ?_)
    refine zAe (qn ?_)
    refine zB0 ?_
    refine zAl (zCu (_ :: _ :: _ :: _ :: M2) gD.tail.tail ?_)
    first
      | exact ⟨⟨true, l, vain p l, cut p.farms l⟩, M2, by rw [zCy hi2, ← g0, ← hl]; exact (zEr (.inl (by assumption))).symm, rfl, g4⟩
      | exact ⟨⟨true, l, vain p l, cut p.farms l⟩, M2, by rw [zCy hi2, ← g0, ← hl]; exact (zEr (.inr (by rw [← hz]; exact decide_eq_true (by assumption)))).symm, rfl, g4⟩
      | exact ⟨s, M2, by rw [zCy hi2, ← g0, ← hl]; exact (zIu (by assumption) (by rw [← hz]; exact decide_eq_false (by omega))).symm, rfl, g4⟩
   try simp only [zS] at ga
   refine zBx rfl (zAp rfl rfl rfl) rfl (fun _ => (zI8 underlying112 sizeOf3 rfl rfl)) ?_
   refine zBx rfl (zAp rfl rfl rfl) rfl (fun _ => (zI8 underlying112 sizeOf3 rfl rfl)) ?_
   refine zC9 rfl ?_
   refine zAs (zAp rfl rfl rfl) call77 rfl rfl rfl rfl (c77 _ _ [_,_] [_,_] _ _ (by simp) (by simp) (zBp (i := 0) (rows := [[_], [_]]) rfl (by simp) rfl) (zBp (i := 2) (rows := [[_], [_]]) rfl (by simp) rfl) g6) ?_
   rintro _ hP ⟨⟨z, rfl, hz⟩, gc⟩
   refine zAe (qn ⟨gc, ?_⟩)
   refine zBx rfl (zAp rfl rfl rfl) rfl (fun _ => (zCl rfl rfl rfl rfl)) ?_
   refine d_w rfl (fun _ => zBd (v := .bool _) rfl rfl rfl rfl) rfl ?_
   refine zB0 ?_
   refine zAc (gj _ _ (zAy rfl rfl (fun gd => ?_) (fun gd => ?_)))
   ·
    try simp only [zS] at gd
    refine w_drawC (C := fun w => ∃ bc : List Int, bc.length = 3 ∧ St w0 w ((gi, blk 112 [.int .i64 (vain p l), .int .i64 (cut p.farms l)]) :: (gh, blk 81 (iv l)) :: (g7, blk 112 [.int .i64 s.v, .int .i64 s.c]) :: (b9, blk 4 [.bool s.found]) :: (b6, blk 81 (iv bc)) :: (b3, blk 113 [.func (.func 53) #[] #[.pointer (some ⟨bf, 0, none⟩)]]) :: (M2 ++ (Xr2 ++ (X ++ F))))) [3,4] [(0,1),(1,1),(2,2),(3,3),(4,3)] zCg (by kernel_rfl) ⟨_, (by first | exact hslen | exact hlen | assumption), gc⟩ (fun _ ⟨bc, h1, h2⟩ => ⟨bc, h1, h2.drew⟩) (fun hX ⟨bc, hbc, ge⟩ => ?_)
    refine zE8 rfl zAb rfl ⟨_, (by first | exact hslen | exact hlen | assumption), ge⟩ (fun _ ⟨bc, hbc, hq⟩ => (zB5 (i := 1) isAgg81 sizeOf81 (by first | omega | rfl | (simp only [hslen, zL] <;> omega)) hq rfl rfl rfl)) ?_
    refine zE8 rfl zAb rfl ⟨_, (by first | exact hslen | exact hlen | assumption), ge⟩ (fun _ ⟨bc, hbc, hq⟩ => (zA7 (vs := [_,_]) isAgg112 sizeOf112 hq rfl rfl (zAh (i := 0) (vs := [_,_]) rfl rfl))) ?_
    refine zC9 rfl ?_
    refine zCm (i := 4) (l := _) zAb sizeOf81 (by first | omega | rfl | (simp only [hslen, zL] <;> omega)) rfl rfl rfl rfl rfl ge rfl (by first | omega | rfl | (simp only [hslen, zL] <;> omega)) (fun hY gl => ?_)
    refine zAe (qn ⟨⟨_, (by first | exact hslen | exact hlen | assumption), gl⟩, ?_⟩)
    refine zDt rfl ?_
    refine zA4 (i := 2) (v := .agg #[.int _ _, .int _ _]) (vs := [_,_]) zAb sizeOf112 rfl rfl rfl rfl rfl (by simp [Value.oneCell']) gl rfl (zNl rfl) (fun j0 gE => ?_)
    refine zAe (qn ?_)
    refine zDt rfl ?_
    refine zA4 (i := 3) (v := .bool _) (vs := [_]) zAb sizeOf4 rfl rfl rfl rfl rfl (by simp [Value.oneCell']) gE rfl (zNl rfl) (fun j1 gF => ?_)
    refine zAe (qn ?_)
    refine zB0 ?_
    refine zAl (zCu (_ :: _ :: _ :: _ :: M2) gF.tail.tail ?_)
    first
      | exact ⟨⟨true, l, vain p l, cut p.farms l⟩, M2, by rw [zCy hi2, ← g0, ← hl]; exact (zEr (.inl (by assumption))).symm, rfl, g4⟩
      | exact ⟨⟨true, l, vain p l, cut p.farms l⟩, M2, by rw [zCy hi2, ← g0, ← hl]; exact (zEr (.inr (by rw [← hz]; exact decide_eq_true (by assumption)))).symm, rfl, g4⟩
      | exact ⟨s, M2, by rw [zCy hi2, ← g0, ← hl]; exact (zIu (by assumption) (by rw [← hz]; exact decide_eq_false (by omega))).symm, rfl, g4⟩
   try simp only [zS] at gd
   refine zAv (zAl (zCu (_ :: _ :: _ :: _ :: M2) gc.tail.tail ?_))
   first
     | exact ⟨⟨true, l, vain p l, cut p.farms l⟩, M2, by rw [zCy hi2, ← g0, ← hl]; exact (zEr (.inl (by assumption))).symm, rfl, g4⟩
     | exact ⟨⟨true, l, vain p l, cut p.farms l⟩, M2, by rw [zCy hi2, ← g0, ← hl]; exact (zEr (.inr (by rw [← hz]; exact decide_eq_true (by assumption)))).symm, rfl, g4⟩
     | exact ⟨s, M2, by rw [zCy hi2, ← g0, ← hl]; exact (zIu (by assumption) (by rw [← hz]; exact decide_eq_false (by omega))).symm, rfl, g4⟩
  ·
   intro bd Bx j2 hJ hs
   obtain ⟨s, M1, g0, rfl, g8⟩ := hJ
   have hslen : s.b.length = 3 := by rw [g0]; exact best_len doP_len _
   replace hs := (show St _ _ (_ :: _ :: _ :: _ :: _ :: (M1 ++ (X ++ F))) from hs)
   refine zAl (zAc (gu _ _ (zAf (fun j3 gG => (zCs [3] [(0,1),(1,1),(2,2),(3,3)] zCg (by kernel_rfl) hs (fun j4 gf => ?_))))))
   refine zBh rfl zAb rfl gf (fun _ hq => (zB5 (i := 3) isAgg81 sizeOf81 (by first | omega | rfl | (simp only [hslen, zL] <;> omega)) hq rfl rfl rfl)) ?_
   refine zBh rfl zAb rfl gf (fun _ hq => (zAj isAgg4 hq rfl rfl (zAh (i := 2) (vs := [_]) rfl rfl))) ?_
   refine zC9 rfl ?_
   refine zCm (i := 3) (l := _) zAb sizeOf81 (by first | omega | rfl | (simp only [hslen, zL] <;> omega)) rfl rfl rfl rfl rfl gf rfl (by first | omega | rfl | (simp only [hslen, zL] <;> omega)) (fun j5 gm => ?_)
   refine zAe (qn ⟨gm, ?_⟩)
   refine zDt rfl ?_
   refine zA4 (i := 2) (v := .bool _) (vs := [_]) zAb sizeOf4 rfl rfl rfl rfl rfl (by simp [Value.oneCell']) gm rfl (zNl rfl) (fun j6 gH => ?_)
   refine zAe (qn ?_)
   refine zB0 ?_
   refine zAc (gG _ _ (zA2 (zEw (i := 0) (l := [.cell 4 81, .cell 5 4]) (vs := [_,_]) gH rfl rfl (fun j7 gg => ⟨⟨⟨rfl, _, rfl, zGc (i := 3) isAgg81 sizeOf81 (by first | omega | rfl | (simp only [hslen, zL] <;> omega)) gg rfl⟩, ⟨rfl, _, rfl, zB1 isAgg4 gg (zAh (i := 2) (vs := [_]) rfl rfl)⟩, trivial⟩, ?_⟩))))
   rw [List.length_map, List.length_map] at *
   have hbe : s = best p (doP p) := g0.trans (zI5 (by simp [doP]))
   rw [← hbe]
   exact ⟨rfl, M1, g8, St.perm (L := M1 ++ (X ++ F)) gg.tail.tail.tail.tail.tail (zAq M1 X F)⟩
  intro _ _ _ _ hJ
  exact hJ.elim

end Go.Proofs.Cb
set_option maxRecDepth 20000
namespace Go.Proofs.Cb
open Go.Proofs.Tryz
open Go.Rt Go.Rt.Ca
attribute [local irreducible] WL WC Con Yd At Ats Sl Agree DW
theorem zCk : Tryz.prog.info? 3 = some Tryz.t3 := by kernel_rfl
theorem drop_plan {w0 w : World} {b6 bq b5 pb b1 : Nat × Obj} {M F : List (Nat × Obj)} (h : St w0 w (b6 :: (M ++ (bq :: b5 :: pb :: b1 :: F)))) : St w0 w F := h.tail.drop.tail.tail.tail.tail
theorem zIt {w0 w : World} {bs b6 bq b5 pb b1 : Nat × Obj} {M F : List (Nat × Obj)} (h : St w0 w (bs :: b6 :: (M ++ (bq :: b5 :: pb :: b1 :: F)))) : St w0 w (bs :: F) := by
  have e : bs :: b6 :: (M ++ (bq :: b5 :: pb :: b1 :: F)) = bs :: ((b6 :: (M ++ [bq, b5, pb, b1])) ++ F) := by simp
  rw [e] at h
  exact zFj h
theorem c21 {w0 w : World} {F : List (Nat × Obj)} (p : Port) (a : Option Addr) (c : Nat) (hl3 : p.farms.length ≤ 9223372036854775807) (hc : p.farms.length ≤ c) (ha : Sl w0 F a 6 (rows p.farms)) (hnm : ∀ f ∈ p.farms, f.name.size ≤ 9223372036854775807)  (hs : St w0 w F) :
  Con Tryz.prog 21 [.agg (p.cells a c).toArray] w fun v w' => ∃ B aq cq, v = .tuple #[.slice aq (planL p).length cq, .int .i64 (planV p), .int .i64 (planE p)] ∧ Sl w0 (B ++ F) aq 1 ((planL p).map fun x => [Value.int .i64 x]) ∧ St w0 w' (B ++ F) := by
  refine zAu (n := 39) func21 rfl rfl (zNl rfl) ?_
  refine zAf (fun K2 gd => (zAa (zCa (v := .agg #[.int _ _, .int _ _, .int _ _, .slice _ _ _]) (cs := [_,_,_,_]) zAb rfl rfl rfl hs (fun b3 w4 gb => ?_))))
  refine zBg rfl rfl (zBg rfl rfl (zBg rfl rfl (zAe (zAc (gd _ _ (zAf (fun K7 ge => (zAf (fun K9 gf => (zAa (w_p (zA7 (vs := [_,_,_,_]) isAgg26 sizeOf26 gb rfl rfl (zAh (i := 0) (vs := [_,_,_,_]) rfl rfl)) rfl ?_)))))))))))
  refine zAs zAb call49 rfl rfl rfl rfl (c49 p _ _ (by omega) (by omega) ha.cons hnm gb) ?_
  rintro _ gx ⟨rfl, g4⟩
  refine w_p (zAi (v := .tuple _) rfl rfl) rfl (w_p (zAn (v := .int _ _) rfl rfl rfl) rfl (w_p (zAn (v := .int _ _) rfl rfl rfl) rfl (w_p (zAn (v := .int _ _) rfl rfl rfl) rfl (zBl rfl rfl (zAe (zAc (gf _ _ (zAf (fun gy gg => (zAa (zBa rfl rfl ?_)))))))))))
  refine w_p (zCt rfl rfl rfl rfl) rfl (zAe (zAc (gg _ _ (zAy rfl rfl (fun g7 => ?_) (fun g7 => ?_)))))
  ·
   try simp only [zS] at g7
   refine zAf (fun gz gh => (zAa (zBa rfl rfl (zBg rfl rfl (zBg rfl rfl (zBl rfl rfl (zAe (zAc (gh _ _ (zA2 (zAk (zA9 (l := [.tmp 2, .tmp 3, .tmp 4]) (vs := [_,_,_]) rfl ⟨⟨rfl, show _ = (.slice _ _ _ : Value) from rfl⟩, ⟨rfl, (rfl : _ = Value.int _ _)⟩, ⟨rfl, (rfl : _ = Value.int _ _)⟩, trivial⟩ ?_))))))))))))
   first
     | (obtain ⟨e1, e2, e3⟩ := plan_e1 (p := p) (by assumption)
        refine ⟨[], none, 0, ?_, ?_, g4.tail⟩
        · rw [e1, e2, e3]; rfl
        · rw [e1]; exact Sl.nil _ _)
     | (obtain ⟨e1, e2, e3⟩ := plan_e2 (p := p) (by assumption) (by assumption)
        refine ⟨[], none, 0, ?_, ?_, drop_plan g4⟩
        · rw [e1, e2, e3]; rfl
        · rw [e1]; exact Sl.nil _ _)
     | (obtain ⟨hpl, e2, e3⟩ := plan_ok (p := p) (by assumption) (by assumption)
        have hlp : (planL p).length = p.farms.length := by rw [hpl, List.length_take]; omega
        have hcs : (best p (doP p)).b.take p.farms.length ++ (List.replicate p.farms.length 0).drop 3 = planL p := by rw [hpl, List.drop_of_length_le (by simp; omega), List.append_nil]
        have hfin := zIt g4
        rw [hcs] at hfin
        refine ⟨[_], _, p.farms.length, ?_, zEa (i := 0) rfl, hfin⟩
        rw [hlp, e2, e3]; rfl)
  try simp only [zS] at g7
  refine zAv (zAc (ge _ _ (zAf (fun gA gi => ?_))))
  have hok := check_ok (by assumption)
  have hlen3 := hok.len
  refine zAa (w_p (zA7 (vs := [_,_,_,_]) isAgg26 sizeOf26 g4 rfl rfl (zAh (i := 0) (vs := [_,_,_,_]) rfl rfl)) rfl (zAs zAb call50 rfl rfl rfl rfl (c50 p _ _ g4) ?_))
  rintro _ gB ⟨m, pb, rfl, gj⟩
  refine zBb (cs := [_]) zAb zeroValue79 rfl gj (fun g0 gC gk => ?_)
  refine zA4 (i := 0) (v := .pointer _) (vs := [_]) zAb sizeOf79 rfl rfl rfl rfl rfl (by simp [Value.oneCell']) gk rfl (zNl rfl) (fun gD gc => ?_)
  refine zAe (zAc (gi _ _ (zAf (fun gE gl => (zAa (w_p (zAj isAgg79 gc rfl rfl (zAh (i := 0) (vs := [_]) rfl rfl)) rfl (zAs zAb call52 rfl rfl rfl rfl (c52 _ gc) ?_)))))))
  rintro _ gF ⟨bq, rfl, gm⟩
  refine w_p (zCd (fv := []) (cv := [_]) rfl rfl rfl rfl) rfl (zAs zAb call51 rfl rfl rfl rfl (c51 (X := []) (M := [_]) (F := ((bq, blk 79 [.pointer (some ⟨pb, 0, none⟩)]) :: (g0, blk 79 [.pointer (some ⟨pb, 0, none⟩)]) :: (pb, blk 137 [.int .i64 p.hold, .int .i64 p.clo, .int .i64 p.chi, .slice a p.farms.length c, .map (some m)]) :: (b3, blk 26 (p.cells a c)) :: F)) p _ c m pb (zAh (i := 2) (vs := [_,_,_,_,_]) rfl rfl) ha.cons.cons.cons.cons hok bq g0 (zAh (i := 0) (vs := [_]) rfl rfl) (zAh (i := 1) (vs := [_]) rfl rfl) (zEz _ _ _) (gm.perm (zAq [_,_] [_] _))) ?_)
  rintro _ gG ⟨rfl, M1, gn, g8⟩
  have hb1 : Ats w0 ((bq, blk 79 [.pointer (some ⟨pb, 0, none⟩)]) :: (g0, blk 79 [.pointer (some ⟨pb, 0, none⟩)]) :: (pb, blk 137 [.int .i64 p.hold, .int .i64 p.clo, .int .i64 p.chi, .slice a p.farms.length c, .map (some m)]) :: (b3, blk 26 (p.cells a c)) :: F) b3 0 (p.cells a c) := zAh (i := 3) (vs := p.cells a c) rfl rfl
  have hb5 : Ats w0 ((bq, blk 79 [.pointer (some ⟨pb, 0, none⟩)]) :: (g0, blk 79 [.pointer (some ⟨pb, 0, none⟩)]) :: (pb, blk 137 [.int .i64 p.hold, .int .i64 p.clo, .int .i64 p.chi, .slice a p.farms.length c, .map (some m)]) :: (b3, blk 26 (p.cells a c)) :: F) g0 0 [.pointer (some ⟨pb, 0, none⟩)] := zAh (i := 1) (vs := [_]) rfl rfl
  have hpx : Ats w0 ((bq, blk 79 [.pointer (some ⟨pb, 0, none⟩)]) :: (g0, blk 79 [.pointer (some ⟨pb, 0, none⟩)]) :: (pb, blk 137 [.int .i64 p.hold, .int .i64 p.clo, .int .i64 p.chi, .slice a p.farms.length c, .map (some m)]) :: (b3, blk 26 (p.cells a c)) :: F) pb 0 [.int .i64 p.hold, .int .i64 p.clo, .int .i64 p.chi, .slice a p.farms.length c, .map (some m)] := zAh (i := 2) (vs := [_,_,_,_,_]) rfl rfl
  replace g8 := (show St _ _ (M1 ++ (_ :: _ :: _ :: _ :: F)) from g8)
  have hb3 := best_len (p := p) (doP_len (p := p)) (doP p).length
  have hbi := best_in (p := p) (doP_in (p := p)) (doP p).length
  rw [zI5 (Nat.le_refl _)] at hb3 hbi
  refine w_p (zAi (v := .tuple _) rfl rfl) rfl (w_p (zAn (v := (ia _)) rfl rfl rfl) rfl (w_p (zAn (v := .bool _) rfl rfl rfl) rfl (zBb (cs := iv [0,0,0]) zAb zeroValue81 rfl g8 (fun gH gI go => ?_))))
  refine zCm (i := 0) (l := _) zAb sizeOf81 (by first | omega | rfl | (simp only [hb3, zL] <;> omega)) rfl rfl rfl rfl rfl go rfl (by first | omega | rfl | (simp only [hb3, zL] <;> omega)) (fun gJ g5 => ?_)
  refine w_p (zAm (v := .bool _) rfl rfl) rfl (zAe (zAc (gl _ _ (zAf (fun gK gp => (zAf (fun gL gq => (zAa (w_p (zAi (v := .bool _) rfl rfl) rfl ?_)))))))))
  refine w_p (zDi rfl rfl) rfl (zAe (zAc (gq _ _ (zAy rfl rfl (fun g9 => ?_) (fun g9 => ?_)))))
  ·
   try simp only [zS] at g9
   refine zAf (fun gM gr => (zAa (zBg rfl rfl (zBg rfl rfl (zBg rfl rfl (zAe (zAc (gr _ _ (zA2 (zAk (zA9 (l := [.tmp 2, .tmp 3, .tmp 4]) (vs := [_,_,_]) rfl ⟨⟨rfl, show _ = (.slice _ _ _ : Value) from rfl⟩, ⟨rfl, (rfl : _ = Value.int _ _)⟩, ⟨rfl, (rfl : _ = Value.int _ _)⟩, trivial⟩ ?_)))))))))))
   first
     | (obtain ⟨e1, e2, e3⟩ := plan_e1 (p := p) (by assumption)
        refine ⟨[], none, 0, ?_, ?_, g5.tail.drop.tail.tail.tail.tail⟩
        · rw [e1, e2, e3]; rfl
        · rw [e1]; exact Sl.nil _ _)
     | (obtain ⟨e1, e2, e3⟩ := plan_e2 (p := p) (by assumption) (by assumption)
        refine ⟨[], none, 0, ?_, ?_, drop_plan g5⟩
        · rw [e1, e2, e3]; rfl
        · rw [e1]; exact Sl.nil _ _)
     | (obtain ⟨hpl, e2, e3⟩ := plan_ok (p := p) (by assumption) (by assumption)
        have hlp : (planL p).length = p.farms.length := by rw [hpl, List.length_take]; omega
        have hcs : (best p (doP p)).b.take p.farms.length ++ (List.replicate p.farms.length 0).drop 3 = planL p := by rw [hpl, List.drop_of_length_le (by simp; omega), List.append_nil]
        have hfin := zIt g5
        rw [hcs] at hfin
        refine ⟨[_], _, p.farms.length, ?_, zEa (i := 0) rfl, hfin⟩
        rw [hlp, e2, e3]; rfl)
  try simp only [zS] at g9
  refine zAv (zAc (gp _ _ (zAf (fun gN gt => (zAa (w_p (zAd (o := 3) (i := 2) underlying26 rfl sizeOf24 rfl rfl rfl) rfl (w_p (zAj isAgg24 g5.tail.drop rfl rfl (show Ats _ _ _ _ [_] from Ats.part hb1 3 1)) rfl ?_)))))))
  refine w_p (zBm underlying24 rfl rfl) rfl (zIf (k := p.farms.length) zAb underlying34 zCk rfl rfl (by omega) rfl rfl rfl rfl rfl g5 (fun gO gP gu => ?_))
  refine w_p (zAm (v := .slice _ _ _) rfl rfl) rfl (zAe (zAc (gt _ _ (zAf (fun gQ gv => (zAa (w_p (zAi (v := .slice _ _ _) rfl rfl) rfl (w_p (zI8 underlying81 sizeOf3 rfl rfl) rfl ?_))))))))
  refine w_copyI (i := 0) zAb underlying34 sizeOf3 rfl rfl rfl rfl gu rfl (zEa (i := 1) rfl) (by first | omega | rfl | (simp only [hb3, zL] <;> omega)) (by first | omega | rfl | (simp only [hb3, zL] <;> omega)) (fun gR ga => ?_)
  refine zAe (zAc (gv _ _ (zAf (fun gT gw => (zAa (w_p (zAi (v := .slice _ _ _) rfl rfl) rfl (w_p (zAj isAgg79 ga.tail.tail.drop rfl rfl hb5) rfl (w_p (zB5 (i := 1) isAgg81 sizeOf81 (by first | omega | rfl | (simp only [hb3, zL] <;> omega)) ga rfl rfl rfl) rfl ?_))))))))
  refine zAs zAb call48 rfl rfl rfl rfl (c48 (X := [_,_]) (F := ((bq, blk 79 [.pointer (some ⟨pb, 0, none⟩)]) :: (g0, blk 79 [.pointer (some ⟨pb, 0, none⟩)]) :: (pb, blk 137 [.int .i64 p.hold, .int .i64 p.clo, .int .i64 p.chi, .slice a p.farms.length c, .map (some m)]) :: (b3, blk 26 (p.cells a c)) :: F)) p _ c m pb hpx ha.cons.cons.cons.cons hok _ hb3 hbi gn ga) ?_
  rintro _ gU ⟨rfl, M2, gV, g6⟩
  replace g6 := (show St _ _ (_ :: _ :: M2 ++ (_ :: _ :: _ :: _ :: F)) from g6)
  refine w_p (zAm (v := .slice _ _ _) rfl rfl) rfl (zBl rfl rfl (zBg rfl rfl (zAe (zAc (gw _ _ (zA2 (zA9 (l := [.tmp 2, .tmp 3, .tmp 4]) (vs := [_,_,_]) rfl ⟨⟨rfl, show _ = (.slice _ _ _ : Value) from rfl⟩, ⟨rfl, (rfl : _ = Value.int _ _)⟩, ⟨rfl, (rfl : _ = Value.int _ _)⟩, trivial⟩ ?_)))))))
  first
    | (obtain ⟨e1, e2, e3⟩ := plan_e1 (p := p) (by assumption)
       refine ⟨[], none, 0, ?_, ?_, g6.tail.tail.drop.tail.tail.tail.tail⟩
       · rw [e1, e2, e3]; rfl
       · rw [e1]; exact Sl.nil _ _)
    | (obtain ⟨e1, e2, e3⟩ := plan_e2 (p := p) (by assumption) (by assumption)
       refine ⟨[], none, 0, ?_, ?_, drop_plan g6⟩
       · rw [e1, e2, e3]; rfl
       · rw [e1]; exact Sl.nil _ _)
    | (obtain ⟨hpl, e2, e3⟩ := plan_ok (p := p) (by assumption) (by assumption)
       have hlp : (planL p).length = p.farms.length := by rw [hpl, List.length_take]; omega
       have hcs : (best p (doP p)).b.take p.farms.length ++ (List.replicate p.farms.length 0).drop 3 = planL p := by rw [hpl, List.drop_of_length_le (by simp; omega), List.append_nil]
       have hfin := zIt g6
       rw [hcs] at hfin
       refine ⟨[_], _, p.farms.length, ?_, zEa (i := 0) rfl, hfin⟩
       rw [hlp, e2, e3]; rfl)

end Go.Proofs.Cb
