/- Own texts of this claim, joined. No conditions. -/
import Derived.Test.YtnjlejikgkelgaaGreatHTopLoadeda
import Derived.Test.YtnjlejikgkelgaaGreatHTopLoadedb
set_option linter.unusedVariables false
set_option linter.unusedSimpArgs false
set_option maxRecDepth 20000
namespace Go.Proofs.Cb
open Go.Proofs.Tryz
open Go.Rt Go.Rt.Ca
attribute [local irreducible] WL WC Con Yd At Ats Sl Agree DW
theorem zG2 (x0 : Int) (w : World) : (Instr.buildSlice 34 1 [(0, .int .i64 x0)].toArray).run Tryz.prog w = .ok (.slice (some ⟨w.heap.size, 0, none⟩) 1 1) (w.alloc (Go.Rt.blk 3 [.int .i64 x0])) := by kernel_rfl
theorem Try_CC_fb1 (x0 : Int) (x1 : Int) (w : World) : (Instr.buildSlice 34 2 [(0, .int .i64 x0),(1, .int .i64 x1)].toArray).run Tryz.prog w = .ok (.slice (some ⟨w.heap.size, 0, none⟩) 2 2) (w.alloc (Go.Rt.blk 3 [.int .i64 x0, .int .i64 x1])) := by kernel_rfl
theorem zG1 (x0 : Int) (x1 : Go.Fn) (a1 c1 : Array Value) (w : World) : (Instr.build 146 [(0, .int .i64 x0),(1, .func x1 a1 c1)].toArray).run Tryz.prog w = .ok (.agg #[.int .i64 x0, .func x1 a1 c1]) w := by kernel_rfl
theorem Try_CC_fb3 (x0 : Int) (x1 : Go.Fn) (a1 c1 : Array Value) (x2 : Int) (x3 : Go.Fn) (a3 c3 : Array Value) (x4 : Int) (x5 : Go.Fn) (a5 c5 : Array Value) (x6 : Int) (x7 : Go.Fn) (a7 c7 : Array Value) (w : World) : (Instr.buildSlice 142 4 [(0, .agg #[.int .i64 x0, .func x1 a1 c1]),(1, .agg #[.int .i64 x2, .func x3 a3 c3]),(2, .agg #[.int .i64 x4, .func x5 a5 c5]),(3, .agg #[.int .i64 x6, .func x7 a7 c7])].toArray).run Tryz.prog w = .ok (.slice (some ⟨w.heap.size, 0, none⟩) 4 4) (w.alloc (Go.Rt.blk 146 [.int .i64 x0, .func x1 a1 c1, .int .i64 x2, .func x3 a3 c3, .int .i64 x4, .func x5 a5 c5, .int .i64 x6, .func x7 a7 c7])) := by kernel_rfl
theorem sl_farm {w0 : World} {F : List (Nat × Obj)} {a : Option Addr} {l : List Farm} {i : Nat} (h : Sl w0 F a 6 (rows l)) (hi : i < l.length) :
    ∃ b off, a = some ⟨b, off, none⟩ ∧ Ats w0 F b (off + i * 6) l[i].cells := by
  obtain ⟨b, off, ha, _, hat⟩ := h.at (i := i) (row := l[i].cells) (by simp [rows, hi])
  exact ⟨b, off, ha, hat⟩
theorem any_takeF {l : List Farm} {p : Farm → Bool} {i : Nat} (h : (l.take i).any p = false) (hi : i < l.length) (hp : p l[i] = false) : (l.take (i + 1)).any p = false := by
  rw [List.take_succ_eq_append_getElem hi, List.any_append, h]; simp [hp]
theorem c17 {w0 w : World} {F : List (Nat × Obj)} (f : Farm) (hs : St w0 w F) :
  Con Tryz.prog 17 [.agg f.cells.toArray] w fun v w' => v = .int .i64 (farmErr f) ∧ St w0 w' F := by
  refine zAu (n := 24) func17 rfl rfl (zNl rfl) ?_
  refine zAf (fun K2 gb => (zAa (zCa (v := .agg #[.string _, .int _ _, .int _ _, .int _ _, .int _ _, .int _ _]) (cs := [_,_,_,_,_,_]) zAb rfl rfl rfl hs (fun b3 w4 ga => ?_))))
  refine zBg rfl rfl (zAe (zAc (gb _ _ (zAf (fun K7 gc => (zAf (fun K9 g4 => (zAa (w_p (zAd (o := 1) (i := 1) underlying46 rfl sizeOf3 rfl rfl rfl) rfl ?_)))))))))
  refine w_p (zAj isAgg3 ga rfl rfl (zAh (i := 0) (vs := [_]) rfl rfl)) rfl (zAs zAb call15 rfl rfl rfl rfl (c15 _ _ _ ga) ?_)
  rintro _ gi ⟨rfl, g5⟩
  refine w_p (zDi rfl rfl) rfl (w_p (zAi (v := .bool _) rfl rfl) rfl (zBk (fun g6 => ?_) (fun g6 => ?_)))
  ·
   try simp only [zS] at g6
   refine zAg rfl rfl rfl ?_
   refine zAg rfl rfl rfl ?_
   refine zAg rfl rfl rfl ?_
   refine zAg rfl rfl rfl ?_
   refine w_p (zAx (v := _) rfl rfl rfl rfl) rfl (w_p (zAi (v := .bool _) rfl rfl) rfl (zAg rfl rfl rfl ?_))
   refine zAg rfl rfl rfl ?_
   refine zAg rfl rfl rfl ?_
   refine zAg rfl rfl rfl ?_
   refine zAg rfl rfl rfl ?_
   refine zAg rfl rfl rfl ?_
   refine w_p (zAx (v := _) rfl rfl rfl rfl) rfl (zAe (zAc (g4 _ _ (zCh rfl rfl ?_))))
   refine zAf (fun gj gd => (zAa (zBg rfl rfl (zAe (zAc (gd _ _ (zA2 (zAk (zA9 (l := [.tmp 2]) (vs := [_]) rfl ⟨⟨rfl, (rfl : _ = Value.int _ _)⟩, trivial⟩ ?_)))))))))
   exact ⟨congrArg (Value.int .i64) (by unfold farmErr out; simp only [Bool.or_eq_true, decide_eq_true_eq]; split <;> first | rfl | omega), g5.tail⟩
  try simp only [zS] at g6
  refine w_y rfl rfl rfl (zAd (o := 2) (i := 2) underlying46 rfl sizeOf3 rfl rfl rfl) rfl ?_
  refine w_y rfl rfl rfl (zAj isAgg3 g5 rfl rfl (zAh (i := 0) (vs := [_]) rfl rfl)) rfl ?_
  refine zAs (zAp rfl rfl rfl) call15 rfl rfl rfl rfl (c15 _ _ _ g5) ?_
  rintro _ gk ⟨rfl, g0⟩
  refine w_y rfl rfl rfl (zDi rfl rfl) rfl ?_
  refine w_p (zBd (v := .bool _) rfl rfl rfl rfl) rfl (w_p (zAi (v := .bool _) rfl rfl) rfl (zBk (fun g7 => ?_) (fun g7 => ?_)))
  ·
   try simp only [zS] at g7
   refine zAg rfl rfl rfl ?_
   refine zAg rfl rfl rfl ?_
   refine zAg rfl rfl rfl ?_
   refine zAg rfl rfl rfl ?_
   refine zAg rfl rfl rfl ?_
   refine zAg rfl rfl rfl ?_
   refine w_p (zAx (v := _) rfl rfl rfl rfl) rfl (zAe (zAc (g4 _ _ (zCh rfl rfl ?_))))
   refine zAf (fun gl ge => (zAa (zBg rfl rfl (zAe (zAc (ge _ _ (zA2 (zAk (zA9 (l := [.tmp 2]) (vs := [_]) rfl ⟨⟨rfl, (rfl : _ = Value.int _ _)⟩, trivial⟩ ?_)))))))))
   exact ⟨congrArg (Value.int .i64) (by unfold farmErr out; simp only [Bool.or_eq_true, decide_eq_true_eq]; split <;> first | rfl | omega), g0.tail⟩
  try simp only [zS] at g7
  refine w_y rfl rfl rfl (zAd (o := 3) (i := 3) underlying46 rfl sizeOf3 rfl rfl rfl) rfl ?_
  refine w_y rfl rfl rfl (zAj isAgg3 g0 rfl rfl (zAh (i := 0) (vs := [_]) rfl rfl)) rfl ?_
  refine w_y rfl rfl rfl (zAd (o := 1) (i := 1) underlying46 rfl sizeOf3 rfl rfl rfl) rfl ?_
  refine w_y rfl rfl rfl (zAj isAgg3 g0 rfl rfl (zAh (i := 0) (vs := [_]) rfl rfl)) rfl ?_
  refine zAs (zAp rfl rfl rfl) call15 rfl rfl rfl rfl (c15 _ _ _ g0) ?_
  rintro _ gm ⟨rfl, g8⟩
  refine w_y rfl rfl rfl (zDi rfl rfl) rfl ?_
  refine w_p (zBd (v := .bool _) rfl rfl rfl rfl) rfl (zAe (zAc (g4 _ _ (zAy rfl rfl (fun g9 => ?_) (fun g9 => ?_)))))
  ·
   try simp only [zS] at g9
   refine zAf (fun gn gf => (zAa (zBg rfl rfl (zAe (zAc (gf _ _ (zA2 (zAk (zA9 (l := [.tmp 2]) (vs := [_]) rfl ⟨⟨rfl, (rfl : _ = Value.int _ _)⟩, trivial⟩ ?_)))))))))
   exact ⟨congrArg (Value.int .i64) (by unfold farmErr out; simp only [Bool.or_eq_true, decide_eq_true_eq]; split <;> first | rfl | omega), g8.tail⟩
  try simp only [zS] at g9
  refine zAv (zAc (gc _ _ (zAf (fun go gg => (zAa (w_p (zAd (o := 4) (i := 4) underlying46 rfl sizeOf23 rfl rfl rfl) rfl (w_p (zA7 (vs := [_,_]) isAgg23 sizeOf23 g8 rfl rfl (zAh (i := 0) (vs := [_,_]) rfl rfl)) rfl ?_)))))))
  refine zAs zAb call14 rfl rfl rfl rfl (c14 _ _ _ _ g8) ?_
  rintro _ gp ⟨rfl, gh⟩
  refine zBl rfl rfl (zAe (zAc (gg _ _ (zA2 (zA9 (l := [.tmp 2]) (vs := [_]) rfl ⟨⟨rfl, (rfl : _ = Value.int _ _)⟩, trivial⟩ ?_)))))
  exact ⟨congrArg (Value.int .i64) (by unfold farmErr out; simp only [Bool.or_eq_true, decide_eq_true_eq]; split <;> first | rfl | omega), gh.tail⟩

theorem c100 {w0 w : World} {F : List (Nat × Obj)} (f : Farm) (b1 b2 : Nat) (a : Option Addr) (c : Nat) (l : List Farm) (i : Nat) (hi : i < l.length) (h1 : Ats w0 F b1 0 [.slice a l.length c]) (h2 : Ats w0 F b2 0 [.int .i64 (i : Int)]) (ha : Sl w0 F a 6 (rows l)) (hs : St w0 w F) :
  Con Tryz.prog 100 [.agg f.cells.toArray, .pointer (some ⟨b1,0, none⟩), .pointer (some ⟨b2,0, none⟩)] w fun v w' => v = .bool (decide (f.name = l[i].name)) ∧ St w0 w' F := by
  refine zAu (n := 13) func100 rfl rfl (zNl rfl) ?_
  obtain ⟨bx, ox, rfl, hx⟩ := sl_farm ha hi
  refine zAf (fun K2 g4 => (zAa (zCa (v := .agg #[.string _, .int _ _, .int _ _, .int _ _, .int _ _, .int _ _]) (cs := [_,_,_,_,_,_]) zAb rfl rfl rfl hs (fun b3 w4 g5 => ?_))))
  refine zBg rfl rfl (zAe (zAc (g4 _ _ (zAf (fun K7 g6 => (zCs [] [(0,0),(1,1),(2,1),(3,1),(4,0),(5,0),(6,1),(7,0),(8,0)] zCg (by kernel_rfl) g5 (fun w8 g0 => ?_)))))))
  refine d_w rfl (fun _ => zAd (o := 0) (i := 0) underlying46 rfl sizeOf9 rfl rfl rfl) rfl ?_
  refine zBh rfl zAb rfl g0 (fun _ hq => (zAj isAgg9 hq rfl rfl (zAh (i := 0) (vs := [_]) rfl rfl))) ?_
  refine zBh rfl zAb rfl g0 (fun _ hq => (zAj isAgg24 hq.tail rfl rfl h1)) ?_
  refine zBh rfl zAb rfl g0 (fun _ hq => (zAj isAgg3 hq.tail rfl rfl h2)) ?_
  refine d_w rfl (fun _ => zBc underlying24 sizeOf46 rfl rfl rfl rfl (i := _) rfl (by omega)) rfl ?_
  refine d_w rfl (fun _ => zAd (o := 0) (i := 0) underlying46 rfl sizeOf9 rfl rfl rfl) rfl ?_
  refine zBh rfl zAb rfl g0 (fun _ hq => (zAj isAgg9 hq.tail rfl rfl (show Ats _ _ _ _ [_] from Ats.part hx 0 1))) ?_
  refine d_w rfl (fun _ => y_strEq rfl rfl rfl rfl) rfl ?_
  refine d_w rfl (fun _ => zAm (v := .bool _) rfl rfl) rfl ?_
  refine zB0 ?_
  refine zAc (g6 _ _ (zA2 (zA9 (l := [.tmp 4]) (vs := [_]) rfl ⟨⟨rfl, (rfl : _ = Value.bool _)⟩, trivial⟩ ?_)))
  exact ⟨rfl, g0.tail⟩

theorem c107 {w0 w : World} {F : List (Nat × Obj)} (a : Option Addr) (l : List Farm) (c : Nat) (hla : l.length ≤ 9223372036854775807) (ha : Sl w0 F a 6 (rows l)) {fk : FuncId} (hC : CF Tryz.prog fk) (first captured : Array Value) (p : Farm → Bool)
    (hp : ∀ x ∈ l, ∀ w, St w0 w F → Con Tryz.prog fk (first.toList ++ ([.agg x.cells.toArray] ++ captured.toList)) w fun v w' => v = .bool (p x) ∧ St w0 w' F) (hs : St w0 w F) :
  Con Tryz.prog 107 [.slice a l.length c, .func (.func fk) first captured] w fun v w' => (∃ z, v = .int .i64 z ∧ decide (0 ≤ z) = l.any p) ∧ St w0 w' F := by
  refine zAu (n := 19) func107 rfl rfl (zNl rfl) ?_
  refine zAf (fun K2 g6 => (zAa (zBg rfl rfl (zAe (zAc (g6 _ _ (zAf (fun K4 g7 => (zAf (fun K6 g8 => (zAa (w_p (zAi (v := .slice _ _ _) rfl rfl) rfl ?_))))))))))))
  refine w_p (zBm underlying24 rfl rfl) rfl (w_p (zAi (v := _) rfl rfl) rfl (zAe (zAc (g8 _ _ (zAz ?_)))))
  refine zB3 [4,5,8,9,10,11,12,13,14,15,16,17,18] [8] (fun k vs w => ∃ i : Nat, vs = [.int .i64 i] ∧ i ≤ l.length ∧ k = l.length - i ∧ (l.take i).any p = false ∧ St w0 w F) (l.length) ?_ ?_
  ·
   exact ⟨0, rfl, by omega, by omega, by simp, hs⟩
  intro k vs μ w9 hI K8 g9
  obtain ⟨i, rfl, hia, rfl, hpre, hs⟩ := hI
  refine zAf (fun gh ga => (zAa (w_p (zCl rfl rfl rfl rfl) rfl (zAe (zAc (ga _ _ (zAf (fun gi gb => (zAy rfl rfl (fun g0 => ?_) (fun g0 => ?_))))))))))
  ·
   try simp only [zS] at g0
   refine zAv (zAc (gb _ _ (zAf (fun gj gc => (zAz ?_)))))
   refine zAf (fun gk gd => (zAa (zBa rfl rfl (zBl rfl rfl (zAe (zAc (gd _ _ (zAf (fun gl ge => ?_)))))))))
   have hi2 : i < l.length := by omega
   obtain ⟨bx, ox, rfl, hx⟩ := sl_farm ha hi2
   refine zAa (w_p (zAi (v := .func _ _ _) rfl rfl) rfl (w_p (zAi (v := .slice _ _ _) rfl rfl) rfl (zBa rfl rfl (w_p (zBc underlying24 sizeOf46 rfl rfl rfl rfl (i := _) rfl (by omega)) rfl (w_p (zA7 (vs := [_,_,_,_,_,_]) isAgg46 sizeOf46 hs rfl rfl hx) rfl ?_)))))
   refine zAs zAb hC rfl rfl rfl rfl (hp _ (List.getElem_mem hi2) _ hs) ?_
   rintro _ gm ⟨rfl, g4⟩
   refine zAe (zAc (ge _ _ (zAy rfl rfl (fun g5 => ?_) (fun g5 => ?_))))
   ·
    try simp only [zS] at g5
    refine zAf (fun gn gf => (zAa (zBa rfl rfl (zBl rfl rfl (zAe (zAc (gf _ _ (zA2 (zAt (zAk (zAk (zAt (zAk (zA9 (l := [.tmp 4]) (vs := [_]) rfl ⟨⟨rfl, (rfl : _ = Value.int _ _)⟩, trivial⟩ ?_))))))))))))))
    first
      | exact ⟨⟨-1, rfl, by have hil : i = l.length := (by omega); subst hil; rw [List.take_length] at hpre; rw [hpre]; rfl⟩, g4⟩
      | exact ⟨⟨(i : Int), rfl, by rw [Bool.eq_iff_iff]; simp only [decide_eq_true_eq, List.any_eq_true]; exact ⟨fun _ => ⟨_, List.getElem_mem hi2, by assumption⟩, fun _ => by omega⟩⟩, g4⟩
   try simp only [zS] at g5
   refine zAv (zAl (zAc (gc _ _ (zAa (w_p (zBj rfl rfl rfl rfl (by omega) (by omega)) rfl (zBa rfl rfl (zAe (zAc (g9 _ _ (nxI (l.length - (i + 1)) (by omega) ?_))))))))))
   exact ⟨i + 1, rfl, by omega, rfl, any_takeF hpre (by omega) (by assumption), g4⟩
  try simp only [zS] at g0
  refine zBq (zAo (zAo (zA8 (zAc (g7 _ _ (zAf (fun go gg => (zAa (zBg rfl rfl (zAe (zAc (gg _ _ (zA2 (zA9 (l := [.tmp 4]) (vs := [_]) rfl ⟨⟨rfl, (rfl : _ = Value.int _ _)⟩, trivial⟩ ?_))))))))))))))
  first
    | exact ⟨⟨-1, rfl, by have hil : i = l.length := (by omega); subst hil; rw [List.take_length] at hpre; rw [hpre]; rfl⟩, hs⟩
    | exact ⟨⟨(i : Int), rfl, by rw [Bool.eq_iff_iff]; simp only [decide_eq_true_eq, List.any_eq_true]; exact ⟨fun _ => ⟨_, List.getElem_mem hi2, by assumption⟩, fun _ => by omega⟩⟩, hs⟩

theorem c99 {w0 w : World} {F : List (Nat × Obj)} (a : Option Addr) (l : List Farm) (c : Nat) (hla : l.length ≤ 9223372036854775807) (ha : Sl w0 F a 6 (rows l)) {fk : FuncId} (hC : CF Tryz.prog fk) (first captured : Array Value) (p : Farm → Bool)
    (hp : ∀ x ∈ l, ∀ w, St w0 w F → Con Tryz.prog fk (first.toList ++ ([.agg x.cells.toArray] ++ captured.toList)) w fun v w' => v = .bool (p x) ∧ St w0 w' F) (hs : St w0 w F) :
  Con Tryz.prog 99 [.slice a l.length c, .func (.func fk) first captured] w fun v w' => v = .bool (l.any p) ∧ St w0 w' F := by
  refine zAu (n := 9) func99 rfl rfl (zNl rfl) ?_
  refine zAf (fun K2 g0 => (zAa (zBg rfl rfl (zAe (zAc (g0 _ _ (zAf (fun K4 g4 => (zAa (w_p (zAi (v := .slice _ _ _) rfl rfl) rfl ?_))))))))))
  refine w_p (zAi (v := .func _ _ _) rfl rfl) rfl (zAs zAb call107 rfl rfl rfl rfl (c107 _ _ _ hla ha hC _ _ p hp hs) ?_)
  rintro _ w6 ⟨⟨z, rfl, hz⟩, g5⟩
  refine w_p (zF5 rfl rfl rfl rfl) rfl (w_p (zAm (v := .bool _) rfl rfl) rfl (zAe (zAc (g4 _ _ (zA2 (zA9 (l := [.tmp 4]) (vs := [_]) rfl ⟨⟨rfl, (rfl : _ = Value.bool _)⟩, trivial⟩ ?_))))))
  exact ⟨congrArg Value.bool hz, g5⟩

theorem c97 {w0 w : World} {F : List (Nat × Obj)} (a : Option Addr) (c : Nat) (l : List Farm) (hl3 : l.length ≤ 9223372036854775807) (hc : l.length ≤ c) (ha : Sl w0 F a 6 (rows l)) (i : Nat) (hi : i < l.length) (hnm : l[i].name.size ≤ 9223372036854775807) (hs : St w0 w F) :
  Con Tryz.prog 97 [.slice a l.length c, .int .i64 (i : Int)] w fun v w' => v = .bool (flawIs (names (l.take i)) l[i] 0) ∧ St w0 w' F := by
  refine zAu (n := 12) func97 rfl rfl (zNl rfl) ?_
  obtain ⟨bx, ox, rfl, hx⟩ := sl_farm ha hi
  refine zAf (fun K2 g0 => (zAa (zBg rfl rfl (zAe (zAc (g0 _ _ (zAf (fun K4 g4 => (zAa (w_p (zAi (v := .slice _ _ _) rfl rfl) rfl ?_))))))))))
  refine zBa rfl rfl (w_p (zBc underlying24 sizeOf46 rfl rfl rfl rfl (i := _) rfl (by omega)) rfl (w_p (zAd (o := 0) (i := 0) underlying46 rfl sizeOf9 rfl rfl rfl) rfl (w_p (zAj isAgg9 hs rfl rfl (show Ats _ _ _ _ [_] from Ats.part hx 0 1)) rfl (zAs zAb call92 rfl rfl rfl rfl (c92 _ (by omega) hs) ?_))))
  rintro _ w6 ⟨rfl, g5⟩
  refine w_p (zDi rfl rfl) rfl (w_p (zAm (v := .bool _) rfl rfl) rfl (zAe (zAc (g4 _ _ (zA2 (zA9 (l := [.tmp 4]) (vs := [_]) rfl ⟨⟨rfl, (rfl : _ = Value.bool _)⟩, trivial⟩ ?_))))))
  exact ⟨rfl, g5⟩

theorem sl_take {w0 : World} {F : List (Nat × Obj)} {a : Option Addr} {l : List Farm} {i c : Nat} (h : Sl w0 F a 6 (rows l)) (hi : i ≤ l.length) (hc : l.length ≤ c) : Sl w0 F (if c = 0 then a else a.map (·.add (0 * 6))) 6 (rows (l.take i)) := by
  have := h.cut (l' := 0) (h' := i) (c := c) (by omega) (by simpa [rows] using hi) (by simpa [rows] using hc)
  simpa [rows, List.map_take] using this
theorem has_names (l : List Farm) (s : ByteArray) : (l.any fun x => decide (x.name = s)) = has (names l) s := by
  simp [has, names, List.any_map, Function.comp_def]
theorem c98 {w0 w : World} {F : List (Nat × Obj)} (a : Option Addr) (c : Nat) (l : List Farm) (hl3 : l.length ≤ 9223372036854775807) (hc : l.length ≤ c) (ha : Sl w0 F a 6 (rows l)) (i : Nat) (hi : i < l.length) (hs : St w0 w F) :
  Con Tryz.prog 98 [.slice a l.length c, .int .i64 (i : Int)] w fun v w' => v = .bool (flawIs (names (l.take i)) l[i] 1) ∧ St w0 w' F := by
  refine zAu (n := 10) func98 rfl rfl (zNl rfl) ?_
  refine zAf (fun K2 g4 => (zAa (zCa (v := .slice _ _ _) (cs := [_]) zAb rfl rfl rfl hs (fun b3 w4 g5 => ?_))))
  refine zCa (v := .int _ _) (cs := [_]) zAb rfl rfl rfl g5 (fun b6 w7 g0 => ?_)
  refine zBg rfl rfl (zAe (zAc (g4 _ _ (zAf (fun g8 g6 => (zAa (w_p (zAj isAgg24 g0 rfl rfl (zAh (i := 1) (vs := [_]) rfl rfl)) rfl (w_p (zAj isAgg3 g0 rfl rfl (zAh (i := 0) (vs := [_]) rfl rfl)) rfl ?_))))))))
  refine w_p (zHi (l' := 0) (h' := i) underlying24 sizeOf46 rfl rfl rfl ⟨rfl, _,_, rfl, rfl⟩ (by omega) (by omega)) rfl (w_p (zCd (fv := []) (cv := [_,_]) rfl rfl rfl rfl) rfl (zAs zAb call99 rfl rfl rfl rfl ((show Con Tryz.prog 99 [.slice (if c = 0 then a else a.map (·.add (0 * 6))) (i - 0) (c - 0), _] _ _ from by rw [Nat.sub_zero, show (i = (l.take i).length) from by rw [List.length_take]; omega]; exact c99 _ (l.take i) _ (by rw [List.length_take]; omega) (sl_take ha.cons.cons (by omega) hc) call100 _ _ (fun x => decide (x.name = l[i].name)) (fun x _ w hs => c100 _ _ _ _ _ _ _ hi (zAh (i := 1) (vs := [_]) rfl rfl) (zAh (i := 0) (vs := [_]) rfl rfl) ha.cons.cons hs) g0)) ?_))
  rintro _ g9 ⟨rfl, g7⟩
  refine w_p (zAm (v := .bool _) rfl rfl) rfl (zAe (zAc (g6 _ _ (zA2 (zA9 (l := [.tmp 4]) (vs := [_]) rfl ⟨⟨rfl, (rfl : _ = Value.bool _)⟩, trivial⟩ ?_)))))
  exact ⟨congrArg Value.bool (has_names _ _), g7.tail.tail⟩

theorem c101 {w0 w : World} {F : List (Nat × Obj)} (a : Option Addr) (c : Nat) (l : List Farm) (hl3 : l.length ≤ 9223372036854775807) (hc : l.length ≤ c) (ha : Sl w0 F a 6 (rows l)) (i : Nat) (hi : i < l.length) (hs : St w0 w F) :
  Con Tryz.prog 101 [.slice a l.length c, .int .i64 (i : Int)] w fun v w' => v = .bool (flawIs (names (l.take i)) l[i] 2) ∧ St w0 w' F := by
  refine zAu (n := 38) func101 rfl rfl (zNl rfl) ?_
  obtain ⟨bx, ox, rfl, hx⟩ := sl_farm ha hi
  refine zAf (fun K2 gb => (zAa (zBg rfl rfl (zAe (zAc (gb _ _ (zAf (fun K4 gc => (zAa (w_p (zAi (v := .slice _ _ _) rfl rfl) rfl ?_))))))))))
  refine zBa rfl rfl (w_p (zBc underlying24 sizeOf46 rfl rfl rfl rfl (i := _) rfl (by omega)) rfl (w_p (zA7 (vs := [_,_,_,_,_,_]) isAgg46 sizeOf46 hs rfl rfl hx) rfl (zBb (cs := [_,_,_,_,_,_]) zAb zeroValue46 rfl hs (fun b5 w6 gd => ?_))))
  refine zA4 (i := 0) (v := .agg #[.string _, .int _ _, .int _ _, .int _ _, .int _ _, .int _ _]) (vs := [_,_,_,_,_,_]) zAb sizeOf46 rfl rfl rfl rfl rfl (by simp [Value.oneCell']) gd rfl (zNl rfl) (fun w8 ga => ?_)
  refine zAe (zAc (gc _ _ (zAf (fun gj g6 => (zAa (w_p (zAd (o := 1) (i := 1) underlying46 rfl sizeOf3 rfl rfl rfl) rfl (w_p (zAj isAgg3 ga rfl rfl (zAh (i := 0) (vs := [_]) rfl rfl)) rfl ?_)))))))
  refine zA0 (ps := [(0, _)]) (pv := [(0, .int _ _)]) (cs := [_]) zAb rfl rfl (fun w => zG2 _ w) ga (fun gk gl ge => ?_)
  refine zAs zAb call55 rfl rfl rfl rfl (c55 _ _ _ [_] _ (by simp) (zBp (i := 0) (rows := [[_]]) rfl (by simp) rfl) ge) ?_
  rintro _ gm ⟨rfl, g9⟩
  refine w_p (zAi (v := .bool _) rfl rfl) rfl (zBk (fun g0 => ?_) (fun g0 => ?_))
  ·
   try simp only [zS] at g0
   refine zAg rfl rfl rfl ?_
   refine zAg rfl rfl rfl ?_
   refine zAg rfl rfl rfl ?_
   refine zAg rfl rfl rfl ?_
   refine w_p (zAx (v := _) rfl rfl rfl rfl) rfl (w_p (zAi (v := .bool _) rfl rfl) rfl (zAg rfl rfl rfl ?_))
   refine zAg rfl rfl rfl ?_
   refine zAg rfl rfl rfl ?_
   refine zAg rfl rfl rfl ?_
   refine zAg rfl rfl rfl ?_
   refine zAg rfl rfl rfl ?_
   refine w_p (zAx (v := _) rfl rfl rfl rfl) rfl (w_p (zAi (v := .bool _) rfl rfl) rfl (zAg rfl rfl rfl ?_))
   refine zAg rfl rfl rfl ?_
   refine zAg rfl rfl rfl ?_
   refine zAg rfl rfl rfl ?_
   refine zAg rfl rfl rfl ?_
   refine zAg rfl rfl rfl ?_
   refine zAg rfl rfl rfl ?_
   refine zAg rfl rfl rfl ?_
   refine w_p (zAx (v := _) rfl rfl rfl rfl) rfl (w_p (zAm (v := .bool _) rfl rfl) rfl (zAe (zAc (g6 _ _ (zA2 (zA9 (l := [.tmp 4]) (vs := [_]) rfl ⟨⟨rfl, (rfl : _ = Value.bool _)⟩, trivial⟩ ?_))))))
   try simp only [List.any_cons, List.any_nil, Bool.or_false, Bool.or_eq_false_iff] at g0
   exact ⟨congrArg Value.bool (by simp [flawIs, g0]), g9.tail.tail⟩
  try simp only [zS] at g0
  refine w_y rfl rfl rfl (zAd (o := 2) (i := 2) underlying46 rfl sizeOf3 rfl rfl rfl) rfl ?_
  refine w_y rfl rfl rfl (zAj isAgg3 g9 rfl rfl (zAh (i := 1) (vs := [_]) rfl rfl)) rfl ?_
  refine zA0 (ps := [(0, _)]) (pv := [(0, .int _ _)]) (cs := [_]) (zAp rfl rfl rfl) rfl rfl (fun w => zG2 _ w) g9 (fun gn go gf => ?_)
  refine zAs (zAp rfl rfl rfl) call55 rfl rfl rfl rfl (c55 _ _ _ [_] _ (by simp) (zBp (i := 0) (rows := [[_]]) rfl (by simp) rfl) gf) ?_
  rintro _ gp ⟨rfl, g7⟩
  refine w_p (zBd (v := .bool _) rfl rfl rfl rfl) rfl (w_p (zAi (v := .bool _) rfl rfl) rfl (zBk (fun g4 => ?_) (fun g4 => ?_)))
  ·
   try simp only [zS] at g4
   refine zAg rfl rfl rfl ?_
   refine zAg rfl rfl rfl ?_
   refine zAg rfl rfl rfl ?_
   refine zAg rfl rfl rfl ?_
   refine zAg rfl rfl rfl ?_
   refine zAg rfl rfl rfl ?_
   refine w_p (zAx (v := _) rfl rfl rfl rfl) rfl (w_p (zAi (v := .bool _) rfl rfl) rfl (zAg rfl rfl rfl ?_))
   refine zAg rfl rfl rfl ?_
   refine zAg rfl rfl rfl ?_
   refine zAg rfl rfl rfl ?_
   refine zAg rfl rfl rfl ?_
   refine zAg rfl rfl rfl ?_
   refine zAg rfl rfl rfl ?_
   refine zAg rfl rfl rfl ?_
   refine w_p (zAx (v := _) rfl rfl rfl rfl) rfl (w_p (zAm (v := .bool _) rfl rfl) rfl (zAe (zAc (g6 _ _ (zA2 (zA9 (l := [.tmp 4]) (vs := [_]) rfl ⟨⟨rfl, (rfl : _ = Value.bool _)⟩, trivial⟩ ?_))))))
   try simp only [List.any_cons, List.any_nil, Bool.or_false, Bool.or_eq_false_iff] at g0 g4
   exact ⟨congrArg Value.bool (by simp [flawIs, g0, g4]), g7.tail.tail.tail⟩
  try simp only [zS] at g4
  refine w_y rfl rfl rfl (zAd (o := 1) (i := 1) underlying46 rfl sizeOf3 rfl rfl rfl) rfl ?_
  refine w_y rfl rfl rfl (zAj isAgg3 g7 rfl rfl (zAh (i := 2) (vs := [_]) rfl rfl)) rfl ?_
  refine w_y rfl rfl rfl (zAd (o := 3) (i := 3) underlying46 rfl sizeOf3 rfl rfl rfl) rfl ?_
  refine w_y rfl rfl rfl (zAj isAgg3 g7 rfl rfl (zAh (i := 2) (vs := [_]) rfl rfl)) rfl ?_
  refine zA0 (ps := [(0, _)]) (pv := [(0, .int _ _)]) (cs := [_]) (zAp rfl rfl rfl) rfl rfl (fun w => zG2 _ w) g7 (fun gq gr gg => ?_)
  refine zAs (zAp rfl rfl rfl) call55 rfl rfl rfl rfl (c55 _ _ _ [_] _ (by simp) (zBp (i := 0) (rows := [[_]]) rfl (by simp) rfl) gg) ?_
  rintro _ gt ⟨rfl, g8⟩
  refine w_p (zBd (v := .bool _) rfl rfl rfl rfl) rfl (w_p (zAi (v := .bool _) rfl rfl) rfl (zBk (fun g5 => ?_) (fun g5 => ?_)))
  ·
   try simp only [zS] at g5
   refine zAg rfl rfl rfl ?_
   refine zAg rfl rfl rfl ?_
   refine zAg rfl rfl rfl ?_
   refine zAg rfl rfl rfl ?_
   refine zAg rfl rfl rfl ?_
   refine zAg rfl rfl rfl ?_
   refine zAg rfl rfl rfl ?_
   refine zAg rfl rfl rfl ?_
   refine w_p (zAx (v := _) rfl rfl rfl rfl) rfl (w_p (zAm (v := .bool _) rfl rfl) rfl (zAe (zAc (g6 _ _ (zA2 (zA9 (l := [.tmp 4]) (vs := [_]) rfl ⟨⟨rfl, (rfl : _ = Value.bool _)⟩, trivial⟩ ?_))))))
   try simp only [List.any_cons, List.any_nil, Bool.or_false, Bool.or_eq_false_iff] at g0 g4 g5
   exact ⟨congrArg Value.bool (by simp [flawIs, g0, g4, g5]), g8.tail.tail.tail.tail⟩
  try simp only [zS] at g5
  refine w_y rfl rfl rfl (zAd (o := 4) (i := 4) underlying46 rfl sizeOf23 rfl rfl rfl) rfl ?_
  refine w_y rfl rfl rfl (zAd (o := 0) (i := 0) underlying23 rfl sizeOf3 rfl rfl rfl) rfl ?_
  refine w_y rfl rfl rfl (zAj isAgg3 g8 rfl rfl (zAh (i := 3) (vs := [_]) rfl rfl)) rfl ?_
  refine w_y rfl rfl rfl (zAd (o := 4) (i := 4) underlying46 rfl sizeOf23 rfl rfl rfl) rfl ?_
  refine w_y rfl rfl rfl (zAd (o := 1) (i := 1) underlying23 rfl sizeOf3 rfl rfl rfl) rfl ?_
  refine w_y rfl rfl rfl (zAj isAgg3 g8 rfl rfl (zAh (i := 3) (vs := [_]) rfl rfl)) rfl ?_
  refine zA0 (ps := [(0, _),(1, _)]) (pv := [(0, .int _ _),(1, .int _ _)]) (cs := [_,_]) (zAp rfl rfl rfl) rfl rfl (fun w => Try_CC_fb1 _ _ w) g8 (fun gu gv gh => ?_)
  refine zAs (zAp rfl rfl rfl) call55 rfl rfl rfl rfl (c55 _ _ _ [_,_] _ (by simp) (zBp (i := 0) (rows := [[_], [_]]) rfl (by simp) rfl) gh) ?_
  rintro _ gw ⟨rfl, gi⟩
  refine w_p (zBd (v := .bool _) rfl rfl rfl rfl) rfl (w_p (zAm (v := .bool _) rfl rfl) rfl (zAe (zAc (g6 _ _ (zA2 (zA9 (l := [.tmp 4]) (vs := [_]) rfl ⟨⟨rfl, (rfl : _ = Value.bool _)⟩, trivial⟩ ?_))))))
  try simp only [List.any_cons, List.any_nil, Bool.or_false, Bool.or_eq_false_iff] at g0 g4 g5
  exact ⟨congrArg Value.bool (by simp [flawIs, g0, g4, g5]), gi.tail.tail.tail.tail.tail⟩

theorem c102 {w0 w : World} {F : List (Nat × Obj)} (a : Option Addr) (c : Nat) (l : List Farm) (hl3 : l.length ≤ 9223372036854775807) (hc : l.length ≤ c) (ha : Sl w0 F a 6 (rows l)) (i : Nat) (hi : i < l.length) (hs : St w0 w F) :
  Con Tryz.prog 102 [.slice a l.length c, .int .i64 (i : Int)] w fun v w' => v = .bool (flawIs (names (l.take i)) l[i] 3) ∧ St w0 w' F := by
  refine zAu (n := 18) func102 rfl rfl (zNl rfl) ?_
  obtain ⟨bx, ox, rfl, hx⟩ := sl_farm ha hi
  refine zAf (fun K2 g4 => (zAa (zBg rfl rfl (zAe (zAc (g4 _ _ (zAf (fun K4 g5 => (zCs [] [(0,0),(1,0),(2,0),(3,0),(4,0),(5,1),(6,0),(7,0),(8,0),(9,0),(10,0),(11,1),(12,0),(13,0)] zCg (by kernel_rfl) hs (fun w5 g0 => ?_))))))))))
  refine d_w rfl (fun _ => zAi (v := .slice _ _ _) rfl rfl) rfl ?_
  refine d_w rfl (fun _ => zA1 rfl rfl) rfl ?_
  refine d_w rfl (fun _ => zBc underlying24 sizeOf46 rfl rfl rfl rfl (i := _) rfl (by omega)) rfl ?_
  refine d_w rfl (fun _ => zAd (o := 4) (i := 4) underlying46 rfl sizeOf23 rfl rfl rfl) rfl ?_
  refine d_w rfl (fun _ => zAd (o := 0) (i := 0) underlying23 rfl sizeOf3 rfl rfl rfl) rfl ?_
  refine zBh rfl zAb rfl g0 (fun _ hq => (zAj isAgg3 hq rfl rfl (show Ats _ _ _ _ [_] from Ats.part hx 4 1))) ?_
  refine d_w rfl (fun _ => zAi (v := .slice _ _ _) rfl rfl) rfl ?_
  refine d_w rfl (fun _ => zA1 rfl rfl) rfl ?_
  refine d_w rfl (fun _ => zBc underlying24 sizeOf46 rfl rfl rfl rfl (i := _) rfl (by omega)) rfl ?_
  refine d_w rfl (fun _ => zAd (o := 4) (i := 4) underlying46 rfl sizeOf23 rfl rfl rfl) rfl ?_
  refine d_w rfl (fun _ => zAd (o := 1) (i := 1) underlying23 rfl sizeOf3 rfl rfl rfl) rfl ?_
  refine zBh rfl zAb rfl g0 (fun _ hq => (zAj isAgg3 hq rfl rfl (show Ats _ _ _ _ [_] from Ats.part hx 5 1))) ?_
  refine d_w rfl (fun _ => zFa rfl rfl rfl rfl) rfl ?_
  refine d_w rfl (fun _ => zAm (v := .bool _) rfl rfl) rfl ?_
  refine zB0 ?_
  refine zAc (g5 _ _ (zA2 (zA9 (l := [.tmp 4]) (vs := [_]) rfl ⟨⟨rfl, (rfl : _ = Value.bool _)⟩, trivial⟩ ?_)))
  exact ⟨rfl, g0⟩

def flawK : Nat → Nat
  | 0 => 97
  | 1 => 98
  | 2 => 101
  | _ => 102
def flawCells : List Value := [.int .i64 6, .func (.func 97) #[] #[], .int .i64 5, .func (.func 98) #[] #[], .int .i64 7, .func (.func 101) #[] #[], .int .i64 2, .func (.func 102) #[] #[]]
theorem flaw_at {w0 : World} {L : List (Nat × Obj)} {b i j : Nat} (hi : L[i]? = some (b, blk 146 flawCells)) (hj : j < 4) : Ats w0 L b (0 + j * 2) [.int .i64 (flawE j), .func (.func (flawK j)) #[] #[]] := by
  match j, hj with
  | 0, _ => exact zAh hi rfl
  | 1, _ => exact zAh hi rfl
  | 2, _ => exact zAh hi rfl
  | 3, _ => exact zAh hi rfl
theorem flaw_con {w0 w : World} {F : List (Nat × Obj)} (a : Option Addr) (c : Nat) (l : List Farm) (hl3 : l.length ≤ 9223372036854775807) (hc : l.length ≤ c) (ha : Sl w0 F a 6 (rows l)) (i : Nat) (hi : i < l.length) (hnm : l[i].name.size ≤ 9223372036854775807) (j : Nat) (hj : j < 4) (hs : St w0 w F) :
    FCon Tryz.prog (.func (.func (flawK j)) #[] #[]) [.slice a l.length c, .int .i64 (i : Int)] w fun v w' => v = .bool (flawIs (names (l.take i)) l[i] j) ∧ St w0 w' F := by
  match j, hj with
  | 0, _ => exact zEl call97 (c97 a c l hl3 hc ha i hi hnm hs)
  | 1, _ => exact zEl call98 (c98 a c l hl3 hc ha i hi hs)
  | 2, _ => exact zEl call101 (c101 a c l hl3 hc ha i hi hs)
  | 3, _ => exact zEl call102 (c102 a c l hl3 hc ha i hi hs)
theorem c76 {w0 w : World} {F : List (Nat × Obj)}  (hs : St w0 w F) :
  Con Tryz.prog 76 [] w fun v w' => ∃ b, v = .slice (some ⟨b, 0, none⟩) 4 4 ∧ St w0 w' ((b, blk 146 flawCells) :: F) := by
  refine zAu (n := 6) func76 rfl rfl (zNl rfl) ?_
  refine zAf (fun K2 g0 => (zAa (zBg rfl rfl (zAe (zAc (g0 _ _ (zAf (fun K4 g4 => (zAa (w_p (zBy (ps := [(0, _),(1, _)]) (pv := [(0, .int _ _),(1, .func _ _ _)]) rfl rfl (fun w => zG1 _ _ _ _ w)) rfl ?_))))))))))
  refine w_p (zBy (ps := [(0, _),(1, _)]) (pv := [(0, .int _ _),(1, .func _ _ _)]) rfl rfl (fun w => zG1 _ _ _ _ w)) rfl (w_p (zBy (ps := [(0, _),(1, _)]) (pv := [(0, .int _ _),(1, .func _ _ _)]) rfl rfl (fun w => zG1 _ _ _ _ w)) rfl ?_)
  refine w_p (zBy (ps := [(0, _),(1, _)]) (pv := [(0, .int _ _),(1, .func _ _ _)]) rfl rfl (fun w => zG1 _ _ _ _ w)) rfl (zA0 (ps := [(0, _),(1, _),(2, _),(3, _)]) (pv := [(0, .agg #[.int _ _, .func _ _ _]),(1, .agg #[.int _ _, .func _ _ _]),(2, .agg #[.int _ _, .func _ _ _]),(3, .agg #[.int _ _, .func _ _ _])]) (cs := [_,_,_,_,_,_,_,_]) zAb rfl rfl (fun w => Try_CC_fb3 _ _ _ _ _ _ _ _ _ _ _ _ _ _ _ _ w) hs (fun b5 w6 g5 => ?_))
  refine w_p (zAm (v := .slice _ _ _) rfl rfl) rfl (zAe (zAc (g4 _ _ (zA2 (zA9 (l := [.tmp 0]) (vs := [_]) rfl ⟨⟨rfl, show _ = (.slice _ _ _ : Value) from rfl⟩, trivial⟩ ?_)))))
  exact ⟨_, rfl, g5⟩

theorem tup3 {x : Int × Int × Int} {a b c : Int} (h : x = (a, b, c)) : Value.tuple #[.int .i64 a, .int .i64 b, .int .i64 c] = .tuple #[.int .i64 x.1, .int .i64 x.2.1, .int .i64 x.2.2] := by subst h; rfl
theorem c49 {w0 w : World} {F : List (Nat × Obj)} (p : Port) (a : Option Addr) (c : Nat) (hl3 : p.farms.length ≤ 9223372036854775807) (hc : p.farms.length ≤ c) (ha : Sl w0 F a 6 (rows p.farms)) (hnm : ∀ f ∈ p.farms, f.name.size ≤ 9223372036854775807) (hs : St w0 w F) :
  Con Tryz.prog 49 [.agg (p.cells a c).toArray] w fun v w' => v = .tuple #[.int .i64 (check p).1, .int .i64 (check p).2.1, .int .i64 (check p).2.2] ∧ St w0 w' F := by
  refine zAu (n := 59) func49 rfl rfl (zNl rfl) ?_
  refine zAf (fun K2 gh => (zAa (zCa (v := .agg #[.int _ _, .int _ _, .int _ _, .slice _ _ _]) (cs := [_,_,_,_]) zAb rfl rfl rfl hs (fun b3 w4 ge => ?_))))
  refine zBg rfl rfl (zBg rfl rfl (zBg rfl rfl (zAe (zAc (gh _ _ (zAf (fun K7 gi => (zAz ?_))))))))
  refine zAf (fun K9 gf => (zAa (w_p (zAd (o := 0) (i := 0) underlying26 rfl sizeOf3 rfl rfl rfl) rfl (w_p (zAj isAgg3 ge rfl rfl (zAh (i := 0) (vs := [_]) rfl rfl)) rfl (zA0 (ps := [(0, _)]) (pv := [(0, .int _ _)]) (cs := [_]) zAb rfl rfl (fun w => zG2 _ w) ge (fun gK gL gj => ?_))))))
  refine zAs zAb call55 rfl rfl rfl rfl (c55 _ _ _ [_] _ (by simp) (zBp (i := 0) (rows := [[_]]) rfl (by simp) rfl) gj) ?_
  rintro _ gM ⟨rfl, g9⟩
  refine w_p (zAi (v := .bool _) rfl rfl) rfl (zBk (fun g0 => ?_) (fun g0 => ?_))
  ·
   try simp only [zS] at g0
   refine zAg rfl rfl rfl ?_
   refine zAg rfl rfl rfl ?_
   refine zAg rfl rfl rfl ?_
   refine zAg rfl rfl rfl ?_
   refine zAg rfl rfl rfl ?_
   refine zAg rfl rfl rfl ?_
   refine zAg rfl rfl rfl ?_
   refine zAg rfl rfl rfl ?_
   refine w_p (zAx (v := _) rfl rfl rfl rfl) rfl (w_p (zAm (v := .bool _) rfl rfl) rfl (zAe (zAc (gf _ _ (zCh rfl rfl ?_)))))
   refine zAf (fun gN gk => (zAa (zBg rfl rfl (zBg rfl rfl (zBg rfl rfl (zAe (zAc (gk _ _ (zA2 (zAt (zAk (zA9 (l := [.tmp 2, .tmp 3, .tmp 4]) (vs := [_,_,_]) rfl ⟨⟨rfl, (rfl : _ = Value.int _ _)⟩, ⟨rfl, (rfl : _ = Value.int _ _)⟩, ⟨rfl, (rfl : _ = Value.int _ _)⟩, trivial⟩ ?_))))))))))))
   try simp only [List.any_cons, List.any_nil, Bool.or_false, Bool.or_eq_false_iff] at g0
   first
     | exact ⟨tup3 (hinv.trans ((zBr hi2 (by rw [zDl _ _ j hj2 (by assumption) hfl]; match j, hj2 with | 0, _ => decide | 1, _ => decide | 2, _ => decide | 3, _ => decide)).trans (by rw [zDl _ _ j hj2 (by assumption) hfl]))), g9.tail.tail⟩
     | exact ⟨tup3 (hinv.trans (zCr (by omega) _)), g9.tail.tail⟩
     | (refine ⟨tup3 ?_, g9.tail.tail⟩; unfold check; rw [if_pos (by simp [g0])]; done)
     | (refine ⟨tup3 ?_, g9.tail.tail⟩; unfold check; rw [if_neg (by simp [g0]), if_pos (by omega)]; done)
     | (refine ⟨tup3 ?_, g9.tail.tail⟩; unfold check; rw [if_neg (by simp [g0]), if_neg (by omega), if_pos (by omega)]; done)
  try simp only [zS] at g0
  refine w_y rfl rfl rfl (zAd (o := 1) (i := 1) underlying26 rfl sizeOf23 rfl rfl rfl) rfl ?_
  refine w_y rfl rfl rfl (zAd (o := 0) (i := 0) underlying23 rfl sizeOf3 rfl rfl rfl) rfl ?_
  refine w_y rfl rfl rfl (zAj isAgg3 g9 rfl rfl (zAh (i := 1) (vs := [_]) rfl rfl)) rfl ?_
  refine w_y rfl rfl rfl (zAd (o := 1) (i := 1) underlying26 rfl sizeOf23 rfl rfl rfl) rfl ?_
  refine w_y rfl rfl rfl (zAd (o := 1) (i := 1) underlying23 rfl sizeOf3 rfl rfl rfl) rfl ?_
  refine w_y rfl rfl rfl (zAj isAgg3 g9 rfl rfl (zAh (i := 1) (vs := [_]) rfl rfl)) rfl ?_
  refine zA0 (ps := [(0, _),(1, _)]) (pv := [(0, .int _ _),(1, .int _ _)]) (cs := [_,_]) (zAp rfl rfl rfl) rfl rfl (fun w => Try_CC_fb1 _ _ w) g9 (fun gO gP gl => ?_)
  refine zAs (zAp rfl rfl rfl) call55 rfl rfl rfl rfl (c55 _ _ _ [_,_] _ (by simp) (zBp (i := 0) (rows := [[_], [_]]) rfl (by simp) rfl) gl) ?_
  rintro _ gQ ⟨rfl, g6⟩
  refine w_p (zBd (v := .bool _) rfl rfl rfl rfl) rfl (w_p (zAm (v := .bool _) rfl rfl) rfl (zAe (zAc (gf _ _ (zAy rfl rfl (fun g4 => ?_) (fun g4 => ?_))))))
  ·
   try simp only [zS] at g4
   refine zAf (fun gR gm => (zAa (zBg rfl rfl (zBg rfl rfl (zBg rfl rfl (zAe (zAc (gm _ _ (zA2 (zAt (zAk (zA9 (l := [.tmp 2, .tmp 3, .tmp 4]) (vs := [_,_,_]) rfl ⟨⟨rfl, (rfl : _ = Value.int _ _)⟩, ⟨rfl, (rfl : _ = Value.int _ _)⟩, ⟨rfl, (rfl : _ = Value.int _ _)⟩, trivial⟩ ?_))))))))))))
   try simp only [List.any_cons, List.any_nil, Bool.or_false, Bool.or_eq_false_iff] at g0 g4
   first
     | exact ⟨tup3 (hinv.trans ((zBr hi2 (by rw [zDl _ _ j hj2 (by assumption) hfl]; match j, hj2 with | 0, _ => decide | 1, _ => decide | 2, _ => decide | 3, _ => decide)).trans (by rw [zDl _ _ j hj2 (by assumption) hfl]))), g6.tail.tail.tail⟩
     | exact ⟨tup3 (hinv.trans (zCr (by omega) _)), g6.tail.tail.tail⟩
     | (refine ⟨tup3 ?_, g6.tail.tail.tail⟩; unfold check; rw [if_pos (by simp [g0, g4])]; done)
     | (refine ⟨tup3 ?_, g6.tail.tail.tail⟩; unfold check; rw [if_neg (by simp [g0, g4]), if_pos (by omega)]; done)
     | (refine ⟨tup3 ?_, g6.tail.tail.tail⟩; unfold check; rw [if_neg (by simp [g0, g4]), if_neg (by omega), if_pos (by omega)]; done)
  try simp only [zS] at g4
  refine zAf (fun gT gn => (zAa (w_p (zAd (o := 1) (i := 1) underlying26 rfl sizeOf23 rfl rfl rfl) rfl (w_p (zAd (o := 0) (i := 0) underlying23 rfl sizeOf3 rfl rfl rfl) rfl (w_p (zAj isAgg3 g6 rfl rfl (zAh (i := 2) (vs := [_]) rfl rfl)) rfl ?_)))))
  refine w_p (zAd (o := 1) (i := 1) underlying26 rfl sizeOf23 rfl rfl rfl) rfl (w_p (zAd (o := 1) (i := 1) underlying23 rfl sizeOf3 rfl rfl rfl) rfl (w_p (zAj isAgg3 g6 rfl rfl (zAh (i := 2) (vs := [_]) rfl rfl)) rfl ?_))
  refine w_p (zFa rfl rfl rfl rfl) rfl (w_p (zAm (v := .bool _) rfl rfl) rfl (zAe (zAc (gn _ _ (zAy rfl rfl (fun g5 => ?_) (fun g5 => ?_))))))
  ·
   try simp only [zS] at g5
   refine zAf (fun gU go => (zAa (zBg rfl rfl (zBg rfl rfl (zBg rfl rfl (zAe (zAc (go _ _ (zA2 (zAt (zAk (zA9 (l := [.tmp 2, .tmp 3, .tmp 4]) (vs := [_,_,_]) rfl ⟨⟨rfl, (rfl : _ = Value.int _ _)⟩, ⟨rfl, (rfl : _ = Value.int _ _)⟩, ⟨rfl, (rfl : _ = Value.int _ _)⟩, trivial⟩ ?_))))))))))))
   try simp only [List.any_cons, List.any_nil, Bool.or_false, Bool.or_eq_false_iff] at g0 g4 g5
   first
     | exact ⟨tup3 (hinv.trans ((zBr hi2 (by rw [zDl _ _ j hj2 (by assumption) hfl]; match j, hj2 with | 0, _ => decide | 1, _ => decide | 2, _ => decide | 3, _ => decide)).trans (by rw [zDl _ _ j hj2 (by assumption) hfl]))), g6.tail.tail.tail⟩
     | exact ⟨tup3 (hinv.trans (zCr (by omega) _)), g6.tail.tail.tail⟩
     | (refine ⟨tup3 ?_, g6.tail.tail.tail⟩; unfold check; rw [if_pos (by simp [g0, g4, g5])]; done)
     | (refine ⟨tup3 ?_, g6.tail.tail.tail⟩; unfold check; rw [if_neg (by simp [g0, g4, g5]), if_pos (by omega)]; done)
     | (refine ⟨tup3 ?_, g6.tail.tail.tail⟩; unfold check; rw [if_neg (by simp [g0, g4, g5]), if_neg (by omega), if_pos (by omega)]; done)
  try simp only [zS] at g5
  refine zAf (fun gV gp => (zAa (w_p (zAd (o := 3) (i := 2) underlying26 rfl sizeOf24 rfl rfl rfl) rfl (w_p (zAj isAgg24 g6 rfl rfl (zAh (i := 2) (vs := [_]) rfl rfl)) rfl (w_p (zBm underlying24 rfl rfl) rfl ?_)))))
  refine w_p (zFa rfl rfl rfl rfl) rfl (w_p (zAm (v := .bool _) rfl rfl) rfl (zAe (zAc (gp _ _ (zAy rfl rfl (fun g7 => ?_) (fun g7 => ?_))))))
  ·
   try simp only [zS] at g7
   refine zAf (fun gW gq => (zAa (zBg rfl rfl (zBg rfl rfl (zBg rfl rfl (zAe (zAc (gq _ _ (zA2 (zAt (zAk (zA9 (l := [.tmp 2, .tmp 3, .tmp 4]) (vs := [_,_,_]) rfl ⟨⟨rfl, (rfl : _ = Value.int _ _)⟩, ⟨rfl, (rfl : _ = Value.int _ _)⟩, ⟨rfl, (rfl : _ = Value.int _ _)⟩, trivial⟩ ?_))))))))))))
   try simp only [List.any_cons, List.any_nil, Bool.or_false, Bool.or_eq_false_iff] at g0 g4 g5 g7
   first
     | exact ⟨tup3 (hinv.trans ((zBr hi2 (by rw [zDl _ _ j hj2 (by assumption) hfl]; match j, hj2 with | 0, _ => decide | 1, _ => decide | 2, _ => decide | 3, _ => decide)).trans (by rw [zDl _ _ j hj2 (by assumption) hfl]))), g6.tail.tail.tail⟩
     | exact ⟨tup3 (hinv.trans (zCr (by omega) _)), g6.tail.tail.tail⟩
     | (refine ⟨tup3 ?_, g6.tail.tail.tail⟩; unfold check; rw [if_pos (by simp [g0, g4, g5, g7])]; done)
     | (refine ⟨tup3 ?_, g6.tail.tail.tail⟩; unfold check; rw [if_neg (by simp [g0, g4, g5, g7]), if_pos (by omega)]; done)
     | (refine ⟨tup3 ?_, g6.tail.tail.tail⟩; unfold check; rw [if_neg (by simp [g0, g4, g5, g7]), if_neg (by omega), if_pos (by omega)]; done)
  try simp only [zS] at g7
  refine zAv (zAl (zAc (gi _ _ (zAf (fun gX gr => (zAf (fun gY gt => (zAa (w_p (zAd (o := 3) (i := 2) underlying26 rfl sizeOf24 rfl rfl rfl) rfl ?_)))))))))
  refine w_p (zAj isAgg24 g6 rfl rfl (zAh (i := 2) (vs := [_]) rfl rfl)) rfl (w_p (zBm underlying24 rfl rfl) rfl (w_p (zAi (v := _) rfl rfl) rfl (zAe (zAc (gt _ _ (zAz ?_))))))
  refine zB3 [2,3,4,5,7,39,40,41,42,43,44,45,46,47,48,49,50,51,52,53,54,55,56,57,58] [39] (fun k vs w => ∃ i : Nat, vs = [.int .i64 i] ∧ i ≤ p.farms.length ∧ k = p.farms.length - i ∧ check p = farmsErr (names (p.farms.take i)) (i : Nat) (p.farms.drop i) ∧ St w0 w ((b3, blk 26 (p.cells a c)) :: F)) (p.farms.length) ?_ ?_
  ·
   try simp only [List.any_cons, List.any_nil, Bool.or_false, Bool.or_eq_false_iff] at g0 g4 g5 g7
   exact ⟨0, rfl, by omega, by omega, (by unfold check; rw [if_neg (by simp [g0, g4, g5, g7]), if_neg (by omega), if_neg (by omega)]; rfl), g6.tail.tail⟩
  intro k vs μ gZ hI hD gu
  obtain ⟨i, rfl, hia, rfl, hinv, hs⟩ := hI
  refine zAf (fun hO gv => (zAa (w_p (zCl rfl rfl rfl rfl) rfl (zAe (zAc (gv _ _ (zAf (fun hP gw => (zAy rfl rfl (fun g8 => ?_) (fun g8 => ?_))))))))))
  ·
   try simp only [zS] at g8
   refine zAv (zAc (gw _ _ (zAf (fun hX gx => (zAz ?_)))))
   refine zAf (fun hY gy => (zAa (zBa rfl rfl (zBl rfl rfl (zAe (zAc (gy _ _ (zAf (fun j0 gz => ?_)))))))))
   have hi2 : i < p.farms.length := by omega
   refine zAa (zAs zAb call76 rfl rfl rfl rfl (c76 hs) ?_)
   rintro _ j1 ⟨bq, rfl, gA⟩
   refine w_p (zBm underlying142 rfl rfl) rfl (w_p (zAi (v := _) rfl rfl) rfl (zAe (zAc (gz _ _ (zAz ?_)))))
   refine zB3 [2,3,4,7,44,45,46,47,48,49,50,51,52,53,54,55,56,57] [44] (fun k vs w => ∃ j : Nat, vs = [.int .i64 j] ∧ j ≤ 4 ∧ k = 4 - j ∧ (∀ q < j, flawIs (names (p.farms.take i)) p.farms[i] q = false) ∧ St w0 w ((bq, blk 146 flawCells) :: (b3, blk 26 (p.cells a c)) :: F)) (4) ?_ ?_
   ·
    exact ⟨0, rfl, by omega, by omega, (fun q hq => by omega), gA⟩
   intro k vs μ j2 hI j3 gB
   obtain ⟨j, rfl, hja, rfl, hfl, hs⟩ := hI
   refine zAf (fun j4 gC => (zAa (w_p (zCl rfl rfl rfl rfl) rfl (zAe (zAc (gC _ _ (zAf (fun j5 gD => (zAy rfl rfl (fun ga => ?_) (fun ga => ?_))))))))))
   ·
    try simp only [zS] at ga
    refine zAv (zAc (gD _ _ (zAf (fun j6 gE => (zAz ?_)))))
    refine zAf (fun j7 gF => ?_)
    have hj2 : j < 4 := by omega
    have hxq := flaw_at (w0 := w0) (L := (bq, blk 146 flawCells) :: (b3, blk 26 (p.cells a c)) :: F) (i := 0) rfl hj2
    refine zAa (w_p (zBc underlying142 sizeOf146 rfl rfl rfl rfl (i := _) rfl (by omega)) rfl (w_p (zA7 (vs := [_,_]) isAgg146 sizeOf146 hs rfl rfl hxq) rfl (zBb (cs := [_,_]) zAb zeroValue146 rfl hs (fun j8 j9 gG => ?_))))
    refine zA4 (i := 0) (v := .agg #[.int _ _, .func _ _ _]) (vs := [_,_]) zAb sizeOf146 rfl rfl rfl rfl rfl (by simp [Value.oneCell']) gG rfl (zNl rfl) (fun ja gd => ?_)
    refine zAe (zAc (gF _ _ (zAf (fun jb gH => (zAa (w_p (zAd (o := 1) (i := 1) underlying146 rfl sizeOf144 rfl rfl rfl) rfl (w_p (zAj isAgg144 gd rfl rfl (zAh (i := 0) (vs := [_]) rfl rfl)) rfl ?_)))))))
    refine w_p (zAd (o := 3) (i := 2) underlying26 rfl sizeOf24 rfl rfl rfl) rfl (w_p (zAj isAgg24 gd rfl rfl (zAh (i := 2) (vs := [_]) rfl rfl)) rfl (zBa rfl rfl (zEt zAb rfl rfl rfl rfl (flaw_con a c p.farms hl3 hc ha.cons.cons.cons i hi2 (hnm _ (List.getElem_mem hi2)) j hj2 gd) ?_)))
    rintro _ jc ⟨rfl, gg⟩
    refine zAe (zAc (gH _ _ (zAy rfl rfl (fun gb => ?_) (fun gb => ?_))))
    ·
     try simp only [zS] at gb
     refine zAf (fun jd gI => (zCs [] [(0,0),(1,0),(2,1),(3,0),(4,0),(5,0)] zCg (by kernel_rfl) gg (fun je gc => ?_)))
     refine d_w rfl (fun _ => zA1 rfl rfl) rfl ?_
     refine d_w rfl (fun _ => zAd (o := 0) (i := 0) underlying146 rfl sizeOf30 rfl rfl rfl) rfl ?_
     refine zBh rfl zAb rfl gc (fun _ hq => (zAj isAgg30 hq rfl rfl (zAh (i := 0) (vs := [_]) rfl rfl))) ?_
     refine d_w rfl (fun _ => zAm (v := _) rfl rfl) rfl ?_
     refine d_w rfl (fun _ => zD3 rfl rfl) rfl ?_
     refine d_w rfl (fun _ => zD3 rfl rfl) rfl ?_
     refine zB0 ?_
     refine zAc (gI _ _ (zA2 (zAt (zAk (zAk (zAt (zAt (zAk (zAk (zAt (zAk (zA9 (l := [.tmp 2, .tmp 3, .tmp 4]) (vs := [_,_,_]) rfl ⟨⟨rfl, (rfl : _ = Value.int _ _)⟩, ⟨rfl, (rfl : _ = Value.int _ _)⟩, ⟨rfl, (rfl : _ = Value.int _ _)⟩, trivial⟩ ?_))))))))))))
     try simp only [List.any_cons, List.any_nil, Bool.or_false, Bool.or_eq_false_iff] at g0 g4 g5 g7 g8 ga gb
     first
       | exact ⟨tup3 (hinv.trans ((zBr hi2 (by rw [zDl _ _ j hj2 (by assumption) hfl]; match j, hj2 with | 0, _ => decide | 1, _ => decide | 2, _ => decide | 3, _ => decide)).trans (by rw [zDl _ _ j hj2 (by assumption) hfl]))), gc.tail.tail.tail⟩
       | exact ⟨tup3 (hinv.trans (zCr (by omega) _)), gc.tail.tail.tail⟩
       | (refine ⟨tup3 ?_, gc.tail.tail.tail⟩; unfold check; rw [if_pos (by simp [g0, g4, g5, g7, g8, ga, gb])]; done)
       | (refine ⟨tup3 ?_, gc.tail.tail.tail⟩; unfold check; rw [if_neg (by simp [g0, g4, g5, g7, g8, ga, gb]), if_pos (by omega)]; done)
       | (refine ⟨tup3 ?_, gc.tail.tail.tail⟩; unfold check; rw [if_neg (by simp [g0, g4, g5, g7, g8, ga, gb]), if_neg (by omega), if_pos (by omega)]; done)
    try simp only [zS] at gb
    refine zAv (zAl (zAc (gE _ _ (zAa (w_p (zBj rfl rfl rfl rfl (by omega) (by omega)) rfl (zBa rfl rfl (zAe (zAc (gB _ _ (nxI (4 - (j + 1)) (by omega) ?_))))))))))
    exact ⟨j + 1, rfl, by omega, rfl, (fun q hq => by rcases Nat.lt_or_ge q j with h | h; exact hfl q h; have hqj : q = j := (by omega); subst hqj; assumption), gg.tail⟩
   try simp only [zS] at ga
   refine zBq (zAo (zAo (zA8 (zAl (zAc (gx _ _ (zAa (w_p (zBj rfl rfl rfl rfl (by omega) (by omega)) rfl (zBa rfl rfl (zAe (zAc (gu _ _ (nxI (p.farms.length - (i + 1)) (by omega) ?_)))))))))))))
   have hj4 : j = 4 := by omega
   subst hj4
   exact ⟨i + 1, rfl, by omega, rfl, hinv.trans (zFz hi2 (fErr_fine _ _ hfl)), hs.tail⟩
  try simp only [zS] at g8
  refine zBq (zAo (zAo (zA8 (zAc (gr _ _ (zAf (fun jf gJ => (zAa (zBg rfl rfl (zBg rfl rfl (zBg rfl rfl (zAe (zAc (gJ _ _ (zA2 (zA9 (l := [.tmp 2, .tmp 3, .tmp 4]) (vs := [_,_,_]) rfl ⟨⟨rfl, (rfl : _ = Value.int _ _)⟩, ⟨rfl, (rfl : _ = Value.int _ _)⟩, ⟨rfl, (rfl : _ = Value.int _ _)⟩, trivial⟩ ?_))))))))))))))))
  try simp only [List.any_cons, List.any_nil, Bool.or_false, Bool.or_eq_false_iff] at g0 g4 g5 g7 g8
  first
    | exact ⟨tup3 (hinv.trans ((zBr hi2 (by rw [zDl _ _ j hj2 (by assumption) hfl]; match j, hj2 with | 0, _ => decide | 1, _ => decide | 2, _ => decide | 3, _ => decide)).trans (by rw [zDl _ _ j hj2 (by assumption) hfl]))), hs.tail⟩
    | exact ⟨tup3 (hinv.trans (zCr (by omega) _)), hs.tail⟩
    | (refine ⟨tup3 ?_, hs.tail⟩; unfold check; rw [if_pos (by simp [g0, g4, g5, g7, g8])]; done)
    | (refine ⟨tup3 ?_, hs.tail⟩; unfold check; rw [if_neg (by simp [g0, g4, g5, g7, g8]), if_pos (by omega)]; done)
    | (refine ⟨tup3 ?_, hs.tail⟩; unfold check; rw [if_neg (by simp [g0, g4, g5, g7, g8]), if_neg (by omega), if_pos (by omega)]; done)

end Go.Proofs.Cb
set_option maxRecDepth 20000
namespace Go.Proofs.Cb
open Go.Proofs.Tryz
open Go.Rt Go.Rt.Ca
attribute [local irreducible] WL WC Con Yd At Ats Sl Agree DW
theorem zEd : flatInts Tryz.prog 23 2 = true := by kernel_rfl
theorem c108 {w0 w : World} {F : List (Nat × Obj)} (x : Int) (hs : St w0 w F) :
  Con Tryz.prog 108 [.int .i64 x] w fun v w' => v = .bool false ∧ St w0 w' F := by
  refine zAu (n := 6) func108 rfl rfl (zNl rfl) ?_
  refine zAf (fun K2 g0 => (zAa (zBg rfl rfl (zAe (zAc (g0 _ _ (zAf (fun K4 g4 => (zAa (zBa rfl rfl (zBa rfl rfl (w_p (zCt rfl rfl rfl rfl) rfl ?_))))))))))))
  refine w_p (zAm (v := .bool _) rfl rfl) rfl (zAe (zAc (g4 _ _ (zA2 (zA9 (l := [.tmp 2]) (vs := [_]) rfl ⟨⟨rfl, (rfl : _ = Value.bool _)⟩, trivial⟩ ?_)))))
  exact ⟨by simp [retV], hs⟩

def cmpI (a b : Int) : Int := if a < b then -1 else if b < a then 1 else 0
theorem c103 {w0 w : World} {F : List (Nat × Obj)} (a b : Int) (hs : St w0 w F) :
  Con Tryz.prog 103 [.int .i64 a, .int .i64 b] w fun v w' => v = .int .i64 (cmpI a b) ∧ St w0 w' F := by
  refine zAu (n := 20) func103 rfl rfl (zNl rfl) ?_
  refine zAf (fun K2 g6 => (zAa (zBg rfl rfl (zAe (zAc (g6 _ _ (zAf (fun K4 g7 => (zAa (zBa rfl rfl (zAs zAb call108 rfl rfl rfl rfl (c108 _ hs) ?_)))))))))))
  rintro _ w6 ⟨rfl, g8⟩
  refine w_p (zAm (v := .bool _) rfl rfl) rfl (zAe (zAc (g7 _ _ (zAf (fun K9 g9 => (zAa (zBa rfl rfl (zAs zAb call108 rfl rfl rfl rfl (c108 _ g8) ?_))))))))
  rintro _ gl ⟨rfl, g0⟩
  refine w_p (zAm (v := .bool _) rfl rfl) rfl (zAe (zAc (g9 _ _ (zAf (fun gm ga => (zAf (fun gn gb => (zAa (w_p (zAi (v := .bool _) rfl rfl) rfl ?_)))))))))
  refine zAe (zAc (gb _ _ (zCc rfl rfl ?_)))
  refine zAv (zAc (ga _ _ (zAf (fun go gc => (zAf (fun gp gd => (zAa (w_p (zAi (v := .bool _) rfl rfl) rfl (zAe (zAc (gd _ _ (zCc rfl rfl ?_))))))))))))
  refine zAv (zAc (gc _ _ (zAf (fun gq ge => (zAf (fun gr gf => (zAa (zBa rfl rfl (zBa rfl rfl (w_p (zCl rfl rfl rfl rfl) rfl (zAe (zAc (gf _ _ (zAy rfl rfl (fun g4 => ?_) (fun g4 => ?_)))))))))))))))
  ·
   try simp only [zS] at g4
   refine zAf (fun gt gg => (zAa (zBg rfl rfl (zAe (zAc (gg _ _ (zA2 (zAk (zA9 (l := [.tmp 4]) (vs := [_]) rfl ⟨⟨rfl, (rfl : _ = Value.int _ _)⟩, trivial⟩ ?_)))))))))
   exact ⟨congrArg (Value.int .i64) (by unfold cmpI; (repeat' split) <;> first | rfl | omega), g0⟩
  try simp only [zS] at g4
  refine zAv (zAc (ge _ _ (zAf (fun gu gh => (zAf (fun gv gi => (zAa (zBa rfl rfl (zBa rfl rfl (w_p (zFa rfl rfl rfl rfl) rfl (zAe (zAc (gi _ _ (zAy rfl rfl (fun g5 => ?_) (fun g5 => ?_)))))))))))))))
  ·
   try simp only [zS] at g5
   refine zAf (fun gw gj => (zAa (zBg rfl rfl (zAe (zAc (gj _ _ (zA2 (zAk (zA9 (l := [.tmp 4]) (vs := [_]) rfl ⟨⟨rfl, (rfl : _ = Value.int _ _)⟩, trivial⟩ ?_)))))))))
   exact ⟨congrArg (Value.int .i64) (by unfold cmpI; (repeat' split) <;> first | rfl | omega), g0⟩
  try simp only [zS] at g5
  refine zAv (zAc (gh _ _ (zAf (fun gx gk => (zAa (zBg rfl rfl (zAe (zAc (gk _ _ (zA2 (zA9 (l := [.tmp 4]) (vs := [_]) rfl ⟨⟨rfl, (rfl : _ = Value.int _ _)⟩, trivial⟩ ?_)))))))))))
  exact ⟨congrArg (Value.int .i64) (by unfold cmpI; (repeat' split) <;> first | rfl | omega), g0⟩

theorem zEp {a b : List Int} {i : Nat} (h : a.take i = b.take i) (ha : i < a.length) (hb : i < b.length) (hne : ¬ cmpI a[i] b[i] = 0) : decide (cmpI a[i] b[i] < 0) = less a b := by
  have hn : a[i] ≠ b[i] := fun e => hne (by unfold cmpI; rw [e]; simp)
  rw [zDo h ha hb hn]
  unfold cmpI
  rw [Bool.eq_iff_iff]
  simp only [decide_eq_true_eq]
  split
  · simp [*]
  · split <;> simp <;> omega
theorem cmp_zero {a b : Int} (h : cmpI a b = 0) : a = b := by
  unfold cmpI at h
  split at h
  · omega
  · split at h <;> omega
theorem c77 {w0 w : World} {F : List (Nat × Obj)} (aa ab : Option Addr) (a b : List Int) (ca cb : Nat) (hla : a.length ≤ 9223372036854775807) (hlb : b.length ≤ 9223372036854775807) (ha : Sl w0 F aa 1 (a.map fun x => [Value.int .i64 x])) (hb : Sl w0 F ab 1 (b.map fun x => [Value.int .i64 x])) (hs : St w0 w F) :
  Con Tryz.prog 77 [.slice aa a.length ca, .slice ab b.length cb] w fun v w' => (∃ z, v = .int .i64 z ∧ decide (z < 0) = less a b) ∧ St w0 w' F := by
  refine zAu (n := 36) func77 rfl rfl (zNl rfl) ?_
  refine zAf (fun K2 g8 => (zAa (zBg rfl rfl (zAe (zAc (g8 _ _ (zAf (fun K4 g9 => (zAf (fun K6 ga => (zAa (w_p (zAi (v := .slice _ _ _) rfl rfl) rfl ?_))))))))))))
  refine w_p (zBm underlying34 rfl rfl) rfl (w_p (zAi (v := _) rfl rfl) rfl (zAe (zAc (ga _ _ (zAz ?_)))))
  refine zB3 [4,5,6,7,8,11,12,13,14,15,16,17,18,19,20,21,22,23,24,25,26,27,28,29,30] [11] (fun k vs w => ∃ i : Nat, vs = [.int .i64 i] ∧ i ≤ a.length ∧ i ≤ b.length ∧ k = a.length - i ∧ a.take i = b.take i ∧ St w0 w F) (a.length) ?_ ?_
  ·
   exact ⟨0, rfl, by omega, by omega, by omega, rfl, hs⟩
  intro k vs μ w9 hI K8 gb
  obtain ⟨i, rfl, hia, hib, rfl, hpre, hs⟩ := hI
  refine zAf (fun gr gc => (zAa (w_p (zCl rfl rfl rfl rfl) rfl (zAe (zAc (gc _ _ (zAf (fun gt gd => (zAy rfl rfl (fun g4 => ?_) (fun g4 => ?_))))))))))
  ·
   try simp only [zS] at g4
   refine zAv (zAc (gd _ _ (zAf (fun gu ge => (zAz ?_)))))
   refine zAf (fun gv gf => ?_)
   have hia2 : i < a.length := by omega
   obtain ⟨ba, oa, rfl, hxa⟩ := zDk ha hia2
   refine zAa (zBa rfl rfl (w_p (zBc underlying34 sizeOf3 rfl rfl rfl rfl (i := _) rfl (by omega)) rfl (w_p (zAj isAgg3 hs rfl rfl hxa) rfl (zBl rfl rfl (zBl rfl rfl (zAe (zAc (gf _ _ (zAf (fun gw gg => (zAf (fun gx gh => (zAa (zBa rfl rfl ?_))))))))))))))
   refine w_p (zAi (v := .slice _ _ _) rfl rfl) rfl (w_p (zBm underlying34 rfl rfl) rfl (w_p (zF5 rfl rfl rfl rfl) rfl (zAe (zAc (gh _ _ (zAy rfl rfl (fun g5 => ?_) (fun g5 => ?_)))))))
   ·
    try simp only [zS] at g5
    refine zAf (fun gy gi => (zAa (zBg rfl rfl (zAe (zAc (gi _ _ (zA2 (zAk (zAt (zAk (zAk (zAt (zAk (zA9 (l := [.tmp 4]) (vs := [_]) rfl ⟨⟨rfl, (rfl : _ = Value.int _ _)⟩, trivial⟩ ?_))))))))))))))
    first
      | exact ⟨⟨_, rfl, zEp hpre hia2 hib2 (by assumption)⟩, hs⟩
      | exact ⟨⟨_, rfl, by rw [zC6 hpre hia (by omega)]; rfl⟩, hs⟩
      | exact ⟨⟨_, rfl, by rw [zCq hpre (by omega) (by omega)]; rfl⟩, hs⟩
   try simp only [zS] at g5
   refine zAv (zAc (gg _ _ (zAf (fun gz gj => ?_))))
   have hib2 : i < b.length := by omega
   obtain ⟨bb, ob, rfl, hxb⟩ := zDk hb hib2
   refine zAa (w_p (zAi (v := .slice _ _ _) rfl rfl) rfl (zBa rfl rfl (w_p (zBc underlying34 sizeOf3 rfl rfl rfl rfl (i := _) rfl (by omega)) rfl (w_p (zAj isAgg3 hs rfl rfl hxb) rfl (zBl rfl rfl (zAe (zAc (gj _ _ (zAf (fun gA gk => (zAa (zBa rfl rfl ?_))))))))))))
   refine zBa rfl rfl (zAs zAb call103 rfl rfl rfl rfl (c103 _ _ hs) ?_)
   rintro _ gB ⟨rfl, g0⟩
   refine zBl rfl rfl (zAe (zAc (gk _ _ (zAf (fun gC gl => (zAa (zBa rfl rfl (w_p (zCt rfl rfl rfl rfl) rfl (zAe (zAc (gl _ _ (zAy rfl rfl (fun g6 => ?_) (fun g6 => ?_)))))))))))))
   ·
    try simp only [zS] at g6
    refine zAf (fun gD gm => (zAa (zBa rfl rfl (zBl rfl rfl (zAe (zAc (gm _ _ (zA2 (zAt (zAk (zAk (zAt (zAk (zA9 (l := [.tmp 4]) (vs := [_]) rfl ⟨⟨rfl, (rfl : _ = Value.int _ _)⟩, trivial⟩ ?_))))))))))))))
    first
      | exact ⟨⟨_, rfl, zEp hpre hia2 hib2 (by assumption)⟩, g0⟩
      | exact ⟨⟨_, rfl, by rw [zC6 hpre hia (by omega)]; rfl⟩, g0⟩
      | exact ⟨⟨_, rfl, by rw [zCq hpre (by omega) (by omega)]; rfl⟩, g0⟩
   try simp only [zS] at g6
   refine zAv (zAl (zAc (ge _ _ (zAa (w_p (zBj rfl rfl rfl rfl (by omega) (by omega)) rfl (zBa rfl rfl (zAe (zAc (gb _ _ (nxI (a.length - (i + 1)) (by omega) ?_))))))))))
   exact ⟨i + 1, rfl, by omega, by omega, rfl, zF9 hpre (by omega) (by omega) (cmp_zero (by assumption)), g0⟩
  try simp only [zS] at g4
  refine zBq (zAo (zAo (zA8 (zAc (g9 _ _ (zAf (fun gE gn => (zAf (fun gF go => (zAa (w_p (zAi (v := .slice _ _ _) rfl rfl) rfl ?_)))))))))))
  refine w_p (zBm underlying34 rfl rfl) rfl (w_p (zAi (v := .slice _ _ _) rfl rfl) rfl (w_p (zBm underlying34 rfl rfl) rfl (w_p (zCl rfl rfl rfl rfl) rfl (zAe (zAc (go _ _ (zAy rfl rfl (fun g7 => ?_) (fun g7 => ?_))))))))
  ·
   try simp only [zS] at g7
   refine zAf (fun gG gp => (zAa (zBg rfl rfl (zAe (zAc (gp _ _ (zA2 (zAk (zA9 (l := [.tmp 4]) (vs := [_]) rfl ⟨⟨rfl, (rfl : _ = Value.int _ _)⟩, trivial⟩ ?_)))))))))
   first
     | exact ⟨⟨_, rfl, zEp hpre hia2 hib2 (by assumption)⟩, hs⟩
     | exact ⟨⟨_, rfl, by rw [zC6 hpre hia (by omega)]; rfl⟩, hs⟩
     | exact ⟨⟨_, rfl, by rw [zCq hpre (by omega) (by omega)]; rfl⟩, hs⟩
  try simp only [zS] at g7
  refine zAv (zAc (gn _ _ (zAf (fun gH gq => (zAa (zBg rfl rfl (zAe (zAc (gq _ _ (zA2 (zA9 (l := [.tmp 4]) (vs := [_]) rfl ⟨⟨rfl, (rfl : _ = Value.int _ _)⟩, trivial⟩ ?_)))))))))))
  first
    | exact ⟨⟨_, rfl, zEp hpre hia2 hib2 (by assumption)⟩, hs⟩
    | exact ⟨⟨_, rfl, by rw [zC6 hpre hia (by omega)]; rfl⟩, hs⟩
    | exact ⟨⟨_, rfl, by rw [zCq hpre (by omega) (by omega)]; rfl⟩, hs⟩

abbrev sprow (l : List (List Int)) : List (List Value) := l.map iv
theorem sl_spans {w0 : World} {F : List (Nat × Obj)} {a : Option Addr} {l : List (List Int)} {i : Nat} (h : Sl w0 F a 2 (sprow l)) (hi : i < l.length) :
    ∃ b off, a = some ⟨b, off, none⟩ ∧ l[i].length = 2 ∧ Ats w0 F b (off + i * 2) (iv l[i]) := by
  obtain ⟨b, off, ha, hlen, hat⟩ := h.at (i := i) (row := iv l[i]) (by simp [hi])
  exact ⟨b, off, ha, by simpa using hlen, hat⟩
theorem spans_succ {a b : List (List Int)} {i : Nat} (h : a.take i = b.take i) (ha : i < a.length) (hb : i < b.length) (e : a[i] = b[i]) : a.take (i + 1) = b.take (i + 1) := by
  rw [List.take_succ_eq_append_getElem ha, List.take_succ_eq_append_getElem hb, h, e]
theorem spans_differ {a b : List (List Int)} {i : Nat} (ha : i < a.length) (hb : i < b.length) (e : ¬ a[i] = b[i]) : ¬ a = b := by
  rintro rfl; exact e rfl
theorem spans_same {a b : List (List Int)} {i : Nat} (hl : a.length = b.length) (h : a.take i = b.take i) (hi : a.length ≤ i) : a = b := by
  rwa [List.take_of_length_le hi, List.take_of_length_le (by omega)] at h
theorem c25 {w0 w : World} {F : List (Nat × Obj)} (aa ab : Option Addr) (a b : List (List Int)) (ca cb : Nat) (hla : a.length ≤ 9223372036854775807) (hlb : b.length ≤ 9223372036854775807) (ha : Sl w0 F aa 2 (sprow a)) (hb : Sl w0 F ab 2 (sprow b)) (hs : St w0 w F) :
  Con Tryz.prog 25 [.slice aa a.length ca, .slice ab b.length cb] w fun v w' => v = .bool (decide (a = b)) ∧ St w0 w' F := by
  refine zAu (n := 31) func25 rfl rfl (zNl rfl) ?_
  refine zAf (fun K2 g8 => (zAa (zBg rfl rfl (zAe (zAc (g8 _ _ (zAf (fun K4 g9 => (zAa (w_p (zAi (v := .slice _ _ _) rfl rfl) rfl ?_))))))))))
  refine w_p (zBm underlying50 rfl rfl) rfl (w_p (zAi (v := .slice _ _ _) rfl rfl) rfl (w_p (zBm underlying50 rfl rfl) rfl (w_p (zBw rfl rfl rfl rfl) rfl (w_p (zAm (v := .bool _) rfl rfl) rfl (zAe (zAc (g9 _ _ (zAf (fun K6 g6 => (zAf (fun K8 ga => (zAa (zBg rfl rfl ?_)))))))))))))
  refine zAe (zAc (ga _ _ (zAz ?_)))
  refine zB3 [5,6,12,13,14,15,16,17,18,19,20,21,22,23,24,25,26,27,28,29] [5,6] (fun k vs w => ∃ (i : Nat) (s : Bool), vs = [.bool s, .int .i64 i] ∧ i ≤ a.length ∧ k = a.length - i ∧ (s = true → a.length = b.length ∧ a.take i = b.take i) ∧ (s = false → ¬ a = b) ∧ St w0 w F) (a.length) ?_ ?_
  ·
   exact ⟨0, _, rfl, by omega, by omega, (fun h => ⟨(by simp only [decide_eq_true_eq] at h; omega), rfl⟩), (fun h e => by simp only [decide_eq_false_iff_not] at h; rw [e] at h; exact h rfl), hs⟩
  intro k vs μ gg hI gh gb
  obtain ⟨i, s, rfl, hia, rfl, hst, hsf, hs⟩ := hI
  refine zAf (fun gi gc => (zAf (fun gj g7 => (zAa (w_p (zAi (v := .bool _) rfl rfl) rfl (w_p (zAi (v := .bool _) rfl rfl) rfl (zBk (fun g0 => ?_) (fun g0 => ?_))))))))
  ·
   try simp only [zS] at g0
   refine w_y rfl rfl rfl (zA1 rfl rfl) rfl ?_
   refine w_y rfl rfl rfl (zAi (v := .slice _ _ _) rfl rfl) rfl ?_
   refine w_y rfl rfl rfl (zBm underlying50 rfl rfl) rfl ?_
   refine w_y rfl rfl rfl (zCl rfl rfl rfl rfl) rfl ?_
   refine w_p (zAx (v := .bool _) rfl rfl rfl rfl) rfl (zAe (zAc (g7 _ _ (zAy rfl rfl (fun g4 => ?_) (fun g4 => ?_)))))
   ·
    try simp only [zS] at g4
    refine zAv (zAc (gc _ _ (zAf (fun gk gd => (zAz ?_)))))
    have hst2 := hst (by assumption)
    have hi2 : i < a.length := by omega
    have hi3 : i < b.length := by omega
    obtain ⟨ba, oa, rfl, hla2, hxa⟩ := sl_spans ha hi2
    obtain ⟨bb, ob, rfl, hlb2, hxb⟩ := sl_spans hb hi3
    refine zCs [] [(0,0),(1,0),(2,0),(3,1),(4,0),(5,0),(6,0),(7,1),(8,0),(9,0)] zCg (by kernel_rfl) hs (fun gl g5 => ?_)
    refine d_w rfl (fun _ => zAi (v := .slice _ _ _) rfl rfl) rfl ?_
    refine d_w rfl (fun _ => zA1 rfl rfl) rfl ?_
    refine d_w rfl (fun _ => zBc underlying50 sizeOf23 rfl rfl rfl rfl (i := _) rfl (by omega)) rfl ?_
    refine zBh rfl zAb rfl g5 (fun _ hq => (zA7 (vs := iv _) isAgg23 (fun w => by rw [List.length_map, hla2]; exact sizeOf23 w) hq rfl rfl hxa)) ?_
    refine d_w rfl (fun _ => zAi (v := .slice _ _ _) rfl rfl) rfl ?_
    refine d_w rfl (fun _ => zA1 rfl rfl) rfl ?_
    refine d_w rfl (fun _ => zBc underlying50 sizeOf23 rfl rfl rfl rfl (i := _) rfl (by omega)) rfl ?_
    refine zBh rfl zAb rfl g5 (fun _ hq => (zA7 (vs := iv _) isAgg23 (fun w => by rw [List.length_map, hlb2]; exact sizeOf23 w) hq rfl rfl hxb)) ?_
    refine d_w rfl (fun _ => zHj (l := a[i]) (m := b[i]) eqGuardType23 zEd hla2 hlb2 rfl rfl rfl rfl rfl rfl) rfl ?_
    refine d_w rfl (fun _ => zAm (v := .bool _) rfl rfl) rfl ?_
    refine zB0 ?_
    refine zAl (zAc (gd _ _ (zAa (zBa rfl rfl (w_p (zBj rfl rfl rfl rfl (by omega) (by omega)) rfl (zBl rfl rfl (zAe (zAc (gb _ _ (nxI (a.length - (i + 1)) (by omega) ?_))))))))))
    exact ⟨i + 1, _, rfl, by omega, rfl, (fun h => ⟨hst2.1, spans_succ hst2.2 hi2 hi3 (of_decide_eq_true h)⟩), (fun h => spans_differ hi2 hi3 (of_decide_eq_false h)), g5⟩
   try simp only [zS] at g4
   refine zBq (zAo (zAo (zA8 (zAc (g6 _ _ (zAf (fun gm ge => (zAa (w_p (zAi (v := .bool _) rfl rfl) rfl (w_p (zAm (v := .bool _) rfl rfl) rfl ?_))))))))))
   refine zAe (zAc (ge _ _ (zA2 (zA9 (l := [.tmp 4]) (vs := [_]) rfl ⟨⟨rfl, (rfl : _ = Value.bool _)⟩, trivial⟩ ?_))))
   first
     | (refine ⟨congrArg Value.bool ?_, hs⟩; rw [show s = true from by assumption]; symm; exact decide_eq_true (spans_same (hst (by assumption)).1 (hst (by assumption)).2 (by omega)))
     | (refine ⟨congrArg Value.bool ?_, hs⟩; rw [show s = false from by assumption]; symm; exact decide_eq_false (hsf (by assumption)))
  try simp only [zS] at g0
  refine zAg rfl rfl rfl ?_
  refine zAg rfl rfl rfl ?_
  refine zAg rfl rfl rfl ?_
  refine zAg rfl rfl rfl ?_
  refine w_p (zBd (v := _) rfl rfl rfl rfl) rfl (zAe (zAc (g7 _ _ (zCc rfl rfl ?_))))
  refine zBq (zAo (zAo (zA8 (zAc (g6 _ _ (zAf (fun gn gf => (zAa (w_p (zAi (v := .bool _) rfl rfl) rfl (w_p (zAm (v := .bool _) rfl rfl) rfl ?_))))))))))
  refine zAe (zAc (gf _ _ (zA2 (zA9 (l := [.tmp 4]) (vs := [_]) rfl ⟨⟨rfl, (rfl : _ = Value.bool _)⟩, trivial⟩ ?_))))
  first
    | (refine ⟨congrArg Value.bool ?_, hs⟩; rw [show s = true from by assumption]; symm; exact decide_eq_true (spans_same (hst (by assumption)).1 (hst (by assumption)).2 (by omega)))
    | (refine ⟨congrArg Value.bool ?_, hs⟩; rw [show s = false from by assumption]; symm; exact decide_eq_false (hsf (by assumption)))

end Go.Proofs.Cb
set_option maxRecDepth 20000
namespace Go.Proofs.Cb
open Go.Proofs.Tryz
open Go.Rt Go.Rt.Ca
attribute [local irreducible] WL WC Con Yd At Ats Sl Agree DW
theorem Try_CE_fb1  (w : World) : (Instr.buildSlice 24 0 [].toArray).run Tryz.prog w = .ok (.slice (some ⟨w.heap.size, 0, none⟩) 0 0) (w.alloc (Go.Rt.blk 46 [])) := by kernel_rfl
theorem Try_info46 : Tryz.prog.info? 46 = some Tryz.t46 := by kernel_rfl
theorem Try_CE_fb3 (x0 : ByteArray) (w : World) : (Instr.buildSlice 60 1 [(0, .string x0)].toArray).run Tryz.prog w = .ok (.slice (some ⟨w.heap.size, 0, none⟩) 1 1) (w.alloc (Go.Rt.blk 9 [.string x0])) := by kernel_rfl
theorem Try_info9 : Tryz.prog.info? 9 = some Tryz.t9 := by kernel_rfl
theorem rows_one (l : List Farm) : ∀ row ∈ rows l, ∀ u ∈ row, u.oneCell' = true := by
  intro row hr u hu
  obtain ⟨f, _, rfl⟩ := List.mem_map.1 hr
  simp only [Farm.cells, List.mem_cons, List.not_mem_nil, or_false] at hu
  rcases hu with rfl | rfl | rfl | rfl | rfl | rfl <;> rfl
theorem c57 {w0 w : World} {F : List (Nat × Obj)} (a : Option Addr) (c : Nat) (l : List Farm) (hl3 : l.length ≤ 1000000) (hc : l.length ≤ c) (ha : Sl w0 F a 6 (rows l)) (hs : St w0 w F) :
  Con Tryz.prog 57 [.slice a l.length c] w fun v w' => ∃ B', Rt.Own v 46 6 l.length (rows l).flatten B' ∧ St w0 w' (B' ++ F) := by
  refine zAu (n := 8) func57 rfl rfl (zNl rfl) ?_
  refine zAf (fun K2 g6 => (zAa (zBg rfl rfl (zAe (zAc (g6 _ _ (zAf (fun K4 g7 => (zAf (fun K6 g8 => (zAa (w_p (zAi (v := .slice _ _ _) rfl rfl) rfl ?_))))))))))))
  refine w_p (zIb underlying24 rfl rfl rfl rfl) rfl (zAe (zAc (g8 _ _ (zAy rfl rfl (fun h7 => ?_) (fun h7 => ?_)))))
  ·
   try simp only [zS] at h7
   refine zAf (fun K9 g9 => (zAa (zBg rfl rfl (zAe (zAc (g9 _ _ (zA2 (zAk (zA9 (l := [.tmp 2]) (vs := [_]) rfl ⟨⟨rfl, show _ = (.slice _ _ _ : Value) from rfl⟩, trivial⟩ ?_)))))))))
   have hr := sl_none (L := F) (w0 := w0) (by have : a = none := (by simpa using ‹a.isNone = true›); subst this; exact ha)
   have hl0 : l = [] := by simpa [rows] using hr
   subst hl0
   exact ⟨[], zD4 46 6, hs⟩
  try simp only [zS] at h7
  refine zAv (zAc (g7 _ _ (zAf (fun gd ga => (zAa (zA0 (ps := []) (pv := []) (cs := []) zAb rfl rfl (fun w => Try_CE_fb1  w) hs (fun ge gf gb => ?_)))))))
  refine w_p (zAi (v := .slice _ _ _) rfl rfl) rfl (zBu (X := ([])) (B := [_]) (rows := rows l) (sz := 6) (bytes := 56) zAb underlying24 Try_info46 rfl rfl rfl rfl rfl rfl rfl rfl rfl gb zDd ha.cons (by simp [rows]) (fun h => by subst h; simp at h7) (rows_one l) (by simp only [maxLen]; omega) (by omega) (fun g4 gg gc g5 g0 => ?_))
  replace g0 := (show St _ _ (gc ++ (F)) from g0)
  refine w_p (zAm (v := g4) rfl rfl) rfl (zAe (zAc (ga _ _ (zA2 (zA9 (l := [.tmp 2]) (vs := [_]) rfl ⟨⟨rfl, show _ = (g4 : Value) from rfl⟩, trivial⟩ ?_)))))
  rw [Nat.zero_add, List.nil_append] at g5
  exact ⟨_, g5, g0⟩

theorem zEc (a b lo hi : Int) : (ends a b lo hi = 7 ∧ (out lo hi a || out lo hi b) = true) ∨ (ends a b lo hi = 2 ∧ (out lo hi a || out lo hi b) = false ∧ b < a) ∨ (ends a b lo hi = 0 ∧ (out lo hi a || out lo hi b) = false ∧ ¬ b < a) := by
  unfold ends
  cases h : (out lo hi a || out lo hi b)
  · by_cases h2 : b < a
    · exact .inr (.inl ⟨by simp [h2], rfl, h2⟩)
    · exact .inr (.inr ⟨by simp [h2], rfl, h2⟩)
  · exact .inl ⟨rfl, rfl⟩
theorem out_iff (lo hi n : Int) : out lo hi n = false ↔ lo ≤ n ∧ n ≤ hi := by unfold out; rw [Bool.or_eq_false_iff]; simp
theorem zHe (p : Port) (h : ¬ (1 ≤ p.hold ∧ p.hold ≤ 200) ∨ ends p.clo p.chi 0 10 = 7) : check p = (1,0,7) := by
  unfold check
  rw [if_pos]
  rw [Bool.or_eq_true]
  rcases h with h | h
  · left
    cases ho : out 1 200 p.hold
    · exact absurd ((out_iff _ _ _).1 ho) h
    · rfl
  · rcases zEc p.clo p.chi 0 10 with ⟨_, h2⟩ | ⟨h1, _⟩ | ⟨h1, _⟩
    · exact .inr h2
    · omega
    · omega
theorem zHd (p : Port) (h : 1 ≤ p.hold ∧ p.hold ≤ 200) (h1 : ends p.clo p.chi 0 10 ≠ 7) (h2 : ends p.clo p.chi 0 10 ≠ 0) : check p = (1,0, ends p.clo p.chi 0 10) := by
  unfold check
  rcases zEc p.clo p.chi 0 10 with ⟨h3, _⟩ | ⟨h3, h4, h5⟩ | ⟨h3, _⟩
  · exact absurd h3 h1
  · rw [(out_iff _ _ _).2 h, h4, h3, if_neg (by simp), if_pos h5]
  · exact absurd h3 h2
theorem chk_go (p : Port) (h : 1 ≤ p.hold ∧ p.hold ≤ 200) (h2 : ends p.clo p.chi 0 10 = 0) : check p = if 3 < p.farms.length then (2,0,3) else farmsErr [] 0 p.farms := by
  unfold check
  rcases zEc p.clo p.chi 0 10 with ⟨h3, _⟩ | ⟨h3, h4, h5⟩ | ⟨h3, h4, h5⟩
  · omega
  · omega
  · rw [(out_iff _ _ _).2 h, h4, if_neg (by simp), if_neg h5]
theorem zHc (p : Port) (h : 1 ≤ p.hold ∧ p.hold ≤ 200) (h2 : ends p.clo p.chi 0 10 = 0) (h3 : 3 < p.farms.length) : check p = (2,0,3) := by rw [chk_go p h h2, if_pos h3]
theorem chk_ok (p : Port) (h : 1 ≤ p.hold ∧ p.hold ≤ 200) (h2 : ends p.clo p.chi 0 10 = 0) (h3 : p.farms.length ≤ 3) : check p = farmsErr [] 0 p.farms := by rw [chk_go p h h2, if_neg (by omega)]
theorem zDf (b : List ByteArray) (f : Farm) : fErr b f = if (if nmOk f.name = false then (6 : Int) else if has b f.name then 5 else 0) = 0 then farmErr f else (if nmOk f.name = false then 6 else if has b f.name then 5 else 0) := by
  unfold fErr
  cases nmOk f.name <;> cases has b f.name <;> simp
theorem names_snoc {l : List Farm} {i : Nat} (hi : i < l.length) : (names (l.take i)).map Value.string ++ [Value.string l[i].name] = (names (l.take (i + 1))).map Value.string := by
  rw [List.take_succ_eq_append_getElem hi]; simp only [names, List.map_append, List.map_cons, List.map_nil]
theorem names_len {l : List Farm} {i : Nat} (hi : i ≤ l.length) : (names (l.take i)).length = i := by simp [names]; omega
theorem c4 {w0 w : World} {F : List (Nat × Obj)} (p : Port) (a : Option Addr) (c : Nat) (hl3 : p.farms.length ≤ 9223372036854775807) (hc : p.farms.length ≤ c) (ha : Sl w0 F a 6 (rows p.farms)) (hnm : ∀ f ∈ p.farms, f.name.size ≤ 9223372036854775807) (hs : St w0 w F) :
  Con Tryz.prog 4 [.agg (p.cells a c).toArray] w fun v w' => v = .tuple #[.int .i64 (check p).1, .int .i64 (check p).2.1, .int .i64 (check p).2.2] ∧ St w0 w' F := by
  refine zAu (n := 63) func4 rfl rfl (zNl rfl) ?_
  refine zAf (fun K2 gm => (zAa (zCa (v := .agg #[.int _ _, .int _ _, .int _ _, .slice _ _ _]) (cs := [_,_,_,_]) zAb rfl rfl rfl hs (fun b3 w4 gf => ?_))))
  refine zBg rfl rfl (zBg rfl rfl (zBg rfl rfl (zAe (zAc (gm _ _ (zAf (fun K7 gn => (zAa (w_p (zAd (o := 1) (i := 1) underlying26 rfl sizeOf23 rfl rfl rfl) rfl ?_)))))))))
  refine w_p (zA7 (vs := [_,_]) isAgg23 sizeOf23 gf rfl rfl (zAh (i := 0) (vs := [_,_]) rfl rfl)) rfl (zAs zAb call14 rfl rfl rfl rfl (c14 _ _ _ _ gf) ?_)
  rintro _ w9 ⟨rfl, gg⟩
  refine zBl rfl rfl (zAe (zAc (gn _ _ (zAf (fun gO go => (zAf (fun gP gh => (zAa (w_p (zAd (o := 0) (i := 0) underlying26 rfl sizeOf3 rfl rfl rfl) rfl ?_)))))))))
  refine w_p (zAj isAgg3 gg rfl rfl (zAh (i := 0) (vs := [_]) rfl rfl)) rfl (zAs zAb call15 rfl rfl rfl rfl (c15 _ _ _ gg) ?_)
  rintro _ gQ ⟨rfl, g0⟩
  refine w_p (zDi rfl rfl) rfl (w_p (zAi (v := .bool _) rfl rfl) rfl (zBk (fun g6 => ?_) (fun g6 => ?_)))
  ·
   try simp only [zS] at g6
   refine zAg rfl rfl rfl ?_
   refine zAg rfl rfl rfl ?_
   refine w_p (zAx (v := _) rfl rfl rfl rfl) rfl (zAe (zAc (gh _ _ (zCh rfl rfl ?_))))
   refine zAf (fun gR gp => (zAa (zBg rfl rfl (zBg rfl rfl (zBg rfl rfl (zAe (zAc (gp _ _ (zA2 (zAk (zA9 (l := [.tmp 2, .tmp 3, .tmp 4]) (vs := [_,_,_]) rfl ⟨⟨rfl, (rfl : _ = Value.int _ _)⟩, ⟨rfl, (rfl : _ = Value.int _ _)⟩, ⟨rfl, (rfl : _ = Value.int _ _)⟩, trivial⟩ ?_)))))))))))
   first
     | exact ⟨tup3 (hinv.trans (zCr (by omega) _)), g0.tail.drop⟩
     | exact ⟨tup3 (zHe p (by omega)), g0.tail⟩
     | exact ⟨tup3 (zHd p (by assumption) (by assumption) (by assumption)), g0.tail⟩
     | exact ⟨tup3 (zHc p (by omega) (by omega) (by omega)), g0.tail⟩
     | contradiction
     | (refine ⟨tup3 (hinv.trans ?_), g0.tail.tail.drop⟩; have hE := zDf (names (p.farms.take i)) p.farms[i]; rw [if_neg (by assumption)] at hE; rw [zBr hi2 (by rw [hE]; assumption), hE])
     | (refine ⟨tup3 (hinv.trans ?_), g0.tail.tail.drop⟩; have hE := zDf (names (p.farms.take i)) p.farms[i]; rw [if_pos (by assumption)] at hE; rw [zBr hi2 (by rw [hE]; assumption), hE])
  try simp only [zS] at g6
  refine w_y rfl rfl rfl (zA1 rfl rfl) rfl ?_
  refine w_y rfl rfl rfl (zBw rfl rfl rfl rfl) rfl ?_
  refine w_p (zBd (v := .bool _) rfl rfl rfl rfl) rfl (zAe (zAc (gh _ _ (zAy rfl rfl (fun g7 => ?_) (fun g7 => ?_)))))
  ·
   try simp only [zS] at g7
   refine zAf (fun gT gq => (zAa (zBg rfl rfl (zBg rfl rfl (zBg rfl rfl (zAe (zAc (gq _ _ (zA2 (zAk (zA9 (l := [.tmp 2, .tmp 3, .tmp 4]) (vs := [_,_,_]) rfl ⟨⟨rfl, (rfl : _ = Value.int _ _)⟩, ⟨rfl, (rfl : _ = Value.int _ _)⟩, ⟨rfl, (rfl : _ = Value.int _ _)⟩, trivial⟩ ?_)))))))))))
   first
     | exact ⟨tup3 (hinv.trans (zCr (by omega) _)), g0.tail.drop⟩
     | exact ⟨tup3 (zHe p (by omega)), g0.tail⟩
     | exact ⟨tup3 (zHd p (by assumption) (by assumption) (by assumption)), g0.tail⟩
     | exact ⟨tup3 (zHc p (by omega) (by omega) (by omega)), g0.tail⟩
     | contradiction
     | (refine ⟨tup3 (hinv.trans ?_), g0.tail.tail.drop⟩; have hE := zDf (names (p.farms.take i)) p.farms[i]; rw [if_neg (by assumption)] at hE; rw [zBr hi2 (by rw [hE]; assumption), hE])
     | (refine ⟨tup3 (hinv.trans ?_), g0.tail.tail.drop⟩; have hE := zDf (names (p.farms.take i)) p.farms[i]; rw [if_pos (by assumption)] at hE; rw [zBr hi2 (by rw [hE]; assumption), hE])
  try simp only [zS] at g7
  refine zAv (zAc (go _ _ (zAf (fun gU gr => (zAf (fun gV gt => (zAa (zBa rfl rfl (w_p (zCt rfl rfl rfl rfl) rfl (zAe (zAc (gt _ _ (zAy rfl rfl (fun g8 => ?_) (fun g8 => ?_))))))))))))))
  ·
   try simp only [zS] at g8
   refine zAf (fun gW gu => (zAa (zBa rfl rfl (zBg rfl rfl (zBg rfl rfl (zBl rfl rfl (zAe (zAc (gu _ _ (zA2 (zAk (zA9 (l := [.tmp 2, .tmp 3, .tmp 4]) (vs := [_,_,_]) rfl ⟨⟨rfl, (rfl : _ = Value.int _ _)⟩, ⟨rfl, (rfl : _ = Value.int _ _)⟩, ⟨rfl, (rfl : _ = Value.int _ _)⟩, trivial⟩ ?_))))))))))))
   first
     | exact ⟨tup3 (hinv.trans (zCr (by omega) _)), g0.tail.drop⟩
     | exact ⟨tup3 (zHe p (by omega)), g0.tail⟩
     | exact ⟨tup3 (zHd p (by assumption) (by assumption) (by assumption)), g0.tail⟩
     | exact ⟨tup3 (zHc p (by omega) (by omega) (by omega)), g0.tail⟩
     | contradiction
     | (refine ⟨tup3 (hinv.trans ?_), g0.tail.tail.drop⟩; have hE := zDf (names (p.farms.take i)) p.farms[i]; rw [if_neg (by assumption)] at hE; rw [zBr hi2 (by rw [hE]; assumption), hE])
     | (refine ⟨tup3 (hinv.trans ?_), g0.tail.tail.drop⟩; have hE := zDf (names (p.farms.take i)) p.farms[i]; rw [if_pos (by assumption)] at hE; rw [zBr hi2 (by rw [hE]; assumption), hE])
  try simp only [zS] at g8
  refine zAv (zAc (gr _ _ (zAf (fun gX gv => (zAf (fun gY gw => (zAa (w_p (zAd (o := 3) (i := 2) underlying26 rfl sizeOf24 rfl rfl rfl) rfl (w_p (zAj isAgg24 g0 rfl rfl (zAh (i := 0) (vs := [_]) rfl rfl)) rfl ?_)))))))))
  refine w_p (zBm underlying24 rfl rfl) rfl (w_p (zFa rfl rfl rfl rfl) rfl (zAe (zAc (gw _ _ (zAy rfl rfl (fun g9 => ?_) (fun g9 => ?_))))))
  ·
   try simp only [zS] at g9
   refine zAf (fun gZ gx => (zAa (zBg rfl rfl (zBg rfl rfl (zBg rfl rfl (zAe (zAc (gx _ _ (zA2 (zAk (zA9 (l := [.tmp 2, .tmp 3, .tmp 4]) (vs := [_,_,_]) rfl ⟨⟨rfl, (rfl : _ = Value.int _ _)⟩, ⟨rfl, (rfl : _ = Value.int _ _)⟩, ⟨rfl, (rfl : _ = Value.int _ _)⟩, trivial⟩ ?_)))))))))))
   first
     | exact ⟨tup3 (hinv.trans (zCr (by omega) _)), g0.tail.drop⟩
     | exact ⟨tup3 (zHe p (by omega)), g0.tail⟩
     | exact ⟨tup3 (zHd p (by assumption) (by assumption) (by assumption)), g0.tail⟩
     | exact ⟨tup3 (zHc p (by omega) (by omega) (by omega)), g0.tail⟩
     | contradiction
     | (refine ⟨tup3 (hinv.trans ?_), g0.tail.tail.drop⟩; have hE := zDf (names (p.farms.take i)) p.farms[i]; rw [if_neg (by assumption)] at hE; rw [zBr hi2 (by rw [hE]; assumption), hE])
     | (refine ⟨tup3 (hinv.trans ?_), g0.tail.tail.drop⟩; have hE := zDf (names (p.farms.take i)) p.farms[i]; rw [if_pos (by assumption)] at hE; rw [zBr hi2 (by rw [hE]; assumption), hE])
  try simp only [zS] at g9
  refine zAv (zAc (gv _ _ (zAf (fun hD gy => (zAa (zBg rfl rfl (zAe (zAc (gy _ _ (zAf (fun hO gz => (zAf (fun hP gA => (zAa (zBg rfl rfl ?_)))))))))))))))
  refine zAe (zAc (gA _ _ (zAz ?_)))
  refine zB3 [2,3,4,6,7,8,27,28,29,30,31,32,33,34,35,36,37,38,39,40,41,42,43,44,45,46,47,48,49,50,51,52,53,54,55,56,57,58,59,60,61,62] [6,7] (fun k vs w => ∃ (i : Nat) (v : Value) (B : List (Nat × Obj)), vs = [v, .int .i64 i] ∧ i ≤ p.farms.length ∧ k = p.farms.length - i ∧ check p = farmsErr (names (p.farms.take i)) (i : Nat) (p.farms.drop i) ∧ Rt.Own v 9 1 i ((names (p.farms.take i)).map Value.string) B ∧ St w0 w ((b3, blk 26 (p.cells a c)) :: (B ++ F))) (p.farms.length) ?_ ?_
  ·
   exact ⟨0, _, [], rfl, by omega, by omega, (chk_ok p (by omega) (by omega) (by omega)), zD4 9 1, g0⟩
  intro k vs μ hX hI hY gi
  obtain ⟨i, v, B, rfl, hia, rfl, hinv, hown, hs⟩ := hI
  refine zAf (fun j0 gB => (zAf (fun j1 gC => (zAa (zBa rfl rfl (w_p (zAd (o := 3) (i := 2) underlying26 rfl sizeOf24 rfl rfl rfl) rfl (w_p (zAj isAgg24 hs rfl rfl (zAh (i := 0) (vs := [_]) rfl rfl)) rfl ?_)))))))
  refine w_p (zBm underlying24 rfl rfl) rfl (w_p (zCl rfl rfl rfl rfl) rfl (zAe (zAc (gC _ _ (zAy rfl rfl (fun ga => ?_) (fun ga => ?_))))))
  ·
   try simp only [zS] at ga
   refine zAv (zAc (gB _ _ (zAf (fun j2 gj => (zAz ?_)))))
   refine zAf (fun j3 gD => ?_)
   have hi2 : i < p.farms.length := by omega
   have hn2 := names_len hia
   obtain ⟨bx, ox, rfl, hx⟩ := sl_farm ha hi2
   obtain ⟨an, cn, rfl, hsn⟩ := zIl (w0 := w0) hown hn2 F
   have hnl : (names (p.farms.take i)).length ≤ 1000000 := by omega
   refine zAa (w_p (zAd (o := 3) (i := 2) underlying26 rfl sizeOf24 rfl rfl rfl) rfl (w_p (zAj isAgg24 hs rfl rfl (zAh (i := 0) (vs := [_]) rfl rfl)) rfl (zBa rfl rfl (w_p (zBc underlying24 sizeOf46 rfl rfl rfl rfl (i := _) rfl (by omega)) rfl ?_))))
   refine w_p (zAd (o := 0) (i := 0) underlying46 rfl sizeOf9 rfl rfl rfl) rfl (w_p (zAj isAgg9 hs.tail.drop rfl rfl (show Ats _ _ _ _ [_] from Ats.part hx 0 1)) rfl (w_p (zAi (v := .slice _ _ _) rfl rfl) rfl (zAs zAb call16 rfl rfl rfl rfl (c16 _ _ _ _ (hnm _ (List.getElem_mem hi2)) (by omega) hsn.cons hs) ?_)))
   rintro _ j4 ⟨rfl, gb⟩
   refine zBl rfl rfl (zAe (zAc (gD _ _ (zAf (fun j5 gE => (zAa (w_p (zAi (v := .slice _ _ _) rfl rfl) rfl (w_p (zAd (o := 3) (i := 2) underlying26 rfl sizeOf24 rfl rfl rfl) rfl ?_))))))))
   refine w_p (zAj isAgg24 gb rfl rfl (zAh (i := 0) (vs := [_]) rfl rfl)) rfl (zBa rfl rfl (w_p (zBc underlying24 sizeOf46 rfl rfl rfl rfl (i := _) rfl (by omega)) rfl (w_p (zAd (o := 0) (i := 0) underlying46 rfl sizeOf9 rfl rfl rfl) rfl ?_)))
   refine w_p (zAj isAgg9 gb.tail.drop rfl rfl (show Ats _ _ _ _ [_] from Ats.part hx 0 1)) rfl (zA0 (ps := [(0, _)]) (pv := [(0, .string _)]) (cs := [_]) zAb rfl rfl (fun w => Try_CE_fb3 _ w) gb (fun j6 j7 gF => ?_))
   refine zBu (X := (_ :: _ :: [])) (B := B) (rows := [[_]]) (sz := 1) (bytes := 16) zAb underlying60 Try_info9 rfl rfl rfl rfl rfl rfl rfl rfl rfl gF hown (zBp (i := 0) rfl (by simp) rfl) rfl (by simp) (by simp [Value.oneCell']) (by simp only [maxLen]; omega) (by omega) (fun gG j8 gH gk g4 => ?_)
   replace g4 := (show St _ _ (_ :: _ :: gH ++ (F)) from g4)
   refine w_p (zAm (v := gG) rfl rfl) rfl (zAe (zAc (gE _ _ (zAf (fun j9 gl => (zAf (fun ja gI => (zAa (zBa rfl rfl (w_p (zBw rfl rfl rfl rfl) rfl ?_))))))))))
   refine zAe (zAc (gI _ _ (zAy rfl rfl (fun gc => ?_) (fun gc => ?_))))
   ·
    try simp only [zS] at gc
    refine zAa (w_p (zAd (o := 3) (i := 2) underlying26 rfl sizeOf24 rfl rfl rfl) rfl (w_p (zAj isAgg24 g4 rfl rfl (zAh (i := 1) (vs := [_]) rfl rfl)) rfl (zBa rfl rfl (w_p (zBc underlying24 sizeOf46 rfl rfl rfl rfl (i := _) rfl (by omega)) rfl ?_))))
    refine w_p (zA7 (vs := [_,_,_,_,_,_]) isAgg46 sizeOf46 g4.tail.tail.drop rfl rfl hx) rfl (zAs zAb call17 rfl rfl rfl rfl (c17 _ g4) ?_)
    rintro _ jb ⟨rfl, g5⟩
    refine zBl rfl rfl (zAe (zAc (gl _ _ (zAf (fun jc gJ => (zAa (zBa rfl rfl (w_p (zCt rfl rfl rfl rfl) rfl (zAe (zAc (gJ _ _ (zAy rfl rfl (fun gd => ?_) (fun gd => ?_)))))))))))))
    ·
     try simp only [zS] at gd
     refine zAf (fun jd gK => (zAa (zBa rfl rfl (zBa rfl rfl (zBg rfl rfl (zBl rfl rfl (zBl rfl rfl (zAe (zAc (gK _ _ (zA2 (zAt (zAk (zAk (zAt (zAk (zA9 (l := [.tmp 2, .tmp 3, .tmp 4]) (vs := [_,_,_]) rfl ⟨⟨rfl, (rfl : _ = Value.int _ _)⟩, ⟨rfl, (rfl : _ = Value.int _ _)⟩, ⟨rfl, (rfl : _ = Value.int _ _)⟩, trivial⟩ ?_)))))))))))))))))
     first
       | exact ⟨tup3 (hinv.trans (zCr (by omega) _)), g5.tail.drop⟩
       | exact ⟨tup3 (zHe p (by omega)), g5.tail⟩
       | exact ⟨tup3 (zHd p (by assumption) (by assumption) (by assumption)), g5.tail⟩
       | exact ⟨tup3 (zHc p (by omega) (by omega) (by omega)), g5.tail⟩
       | contradiction
       | (refine ⟨tup3 (hinv.trans ?_), g5.tail.tail.drop⟩; have hE := zDf (names (p.farms.take i)) p.farms[i]; rw [if_neg (by assumption)] at hE; rw [zBr hi2 (by rw [hE]; assumption), hE])
       | (refine ⟨tup3 (hinv.trans ?_), g5.tail.tail.drop⟩; have hE := zDf (names (p.farms.take i)) p.farms[i]; rw [if_pos (by assumption)] at hE; rw [zBr hi2 (by rw [hE]; assumption), hE])
    try simp only [zS] at gd
    refine zAv (zAl (zAc (gj _ _ (zAa (zBa rfl rfl (w_p (zBj rfl rfl rfl rfl (by omega) (by omega)) rfl (zBl rfl rfl (zAe (zAc (gi _ _ (nxI (p.farms.length - (i + 1)) (by omega) ?_)))))))))))
    first
      | contradiction
      | exact ⟨i + 1, _,_, rfl, by omega, rfl, hinv.trans (zFz hi2 (by rw [zDf]; first | (rw [if_pos (by assumption)]; assumption) | (rw [if_neg (by assumption)]; assumption))), by rw [← names_snoc hi2]; exact gk, g5.tail⟩
   try simp only [zS] at gc
   refine zAv (zAc (gl _ _ (zAf (fun je gL => (zAa (zBa rfl rfl (w_p (zCt rfl rfl rfl rfl) rfl (zAe (zAc (gL _ _ (zAy rfl rfl (fun ge => ?_) (fun ge => ?_))))))))))))
   ·
    try simp only [zS] at ge
    refine zAf (fun jf gM => (zAa (zBa rfl rfl (zBa rfl rfl (zBg rfl rfl (zBl rfl rfl (zBl rfl rfl (zAe (zAc (gM _ _ (zA2 (zAt (zAk (zAk (zAt (zAk (zA9 (l := [.tmp 2, .tmp 3, .tmp 4]) (vs := [_,_,_]) rfl ⟨⟨rfl, (rfl : _ = Value.int _ _)⟩, ⟨rfl, (rfl : _ = Value.int _ _)⟩, ⟨rfl, (rfl : _ = Value.int _ _)⟩, trivial⟩ ?_)))))))))))))))))
    first
      | exact ⟨tup3 (hinv.trans (zCr (by omega) _)), g4.tail.drop⟩
      | exact ⟨tup3 (zHe p (by omega)), g4.tail⟩
      | exact ⟨tup3 (zHd p (by assumption) (by assumption) (by assumption)), g4.tail⟩
      | exact ⟨tup3 (zHc p (by omega) (by omega) (by omega)), g4.tail⟩
      | contradiction
      | (refine ⟨tup3 (hinv.trans ?_), g4.tail.tail.drop⟩; have hE := zDf (names (p.farms.take i)) p.farms[i]; rw [if_neg (by assumption)] at hE; rw [zBr hi2 (by rw [hE]; assumption), hE])
      | (refine ⟨tup3 (hinv.trans ?_), g4.tail.tail.drop⟩; have hE := zDf (names (p.farms.take i)) p.farms[i]; rw [if_pos (by assumption)] at hE; rw [zBr hi2 (by rw [hE]; assumption), hE])
   try simp only [zS] at ge
   refine zAv (zAl (zAc (gj _ _ (zAa (zBa rfl rfl (w_p (zBj rfl rfl rfl rfl (by omega) (by omega)) rfl (zBl rfl rfl (zAe (zAc (gi _ _ (nxI (p.farms.length - (i + 1)) (by omega) ?_)))))))))))
   first
     | contradiction
     | exact ⟨i + 1, _,_, rfl, by omega, rfl, hinv.trans (zFz hi2 (by rw [zDf]; first | (rw [if_pos (by assumption)]; assumption) | (rw [if_neg (by assumption)]; assumption))), by rw [← names_snoc hi2]; exact gk, g4.tail⟩
  try simp only [zS] at ga
  refine zBq (zAo (zAo (zA8 (zAc (gz _ _ (zAf (fun jg gN => (zAa (zBg rfl rfl (zBg rfl rfl (zBg rfl rfl (zAe (zAc (gN _ _ (zA2 (zA9 (l := [.tmp 2, .tmp 3, .tmp 4]) (vs := [_,_,_]) rfl ⟨⟨rfl, (rfl : _ = Value.int _ _)⟩, ⟨rfl, (rfl : _ = Value.int _ _)⟩, ⟨rfl, (rfl : _ = Value.int _ _)⟩, trivial⟩ ?_))))))))))))))))
  first
    | exact ⟨tup3 (hinv.trans (zCr (by omega) _)), hs.tail.drop⟩
    | exact ⟨tup3 (zHe p (by omega)), hs.tail⟩
    | exact ⟨tup3 (zHd p (by assumption) (by assumption) (by assumption)), hs.tail⟩
    | exact ⟨tup3 (zHc p (by omega) (by omega) (by omega)), hs.tail⟩
    | contradiction
    | (refine ⟨tup3 (hinv.trans ?_), hs.tail.tail.drop⟩; have hE := zDf (names (p.farms.take i)) p.farms[i]; rw [if_neg (by assumption)] at hE; rw [zBr hi2 (by rw [hE]; assumption), hE])
    | (refine ⟨tup3 (hinv.trans ?_), hs.tail.tail.drop⟩; have hE := zDf (names (p.farms.take i)) p.farms[i]; rw [if_pos (by assumption)] at hE; rw [zBr hi2 (by rw [hE]; assumption), hE])

end Go.Proofs.Cb
set_option maxRecDepth 20000
namespace Go.Proofs.Cb
open Go.Proofs.Tryz
open Go.Rt Go.Rt.Ca
attribute [local irreducible] WL WC Con Yd At Ats Sl Agree DW
theorem Try_CF_fb3 (x0 : Int) (w : World) : (Instr.buildSlice 34 1 [(0, .int .i64 x0)].toArray).run Tryz.prog w = .ok (.slice (some ⟨w.heap.size, 0, none⟩) 1 1) (w.alloc (Go.Rt.blk 3 [.int .i64 x0])) := by kernel_rfl
theorem fresh_ref {f : Farm} {c day : Int} (hf : f.Ok) (hc : -1 ≤ c) : fresh f c day = (!decide (c = -1) && decide (c + f.notice + f.way ≤ day ∧ day ≤ c + f.notice + f.keep)) := by
  unfold fresh out
  unfold Farm.Ok at hf
  rw [Bool.eq_iff_iff]
  simp
  omega
theorem fresh_pos {f : Farm} {c day : Int} (h : fresh f c day = true) : ¬ c = -1 := by
  unfold fresh at h
  simp at h
  omega
theorem c9 {w0 w : World} {F : List (Nat × Obj)} (f : Farm) (c day : Int) (hf : f.Ok) (hc : -1 ≤ c) (hc2 : c ≤ 100) (hd : -100 ≤ day) (hd2 : day ≤ 100) (hs : St w0 w F) :
  Con Tryz.prog 9 [.agg f.cells.toArray, .int .i64 c, .int .i64 day] w fun v w' => v = .bool (fresh f c day) ∧ St w0 w' F := by
  refine zAu (n := 26) func9 rfl rfl (zNl rfl) ?_
  have hfo := hf
  unfold Farm.Ok at hfo
  refine zAf (fun K2 g6 => (zAa (zCa (v := .agg #[.string _, .int _ _, .int _ _, .int _ _, .int _ _, .int _ _]) (cs := [_,_,_,_,_,_]) zAb rfl rfl rfl hs (fun b3 w4 g0 => ?_))))
  refine zBg rfl rfl (zAe (zAc (g6 _ _ (zAf (fun K7 g7 => (zAa (zBa rfl rfl (w_p (zAd (o := 2) (i := 2) underlying46 rfl sizeOf3 rfl rfl rfl) rfl (w_p (zAj isAgg3 g0 rfl rfl (zAh (i := 0) (vs := [_]) rfl rfl)) rfl ?_)))))))))
  refine w_p (zBj rfl rfl rfl rfl (by omega) (by omega)) rfl (zBl rfl rfl (zAe (zAc (g7 _ _ (zAf (fun K9 g5 => (zAa (zBa rfl rfl (w_p (zCt rfl rfl rfl rfl) rfl ?_)))))))))
  refine w_p (zAi (v := .bool _) rfl rfl) rfl (zBk (fun g4 => ?_) (fun g4 => ?_))
  ·
   try simp only [zS] at g4
   refine w_y rfl rfl rfl (zA1 rfl rfl) rfl ?_
   refine w_y rfl rfl rfl (zA1 rfl rfl) rfl ?_
   refine w_y rfl rfl rfl (zAd (o := 1) (i := 1) underlying46 rfl sizeOf3 rfl rfl rfl) rfl ?_
   refine w_y rfl rfl rfl (zAj isAgg3 g0 rfl rfl (zAh (i := 0) (vs := [_]) rfl rfl)) rfl ?_
   refine w_y rfl rfl rfl (zBj rfl rfl rfl rfl (by omega) (by omega)) rfl ?_
   refine w_y rfl rfl rfl (zA1 rfl rfl) rfl ?_
   refine w_y rfl rfl rfl (zAd (o := 3) (i := 3) underlying46 rfl sizeOf3 rfl rfl rfl) rfl ?_
   refine w_y rfl rfl rfl (zAj isAgg3 g0 rfl rfl (zAh (i := 0) (vs := [_]) rfl rfl)) rfl ?_
   refine w_y rfl rfl rfl (zBj rfl rfl rfl rfl (by omega) (by omega)) rfl ?_
   refine zAs (zAp rfl rfl rfl) call15 rfl rfl rfl rfl (c15 _ _ _ g0) ?_
   rintro _ g9 ⟨rfl, g8⟩
   refine w_p (zAx (v := .bool _) rfl rfl rfl rfl) rfl (w_p (zAm (v := .bool _) rfl rfl) rfl (zAe (zAc (g5 _ _ (zA2 (zA9 (l := [.tmp 6]) (vs := [_]) rfl ⟨⟨rfl, (rfl : _ = Value.bool _)⟩, trivial⟩ ?_))))))
   exact ⟨congrArg Value.bool (by rw [fresh_ref hf hc]; simp [g4] <;> omega), g8.tail⟩
  try simp only [zS] at g4
  refine zAg rfl rfl rfl ?_
  refine zAg rfl rfl rfl ?_
  refine zAg rfl rfl rfl ?_
  refine zAg rfl rfl rfl ?_
  refine zAg rfl rfl rfl ?_
  refine zAg rfl rfl rfl ?_
  refine zAg rfl rfl rfl ?_
  refine zAg rfl rfl rfl ?_
  refine zAg rfl rfl rfl ?_
  refine zAg rfl rfl rfl ?_
  refine w_p (zBd (v := _) rfl rfl rfl rfl) rfl (w_p (zAm (v := .bool _) rfl rfl) rfl (zAe (zAc (g5 _ _ (zA2 (zA9 (l := [.tmp 6]) (vs := [_]) rfl ⟨⟨rfl, (rfl : _ = Value.bool _)⟩, trivial⟩ ?_))))))
  exact ⟨congrArg Value.bool (by rw [fresh_ref hf hc]; simp [g4] <;> omega), g0.tail⟩

theorem c83 {w0 w : World} {F : List (Nat × Obj)} (p : Port) (a : Option Addr) (c m pb : Nat) (hp : Ats w0 F pb 0 [.int .i64 p.hold, .int .i64 p.clo, .int .i64 p.chi, .slice a p.farms.length c, .map (some m)]) (ha : Sl w0 F a 6 (rows p.farms)) (hok : p.Ok) (i : Nat) (hi : i < p.farms.length) (q day : Int) (hq : -100 ≤ q) (hq2 : q ≤ 100) (hd : -100 ≤ day) (hd2 : day ≤ 100) (hs : St w0 w F) :
  Con Tryz.prog 83 [.pointer (some ⟨pb, 0, none⟩), .int .i64 (i : Int), .int .i64 q, .int .i64 day] w fun v w' => v = .bool (fresh p.farms[i] q day) ∧ St w0 w' F := by
  refine zAu (n := 35) func83 rfl rfl (zNl rfl) ?_
  obtain ⟨bx, ox, rfl, hx⟩ := sl_farm ha hi
  have hfo := hok.farm _ (List.getElem_mem hi)
  unfold Farm.Ok at hfo
  refine zAf (fun K2 g6 => (zAa (zBg rfl rfl (zAe (zAc (g6 _ _ (zAf (fun K4 g7 => (zAa (w_p (zAi (v := .pointer _) rfl rfl) rfl ?_))))))))))
  refine w_p (zBi rfl rfl) rfl (w_p (zAd (o := 0) (i := 0) underlying137 rfl sizeOf26 rfl rfl rfl) rfl (w_p (zAd (o := 3) (i := 2) underlying26 rfl sizeOf24 rfl rfl rfl) rfl (w_p (zAj isAgg24 hs rfl rfl (show Ats _ _ _ _ [_] from Ats.part hp 3 1)) rfl ?_)))
  refine zBa rfl rfl (w_p (zBc underlying24 sizeOf46 rfl rfl rfl rfl (i := _) rfl (by omega)) rfl (w_p (zA7 (vs := [_,_,_,_,_,_]) isAgg46 sizeOf46 hs rfl rfl hx) rfl (zBb (cs := [_,_,_,_,_,_]) zAb zeroValue46 rfl hs (fun b5 w6 g8 => ?_))))
  refine zA4 (i := 0) (v := .agg #[.string _, .int _ _, .int _ _, .int _ _, .int _ _, .int _ _]) (vs := [_,_,_,_,_,_]) zAb sizeOf46 rfl rfl rfl rfl rfl (by simp [Value.oneCell']) g8 rfl (zNl rfl) (fun w8 g4 => ?_)
  refine zAe (zAc (g7 _ _ (zAf (fun gb g5 => (zAa (zBa rfl rfl (w_p (zF5 rfl rfl rfl rfl) rfl (w_p (zAi (v := .bool _) rfl rfl) rfl (zBk (fun g0 => ?_) (fun g0 => ?_))))))))))
  ·
   try simp only [zS] at g0
   refine w_y rfl rfl rfl (zAd (o := 1) (i := 1) underlying46 rfl sizeOf3 rfl rfl rfl) rfl ?_
   refine w_y rfl rfl rfl (zAj isAgg3 g4 rfl rfl (zAh (i := 0) (vs := [_]) rfl rfl)) rfl ?_
   refine w_y rfl rfl rfl (zAd (o := 3) (i := 3) underlying46 rfl sizeOf3 rfl rfl rfl) rfl ?_
   refine w_y rfl rfl rfl (zAj isAgg3 g4 rfl rfl (zAh (i := 0) (vs := [_]) rfl rfl)) rfl ?_
   refine w_y rfl rfl rfl (zA1 rfl rfl) rfl ?_
   refine w_y rfl rfl rfl (zA1 rfl rfl) rfl ?_
   refine w_y rfl rfl rfl (zEi rfl rfl rfl rfl (by omega) (by omega)) rfl ?_
   refine w_y rfl rfl rfl (zAd (o := 2) (i := 2) underlying46 rfl sizeOf3 rfl rfl rfl) rfl ?_
   refine w_y rfl rfl rfl (zAj isAgg3 g4 rfl rfl (zAh (i := 0) (vs := [_]) rfl rfl)) rfl ?_
   refine w_y rfl rfl rfl (zEi rfl rfl rfl rfl (by omega) (by omega)) rfl ?_
   refine zA0 (ps := [(0, _)]) (pv := [(0, .int _ _)]) (cs := [_]) (zAp rfl rfl rfl) rfl rfl (fun w => Try_CF_fb3 _ w) g4 (fun gc gd g9 => ?_)
   refine zAs (zAp rfl rfl rfl) call55 rfl rfl rfl rfl (c55 _ _ _ [_] _ (by simp) (zBp (i := 0) (rows := [[_]]) rfl (by simp) rfl) g9) ?_
   rintro _ ge ⟨rfl, ga⟩
   refine w_y rfl rfl rfl (zDi rfl rfl) rfl ?_
   refine w_p (zAx (v := .bool _) rfl rfl rfl rfl) rfl (w_p (zAm (v := .bool _) rfl rfl) rfl (zAe (zAc (g5 _ _ (zA2 (zA9 (l := [.tmp 8]) (vs := [_]) rfl ⟨⟨rfl, (rfl : _ = Value.bool _)⟩, trivial⟩ ?_))))))
   try simp only [List.any_cons, List.any_nil, Bool.or_false, Bool.or_eq_false_iff] at g0
   exact ⟨congrArg Value.bool (by unfold fresh; rw [Bool.eq_iff_iff]; simp [g0] <;> omega), ga.tail.tail⟩
  try simp only [zS] at g0
  refine zAg rfl rfl rfl ?_
  refine zAg rfl rfl rfl ?_
  refine zAg rfl rfl rfl ?_
  refine zAg rfl rfl rfl ?_
  refine zAg rfl rfl rfl ?_
  refine zAg rfl rfl rfl ?_
  refine zAg rfl rfl rfl ?_
  refine zAg rfl rfl rfl ?_
  refine zAg rfl rfl rfl ?_
  refine zAg rfl rfl rfl ?_
  refine zAg rfl rfl rfl ?_
  refine zAg rfl rfl rfl ?_
  refine zAg rfl rfl rfl ?_
  refine w_p (zBd (v := _) rfl rfl rfl rfl) rfl (w_p (zAm (v := .bool _) rfl rfl) rfl (zAe (zAc (g5 _ _ (zA2 (zA9 (l := [.tmp 8]) (vs := [_]) rfl ⟨⟨rfl, (rfl : _ = Value.bool _)⟩, trivial⟩ ?_))))))
  try simp only [List.any_cons, List.any_nil, Bool.or_false, Bool.or_eq_false_iff] at g0
  exact ⟨congrArg Value.bool (by unfold fresh; rw [Bool.eq_iff_iff]; simp [g0] <;> omega), g4.tail⟩

theorem c72 {w0 w : World} {F : List (Nat × Obj)} (p : Port) (a : Option Addr) (c m pb : Nat) (hp : Ats w0 F pb 0 [.int .i64 p.hold, .int .i64 p.clo, .int .i64 p.chi, .slice a p.farms.length c, .map (some m)]) (ha : Sl w0 F a 6 (rows p.farms)) (hok : p.Ok) (l : List Int) (hlen : l.length = 3) (hl1 : ∀ x ∈ l, -1 ≤ x ∧ x ≤ 10) (day : Int) (hd : -100 ≤ day) (hd2 : day ≤ 100) (hs : St w0 w F) :
  Con Tryz.prog 72 [.pointer (some ⟨pb, 0, none⟩), ia l, .int .i64 day] w fun v w' => v = ia (on p.farms l day).ints ∧ St w0 w' F := by
  refine zAu (n := 59) func72 rfl rfl (zNl rfl) ?_
  have hlen3 := hok.len
  refine zAf (fun K2 gf => (zAa (zF7 (l := _) zAb rfl rfl rfl hs (fun b3 w4 gg => ?_))))
  refine zBb (cs := [_,_,_]) zAb zeroValue87 rfl gg (fun b6 w7 gd => ?_)
  refine zAe (zAc (gf _ _ (w_scope ?_)))
  refine zAf (fun gu gh => (zAa (w_p (zAi (v := .pointer _) rfl rfl) rfl (w_p (zCd (fv := [_]) (cv := []) rfl rfl rfl rfl) rfl (w_p (zAm (v := .func _ _ _) rfl rfl) rfl ?_)))))
  refine zAe (zAc (gh _ _ (zAf (fun gv gi => (w_label ?_)))))
  refine zAc (gi _ _ (zAf (fun gw gj => (zAf (fun gx gk => (zAa (w_p (zAi (v := .pointer _) rfl rfl) rfl (w_p (zBi rfl rfl) rfl (w_p (zAd (o := 0) (i := 0) underlying137 rfl sizeOf26 rfl rfl rfl) rfl ?_)))))))))
  refine w_p (zAd (o := 3) (i := 2) underlying26 rfl sizeOf24 rfl rfl rfl) rfl (w_p (zAj isAgg24 gd.tail.tail rfl rfl (show Ats _ _ _ _ [_] from Ats.part hp 3 1)) rfl (w_p (zBm underlying24 rfl rfl) rfl (w_p (zAi (v := _) rfl rfl) rfl (zAe (zAc (gk _ _ (zAz ?_)))))))
  refine zB3 [8,9,18,19,20,21,22,23,24,25,26,27,28,29,30,31,32,33,34,35,36,37,38,39,40,41,42,43,44,45,46,47,48,49,50,51,52,53,54,55,56,57] [18] (fun k vs w => ∃ (i : Nat) (x : Load), x = onUpto p.farms l day i ∧ vs = [.int .i64 i] ∧ i ≤ p.farms.length ∧ k = p.farms.length - i ∧ St w0 w ((b6, blk 87 [.int .i64 x.least, .int .i64 x.most, .int .i64 x.vain]) :: (b3, blk 81 (iv l)) :: F)) (p.farms.length) ?_ ?_
  ·
   exact ⟨0, ⟨0,0,0⟩, rfl, rfl, by omega, by omega, gd⟩
  intro k vs μ gy hI gz g5
  obtain ⟨i, x, hxx, rfl, hia, rfl, hs⟩ := hI
  refine zAf (fun gA gl => (zAa (w_p (zCl rfl rfl rfl rfl) rfl (zAe (zAc (gl _ _ (zAf (fun gB gm => (zAy rfl rfl (fun g6 => ?_) (fun g6 => ?_))))))))))
  ·
   try simp only [zS] at g6
   refine zAv (zAc (gm _ _ (zAf (fun gC g7 => (zAz ?_)))))
   refine zAf (fun gD gn => ?_)
   have hi2 : i < p.farms.length := by omega
   have hi3 : i < l.length := by omega
   obtain ⟨bx, ox, rfl, hx⟩ := sl_farm ha hi2
   have hfo := hok.farm _ (List.getElem_mem hi2)
   have hfo2 := hfo
   unfold Farm.Ok at hfo2
   have hb := zGf (fs := p.farms) (l := l) day i (by have := hok.len; omega) hok.farm
   rw [← hxx] at hb
   have hgd : l[i] = l.getD i 0 := by simp [List.getD, hi3]
   have hl2 := hl1 (l.getD i 0) (by rw [← hgd]; exact List.getElem_mem hi3)
   refine zAa (zBa rfl rfl (w_p (zBc underlying24 sizeOf46 rfl rfl rfl rfl (i := _) rfl (by omega)) rfl (w_p (zA7 (vs := [_,_,_,_,_,_]) isAgg46 sizeOf46 hs.tail.tail rfl rfl hx) rfl (zBb (cs := [_,_,_,_,_,_]) zAb zeroValue46 rfl hs (fun gE gF go => ?_)))))
   refine zBl rfl rfl (zA4 (i := 0) (v := .agg #[.string _, .int _ _, .int _ _, .int _ _, .int _ _, .int _ _]) (vs := [_,_,_,_,_,_]) zAb sizeOf46 rfl rfl rfl rfl rfl (by simp [Value.oneCell']) go rfl (zNl rfl) (fun gG g0 => ?_))
   refine zAe (zAc (gn _ _ (zAz ?_)))
   refine zAf (fun gH gp => (zAa (zBa rfl rfl (w_p (zC3 underlying81 sizeOf3 rfl rfl rfl rfl (i := i) (by first | rfl | omega) (by omega)) rfl ?_))))
   refine w_p (zAj isAgg3 g0 rfl rfl (zD8 (i := 2) (j := i) rfl (by first | omega | rfl | (simp only [zL] <;> omega)))) rfl ?_
   refine w_p (zBw rfl rfl rfl rfl) rfl (w_p (zAm (v := .bool _) rfl rfl) rfl (zAe (zAc (gp _ _ (zAy rfl rfl (fun g8 => ?_) (fun g8 => ?_))))))
   ·
    try simp only [zS] at g8
    refine zBq (q_blk_other rfl ?_)
    refine zA8 (zAc (g7 _ _ (zAa (w_p (zBj rfl rfl rfl rfl (by omega) (by omega)) rfl (zBa rfl rfl (zAe (zAc (g5 _ _ (nxI (p.farms.length - (i + 1)) (by omega) ?_)))))))))
    first
      | exact ⟨i + 1, ⟨x.least + p.farms[i].lo, x.most + p.farms[i].hi, x.vain⟩, (by rw [onUpto_succ day hi2 hi3, ← hxx]; exact (zIi (fresh_pos (by assumption)) (by assumption)).symm), rfl, by omega, rfl, g0.tail⟩
      | exact ⟨i + 1, ⟨x.least, x.most, x.vain + p.farms[i].hi⟩, (by rw [onUpto_succ day hi2 hi3, ← hxx]; exact (step_vain (by assumption) (by assumption)).symm), rfl, by omega, rfl, g0.tail⟩
      | exact ⟨i + 1, x, (by rw [onUpto_succ day hi2 hi3, ← hxx]; exact (zIh (by assumption)).symm), rfl, by omega, rfl, g0.tail⟩
   try simp only [zS] at g8
   refine zAf (fun gI gq => (zAa (w_p (zAi (v := .func _ _ _) rfl rfl) rfl (zBa rfl rfl (zBa rfl rfl (w_p (zC3 underlying81 sizeOf3 rfl rfl rfl rfl (i := i) (by first | rfl | omega) (by omega)) rfl ?_))))))
   refine w_p (zAj isAgg3 g0 rfl rfl (zD8 (i := 2) (j := i) rfl (by first | omega | rfl | (simp only [zL] <;> omega)))) rfl ?_
   refine zBa rfl rfl (zAs zAb call83 rfl rfl rfl rfl (c83 p _ c m pb hp.cons.cons.cons ha.cons.cons.cons hok i hi2 _ _ (by omega) (by omega) (by omega) (by omega) g0) ?_)
   rintro _ gJ ⟨rfl, g4⟩
   refine w_p (zAm (v := .bool _) rfl rfl) rfl (zAe (zAc (gq _ _ (zAy rfl rfl (fun g9 => ?_) (fun g9 => ?_)))))
   ·
    try simp only [zS] at g9
    refine zAf (fun gK gr => (zAa (w_p (zAd (o := 0) (i := 0) underlying87 rfl sizeOf3 rfl rfl rfl) rfl (w_p (zAj isAgg3 g4 rfl rfl (zAh (i := 1) (vs := [_]) rfl rfl)) rfl (w_p (zAd (o := 4) (i := 4) underlying46 rfl sizeOf23 rfl rfl rfl) rfl ?_)))))
    refine w_p (zAd (o := 0) (i := 0) underlying23 rfl sizeOf3 rfl rfl rfl) rfl (w_p (zAj isAgg3 g4 rfl rfl (zAh (i := 0) (vs := [_]) rfl rfl)) rfl (w_p (zBj rfl rfl rfl rfl (by omega) (by omega)) rfl ?_))
    refine w_p (zAd (o := 0) (i := 0) underlying87 rfl sizeOf3 rfl rfl rfl) rfl (zA4 (i := 1) (v := .int _ _) (vs := [_]) zAb sizeOf3 rfl rfl rfl rfl rfl (by simp [Value.oneCell']) g4 rfl (zNl rfl) (fun gL ga => ?_))
    refine zAe (zAc (gr _ _ (zAa (w_p (zAd (o := 1) (i := 1) underlying87 rfl sizeOf3 rfl rfl rfl) rfl (w_p (zAj isAgg3 ga rfl rfl (zAh (i := 1) (vs := [_]) rfl rfl)) rfl ?_)))))
    refine w_p (zAd (o := 4) (i := 4) underlying46 rfl sizeOf23 rfl rfl rfl) rfl (w_p (zAd (o := 1) (i := 1) underlying23 rfl sizeOf3 rfl rfl rfl) rfl (w_p (zAj isAgg3 ga rfl rfl (zAh (i := 0) (vs := [_]) rfl rfl)) rfl ?_))
    refine w_p (zBj rfl rfl rfl rfl (by omega) (by omega)) rfl (w_p (zAd (o := 1) (i := 1) underlying87 rfl sizeOf3 rfl rfl rfl) rfl (zA4 (i := 1) (v := .int _ _) (vs := [_]) zAb sizeOf3 rfl rfl rfl rfl rfl (by simp [Value.oneCell']) ga rfl (zNl rfl) (fun gM gb => ?_)))
    refine zAe (zAl (zAl (zAc (g7 _ _ (zAa (w_p (zBj rfl rfl rfl rfl (by omega) (by omega)) rfl (zBa rfl rfl (zAe (zAc (g5 _ _ (nxI (p.farms.length - (i + 1)) (by omega) ?_)))))))))))
    first
      | exact ⟨i + 1, ⟨x.least + p.farms[i].lo, x.most + p.farms[i].hi, x.vain⟩, (by rw [onUpto_succ day hi2 hi3, ← hxx]; exact (zIi (fresh_pos (by assumption)) (by assumption)).symm), rfl, by omega, rfl, gb.tail⟩
      | exact ⟨i + 1, ⟨x.least, x.most, x.vain + p.farms[i].hi⟩, (by rw [onUpto_succ day hi2 hi3, ← hxx]; exact (step_vain (by assumption) (by assumption)).symm), rfl, by omega, rfl, gb.tail⟩
      | exact ⟨i + 1, x, (by rw [onUpto_succ day hi2 hi3, ← hxx]; exact (zIh (by assumption)).symm), rfl, by omega, rfl, gb.tail⟩
   try simp only [zS] at g9
   refine zAa (w_p (zAd (o := 2) (i := 2) underlying87 rfl sizeOf3 rfl rfl rfl) rfl (w_p (zAj isAgg3 g4 rfl rfl (zAh (i := 1) (vs := [_]) rfl rfl)) rfl (w_p (zAd (o := 4) (i := 4) underlying46 rfl sizeOf23 rfl rfl rfl) rfl ?_)))
   refine w_p (zAd (o := 1) (i := 1) underlying23 rfl sizeOf3 rfl rfl rfl) rfl (w_p (zAj isAgg3 g4 rfl rfl (zAh (i := 0) (vs := [_]) rfl rfl)) rfl (w_p (zBj rfl rfl rfl rfl (by omega) (by omega)) rfl ?_))
   refine w_p (zAd (o := 2) (i := 2) underlying87 rfl sizeOf3 rfl rfl rfl) rfl (zA4 (i := 1) (v := .int _ _) (vs := [_]) zAb sizeOf3 rfl rfl rfl rfl rfl (by simp [Value.oneCell']) g4 rfl (zNl rfl) (fun gN gc => ?_))
   refine zAe (zAl (zAl (zAc (g7 _ _ (zAa (w_p (zBj rfl rfl rfl rfl (by omega) (by omega)) rfl (zBa rfl rfl (zAe (zAc (g5 _ _ (nxI (p.farms.length - (i + 1)) (by omega) ?_)))))))))))
   first
     | exact ⟨i + 1, ⟨x.least + p.farms[i].lo, x.most + p.farms[i].hi, x.vain⟩, (by rw [onUpto_succ day hi2 hi3, ← hxx]; exact (zIi (fresh_pos (by assumption)) (by assumption)).symm), rfl, by omega, rfl, gc.tail⟩
     | exact ⟨i + 1, ⟨x.least, x.most, x.vain + p.farms[i].hi⟩, (by rw [onUpto_succ day hi2 hi3, ← hxx]; exact (step_vain (by assumption) (by assumption)).symm), rfl, by omega, rfl, gc.tail⟩
     | exact ⟨i + 1, x, (by rw [onUpto_succ day hi2 hi3, ← hxx]; exact (zIh (by assumption)).symm), rfl, by omega, rfl, gc.tail⟩
  try simp only [zS] at g6
  refine zBq (zAo (zAo (zA8 (zAc (gj _ _ (zAf (fun gO gt => (zAa (w_p (zA7 (vs := [_,_,_]) isAgg87 sizeOf87 hs rfl rfl (zAh (i := 0) (vs := [_,_,_]) rfl rfl)) rfl ?_)))))))))
  refine zA4 (i := 0) (v := .agg #[.int _ _, .int _ _, .int _ _]) (vs := [_,_,_]) zAb sizeOf87 rfl rfl rfl rfl rfl (by simp [Value.oneCell']) hs rfl (zNl rfl) (fun gP ge => ?_)
  refine zAe (zAc (gt _ _ (zA2 (q_ng_ret ?_))))
  refine zA9 (l := [.cell 6 87]) (vs := [_]) rfl ⟨⟨rfl, _, rfl, zCe (vs := [_,_,_]) isAgg87 sizeOf87 ge (zAh (i := 0) (vs := [_,_,_]) rfl rfl)⟩, trivial⟩ ?_
  have hfin := onUpto_all (fs := p.farms) (l := l) (i := i) day (by omega)
  exact ⟨by rw [← hfin, ← hxx]; rfl, ge.tail.tail⟩

end Go.Proofs.Cb
set_option maxRecDepth 20000
namespace Go.Proofs.Cb
open Go.Proofs.Tryz
open Go.Rt Go.Rt.Ca
attribute [local irreducible] WL WC Con Yd At Ats Sl Agree DW
theorem Try_flat81 : flatInts Tryz.prog 81 3 = true := by kernel_rfl
theorem Try_CG_fb4 (x0 : Int) (x1 : Int) (x2 : Int) (w : World) : (Instr.buildSlice 84 1 [(0, .agg #[.int .i64 x0, .int .i64 x1, .int .i64 x2])].toArray).run Tryz.prog w = .ok (.slice (some ⟨w.heap.size, 0, none⟩) 1 1) (w.alloc (Go.Rt.blk 87 [.int .i64 x0, .int .i64 x1, .int .i64 x2])) := by kernel_rfl
theorem Try_info87 : Tryz.prog.info? 87 = some Tryz.t87 := by kernel_rfl
abbrev lrows (l : List Load) : List (List Value) := l.map fun x => iv x.ints
def Memo (w0 : World) (p : Port) (m : Nat) (M : List (Nat × Obj)) : Prop := ∃ es ck BL, M = (m, .map es ck) :: BL ∧ ∀ e ∈ es.toList, ∃ l a c, l.length = 3 ∧ e.key = ia l ∧ e.val = .slice a (loads p l).length c ∧ Sl w0 BL a 3 (lrows (loads p l))
theorem zEz (w0 : World) (p : Port) (m : Nat) : Memo w0 p m [(m, .map #[] 0)] := ⟨#[], 0, [], rfl, fun e he => by simp at he⟩
theorem lcells_succ {p : Port} {l : List Int} {i : Nat} (hi : (i : Int) < p.chi - p.clo + 1) : (lrows ((loads p l).take i)).flatten ++ [iv (on p.farms l (p.clo + i)).ints].flatten = (lrows ((loads p l).take (i + 1))).flatten := by
  rw [zGi l hi]; simp [lrows]
theorem c38f {w0 w : World} {F : List (Nat × Obj)} (p : Port) (a : Option Addr) (c m pb : Nat) (hp : Ats w0 F pb 0 [.int .i64 p.hold, .int .i64 p.clo, .int .i64 p.chi, .slice a p.farms.length c, .map (some m)]) (ha : Sl w0 F a 6 (rows p.farms)) (hok : p.Ok) (l : List Int) (hlen : l.length = 3) (hl1 : ∀ x ∈ l, -1 ≤ x ∧ x ≤ 10) (es : Array MapEntry) (ck : Nat) (BL : List (Nat × Obj)) (j : Nat) (av : Option Addr) (nv cv : Nat) (hf : ∀ w, (Instr.findKey 81 (ia l) es.toList).run Tryz.prog w = .ok (some (j, .slice av nv cv)) w) (hs : St w0 w ((m, .map es ck) :: (BL ++ F))) :
  Con Tryz.prog 38 [.pointer (some ⟨pb, 0, none⟩), ia l] w fun v w' => v = .slice av nv cv ∧ St w0 w' ((m, .map es ck) :: (BL ++ F)) := by
  refine zAu (n := 59) func38 rfl rfl (zNl rfl) ?_
  refine zAf (fun K2 g4 => (zAa (zF7 (l := _) zAb rfl rfl rfl hs (fun b3 w4 g5 => ?_))))
  refine zBg rfl rfl (zAe (zAc (g4 _ _ (zAf (fun K7 g9 => (zAf (fun K9 g6 => (zCs [] [(0,0),(1,0),(2,0),(3,1),(4,1),(5,1),(6,0),(7,0),(8,0),(9,0),(10,0)] zCg (by kernel_rfl) g5 (fun ga g0 => ?_)))))))))
  refine d_w rfl (fun _ => zAi (v := .pointer _) rfl rfl) rfl ?_
  refine d_w rfl (fun _ => zBi rfl rfl) rfl ?_
  refine d_w rfl (fun _ => zAd (o := 4) (i := 1) underlying137 rfl sizeOf135 rfl rfl rfl) rfl ?_
  refine zBh rfl zAb rfl g0 (fun _ hq => (zAj isAgg135 hq.tail.tail.drop rfl rfl (show Ats _ _ _ _ [_] from Ats.part hp 4 1))) ?_
  refine zBh rfl zAb rfl g0 (fun _ hq => (zB5 (i := 0) isAgg81 sizeOf81 (by first | omega | rfl | (simp only [zL] <;> omega)) hq rfl rfl rfl)) ?_
  refine zBh rfl zAb rfl g0 (fun _ hq => (y_lookupS (i := 1) (l := l) underlying135 underlying81 (by omega) underlying3 sizeOf3 hq rfl rfl rfl rfl rfl rfl hf)) ?_
  refine d_w rfl (fun _ => zAi (v := .tuple _) rfl rfl) rfl ?_
  refine d_w rfl (fun _ => zAn (v := .slice _ _ _) rfl rfl rfl) rfl ?_
  refine d_w rfl (fun _ => zAn (v := .bool _) rfl rfl rfl) rfl ?_
  refine d_w rfl (fun _ => zAm (v := .slice _ _ _) rfl rfl) rfl ?_
  refine d_w rfl (fun _ => zAm (v := .bool _) rfl rfl) rfl ?_
  refine zB0 ?_
  refine zAc (g6 _ _ (zAf (fun gb g7 => (zAa (w_p (zAi (v := .bool _) rfl rfl) rfl (zAe (zAc (g7 _ _ (zCh rfl rfl ?_)))))))))
  refine zAf (fun gc g8 => (zAa (w_p (zAi (v := .slice _ _ _) rfl rfl) rfl (w_p (zAm (v := .slice _ _ _) rfl rfl) rfl (zAe (zAc (g8 _ _ (zA2 (zAk (zA9 (l := [.tmp 4]) (vs := [_]) rfl ⟨⟨rfl, show _ = (.slice _ _ _ : Value) from rfl⟩, trivial⟩ ?_))))))))))
  exact ⟨rfl, g0.tail⟩

theorem c38n {w0 w : World} {F : List (Nat × Obj)} (p : Port) (a : Option Addr) (c m pb : Nat) (hp : Ats w0 F pb 0 [.int .i64 p.hold, .int .i64 p.clo, .int .i64 p.chi, .slice a p.farms.length c, .map (some m)]) (ha : Sl w0 F a 6 (rows p.farms)) (hok : p.Ok) (l : List Int) (hlen : l.length = 3) (hl1 : ∀ x ∈ l, -1 ≤ x ∧ x ≤ 10) (es : Array MapEntry) (ck : Nat) (BL : List (Nat × Obj)) (hf : ∀ w, (Instr.findKey 81 (ia l) es.toList).run Tryz.prog w = .ok none w) (hs : St w0 w ((m, .map es ck) :: (BL ++ F))) :
  Con Tryz.prog 38 [.pointer (some ⟨pb, 0, none⟩), ia l] w fun v w' => ∃ B a c, v = .slice a (loads p l).length c ∧ Sl w0 B a 3 (lrows (loads p l)) ∧ St w0 w' ((m, .map (es.push { key := ia l, val := v, born := ck }) (ck + 1)) :: (B ++ (BL ++ F))) := by
  refine zAu (n := 59) func38 rfl rfl (zNl rfl) ?_
  have hcome := hok.come
  refine zAf (fun K2 gb => (zAa (zF7 (l := _) zAb rfl rfl rfl hs (fun b3 w4 gc => ?_))))
  refine zBg rfl rfl (zAe (zAc (gb _ _ (zAf (fun K7 gd => (zAf (fun K9 ge => (zCs [] [(0,0),(1,0),(2,0),(3,1),(4,1),(5,1),(6,0),(7,0),(8,0),(9,0),(10,0)] zCg (by kernel_rfl) gc (fun gv g0 => ?_)))))))))
  refine d_w rfl (fun _ => zAi (v := .pointer _) rfl rfl) rfl ?_
  refine d_w rfl (fun _ => zBi rfl rfl) rfl ?_
  refine d_w rfl (fun _ => zAd (o := 4) (i := 1) underlying137 rfl sizeOf135 rfl rfl rfl) rfl ?_
  refine zBh rfl zAb rfl g0 (fun _ hq => (zAj isAgg135 hq.tail.tail.drop rfl rfl (show Ats _ _ _ _ [_] from Ats.part hp 4 1))) ?_
  refine zBh rfl zAb rfl g0 (fun _ hq => (zB5 (i := 0) isAgg81 sizeOf81 (by first | omega | rfl | (simp only [zL] <;> omega)) hq rfl rfl rfl)) ?_
  refine zBh rfl zAb rfl g0 (fun _ hq => (y_lookupN (i := 1) (l := l) underlying135 underlying81 (by omega) underlying3 sizeOf3 zeroValue84 hq rfl rfl rfl rfl rfl rfl hf)) ?_
  refine d_w rfl (fun _ => zAi (v := .tuple _) rfl rfl) rfl ?_
  refine d_w rfl (fun _ => zAn (v := .slice _ _ _) rfl rfl rfl) rfl ?_
  refine d_w rfl (fun _ => zAn (v := .bool _) rfl rfl rfl) rfl ?_
  refine d_w rfl (fun _ => zAm (v := .slice _ _ _) rfl rfl) rfl ?_
  refine d_w rfl (fun _ => zAm (v := .bool _) rfl rfl) rfl ?_
  refine zB0 ?_
  refine zAc (ge _ _ (zAf (fun gw gf => (zAa (w_p (zAi (v := .bool _) rfl rfl) rfl (zAe (zAc (gf _ _ (zCc rfl rfl ?_)))))))))
  refine zAv (zAc (gd _ _ (zAf (fun gx gg => (zAa (zBg rfl rfl (zAe (zAc (gg _ _ (zAf (fun gy gh => (zAf (fun gz gi => (zCs [] [(0,0),(1,0),(2,0),(3,0),(4,0),(5,1),(6,0),(7,0),(8,0),(9,0),(10,0),(11,1),(12,0),(13,0),(14,0)] zCg (by kernel_rfl) g0 (fun gA g4 => ?_)))))))))))))))
  refine d_w rfl (fun _ => zAi (v := .pointer _) rfl rfl) rfl ?_
  refine d_w rfl (fun _ => zBi rfl rfl) rfl ?_
  refine d_w rfl (fun _ => zAd (o := 0) (i := 0) underlying137 rfl sizeOf26 rfl rfl rfl) rfl ?_
  refine d_w rfl (fun _ => zAd (o := 1) (i := 1) underlying26 rfl sizeOf23 rfl rfl rfl) rfl ?_
  refine d_w rfl (fun _ => zAd (o := 1) (i := 1) underlying23 rfl sizeOf3 rfl rfl rfl) rfl ?_
  refine zBh rfl zAb rfl g4 (fun _ hq => (zAj isAgg3 hq.tail.tail.drop rfl rfl (show Ats _ _ _ _ [_] from Ats.part hp 2 1))) ?_
  refine d_w rfl (fun _ => zAi (v := .pointer _) rfl rfl) rfl ?_
  refine d_w rfl (fun _ => zBi rfl rfl) rfl ?_
  refine d_w rfl (fun _ => zAd (o := 0) (i := 0) underlying137 rfl sizeOf26 rfl rfl rfl) rfl ?_
  refine d_w rfl (fun _ => zAd (o := 1) (i := 1) underlying26 rfl sizeOf23 rfl rfl rfl) rfl ?_
  refine d_w rfl (fun _ => zAd (o := 0) (i := 0) underlying23 rfl sizeOf3 rfl rfl rfl) rfl ?_
  refine zBh rfl zAb rfl g4 (fun _ hq => (zAj isAgg3 hq.tail.tail.drop rfl rfl (show Ats _ _ _ _ [_] from Ats.part hp 1 1))) ?_
  refine d_w rfl (fun _ => zEi rfl rfl rfl rfl (by omega) (by omega)) rfl ?_
  refine d_w rfl (fun _ => zBj rfl rfl rfl rfl (by omega) (by omega)) rfl ?_
  refine d_w rfl (fun _ => zAi (v := _) rfl rfl) rfl ?_
  refine zB0 ?_
  refine zAc (gi _ _ (zAz ?_))
  refine zB3 [7,8,34,35,36,37,38,39,40,41,42,43,44,45,46,47,48,49,50,51] [7,34] (fun k vs w => ∃ (i : Nat) (v : Value) (B : List (Nat × Obj)), vs = [v, .int .i64 i] ∧ (i : Int) ≤ p.chi - p.clo + 1 ∧ k = (p.chi - p.clo + 1 - i).toNat ∧ Rt.Own v 87 3 i (lrows ((loads p l).take i)).flatten B ∧ St w0 w ((b3, blk 81 (iv l)) :: (m, .map es ck) :: (B ++ (BL ++ F)))) ((p.chi - p.clo + 1).toNat) ?_ ?_
  ·
   exact ⟨0, _, [], rfl, by omega, by simp, zD4 87 3, g4⟩
  intro k vs μ gB hI gC gj
  obtain ⟨i, v, B, rfl, hia, rfl, hown, hs⟩ := hI
  refine zAf (fun gD gk => (zAa (w_p (zCl rfl rfl rfl rfl) rfl (zAe (zAc (gk _ _ (zAf (fun gE gl => (zAy rfl rfl (fun g5 => ?_) (fun g5 => ?_))))))))))
  ·
   try simp only [zS] at g5
   refine zAv (zAc (gl _ _ (zAf (fun gF gm => (zAz ?_)))))
   refine zAf (fun gG gn => (zAa (zBa rfl rfl (zBl rfl rfl (zAe (zAc (gn _ _ (zCs [13] [(0,0),(1,0),(2,1),(3,0),(4,0),(5,0),(6,0),(7,0),(8,1),(9,0),(10,0),(11,2),(12,2),(13,3),(14,0)] zCg (by kernel_rfl) hs (fun gH g6 => ?_)))))))))
   refine d_w rfl (fun _ => zAi (v := v) rfl rfl) rfl ?_
   refine d_w rfl (fun _ => zAi (v := .pointer _) rfl rfl) rfl ?_
   refine zBh rfl zAb rfl g6 (fun _ hq => (zB5 (i := 0) isAgg81 sizeOf81 (by first | omega | rfl | (simp only [zL] <;> omega)) hq rfl rfl rfl)) ?_
   refine d_w rfl (fun _ => zAi (v := .pointer _) rfl rfl) rfl ?_
   refine d_w rfl (fun _ => zBi rfl rfl) rfl ?_
   refine d_w rfl (fun _ => zAd (o := 0) (i := 0) underlying137 rfl sizeOf26 rfl rfl rfl) rfl ?_
   refine d_w rfl (fun _ => zAd (o := 1) (i := 1) underlying26 rfl sizeOf23 rfl rfl rfl) rfl ?_
   refine d_w rfl (fun _ => zAd (o := 0) (i := 0) underlying23 rfl sizeOf3 rfl rfl rfl) rfl ?_
   refine zBh rfl zAb rfl g6 (fun _ hq => (zAj isAgg3 hq.tail.tail.drop.drop rfl rfl (show Ats _ _ _ _ [_] from Ats.part hp 1 1))) ?_
   refine d_w rfl (fun _ => zA1 rfl rfl) rfl ?_
   refine d_w rfl (fun _ => zBj rfl rfl rfl rfl (by omega) (by omega)) rfl ?_
   refine zC9 rfl ?_
   refine zAs zAb call72 rfl rfl rfl rfl (c72 p _ c m pb hp.app.app.cons.cons ha.app.app.cons.cons hok _ (by assumption) (by assumption) _ (by omega) (by omega) g6) ?_
   rintro _ gI ⟨rfl, g9⟩
   refine zAe (qn ⟨g9, ?_⟩)
   refine zC9 rfl ?_
   refine zA0 (ps := [(0, _)]) (pv := [(0, .agg #[.int _ _, .int _ _, .int _ _])]) (cs := [_,_,_]) zAb rfl rfl (fun w => Try_CG_fb4 _ _ _ w) g9 (fun gJ gK ga => ?_)
   refine zAe (qn ⟨ga.tail, ?_⟩)
   refine zDt rfl ?_
   refine zBu (X := (_ :: _ :: _ :: [])) (B := B) (rows := [[_,_,_]]) (sz := 3) (bytes := 24) zAb underlying84 Try_info87 rfl rfl rfl rfl rfl rfl rfl rfl rfl ga hown (zBp (i := 0) rfl (by simp) rfl) rfl (by simp) (by simp [Value.oneCell']) (by simp only [maxLen]; omega) (by omega) (fun go gL gp gq g7 => ?_)
   replace g7 := (show St _ _ (_ :: _ :: _ :: gp ++ (BL ++ (F))) from g7)
   refine zAe (qn ?_)
   refine d_w rfl (fun _ => zAm (v := go) rfl rfl) rfl ?_
   refine zB0 ?_
   refine zAl (zAc (gm _ _ (zAa (w_p (zBj rfl rfl rfl rfl (by omega) (by omega)) rfl (zBa rfl rfl (zAe (zAc (gj _ _ (nxI ((p.chi - p.clo + 1 - (i + 1 : Nat)).toNat) (by omega) ?_)))))))))
   exact ⟨i + 1, _,_, rfl, by omega, rfl, by rw [← lcells_succ (by omega)]; exact gq, g7.tail⟩
  try simp only [zS] at g5
  refine zBq (zAo (zAo (zA8 (zAc (gh _ _ (zAf (fun gM gr => (zCs [6] [(0,0),(1,0),(2,0),(3,1),(4,1),(5,0),(6,3)] zCg (by kernel_rfl) hs (fun gN g8 => ?_)))))))))
  refine d_w rfl (fun _ => zAi (v := .pointer _) rfl rfl) rfl ?_
  refine d_w rfl (fun _ => zBi rfl rfl) rfl ?_
  refine d_w rfl (fun _ => zAd (o := 4) (i := 1) underlying137 rfl sizeOf135 rfl rfl rfl) rfl ?_
  refine zBh rfl zAb rfl g8 (fun _ hq => (zAj isAgg135 hq.tail.tail.drop.drop rfl rfl (show Ats _ _ _ _ [_] from Ats.part hp 4 1))) ?_
  refine zBh rfl zAb rfl g8 (fun _ hq => (zB5 (i := 0) isAgg81 sizeOf81 (by first | omega | rfl | (simp only [zL] <;> omega)) hq rfl rfl rfl)) ?_
  refine d_w rfl (fun _ => zAi (v := v) rfl rfl) rfl ?_
  refine zDt rfl ?_
  refine w_mapAdd (i := 1) (l := l) zAb underlying135 underlying81 (by omega) underlying3 sizeOf3 rfl rfl rfl rfl rfl rfl rfl g8 rfl hf (fun gO gt => ?_)
  refine zAe (qn ?_)
  refine zB0 ?_
  refine zAc (gr _ _ (zAf (fun gP gu => (zAa (w_p (zAi (v := v) rfl rfl) rfl (w_p (zAm (v := v) rfl rfl) rfl (zAe (zAc (gu _ _ (zA2 (zA9 (l := [.tmp 4]) (vs := [_]) rfl ⟨⟨rfl, show _ = (v : Value) from rfl⟩, trivial⟩ ?_)))))))))))
  obtain ⟨aw, cw, rfl, hsl⟩ := hown.sl (w0 := w0) (rows := lrows (loads p l)) (by intro row hr; obtain ⟨x, _, rfl⟩ := List.mem_map.1 hr; rfl) (by rw [List.length_map, zD5]; omega) (by rw [List.take_of_length_le (by rw [zD5]; omega)]) []
  rw [List.append_nil] at hsl
  rw [List.length_map] at *
  exact ⟨B, aw, cw, rfl, hsl, gt.tail⟩

theorem loads_con {w0 w : World} {X M F : List (Nat × Obj)} (p : Port) (a : Option Addr) (c m pb : Nat) (hp : Ats w0 F pb 0 [.int .i64 p.hold, .int .i64 p.clo, .int .i64 p.chi, .slice a p.farms.length c, .map (some m)]) (ha : Sl w0 F a 6 (rows p.farms)) (hok : p.Ok) (l : List Int) (hlen : l.length = 3) (hl1 : ∀ x ∈ l, -1 ≤ x ∧ x ≤ 10) (hM : Memo w0 p m M) (hs : St w0 w (X ++ (M ++ F))) :
    Con Tryz.prog 38 [.pointer (some ⟨pb, 0, none⟩), ia l] w fun v w' => ∃ M' a c, v = .slice a (loads p l).length c ∧ Memo w0 p m M' ∧ Sl w0 (X ++ (M' ++ F)) a 3 (lrows (loads p l)) ∧ St w0 w' (X ++ (M' ++ F)) := by
  obtain ⟨es, ck, BL, rfl, hes⟩ := hM
  have g4 : St w0 w ((m, .map es ck) :: (BL ++ (X ++ F))) := hs.perm (zAq X ((m, .map es ck) :: BL) F)
  rcases run_findKey (P := Tryz.prog) underlying81 (by rw [hlen]; exact Try_flat81) es.toList (fun e he => by obtain ⟨l', _,_, h1, h2, _⟩ := hes e he; exact ⟨l', by omega, h2⟩) with ⟨hf, hne⟩ | ⟨j, e, hf, hmem, hkey⟩
  · refine (c38n p a c m pb (hp.app (L' := X)) (ha.app (L' := X)) hok l hlen hl1 es ck BL hf g4).mono ?_
    rintro v w' ⟨B, av, cv, rfl, hsl, g0⟩
    refine ⟨(m, .map (es.push { key := ia l, val := .slice av (loads p l).length cv, born := ck }) (ck + 1)) :: (B ++ BL), av, cv, rfl, ⟨_, _,_, rfl, fun e he => ?_⟩, ?_, ?_⟩
    · rw [Array.toList_push, List.mem_append] at he
      rcases he with he | he
      · obtain ⟨l', a', c', h1, h2, h3, h4⟩ := hes e he
        exact ⟨l', a', c', h1, h2, h3, h4.app⟩
      · rw [List.mem_singleton] at he
        subst he
        exact ⟨l, av, cv, hlen, rfl, rfl, hsl.mono fun w' h => by have := h.perm List.perm_append_comm; exact this.drop⟩
    · exact hsl.mono fun w' h => by
        have h3 : St w0 w' ((m, .map (es.push { key := ia l, val := .slice av (loads p l).length cv, born := ck }) (ck + 1)) :: (B ++ BL)) := h.drop.front
        exact h3.tail.front
    · have e : ((m, .map (es.push { key := ia l, val := .slice av (loads p l).length cv, born := ck }) (ck + 1)) :: (B ++ (BL ++ (X ++ F))) : List (Nat × Obj)) = ((m, .map (es.push { key := ia l, val := .slice av (loads p l).length cv, born := ck }) (ck + 1)) :: (B ++ BL)) ++ (X ++ F) := by simp
      rw [e] at g0
      exact g0.perm (zAq _ _ _)
  · obtain ⟨l', a', c', h1, h2, h3, h4⟩ := hes e hmem
    have hll : l' = l := ia_inj (h2.symm.trans hkey)
    subst hll
    rw [h3] at hf
    refine (c38f p a c m pb (hp.app (L' := X)) (ha.app (L' := X)) hok l' hlen hl1 es ck BL j a' _ c' hf g4).mono ?_
    rintro v w' ⟨rfl, g0⟩
    have g5 : St w0 w' (X ++ (((m, .map es ck) :: BL) ++ F)) := g0.perm (zAq X ((m, .map es ck) :: BL) F).symm
    refine ⟨_, a', c', rfl, ⟨es, ck, BL, rfl, hes⟩, ?_, g5⟩
    exact h4.mono fun w' h => by
      have h3 : St w0 w' ((m, .map es ck) :: BL) := h.drop.front
      exact h3.tail

end Go.Proofs.Cb
set_option maxRecDepth 20000
namespace Go.Proofs.Cb
open Go.Proofs.Tryz
open Go.Rt Go.Rt.Ca
attribute [local irreducible] WL WC Con Yd At Ats Sl Agree DW
theorem Try_CH_fb5 (x0 : Int) (x1 : Int) (x2 : Int) (x3 : Option Addr) (l3 c3 : Nat) (x4 : Option Nat) (w : World) : (Instr.build 137 [(0, .agg #[.int .i64 x0, .int .i64 x1, .int .i64 x2, .slice x3 l3 c3]),(1, .map x4)].toArray).run Tryz.prog w = .ok (.agg #[.int .i64 x0, .int .i64 x1, .int .i64 x2, .slice x3 l3 c3, .map x4]) w := by kernel_rfl
theorem zE2 {p : Port} {l : List Int} (h : ¬ (check p).2.2 = 0) : enterErr p l = (check p).2.2 := by unfold enterErr; rw [if_pos h]
theorem zE1 {p : Port} {l : List Int} (h : (check p).2.2 = 0) (h2 : ¬ l.length = p.farms.length) : enterErr p l = 3 := by unfold enterErr; rw [if_neg (by simpa using h), if_pos h2]
theorem zE0 {p : Port} {l : List Int} (h : (check p).2.2 = 0) (h2 : l.length = p.farms.length) (h3 : l.any (out (-1) 10) = true) : enterErr p l = 7 := by unfold enterErr; rw [if_neg (by simpa using h), if_neg (by simpa using h2), if_pos h3]
theorem zJi {p : Port} {l : List Int} (h : (check p).2.2 = 0) (h2 : l.length = p.farms.length) (h3 : l.any (out (-1) 10) = false) : enterErr p l = 0 := by unfold enterErr; rw [if_neg (by simpa using h), if_neg (by simpa using h2), if_neg (by simp [h3])]
theorem look_perm {w0 w : World} {F : List (Nat × Obj)} {x y z : Nat × Obj} (h : St w0 w (x :: y :: z :: F)) : St w0 w (y :: x :: F) := (h.perm (List.Perm.swap _ _ _)).perm (List.Perm.cons _ (List.Perm.swap _ _ _)) |>.perm (List.Perm.swap _ _ _) |>.tail |>.perm (List.Perm.swap _ _ _) |>.perm (List.Perm.swap _ _ _)
theorem c50 {w0 w : World} {F : List (Nat × Obj)} (p : Port) (a : Option Addr) (c : Nat) (hs : St w0 w F) :
  Con Tryz.prog 50 [.agg (p.cells a c).toArray] w fun v w' => ∃ m pb, v = .pointer (some ⟨pb, 0, none⟩) ∧ St w0 w' ((m, .map #[] 0) :: (pb, blk 137 [.int .i64 p.hold, .int .i64 p.clo, .int .i64 p.chi, .slice a p.farms.length c, .map (some m)]) :: F) := by
  refine zAu (n := 7) func50 rfl rfl (zNl rfl) ?_
  refine zAf (fun K2 g4 => (zAa (zCa (v := .agg #[.int _ _, .int _ _, .int _ _, .slice _ _ _]) (cs := [_,_,_,_]) zAb rfl rfl rfl hs (fun b3 w4 g0 => ?_))))
  refine zBg rfl rfl (zAe (zAc (g4 _ _ (zAf (fun K7 g5 => (zAa (w_p (zA7 (vs := [_,_,_,_]) isAgg26 sizeOf26 g0 rfl rfl (zAh (i := 0) (vs := [_,_,_,_]) rfl rfl)) rfl ?_)))))))
  refine zF6 zAb g0 (fun b8 w9 g6 => ?_)
  refine w_p (zBy (ps := [(0, _),(1, _)]) (pv := [(0, .agg #[.int _ _, .int _ _, .int _ _, .slice _ _ _]),(1, .map _)]) rfl rfl (fun w => Try_CH_fb5 _ _ _ _ _ _ _ w)) rfl (zCa (v := .agg #[.int _ _, .int _ _, .int _ _, .slice _ _ _, .map _]) (cs := [_,_,_,_,_]) zAb rfl rfl rfl g6 (fun g8 g9 g7 => ?_))
  refine w_p (zAm (v := .pointer _) rfl rfl) rfl (zAe (zAc (g5 _ _ (zA2 (zA9 (l := [.tmp 2]) (vs := [_]) rfl ⟨⟨rfl, show _ = (.pointer _ : Value) from rfl⟩, trivial⟩ ?_)))))
  exact ⟨_, _, rfl, look_perm g7⟩

theorem zJl {w0 w : World} {F : List (Nat × Obj)} {x y u v : Nat × Obj} (h : St w0 w (x :: y :: u :: v :: F)) : St w0 w (x :: y :: F) :=
  (h.perm (zAq [x, y] [u, v] F)).tail.tail
theorem c37 {w0 w : World} {F : List (Nat × Obj)} (p : Port) (a : Option Addr) (c : Nat) (hl3 : p.farms.length ≤ 9223372036854775807) (hc : p.farms.length ≤ c) (ha : Sl w0 F a 6 (rows p.farms)) (hnm : ∀ f ∈ p.farms, f.name.size ≤ 9223372036854775807) (al : Option Addr) (cl : Nat) (l : List Int) (hll : l.length ≤ 9223372036854775807) (hl : Sl w0 F al 1 (l.map fun x => [Value.int .i64 x])) (hs : St w0 w F) :
  Con Tryz.prog 37 [.agg (p.cells a c).toArray, .slice al l.length cl] w fun v w' => (enterErr p l ≠ 0 ∧ v = .tuple #[.pointer none, ia [0,0,0], .int .i64 (enterErr p l)] ∧ St w0 w' F) ∨ (enterErr p l = 0 ∧ ∃ m pb, v = .tuple #[.pointer (some ⟨pb, 0, none⟩), ia (pad l), .int .i64 0] ∧ St w0 w' ((m, .map #[] 0) :: (pb, blk 137 [.int .i64 p.hold, .int .i64 p.clo, .int .i64 p.chi, .slice a p.farms.length c, .map (some m)]) :: F)) := by
  refine zAu (n := 36) func37 rfl rfl (zNl rfl) ?_
  refine zAf (fun K2 gi => (zAa (zCa (v := .agg #[.int _ _, .int _ _, .int _ _, .slice _ _ _]) (cs := [_,_,_,_]) zAb rfl rfl rfl hs (fun b3 w4 gj => ?_))))
  refine zBg rfl rfl (zBb (cs := iv [0,0,0]) zAb zeroValue81 rfl gj (fun b6 w7 gc => ?_))
  refine zBg rfl rfl (zAe (zAc (gi _ _ (zAf (fun gw gk => (zAa (w_p (zA7 (vs := [_,_,_,_]) isAgg26 sizeOf26 gc rfl rfl (zAh (i := 1) (vs := [_,_,_,_]) rfl rfl)) rfl ?_)))))))
  refine zAs zAb call49 rfl rfl rfl rfl (c49 p _ _ (by omega) (by omega) ha.cons.cons hnm gc) ?_
  rintro _ gx ⟨rfl, g7⟩
  refine w_p (zAi (v := .tuple _) rfl rfl) rfl (w_p (zAn (v := .int _ _) rfl rfl rfl) rfl (w_p (zAn (v := .int _ _) rfl rfl rfl) rfl (w_p (zAn (v := .int _ _) rfl rfl rfl) rfl (zBl rfl rfl (zAe (zAc (gk _ _ (zAf (fun gy gl => (zAz ?_))))))))))
  refine zAf (fun gz gm => (zAa (zBa rfl rfl (w_p (zCt rfl rfl rfl rfl) rfl (w_p (zAm (v := .bool _) rfl rfl) rfl (zAe (zAc (gm _ _ (zAy rfl rfl (fun g8 => ?_) (fun g8 => ?_))))))))))
  ·
   try simp only [zS] at g8
   refine zAf (fun gA gn => (zCs [3] [(0,1),(1,0),(2,0),(3,3),(4,0)] zCg (by kernel_rfl) g7 (fun gB gd => ?_)))
   refine zBh rfl zAb rfl gd (fun _ hq => (zB5 (i := 0) isAgg81 sizeOf81 (by first | omega | rfl | (simp only [zL] <;> omega)) hq rfl rfl rfl)) ?_
   refine d_w rfl (fun _ => zA1 rfl rfl) rfl ?_
   refine d_w rfl (fun _ => zAm (v := _) rfl rfl) rfl ?_
   refine zDt rfl ?_
   refine zCm (i := 0) (l := _) zAb sizeOf81 (by first | omega | rfl | (simp only [zL] <;> omega)) rfl rfl rfl rfl rfl gd rfl (by first | omega | rfl | (simp only [zL] <;> omega)) (fun gC g0 => ?_)
   refine zAe (qn ?_)
   refine d_w rfl (fun _ => zD3 rfl rfl) rfl ?_
   refine zB0 ?_
   refine zAc (gn _ _ (zA2 (zAt (zAk (zA9 (l := [.tmp 4, .cell 5 81, .tmp 6]) (vs := [_,_,_]) rfl ⟨⟨rfl, show _ = (.pointer _ : Value) from rfl⟩, ⟨rfl, _, rfl, zGc (i := 0) isAgg81 sizeOf81 (by first | omega | rfl | (simp only [zL] <;> omega)) g0 rfl⟩, ⟨rfl, (rfl : _ = Value.int _ _)⟩, trivial⟩ ?_)))))
   first
     | exact .inl ⟨by rw [zE2 (by assumption)]; assumption, by rw [zE2 (by assumption)]; rfl, g0.tail.tail⟩
     | exact .inl ⟨by rw [zE1 (by assumption) (by omega)]; decide, by rw [zE1 (by assumption) (by omega)]; rfl, g0.tail.tail⟩
     | exact .inl ⟨by rw [zE0 (by assumption) (by omega) (by assumption)]; decide, by rw [zE0 (by assumption) (by omega) (by assumption)]; rfl, g0.tail.tail⟩
     | exact .inr ⟨zJi (by assumption) (by omega) (by assumption), m, pb, rfl, zJl g0⟩
  try simp only [zS] at g8
  refine zAf (fun gD go => (zAa (w_p (zAi (v := .slice _ _ _) rfl rfl) rfl (w_p (zBm underlying34 rfl rfl) rfl (w_p (zAd (o := 3) (i := 2) underlying26 rfl sizeOf24 rfl rfl rfl) rfl (w_p (zAj isAgg24 g7 rfl rfl (zAh (i := 1) (vs := [_]) rfl rfl)) rfl ?_))))))
  refine w_p (zBm underlying24 rfl rfl) rfl (w_p (zCt rfl rfl rfl rfl) rfl (w_p (zAm (v := .bool _) rfl rfl) rfl (zAe (zAc (go _ _ (zAy rfl rfl (fun g9 => ?_) (fun g9 => ?_)))))))
  ·
   try simp only [zS] at g9
   refine zAf (fun gE gp => (zCs [2] [(0,1),(1,0),(2,3),(3,0)] zCg (by kernel_rfl) g7 (fun gF ge => ?_)))
   refine zBh rfl zAb rfl ge (fun _ hq => (zB5 (i := 0) isAgg81 sizeOf81 (by first | omega | rfl | (simp only [zL] <;> omega)) hq rfl rfl rfl)) ?_
   refine d_w rfl (fun _ => zAm (v := _) rfl rfl) rfl ?_
   refine zDt rfl ?_
   refine zCm (i := 0) (l := _) zAb sizeOf81 (by first | omega | rfl | (simp only [zL] <;> omega)) rfl rfl rfl rfl rfl ge rfl (by first | omega | rfl | (simp only [zL] <;> omega)) (fun gG g4 => ?_)
   refine zAe (qn ?_)
   refine d_w rfl (fun _ => zAm (v := _) rfl rfl) rfl ?_
   refine zB0 ?_
   refine zAc (gp _ _ (zA2 (zAt (zAk (zA9 (l := [.tmp 4, .cell 5 81, .tmp 6]) (vs := [_,_,_]) rfl ⟨⟨rfl, show _ = (.pointer _ : Value) from rfl⟩, ⟨rfl, _, rfl, zGc (i := 0) isAgg81 sizeOf81 (by first | omega | rfl | (simp only [zL] <;> omega)) g4 rfl⟩, ⟨rfl, (rfl : _ = Value.int _ _)⟩, trivial⟩ ?_)))))
   first
     | exact .inl ⟨by rw [zE2 (by assumption)]; assumption, by rw [zE2 (by assumption)]; rfl, g4.tail.tail⟩
     | exact .inl ⟨by rw [zE1 (by assumption) (by omega)]; decide, by rw [zE1 (by assumption) (by omega)]; rfl, g4.tail.tail⟩
     | exact .inl ⟨by rw [zE0 (by assumption) (by omega) (by assumption)]; decide, by rw [zE0 (by assumption) (by omega) (by assumption)]; rfl, g4.tail.tail⟩
     | exact .inr ⟨zJi (by assumption) (by omega) (by assumption), m, pb, rfl, zJl g4⟩
  try simp only [zS] at g9
  refine zAf (fun gH gq => (zAa (w_p (zAi (v := .slice _ _ _) rfl rfl) rfl (zAs zAb call55 rfl rfl rfl rfl (c55 _ _ _ _ _ (by omega) hl.cons.cons g7) ?_))))
  rintro _ gI ⟨rfl, gf⟩
  refine w_p (zAm (v := .bool _) rfl rfl) rfl (zAe (zAc (gq _ _ (zAy rfl rfl (fun ga => ?_) (fun ga => ?_)))))
  ·
   try simp only [zS] at ga
   refine zAf (fun gJ gr => (zCs [2] [(0,1),(1,0),(2,3),(3,0)] zCg (by kernel_rfl) gf (fun gK gg => ?_)))
   refine zBh rfl zAb rfl gg (fun _ hq => (zB5 (i := 0) isAgg81 sizeOf81 (by first | omega | rfl | (simp only [zL] <;> omega)) hq rfl rfl rfl)) ?_
   refine d_w rfl (fun _ => zAm (v := _) rfl rfl) rfl ?_
   refine zDt rfl ?_
   refine zCm (i := 0) (l := _) zAb sizeOf81 (by first | omega | rfl | (simp only [zL] <;> omega)) rfl rfl rfl rfl rfl gg rfl (by first | omega | rfl | (simp only [zL] <;> omega)) (fun gL g5 => ?_)
   refine zAe (qn ?_)
   refine d_w rfl (fun _ => zAm (v := _) rfl rfl) rfl ?_
   refine zB0 ?_
   refine zAc (gr _ _ (zA2 (zAt (zAk (zA9 (l := [.tmp 4, .cell 5 81, .tmp 6]) (vs := [_,_,_]) rfl ⟨⟨rfl, show _ = (.pointer _ : Value) from rfl⟩, ⟨rfl, _, rfl, zGc (i := 0) isAgg81 sizeOf81 (by first | omega | rfl | (simp only [zL] <;> omega)) g5 rfl⟩, ⟨rfl, (rfl : _ = Value.int _ _)⟩, trivial⟩ ?_)))))
   first
     | exact .inl ⟨by rw [zE2 (by assumption)]; assumption, by rw [zE2 (by assumption)]; rfl, g5.tail.tail⟩
     | exact .inl ⟨by rw [zE1 (by assumption) (by omega)]; decide, by rw [zE1 (by assumption) (by omega)]; rfl, g5.tail.tail⟩
     | exact .inl ⟨by rw [zE0 (by assumption) (by omega) (by assumption)]; decide, by rw [zE0 (by assumption) (by omega) (by assumption)]; rfl, g5.tail.tail⟩
     | exact .inr ⟨zJi (by assumption) (by omega) (by assumption), m, pb, rfl, zJl g5⟩
  try simp only [zS] at ga
  refine zAv (zAl (zAc (gl _ _ (zAf (fun gM gt => (zAa (w_p (zI8 underlying81 sizeOf3 rfl rfl) rfl (w_p (zAi (v := .slice _ _ _) rfl rfl) rfl (w_copyI (i := 0) zAb underlying34 sizeOf3 rfl rfl rfl rfl gf rfl hl.cons.cons (by first | omega | rfl | (simp only [zL] <;> omega)) (by first | omega | rfl | (simp only [zL] <;> omega)) (fun gN gu => ?_))))))))))
  refine zAe (zAc (gt _ _ (zAf (fun gO gv => (zCs [4] [(0,1),(2,1),(1,2),(3,0),(4,3),(5,0)] zCg (by kernel_rfl) gu (fun gP gb => ?_))))))
  refine zBh rfl zAb rfl gb (fun _ hq => (zA7 (vs := [_,_,_,_]) isAgg26 sizeOf26 hq rfl rfl (zAh (i := 1) (vs := [_,_,_,_]) rfl rfl))) ?_
  refine zBh rfl zAb rfl gb (fun _ hq => (zB5 (i := 0) isAgg81 sizeOf81 (by first | omega | rfl | (simp only [zL] <;> omega)) hq rfl rfl rfl)) ?_
  refine zC9 rfl ?_
  refine zAs zAb call50 rfl rfl rfl rfl (c50 p _ _ gb) ?_
  rintro _ gQ ⟨m, pb, rfl, gh⟩
  refine zAe (qn ⟨gh.tail.tail, ?_⟩)
  refine d_w rfl (fun _ => zAm (v := .pointer _) rfl rfl) rfl ?_
  refine zDt rfl ?_
  refine zCm (i := 2) (l := _) zAb sizeOf81 (by first | omega | rfl | (simp only [zL] <;> omega)) rfl rfl rfl rfl rfl gh rfl (by first | omega | rfl | (simp only [zL] <;> omega)) (fun gR g6 => ?_)
  refine zAe (qn ?_)
  refine d_w rfl (fun _ => zAm (v := _) rfl rfl) rfl ?_
  refine zB0 ?_
  refine zAc (gv _ _ (zA2 (zA9 (l := [.tmp 4, .cell 5 81, .tmp 6]) (vs := [_,_,_]) rfl ⟨⟨rfl, show _ = (.pointer _ : Value) from rfl⟩, ⟨rfl, _, rfl, zGc (i := 2) isAgg81 sizeOf81 (by first | omega | rfl | (simp only [zL] <;> omega)) g6 rfl⟩, ⟨rfl, (rfl : _ = Value.int _ _)⟩, trivial⟩ ?_)))
  first
    | exact .inl ⟨by rw [zE2 (by assumption)]; assumption, by rw [zE2 (by assumption)]; rfl, g6.tail.tail.tail.tail⟩
    | exact .inl ⟨by rw [zE1 (by assumption) (by omega)]; decide, by rw [zE1 (by assumption) (by omega)]; rfl, g6.tail.tail.tail.tail⟩
    | exact .inl ⟨by rw [zE0 (by assumption) (by omega) (by assumption)]; decide, by rw [zE0 (by assumption) (by omega) (by assumption)]; rfl, g6.tail.tail.tail.tail⟩
    | exact .inr ⟨zJi (by assumption) (by omega) (by assumption), m, pb, rfl, zJl g6⟩

end Go.Proofs.Cb
