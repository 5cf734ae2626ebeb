/- Own texts of this claim, joined. No conditions. -/
import Derived.Test.YtfodoljacfiehaaGreatHTopNumbera
import Derived.Test.YtfodoljacfiehaaGreatHTopNumberb
import Derived.Test.YtfodoljacfiehaaGreatHTopNumberc
import Derived.Test.YtfodoljacfiehaaGreatHTopNumberd
import Derived.Test.YtfodoljacfiehaaGreatHTopNumbere
import Derived.Test.YtfodoljacfiehaaGreatHTopNumberf
set_option linter.unusedVariables false
set_option linter.unusedSimpArgs false
set_option maxRecDepth 20000
namespace Go.Proofs.Sb
open Go.Proofs.Tryz
open Go.Rt Go.Rt.Sh
attribute [local irreducible] WL WC Con Yd At Ats Sl Agree DW
theorem Try_SC_fb0 (x0 : Int) (x1 : Go.Fn) (a1 c1 : Array Value) (w : World) : (Instr.build 180 [(0, .int .i64 x0),(1, .func x1 a1 c1)].toArray).run Tryz.prog w = .ok (.agg #[.int .i64 x0, .func x1 a1 c1]) w := by kernel_rfl
theorem Try_SC_fb1 (x0 : Int) (x1 : Go.Fn) (a1 c1 : Array Value) (x2 : Int) (x3 : Go.Fn) (a3 c3 : Array Value) (w : World) : (Instr.buildSlice 182 2 [(0, .agg #[.int .i64 x0, .func x1 a1 c1]),(1, .agg #[.int .i64 x2, .func x3 a3 c3])].toArray).run Tryz.prog w = .ok (.slice (some ⟨w.heap.size, 0, none⟩) 2 2) (w.alloc (Go.Rt.blk 180 [.int .i64 x0, .func x1 a1 c1, .int .i64 x2, .func x3 a3 c3])) := by kernel_rfl
theorem c122 {w0 w : World} {F : List (Nat × Obj)} (a : Option Addr) (c : Nat) (l : List ByteArray) (hl : l.length ≤ 9223372036854775807) (ha : Sl w0 F a 1 (l.map fun x => [Value.string x])) (s : ByteArray) (hs : St w0 w F) :
  Con Tryz.prog 122 [.slice a l.length c, .string s] w fun v w' => (∃ z, v = .int .i64 z ∧ decide (0 ≤ z) = has l s) ∧ St w0 w' F := by
  refine zAo (n := 19) func122 rfl rfl (zNl rfl) ?_
  refine zAf (fun K2 g5 => (zAa (zA9 rfl rfl (zAe (zAb (g5 _ _ (zAf (fun K4 g6 => (zAf (fun K6 g7 => (zAa (w_p (zAx rfl rfl) rfl ?_))))))))))))
  refine w_p (zBd underlying55 rfl rfl) rfl (w_p (zBo (v := _) rfl rfl) rfl (zAe (zAb (g7 _ _ (zAw ?_)))))
  refine zB2 [4,5,8,9,10,11,12,13,14,15,16,17,18] [8] (fun k vs w => ∃ i : Nat, vs = [.int .i64 i] ∧ i ≤ l.length ∧ k = l.length - i ∧ has (l.take i) s = false ∧ St w0 w F) (l.length) ?_ ?_
  ·
   exact ⟨0, rfl, by omega, by omega, by simp [has], hs⟩
  intro k vs μ w9 hI K8 g8
  obtain ⟨i, rfl, hia, rfl, hpre, hs⟩ := hI
  refine zAf (fun gg g9 => (zAa (w_p (zCb rfl rfl rfl rfl) rfl (zAe (zAb (g9 _ _ (zAf (fun gh ga => (zAv rfl rfl (fun g3 => ?_) (fun g3 => ?_))))))))))
  ·
   try simp only [zS] at g3
   refine zAr (zAb (ga _ _ (zAf (fun gi gb => (zAw ?_)))))
   refine zAf (fun gj gc => (zAa (zA2 rfl rfl (zBg rfl rfl (zAe (zAb (gc _ _ (zAf (fun gk gd => ?_)))))))))
   have hi2 : i < l.length := by omega
   obtain ⟨ba, oa, rfl, hxa⟩ := sl_strs ha hi2
   refine zAa (w_p (zBo (v := .string _) rfl rfl) rfl (w_p (zAx rfl rfl) rfl (zA2 rfl rfl (w_p (zA7 underlying55 sizeOf9 rfl rfl rfl rfl (i := _) rfl (by omega)) rfl (w_p (zAi isAgg9 hs rfl rfl hxa) rfl ?_)))))
   refine w_p (y_strEq rfl rfl rfl rfl) rfl (zAe (zAb (gd _ _ (zAv rfl rfl (fun g4 => ?_) (fun g4 => ?_)))))
   ·
    try simp only [zS] at g4
    refine zAf (fun gm ge => (zAa (zA2 rfl rfl (zBg rfl rfl (zAe (zAb (ge _ _ (zA0 (zAz (zAh (zAh (zAz (zAh (zA1 (l := [.tmp 4]) (vs := [_]) rfl ⟨⟨rfl, (rfl : _ = Value.int _ _)⟩, trivial⟩ ?_))))))))))))))
    first
      | exact ⟨⟨-1, rfl, by have hil : i = l.length := (by omega); subst hil; rw [List.take_length] at hpre; rw [hpre]; rfl⟩, hs⟩
      | exact ⟨⟨(i : Int), rfl, by rw [Bool.eq_iff_iff]; simp only [decide_eq_true_eq, has, List.any_eq_true]; exact ⟨fun _ => ⟨_, List.getElem_mem hi2, (by assumption : s = l[i]).symm⟩, fun _ => by omega⟩⟩, hs⟩
   try simp only [zS] at g4
   refine zAr (zAk (zAb (gb _ _ (zAa (w_p (zBe rfl rfl rfl rfl (by omega) (by omega)) rfl (zA2 rfl rfl (zAe (zAb (g8 _ _ (nxI (l.length - (i + 1)) (by omega) ?_))))))))))
   exact ⟨i + 1, rfl, by omega, rfl, notmem_take hpre (by omega) (fun e => (by assumption : ¬ s = l[i]) e.symm), hs⟩
  try simp only [zS] at g3
  refine zBr (zAj (zAj (zAy (zAb (g6 _ _ (zAf (fun gn gf => (zAa (zA9 rfl rfl (zAe (zAb (gf _ _ (zA0 (zA1 (l := [.tmp 4]) (vs := [_]) rfl ⟨⟨rfl, (rfl : _ = Value.int _ _)⟩, trivial⟩ ?_))))))))))))))
  first
    | exact ⟨⟨-1, rfl, by have hil : i = l.length := (by omega); subst hil; rw [List.take_length] at hpre; rw [hpre]; rfl⟩, hs⟩
    | exact ⟨⟨(i : Int), rfl, by rw [Bool.eq_iff_iff]; simp only [decide_eq_true_eq, has, List.any_eq_true]; exact ⟨fun _ => ⟨_, List.getElem_mem hi2, (by assumption : s = l[i]).symm⟩, fun _ => by omega⟩⟩, hs⟩

theorem c120 {w0 w : World} {F : List (Nat × Obj)} (a : Option Addr) (c : Nat) (l : List ByteArray) (hl : l.length ≤ 9223372036854775807) (ha : Sl w0 F a 1 (l.map fun x => [Value.string x])) (s : ByteArray) (hs : St w0 w F) :
  Con Tryz.prog 120 [.slice a l.length c, .string s] w fun v w' => v = .bool (has l s) ∧ St w0 w' F := by
  refine zAo (n := 9) func120 rfl rfl (zNl rfl) ?_
  refine zAf (fun K2 g3 => (zAa (zA9 rfl rfl (zAe (zAb (g3 _ _ (zAf (fun K4 g4 => (zAa (w_p (zAx rfl rfl) rfl (w_p (zBo (v := .string _) rfl rfl) rfl ?_)))))))))))
  refine zA4 zAc call122 rfl rfl rfl rfl (c122 _ _ _ hl ha _ hs) ?_
  rintro _ w6 ⟨⟨z, rfl, hz⟩, g5⟩
  refine w_p (zHv rfl rfl rfl rfl) rfl (w_p (zAl rfl rfl) rfl (zAe (zAb (g4 _ _ (zA0 (zA1 (l := [.tmp 4]) (vs := [_]) rfl ⟨⟨rfl, (rfl : _ = Value.bool _)⟩, trivial⟩ ?_))))))
  exact ⟨congrArg Value.bool hz, g5⟩

theorem c118 {w0 w : World} {F : List (Nat × Obj)} (a : Option Addr) (c : Nat) (l : List ByteArray) (hl : l.length ≤ 9223372036854775807) (ha : Sl w0 F a 1 (l.map fun x => [Value.string x])) (s : ByteArray) (hls : s.size ≤ 9223372036854775807) (hs : St w0 w F) :
  Con Tryz.prog 118 [.string s, .slice a l.length c] w fun v w' => v = .bool (!nmOk s) ∧ St w0 w' F := by
  refine zAo (n := 8) func118 rfl rfl (zNl rfl) ?_
  refine zAf (fun K2 g3 => (zAa (zA9 rfl rfl (zAe (zAb (g3 _ _ (zAf (fun K4 g4 => (zAa (w_p (zBo (v := .string _) rfl rfl) rfl ?_))))))))))
  refine zCi zAc call90 rfl rfl rfl rfl (c90 _ (by omega) hs) (fun w6 g5 => ?_)
  refine w_p (zC0 rfl rfl) rfl (w_p (zAl rfl rfl) rfl (zAe (zAb (g4 _ _ (zA0 (zA1 (l := [.tmp 4]) (vs := [_]) rfl ⟨⟨rfl, (rfl : _ = Value.bool _)⟩, trivial⟩ ?_))))))
  exact ⟨rfl, g5⟩

theorem c119 {w0 w : World} {F : List (Nat × Obj)} (a : Option Addr) (c : Nat) (l : List ByteArray) (hl : l.length ≤ 9223372036854775807) (ha : Sl w0 F a 1 (l.map fun x => [Value.string x])) (s : ByteArray) (hls : s.size ≤ 9223372036854775807) (hs : St w0 w F) :
  Con Tryz.prog 119 [.string s, .slice a l.length c] w fun v w' => v = .bool (has l s) ∧ St w0 w' F := by
  refine zAo (n := 8) func119 rfl rfl (zNl rfl) ?_
  refine zAf (fun K2 g3 => (zAa (zA9 rfl rfl (zAe (zAb (g3 _ _ (zAf (fun K4 g4 => (zAa (w_p (zAx rfl rfl) rfl (w_p (zBo (v := .string _) rfl rfl) rfl ?_)))))))))))
  refine zCi zAc call120 rfl rfl rfl rfl (c120 _ _ _ hl ha _ hs) (fun w6 g5 => ?_)
  refine w_p (zAl rfl rfl) rfl (zAe (zAb (g4 _ _ (zA0 (zA1 (l := [.tmp 4]) (vs := [_]) rfl ⟨⟨rfl, (rfl : _ = Value.bool _)⟩, trivial⟩ ?_)))))
  exact ⟨rfl, g5⟩

def nK : Nat → Nat
  | 0 => 118
  | _ => 119
def nE : Nat → Int
  | 0 => 6
  | _ => 5
def nIs (s : ByteArray) (l : List ByteArray) : Nat → Bool
  | 0 => !nmOk s
  | _ => has l s
def nCells : List Value := [.int .i64 6, .func (.func 118) #[] #[], .int .i64 5, .func (.func 119) #[] #[]]
theorem nflaw_at {w0 : World} {L : List (Nat × Obj)} {b i j : Nat} (hi : L[i]? = some (b, blk 180 nCells)) (hj : j < 2) : Ats w0 L b (0 + j * 2) [.int .i64 (nE j), .func (.func (nK j)) #[] #[]] := by
  match j, hj with
  | 0, _ => exact zBm hi rfl
  | 1, _ => exact zBm hi rfl
theorem nflaw_con {w0 w : World} {F : List (Nat × Obj)} (a : Option Addr) (c : Nat) (l : List ByteArray) (hl : l.length ≤ 9223372036854775807) (ha : Sl w0 F a 1 (l.map fun x => [Value.string x])) (s : ByteArray) (hls : s.size ≤ 9223372036854775807) (j : Nat) (hj : j < 2) (hs : St w0 w F) :
    FCon Tryz.prog (.func (.func (nK j)) #[] #[]) [.string s, .slice a l.length c] w fun v w' => v = .bool (nIs s l j) ∧ St w0 w' F := by
  match j, hj with
  | 0, _ => exact zDs call118 (c118 a c l hl ha s hls hs)
  | 1, _ => exact zDs call119 (c119 a c l hl ha s hls hs)
theorem nE_yes {s : ByteArray} {l : List ByteArray} {j : Nat} (hj : j < 2) (h : nIs s l j = true) (hb : ∀ q < j, nIs s l q = false) : nE j = nameE l s := by
  match j, hj with
  | 0, _ => simp only [nIs, Bool.not_eq_true'] at h; simp [nameE, nE, h]
  | 1, _ =>
    have h0 := hb 0 (by omega)
    simp only [nIs, Bool.not_eq_false'] at h h0
    simp [nameE, nE, h, h0]
theorem nE_no {s : ByteArray} {l : List ByteArray} (hb : ∀ q < 2, nIs s l q = false) : 0 = nameE l s := by
  have h0 := hb 0 (by omega); have h1 := hb 1 (by omega)
  simp only [nIs, Bool.not_eq_false'] at h0 h1
  simp [nameE, h0, h1]
theorem c106 {w0 w : World} {F : List (Nat × Obj)} (a : Option Addr) (c : Nat) (l : List ByteArray) (hl : l.length ≤ 9223372036854775807) (ha : Sl w0 F a 1 (l.map fun x => [Value.string x])) (s : ByteArray) (hls : s.size ≤ 9223372036854775807) (hs : St w0 w F) :
  Con Tryz.prog 106 [.string s, .slice a l.length c] w fun v w' => v = .int .i64 (nameE l s) ∧ St w0 w' F := by
  refine zAo (n := 23) func106 rfl rfl (zNl rfl) ?_
  refine zAf (fun K2 g7 => (zAa (zA9 rfl rfl (zAe (zAb (g7 _ _ (zAf (fun K4 g8 => (zAf (fun K6 g9 => (zAa (w_p (zCh (ps := [(0, _),(1, _)]) (pv := [(0, .int _ _),(1, .func _ _ _)]) rfl rfl (fun w => Try_SC_fb0 _ _ _ _ w)) rfl ?_))))))))))))
  refine w_p (zCh (ps := [(0, _),(1, _)]) (pv := [(0, .int _ _),(1, .func _ _ _)]) rfl rfl (fun w => Try_SC_fb0 _ _ _ _ w)) rfl (zBc (ps := [(0, _),(1, _)]) (pv := [(0, .agg #[.int _ _, .func _ _ _]),(1, .agg #[.int _ _, .func _ _ _])]) (cs := [_,_,_,_]) zAc rfl rfl (fun w => Try_SC_fb1 _ _ _ _ _ _ _ _ w) hs (fun b7 w8 ga => ?_))
  refine w_p (zBd underlying182 rfl rfl) rfl (w_p (zBo (v := _) rfl rfl) rfl (zAe (zAb (g9 _ _ (zAw ?_)))))
  refine zB2 [4,6,11,12,13,14,15,16,17,18,19,20,21,22] [11] (fun k vs w => ∃ j : Nat, vs = [.int .i64 j] ∧ j ≤ 2 ∧ k = 2 - j ∧ (∀ q < j, nIs s l q = false) ∧ St w0 w ((b7, blk 180 nCells) :: F)) (2) ?_ ?_
  ·
   exact ⟨0, rfl, by omega, by omega, (fun q hq => by omega), ga⟩
  intro k vs μ gk hI gm gb
  obtain ⟨j, rfl, hja, rfl, hfl, hs⟩ := hI
  refine zAf (fun gn gc => (zAa (w_p (zCb rfl rfl rfl rfl) rfl (zAe (zAb (gc _ _ (zAf (fun gq gd => (zAv rfl rfl (fun g4 => ?_) (fun g4 => ?_))))))))))
  ·
   try simp only [zS] at g4
   refine zAr (zAb (gd _ _ (zAf (fun gr ge => (zAw ?_)))))
   refine zAf (fun gt gf => ?_)
   have hj2 : j < 2 := by omega
   have hxq := nflaw_at (w0 := w0) (L := (b7, blk 180 nCells) :: F) (i := 0) rfl hj2
   refine zAa (w_p (zA7 underlying182 sizeOf180 rfl rfl rfl rfl (i := _) rfl (by omega)) rfl (w_p (zAs (vs := [_,_]) isAgg180 sizeOf180 hs rfl rfl hxq) rfl (zA5 (cs := [_,_]) zAc zeroValue180 rfl hs (fun gu gw gg => ?_))))
   refine zBt 0 (.agg #[.int _ _, .func _ _ _]) [_,_] sizeOf180 gg (fun gx g6 => ?_)
   refine zAe (zAb (gf _ _ (zAf (fun gy gh => (zAa (w_p (zAd (o := 1) (i := 1) underlying180 rfl sizeOf178 rfl rfl rfl) rfl (w_p (zAi isAgg178 g6 rfl rfl (aow 0 [_])) rfl ?_)))))))
   refine w_p (zBo (v := .string _) rfl rfl) rfl (w_p (zAx rfl rfl) rfl (zEa zAc rfl rfl rfl rfl (nflaw_con a c l hl ha.cons.cons s hls j hj2 g6) ?_))
   rintro _ gz ⟨rfl, g3⟩
   refine zAe (zAb (gh _ _ (zAv rfl rfl (fun g5 => ?_) (fun g5 => ?_))))
   ·
    try simp only [zS] at g5
    refine zAf (fun gA gi => (zAa (w_p (zAd (o := 0) (i := 0) underlying180 rfl sizeOf35 rfl rfl rfl) rfl (w_p (zAi isAgg35 g3 rfl rfl (aow 0 [_])) rfl (zBg rfl rfl (zAe ?_))))))
    refine zAb (gi _ _ (zA0 (zAz (zAh (zAh (zAz (zAh (zA1 (l := [.tmp 4]) (vs := [_]) rfl ⟨⟨rfl, (rfl : _ = Value.int _ _)⟩, trivial⟩ ?_))))))))
    first
      | exact ⟨congrArg (Value.int .i64) (nE_yes hj2 (by assumption) hfl), g3.tail.tail⟩
      | (have hj2 : j = 2 := (by omega)
         subst hj2
         exact ⟨congrArg (Value.int .i64) (nE_no hfl), g3.tail.tail⟩)
   try simp only [zS] at g5
   refine zAr (zAk (zAb (ge _ _ (zAa (w_p (zBe rfl rfl rfl rfl (by omega) (by omega)) rfl (zA2 rfl rfl (zAe (zAb (gb _ _ (nxI (2 - (j + 1)) (by omega) ?_))))))))))
   exact ⟨j + 1, rfl, by omega, rfl, (fun q hq => by rcases Nat.lt_or_ge q j with h | h; exact hfl q h; have hqj : q = j := (by omega); subst hqj; assumption), g3.tail⟩
  try simp only [zS] at g4
  refine zBr (zAj (zAj (zAy (zAb (g8 _ _ (zAf (fun gB gj => (zAa (zA9 rfl rfl (zAe (zAb (gj _ _ (zA0 (zA1 (l := [.tmp 4]) (vs := [_]) rfl ⟨⟨rfl, (rfl : _ = Value.int _ _)⟩, trivial⟩ ?_))))))))))))))
  first
    | exact ⟨congrArg (Value.int .i64) (nE_yes hj2 (by assumption) hfl), hs.tail⟩
    | (have hj2 : j = 2 := (by omega)
       subst hj2
       exact ⟨congrArg (Value.int .i64) (nE_no hfl), hs.tail⟩)

theorem sl_rrows {w0 : World} {F : List (Nat × Obj)} {a : Option Addr} {l : List Room} {i : Nat} (h : Sl w0 F a 5 (rrows l)) (hi : i < l.length) : ∃ b off, a = some ⟨b, off, none⟩ ∧ Ats w0 F b (off + i * 5) l[i].cells := by
  obtain ⟨b, off, ha, _, hat⟩ := h.at (i := i) (row := l[i].cells) (by simp [rrows, hi])
  exact ⟨b, off, ha, hat⟩
theorem c104 {w0 w : World} {F : List (Nat × Obj)} (a : Option Addr) (c : Nat) (l : List Room) (hl : l.length ≤ 9223372036854775807) (ha : Sl w0 F a 5 (rrows l)) (most : Int) (fv : Value) (err : List Room → Room → Int) (I : Nat → List (Nat × Obj) → Prop) (B0 : List (Nat × Obj)) (h0 : I 0 B0)
    (hp : (l.length : Int) ≤ most → ∀ (i : Nat) (hi : i < l.length) (X B : List (Nat × Obj)) (w : World), I i B → St w0 w (X ++ (B ++ F)) → FCon Tryz.prog fv [.int .i64 i, .agg l[i].cells.toArray] w fun v w' => v = .int .i64 (err (l.take i) l[i]) ∧ ∃ B', (err (l.take i) l[i] = 0 → I (i + 1) B') ∧ St w0 w' (X ++ (B' ++ F)))
    (hs : St w0 w (B0 ++ F)) : Con Tryz.prog 104 [.slice a l.length c, .int .i64 most, fv] w fun v w' => v = .tuple #[.int .i64 (failE err most l).1, .int .i64 (failE err most l).2] ∧ ∃ B', ((failE err most l).2 = 0 → I l.length B') ∧ St w0 w' (B' ++ F) := by
  refine zAo (n := 31) func104 rfl rfl (zNl rfl) ?_
  refine zAf (fun K2 g7 => (zAa (zA9 rfl rfl (zA9 rfl rfl (zAe (zAb (g7 _ _ (zAf (fun K4 g8 => (zAf (fun K6 g9 => (zAa (w_p (zAx rfl rfl) rfl ?_)))))))))))))
  refine w_p (zBd underlying22 rfl rfl) rfl (zA2 rfl rfl (w_p (zD5 rfl rfl rfl rfl) rfl (zAe (zAb (g9 _ _ (zAv rfl rfl (fun h7 => ?_) (fun h7 => ?_)))))))
  ·
   try simp only [zS] at h7
   refine zAf (fun K9 ga => (zAa (zA9 rfl rfl (zA9 rfl rfl (zAe (zAb (ga _ _ (zA0 (zAh (zA1 (l := [.tmp 6, .tmp 7]) (vs := [_,_]) rfl ⟨⟨rfl, (rfl : _ = Value.int _ _)⟩, ⟨rfl, (rfl : _ = Value.int _ _)⟩, trivial⟩ ?_))))))))))
   first
     | (have e : failE err most l = (0,3) := by unfold failE; rw [if_pos (by omega)]
        rw [e]
        exact ⟨rfl, B0, fun h => absurd h (by decide), hs⟩)
     | (have e : failE err most l = firstE err [] 0 l := by unfold failE; rw [if_neg (by omega)]
        rw [e, hinv, zAp hi2 (by assumption)]
        exact ⟨rfl, B1, fun h => absurd h (by assumption), hs.tail⟩)
     | (have e : failE err most l = firstE err [] 0 l := by unfold failE; rw [if_neg (by omega)]
        have hil : i = l.length := by omega
        rw [e, hinv, zB4 (by omega)]
        exact ⟨rfl, B, fun _ => by rw [← hil]; exact hI, hs⟩)
  try simp only [zS] at h7
  refine zAr (zAb (g8 _ _ (zAf (fun gq gb => (zAf (fun gr gc => (zAa (w_p (zAx rfl rfl) rfl (w_p (zBd underlying22 rfl rfl) rfl (w_p (zBo (v := _) rfl rfl) rfl ?_))))))))))
  refine zAe (zAb (gc _ _ (zAw ?_)))
  refine zB2 [6,7,8,9,10,17,18,19,20,21,22,23,24,25,26,27,28,29,30] [17] (fun k vs w => ∃ (i : Nat) (B : List (Nat × Obj)), vs = [.int .i64 i] ∧ i ≤ l.length ∧ k = l.length - i ∧ I i B ∧ firstE err [] 0 l = firstE err (l.take i) i (l.drop i) ∧ St w0 w (B ++ F)) (l.length) ?_ ?_
  ·
   exact ⟨0, B0, rfl, by omega, by omega, h0, by simp, hs⟩
  intro k vs μ gt hI gu gd
  obtain ⟨i, B, rfl, hia, rfl, hI, hinv, hs⟩ := hI
  refine zAf (fun gw ge => (zAa (w_p (zCb rfl rfl rfl rfl) rfl (zAe (zAb (ge _ _ (zAf (fun gx gf => (zAv rfl rfl (fun g4 => ?_) (fun g4 => ?_))))))))))
  ·
   try simp only [zS] at g4
   refine zAr (zAb (gf _ _ (zAf (fun gy gg => (zAw ?_)))))
   refine zAf (fun gz gh => ?_)
   have hi2 : i < l.length := by omega
   obtain ⟨bx, ox, rfl, hx⟩ := sl_rrows ha hi2
   refine zAa (zA2 rfl rfl (w_p (zA7 underlying22 sizeOf44 rfl rfl rfl rfl (i := _) rfl (by omega)) rfl (w_p (zAs (vs := [_,_,_,_,_]) isAgg44 sizeOf44 hs.drop rfl rfl hx) rfl (zA5 (cs := [_,_,_,_,_]) zAc zeroValue44 rfl hs (fun gA gB gi => ?_)))))
   refine zBg rfl rfl (zBt 0 (.agg #[.string _, .int _ _, .int _ _, .int _ _, .int _ _]) [_,_,_,_,_] sizeOf44 gi (fun gC g6 => ?_))
   refine zAe (zAb (gh _ _ (zAf (fun gD gj => (zAa (w_p (zBo (v := fv) rfl rfl) rfl (zA2 rfl rfl (w_p (zAs (vs := [_,_,_,_,_]) isAgg44 sizeOf44 g6 rfl rfl (aow 0 [_,_,_,_,_])) rfl ?_))))))))
   refine zEa zAc rfl rfl rfl rfl (hp (by omega) i hi2 [_] B _ hI g6) ?_
   rintro _ gE ⟨rfl, B1, hB1, g3⟩
   replace g3 := (show St _ _ (_ :: B1 ++ (F)) from g3)
   refine zBg rfl rfl (zAe (zAb (gj _ _ (zAf (fun gF gk => (zAa (zA2 rfl rfl (w_p (zCj rfl rfl rfl rfl) rfl (zAe (zAb (gk _ _ (zAv rfl rfl (fun g5 => ?_) (fun g5 => ?_)))))))))))))
   ·
    try simp only [zS] at g5
    refine zAf (fun gG gm => (zAa (zA2 rfl rfl (zA2 rfl rfl (zBg rfl rfl (zBg rfl rfl (zAe (zAb (gm _ _ (zA0 (zAz (zAh (zAh (zAz (zAh (zA1 (l := [.tmp 6, .tmp 7]) (vs := [_,_]) rfl ⟨⟨rfl, (rfl : _ = Value.int _ _)⟩, ⟨rfl, (rfl : _ = Value.int _ _)⟩, trivial⟩ ?_))))))))))))))))
    first
      | (have e : failE err most l = (0,3) := by unfold failE; rw [if_pos (by omega)]
         rw [e]
         exact ⟨rfl, B0, fun h => absurd h (by decide), g3⟩)
      | (have e : failE err most l = firstE err [] 0 l := by unfold failE; rw [if_neg (by omega)]
         rw [e, hinv, zAp hi2 (by assumption)]
         exact ⟨rfl, B1, fun h => absurd h (by assumption), g3.tail⟩)
      | (have e : failE err most l = firstE err [] 0 l := by unfold failE; rw [if_neg (by omega)]
         have hil : i = l.length := by omega
         rw [e, hinv, zB4 (by omega)]
         exact ⟨rfl, B, fun _ => by rw [← hil]; exact hI, g3⟩)
   try simp only [zS] at g5
   refine zAr (zAk (zAb (gg _ _ (zAa (w_p (zBe rfl rfl rfl rfl (by omega) (by omega)) rfl (zA2 rfl rfl (zAe (zAb (gd _ _ (nxI (l.length - (i + 1)) (by omega) ?_))))))))))
   exact ⟨i + 1, B1, rfl, by omega, rfl, hB1 (by assumption), hinv.trans (zDj hi2 (by assumption)), g3.tail⟩
  try simp only [zS] at g4
  refine zBr (zAj (zAj (zAy (zAb (gb _ _ (zAf (fun gH gn => (zAa (zA9 rfl rfl (zA9 rfl rfl (zAe (zAb (gn _ _ (zA0 (zA1 (l := [.tmp 6, .tmp 7]) (vs := [_,_]) rfl ⟨⟨rfl, (rfl : _ = Value.int _ _)⟩, ⟨rfl, (rfl : _ = Value.int _ _)⟩, trivial⟩ ?_)))))))))))))))
  first
    | (have e : failE err most l = (0,3) := by unfold failE; rw [if_pos (by omega)]
       rw [e]
       exact ⟨rfl, B0, fun h => absurd h (by decide), hs⟩)
    | (have e : failE err most l = firstE err [] 0 l := by unfold failE; rw [if_neg (by omega)]
       rw [e, hinv, zAp hi2 (by assumption)]
       exact ⟨rfl, B1, fun h => absurd h (by assumption), hs.tail⟩)
    | (have e : failE err most l = firstE err [] 0 l := by unfold failE; rw [if_neg (by omega)]
       have hil : i = l.length := by omega
       rw [e, hinv, zB4 (by omega)]
       exact ⟨rfl, B, fun _ => by rw [← hil]; exact hI, hs⟩)

theorem sl_srows {w0 : World} {F : List (Nat × Obj)} {a : Option Addr} {l : List Shop} {i : Nat} (h : Sl w0 F a 3 (srows l)) (hi : i < l.length) : ∃ b off, a = some ⟨b, off, none⟩ ∧ Ats w0 F b (off + i * 3) l[i].cells := by
  obtain ⟨b, off, ha, _, hat⟩ := h.at (i := i) (row := l[i].cells) (by simp [srows, hi])
  exact ⟨b, off, ha, hat⟩
theorem c107 {w0 w : World} {F : List (Nat × Obj)} (a : Option Addr) (c : Nat) (l : List Shop) (hl : l.length ≤ 9223372036854775807) (ha : Sl w0 F a 3 (srows l)) (most : Int) (fv : Value) (err : List Shop → Shop → Int) (I : Nat → List (Nat × Obj) → Prop) (B0 : List (Nat × Obj)) (h0 : I 0 B0)
    (hp : (l.length : Int) ≤ most → ∀ (i : Nat) (hi : i < l.length) (X B : List (Nat × Obj)) (w : World), I i B → St w0 w (X ++ (B ++ F)) → FCon Tryz.prog fv [.int .i64 i, .agg l[i].cells.toArray] w fun v w' => v = .int .i64 (err (l.take i) l[i]) ∧ ∃ B', (err (l.take i) l[i] = 0 → I (i + 1) B') ∧ St w0 w' (X ++ (B' ++ F)))
    (hs : St w0 w (B0 ++ F)) : Con Tryz.prog 107 [.slice a l.length c, .int .i64 most, fv] w fun v w' => v = .tuple #[.int .i64 (failE err most l).1, .int .i64 (failE err most l).2] ∧ ∃ B', ((failE err most l).2 = 0 → I l.length B') ∧ St w0 w' (B' ++ F) := by
  refine zAo (n := 31) func107 rfl rfl (zNl rfl) ?_
  refine zAf (fun K2 g7 => (zAa (zA9 rfl rfl (zA9 rfl rfl (zAe (zAb (g7 _ _ (zAf (fun K4 g8 => (zAf (fun K6 g9 => (zAa (w_p (zAx rfl rfl) rfl ?_)))))))))))))
  refine w_p (zBd underlying23 rfl rfl) rfl (zA2 rfl rfl (w_p (zD5 rfl rfl rfl rfl) rfl (zAe (zAb (g9 _ _ (zAv rfl rfl (fun h7 => ?_) (fun h7 => ?_)))))))
  ·
   try simp only [zS] at h7
   refine zAf (fun K9 ga => (zAa (zA9 rfl rfl (zA9 rfl rfl (zAe (zAb (ga _ _ (zA0 (zAh (zA1 (l := [.tmp 6, .tmp 7]) (vs := [_,_]) rfl ⟨⟨rfl, (rfl : _ = Value.int _ _)⟩, ⟨rfl, (rfl : _ = Value.int _ _)⟩, trivial⟩ ?_))))))))))
   first
     | (have e : failE err most l = (0,3) := by unfold failE; rw [if_pos (by omega)]
        rw [e]
        exact ⟨rfl, B0, fun h => absurd h (by decide), hs⟩)
     | (have e : failE err most l = firstE err [] 0 l := by unfold failE; rw [if_neg (by omega)]
        rw [e, hinv, zAp hi2 (by assumption)]
        exact ⟨rfl, B1, fun h => absurd h (by assumption), hs.tail⟩)
     | (have e : failE err most l = firstE err [] 0 l := by unfold failE; rw [if_neg (by omega)]
        have hil : i = l.length := by omega
        rw [e, hinv, zB4 (by omega)]
        exact ⟨rfl, B, fun _ => by rw [← hil]; exact hI, hs⟩)
  try simp only [zS] at h7
  refine zAr (zAb (g8 _ _ (zAf (fun gq gb => (zAf (fun gr gc => (zAa (w_p (zAx rfl rfl) rfl (w_p (zBd underlying23 rfl rfl) rfl (w_p (zBo (v := _) rfl rfl) rfl ?_))))))))))
  refine zAe (zAb (gc _ _ (zAw ?_)))
  refine zB2 [6,7,8,9,10,17,18,19,20,21,22,23,24,25,26,27,28,29,30] [17] (fun k vs w => ∃ (i : Nat) (B : List (Nat × Obj)), vs = [.int .i64 i] ∧ i ≤ l.length ∧ k = l.length - i ∧ I i B ∧ firstE err [] 0 l = firstE err (l.take i) i (l.drop i) ∧ St w0 w (B ++ F)) (l.length) ?_ ?_
  ·
   exact ⟨0, B0, rfl, by omega, by omega, h0, by simp, hs⟩
  intro k vs μ gt hI gu gd
  obtain ⟨i, B, rfl, hia, rfl, hI, hinv, hs⟩ := hI
  refine zAf (fun gw ge => (zAa (w_p (zCb rfl rfl rfl rfl) rfl (zAe (zAb (ge _ _ (zAf (fun gx gf => (zAv rfl rfl (fun g4 => ?_) (fun g4 => ?_))))))))))
  ·
   try simp only [zS] at g4
   refine zAr (zAb (gf _ _ (zAf (fun gy gg => (zAw ?_)))))
   refine zAf (fun gz gh => ?_)
   have hi2 : i < l.length := by omega
   obtain ⟨bx, ox, rfl, hx⟩ := sl_srows ha hi2
   refine zAa (zA2 rfl rfl (w_p (zA7 underlying23 sizeOf51 rfl rfl rfl rfl (i := _) rfl (by omega)) rfl (w_p (zAs (vs := [_,_,_]) isAgg51 sizeOf51 hs.drop rfl rfl hx) rfl (zA5 (cs := [_,_,_]) zAc zeroValue51 rfl hs (fun gA gB gi => ?_)))))
   refine zBg rfl rfl (zBt 0 (.agg #[.string _, .int _ _, .int _ _]) [_,_,_] sizeOf51 gi (fun gC g6 => ?_))
   refine zAe (zAb (gh _ _ (zAf (fun gD gj => (zAa (w_p (zBo (v := fv) rfl rfl) rfl (zA2 rfl rfl (w_p (zAs (vs := [_,_,_]) isAgg51 sizeOf51 g6 rfl rfl (aow 0 [_,_,_])) rfl ?_))))))))
   refine zEa zAc rfl rfl rfl rfl (hp (by omega) i hi2 [_] B _ hI g6) ?_
   rintro _ gE ⟨rfl, B1, hB1, g3⟩
   replace g3 := (show St _ _ (_ :: B1 ++ (F)) from g3)
   refine zBg rfl rfl (zAe (zAb (gj _ _ (zAf (fun gF gk => (zAa (zA2 rfl rfl (w_p (zCj rfl rfl rfl rfl) rfl (zAe (zAb (gk _ _ (zAv rfl rfl (fun g5 => ?_) (fun g5 => ?_)))))))))))))
   ·
    try simp only [zS] at g5
    refine zAf (fun gG gm => (zAa (zA2 rfl rfl (zA2 rfl rfl (zBg rfl rfl (zBg rfl rfl (zAe (zAb (gm _ _ (zA0 (zAz (zAh (zAh (zAz (zAh (zA1 (l := [.tmp 6, .tmp 7]) (vs := [_,_]) rfl ⟨⟨rfl, (rfl : _ = Value.int _ _)⟩, ⟨rfl, (rfl : _ = Value.int _ _)⟩, trivial⟩ ?_))))))))))))))))
    first
      | (have e : failE err most l = (0,3) := by unfold failE; rw [if_pos (by omega)]
         rw [e]
         exact ⟨rfl, B0, fun h => absurd h (by decide), g3⟩)
      | (have e : failE err most l = firstE err [] 0 l := by unfold failE; rw [if_neg (by omega)]
         rw [e, hinv, zAp hi2 (by assumption)]
         exact ⟨rfl, B1, fun h => absurd h (by assumption), g3.tail⟩)
      | (have e : failE err most l = firstE err [] 0 l := by unfold failE; rw [if_neg (by omega)]
         have hil : i = l.length := by omega
         rw [e, hinv, zB4 (by omega)]
         exact ⟨rfl, B, fun _ => by rw [← hil]; exact hI, g3⟩)
   try simp only [zS] at g5
   refine zAr (zAk (zAb (gg _ _ (zAa (w_p (zBe rfl rfl rfl rfl (by omega) (by omega)) rfl (zA2 rfl rfl (zAe (zAb (gd _ _ (nxI (l.length - (i + 1)) (by omega) ?_))))))))))
   exact ⟨i + 1, B1, rfl, by omega, rfl, hB1 (by assumption), hinv.trans (zDj hi2 (by assumption)), g3.tail⟩
  try simp only [zS] at g4
  refine zBr (zAj (zAj (zAy (zAb (gb _ _ (zAf (fun gH gn => (zAa (zA9 rfl rfl (zA9 rfl rfl (zAe (zAb (gn _ _ (zA0 (zA1 (l := [.tmp 6, .tmp 7]) (vs := [_,_]) rfl ⟨⟨rfl, (rfl : _ = Value.int _ _)⟩, ⟨rfl, (rfl : _ = Value.int _ _)⟩, trivial⟩ ?_)))))))))))))))
  first
    | (have e : failE err most l = (0,3) := by unfold failE; rw [if_pos (by omega)]
       rw [e]
       exact ⟨rfl, B0, fun h => absurd h (by decide), hs⟩)
    | (have e : failE err most l = firstE err [] 0 l := by unfold failE; rw [if_neg (by omega)]
       rw [e, hinv, zAp hi2 (by assumption)]
       exact ⟨rfl, B1, fun h => absurd h (by assumption), hs.tail⟩)
    | (have e : failE err most l = firstE err [] 0 l := by unfold failE; rw [if_neg (by omega)]
       have hil : i = l.length := by omega
       rw [e, hinv, zB4 (by omega)]
       exact ⟨rfl, B, fun _ => by rw [← hil]; exact hI, hs⟩)

theorem sl_trows {w0 : World} {F : List (Nat × Obj)} {a : Option Addr} {l : List Train} {i : Nat} (h : Sl w0 F a 4 (trows l)) (hi : i < l.length) : ∃ b off, a = some ⟨b, off, none⟩ ∧ Ats w0 F b (off + i * 4) l[i].cells := by
  obtain ⟨b, off, ha, _, hat⟩ := h.at (i := i) (row := l[i].cells) (by simp [trows, hi])
  exact ⟨b, off, ha, hat⟩
theorem c109 {w0 w : World} {F : List (Nat × Obj)} (a : Option Addr) (c : Nat) (l : List Train) (hl : l.length ≤ 9223372036854775807) (ha : Sl w0 F a 4 (trows l)) (most : Int) (fv : Value) (err : List Train → Train → Int) (I : Nat → List (Nat × Obj) → Prop) (B0 : List (Nat × Obj)) (h0 : I 0 B0)
    (hp : (l.length : Int) ≤ most → ∀ (i : Nat) (hi : i < l.length) (X B : List (Nat × Obj)) (w : World), I i B → St w0 w (X ++ (B ++ F)) → FCon Tryz.prog fv [.int .i64 i, .agg l[i].cells.toArray] w fun v w' => v = .int .i64 (err (l.take i) l[i]) ∧ ∃ B', (err (l.take i) l[i] = 0 → I (i + 1) B') ∧ St w0 w' (X ++ (B' ++ F)))
    (hs : St w0 w (B0 ++ F)) : Con Tryz.prog 109 [.slice a l.length c, .int .i64 most, fv] w fun v w' => v = .tuple #[.int .i64 (failE err most l).1, .int .i64 (failE err most l).2] ∧ ∃ B', ((failE err most l).2 = 0 → I l.length B') ∧ St w0 w' (B' ++ F) := by
  refine zAo (n := 31) func109 rfl rfl (zNl rfl) ?_
  refine zAf (fun K2 g7 => (zAa (zA9 rfl rfl (zA9 rfl rfl (zAe (zAb (g7 _ _ (zAf (fun K4 g8 => (zAf (fun K6 g9 => (zAa (w_p (zAx rfl rfl) rfl ?_)))))))))))))
  refine w_p (zBd underlying24 rfl rfl) rfl (zA2 rfl rfl (w_p (zD5 rfl rfl rfl rfl) rfl (zAe (zAb (g9 _ _ (zAv rfl rfl (fun h7 => ?_) (fun h7 => ?_)))))))
  ·
   try simp only [zS] at h7
   refine zAf (fun K9 ga => (zAa (zA9 rfl rfl (zA9 rfl rfl (zAe (zAb (ga _ _ (zA0 (zAh (zA1 (l := [.tmp 6, .tmp 7]) (vs := [_,_]) rfl ⟨⟨rfl, (rfl : _ = Value.int _ _)⟩, ⟨rfl, (rfl : _ = Value.int _ _)⟩, trivial⟩ ?_))))))))))
   first
     | (have e : failE err most l = (0,3) := by unfold failE; rw [if_pos (by omega)]
        rw [e]
        exact ⟨rfl, B0, fun h => absurd h (by decide), hs⟩)
     | (have e : failE err most l = firstE err [] 0 l := by unfold failE; rw [if_neg (by omega)]
        rw [e, hinv, zAp hi2 (by assumption)]
        exact ⟨rfl, B1, fun h => absurd h (by assumption), hs.tail⟩)
     | (have e : failE err most l = firstE err [] 0 l := by unfold failE; rw [if_neg (by omega)]
        have hil : i = l.length := by omega
        rw [e, hinv, zB4 (by omega)]
        exact ⟨rfl, B, fun _ => by rw [← hil]; exact hI, hs⟩)
  try simp only [zS] at h7
  refine zAr (zAb (g8 _ _ (zAf (fun gq gb => (zAf (fun gr gc => (zAa (w_p (zAx rfl rfl) rfl (w_p (zBd underlying24 rfl rfl) rfl (w_p (zBo (v := _) rfl rfl) rfl ?_))))))))))
  refine zAe (zAb (gc _ _ (zAw ?_)))
  refine zB2 [6,7,8,9,10,17,18,19,20,21,22,23,24,25,26,27,28,29,30] [17] (fun k vs w => ∃ (i : Nat) (B : List (Nat × Obj)), vs = [.int .i64 i] ∧ i ≤ l.length ∧ k = l.length - i ∧ I i B ∧ firstE err [] 0 l = firstE err (l.take i) i (l.drop i) ∧ St w0 w (B ++ F)) (l.length) ?_ ?_
  ·
   exact ⟨0, B0, rfl, by omega, by omega, h0, by simp, hs⟩
  intro k vs μ gt hI gu gd
  obtain ⟨i, B, rfl, hia, rfl, hI, hinv, hs⟩ := hI
  refine zAf (fun gw ge => (zAa (w_p (zCb rfl rfl rfl rfl) rfl (zAe (zAb (ge _ _ (zAf (fun gx gf => (zAv rfl rfl (fun g4 => ?_) (fun g4 => ?_))))))))))
  ·
   try simp only [zS] at g4
   refine zAr (zAb (gf _ _ (zAf (fun gy gg => (zAw ?_)))))
   refine zAf (fun gz gh => ?_)
   have hi2 : i < l.length := by omega
   obtain ⟨bx, ox, rfl, hx⟩ := sl_trows ha hi2
   refine zAa (zA2 rfl rfl (w_p (zA7 underlying24 sizeOf53 rfl rfl rfl rfl (i := _) rfl (by omega)) rfl (w_p (zAs (vs := [_,_,_,_]) isAgg53 sizeOf53 hs.drop rfl rfl hx) rfl (zA5 (cs := [_,_,_,_]) zAc zeroValue53 rfl hs (fun gA gB gi => ?_)))))
   refine zBg rfl rfl (zBt 0 (.agg #[.int _ _, .int _ _, .int _ _, .int _ _]) [_,_,_,_] sizeOf53 gi (fun gC g6 => ?_))
   refine zAe (zAb (gh _ _ (zAf (fun gD gj => (zAa (w_p (zBo (v := fv) rfl rfl) rfl (zA2 rfl rfl (w_p (zAs (vs := [_,_,_,_]) isAgg53 sizeOf53 g6 rfl rfl (aow 0 [_,_,_,_])) rfl ?_))))))))
   refine zEa zAc rfl rfl rfl rfl (hp (by omega) i hi2 [_] B _ hI g6) ?_
   rintro _ gE ⟨rfl, B1, hB1, g3⟩
   replace g3 := (show St _ _ (_ :: B1 ++ (F)) from g3)
   refine zBg rfl rfl (zAe (zAb (gj _ _ (zAf (fun gF gk => (zAa (zA2 rfl rfl (w_p (zCj rfl rfl rfl rfl) rfl (zAe (zAb (gk _ _ (zAv rfl rfl (fun g5 => ?_) (fun g5 => ?_)))))))))))))
   ·
    try simp only [zS] at g5
    refine zAf (fun gG gm => (zAa (zA2 rfl rfl (zA2 rfl rfl (zBg rfl rfl (zBg rfl rfl (zAe (zAb (gm _ _ (zA0 (zAz (zAh (zAh (zAz (zAh (zA1 (l := [.tmp 6, .tmp 7]) (vs := [_,_]) rfl ⟨⟨rfl, (rfl : _ = Value.int _ _)⟩, ⟨rfl, (rfl : _ = Value.int _ _)⟩, trivial⟩ ?_))))))))))))))))
    first
      | (have e : failE err most l = (0,3) := by unfold failE; rw [if_pos (by omega)]
         rw [e]
         exact ⟨rfl, B0, fun h => absurd h (by decide), g3⟩)
      | (have e : failE err most l = firstE err [] 0 l := by unfold failE; rw [if_neg (by omega)]
         rw [e, hinv, zAp hi2 (by assumption)]
         exact ⟨rfl, B1, fun h => absurd h (by assumption), g3.tail⟩)
      | (have e : failE err most l = firstE err [] 0 l := by unfold failE; rw [if_neg (by omega)]
         have hil : i = l.length := by omega
         rw [e, hinv, zB4 (by omega)]
         exact ⟨rfl, B, fun _ => by rw [← hil]; exact hI, g3⟩)
   try simp only [zS] at g5
   refine zAr (zAk (zAb (gg _ _ (zAa (w_p (zBe rfl rfl rfl rfl (by omega) (by omega)) rfl (zA2 rfl rfl (zAe (zAb (gd _ _ (nxI (l.length - (i + 1)) (by omega) ?_))))))))))
   exact ⟨i + 1, B1, rfl, by omega, rfl, hB1 (by assumption), hinv.trans (zDj hi2 (by assumption)), g3.tail⟩
  try simp only [zS] at g4
  refine zBr (zAj (zAj (zAy (zAb (gb _ _ (zAf (fun gH gn => (zAa (zA9 rfl rfl (zA9 rfl rfl (zAe (zAb (gn _ _ (zA0 (zA1 (l := [.tmp 6, .tmp 7]) (vs := [_,_]) rfl ⟨⟨rfl, (rfl : _ = Value.int _ _)⟩, ⟨rfl, (rfl : _ = Value.int _ _)⟩, trivial⟩ ?_)))))))))))))))
  first
    | (have e : failE err most l = (0,3) := by unfold failE; rw [if_pos (by omega)]
       rw [e]
       exact ⟨rfl, B0, fun h => absurd h (by decide), hs⟩)
    | (have e : failE err most l = firstE err [] 0 l := by unfold failE; rw [if_neg (by omega)]
       rw [e, hinv, zAp hi2 (by assumption)]
       exact ⟨rfl, B1, fun h => absurd h (by assumption), hs.tail⟩)
    | (have e : failE err most l = firstE err [] 0 l := by unfold failE; rw [if_neg (by omega)]
       have hil : i = l.length := by omega
       rw [e, hinv, zB4 (by omega)]
       exact ⟨rfl, B, fun _ => by rw [← hil]; exact hI, hs⟩)

end Go.Proofs.Sb
set_option maxRecDepth 20000
namespace Go.Proofs.Sb
open Go.Proofs.Tryz
open Go.Rt Go.Rt.Sh
attribute [local irreducible] WL WC Con Yd At Ats Sl Agree DW
theorem Try_SD_fb0 (x0 : ByteArray) (w : World) : (Instr.buildSlice 55 1 [(0, .string x0)].toArray).run Tryz.prog w = .ok (.slice (some ⟨w.heap.size, 0, none⟩) 1 1) (w.alloc (Go.Rt.blk 9 [.string x0])) := by kernel_rfl
theorem zE3 : Tryz.prog.info? 9 = some Tryz.t9 := by kernel_rfl
theorem Try_SD_fb2 (x0 : Int) (x1 : Int) (w : World) : (Instr.buildSlice 30 2 [(0, .int .i64 x0),(1, .int .i64 x1)].toArray).run Tryz.prog w = .ok (.slice (some ⟨w.heap.size, 0, none⟩) 2 2) (w.alloc (Go.Rt.blk 3 [.int .i64 x0, .int .i64 x1])) := by kernel_rfl
theorem zEo (x0 : Int) (w : World) : (Instr.buildSlice 30 1 [(0, .int .i64 x0)].toArray).run Tryz.prog w = .ok (.slice (some ⟨w.heap.size, 0, none⟩) 1 1) (w.alloc (Go.Rt.blk 3 [.int .i64 x0])) := by kernel_rfl
structure MIn (w0 : World) (F : List (Nat × Obj)) (m : Market) (p : At3) : Prop where
  r : Sl w0 F p.ar 5 (rrows m.rooms)
  s : Sl w0 F p.az 3 (srows m.shops)
  t : Sl w0 F p.at_ 4 (trows m.trains)
  lr : m.rooms.length ≤ 9223372036854775807
  ls : m.shops.length ≤ 9223372036854775807
  lt : m.trains.length ≤ 9223372036854775807
  cr : m.rooms.length ≤ p.cr
  cs : m.shops.length ≤ p.cs
  ct : m.trains.length ≤ p.ct
  nr : ∀ x ∈ m.rooms, x.name.size ≤ 9223372036854775807
  ns : ∀ x ∈ m.shops, x.name.size ≤ 9223372036854775807
theorem MIn.mono {w0 : World} {F F' : List (Nat × Obj)} {m : Market} {p : At3} (h : MIn w0 F m p) (hs : ∀ w, St w0 w F' → St w0 w F) : MIn w0 F' m p := ⟨h.r.mono hs, h.s.mono hs, h.t.mono hs, h.lr, h.ls, h.lt, h.cr, h.cs, h.ct, h.nr, h.ns⟩
theorem MIn.cons {w0 : World} {F : List (Nat × Obj)} {x : Nat × Obj} {m : Market} {p : At3} (h : MIn w0 F m p) : MIn w0 (x :: F) m p := h.mono fun _ h => h.tail
theorem MIn.app {w0 : World} {F B : List (Nat × Obj)} {m : Market} {p : At3} (h : MIn w0 F m p) : MIn w0 (B ++ F) m p := h.mono fun _ h => h.drop
theorem zFs {w0 w : World} {x : Nat × Obj} {Y F : List (Nat × Obj)} (h : St w0 w (x :: (Y ++ F))) : St w0 w (x :: F) := (h.perm (zB3 [x] Y F)).drop
theorem tup3 {x : Int × Int × Int} {a b c : Int} (h : x = (a, b, c)) : Value.tuple #[.int .i64 a, .int .i64 b, .int .i64 c] = .tuple #[.int .i64 x.1, .int .i64 x.2.1, .int .i64 x.2.2] := by subst h; rfl
theorem zC4 {bf : List Room} {x : Room} (h : ¬ nameE (bf.map (·.name)) x.name = 0) : nameE (bf.map (·.name)) x.name = roomE bf x := by unfold roomE; rw [if_pos h]
theorem zEx {bf : List Room} {x : Room} (h : nameE (bf.map (·.name)) x.name = 0) : roomE bf x = roomOwn x := by unfold roomE; rw [if_neg (by simp [h])]
theorem zDy {bf : List Shop} {x : Shop} (h : ¬ nameE (bf.map (·.name)) x.name = 0) : nameE (bf.map (·.name)) x.name = shopE bf x := by unfold shopE; rw [if_pos h]
theorem zGf {bf : List Shop} {x : Shop} (h : nameE (bf.map (·.name)) x.name = 0) : shopE bf x = shopOwn x := by unfold shopE; rw [if_neg (by simp [h])]
theorem own_name {v : Value} {l : List ByteArray} {s : ByteArray} {B : List (Nat × Obj)} (h : Rt.Own v 9 1 (l.length + 1) (strs l ++ [[Value.string s]].flatten) B) : Rt.Own v 9 1 (l ++ [s]).length (strs (l ++ [s])) B := by simpa [strs] using h
theorem c105 {w0 w : World} {F : List (Nat × Obj)} (i : Int) (x : Room) (hx : x.name.size ≤ 9223372036854775807) (bf : List Room) (hbf : bf.length ≤ 1000) (bn : Nat) (v : Value) (N : List (Nat × Obj)) (hown : Rt.Own v 9 1 (bf.map (·.name)).length (strs (bf.map (·.name))) N) (hs : St w0 w ((bn, blk 55 [v]) :: (N ++ F))) :
    Con Tryz.prog 105 [.int .i64 i, .agg x.cells.toArray, .pointer (some ⟨bn, 0, none⟩)] w fun u w' => u = .int .i64 (roomE bf x) ∧ ∃ v' N', (roomE bf x = 0 → Rt.Own v' 9 1 (bf.map (·.name) ++ [x.name]).length (strs (bf.map (·.name) ++ [x.name])) N') ∧ St w0 w' ((bn, blk 55 [v']) :: (N' ++ F)) := by
  refine zAo (n := 51) func105 rfl rfl (zNl rfl) ?_
  have hbl : (bf.map (·.name)).length ≤ 1000 := by rw [List.length_map]; exact hbf
  obtain ⟨ab, cb, rfl, hsb⟩ := zEe (w0 := w0) hown rfl F
  refine zAf (fun K2 gh => (zAa (zCd (v := .agg #[.string _, .int _ _, .int _ _, .int _ _, .int _ _]) (cs := [_,_,_,_,_]) zAc rfl rfl rfl hs (fun b3 w4 gc => ?_))))
  refine zA9 rfl rfl (zAe (zAb (gh _ _ (zAf (fun K7 gi => (zAf (fun K9 gj => (zAa (w_p (zAd (o := 0) (i := 0) underlying44 rfl sizeOf9 rfl rfl rfl) rfl ?_)))))))))
  refine w_p (zAi isAgg9 gc rfl rfl (aow 0 [_])) rfl (w_p (zAi isAgg55 gc rfl rfl (aow 1 [_])) rfl ?_)
  refine zCi zAc call106 rfl rfl rfl rfl (c106 _ _ _ (by omega) hsb.cons.cons _ (by omega) gc) (fun gC ga => ?_)
  refine zBg rfl rfl (zAe (zAb (gj _ _ (zAf (fun gD gk => (zAa (zA2 rfl rfl (w_p (zCj rfl rfl rfl rfl) rfl (zAe (zAb (gk _ _ (zAv rfl rfl (fun g3 => ?_) (fun g3 => ?_)))))))))))))
  ·
   try simp only [zS] at g3
   refine zAf (fun gE gm => (zAa (zA2 rfl rfl (zBg rfl rfl (zAe (zAb (gm _ _ (zA0 (zAh (zA1 (l := [.tmp 5]) (vs := [_]) rfl ⟨⟨rfl, (rfl : _ = Value.int _ _)⟩, trivial⟩ ?_))))))))))
   try simp only [List.any_cons, List.any_nil, Bool.or_false, Bool.or_eq_false_iff] at g3
   first
     | exact ⟨congrArg (Value.int .i64) (zC4 (by assumption)), _, N, fun h => absurd (zC4 (by assumption) ▸ h) (by assumption), ga.tail⟩
     | exact ⟨congrArg (Value.int .i64) (by rw [zEx (by assumption)]; simp [roomOwn, g3] <;> omega), _, N, fun _ => hN, ga.tail⟩
  try simp only [zS] at g3
  refine zAr (zAb (gi _ _ (zAf (fun gF gn => (zAa (w_p (zAi isAgg55 ga rfl rfl (aow 1 [_])) rfl (w_p (zAd (o := 0) (i := 0) underlying44 rfl sizeOf9 rfl rfl rfl) rfl ?_)))))))
  refine w_p (zAi isAgg9 ga rfl rfl (aow 0 [_])) rfl ?_
  refine zBc (ps := [(0, _)]) (pv := [(0, .string _)]) (cs := [_]) zAc rfl rfl (fun w => Try_SD_fb0 _ w) ga (fun gG gH gq => ?_)
  refine zDd (X := (_ :: _ :: _ :: [])) (B := N) (rows := [[_]]) (sz := 1) (bytes := 16) zAc underlying55 zE3 rfl rfl rfl rfl rfl rfl rfl rfl rfl gq hown (zBx (i := 0) rfl (by simp) rfl) rfl (by simp) (by simp [Value.oneCell']) (by simp only [maxLen]; omega) (by omega) (fun gI gJ g9 gr gd => ?_)
  replace gd := (show St _ _ (_ :: _ :: _ :: g9 ++ (F)) from gd)
  have hN := own_name gr
  obtain ⟨an, cn, rfl⟩ := hN.slice
  refine zBt 2 (.slice _ _ _) [_] sizeOf55 gd (fun gK ge => ?_)
  refine zAe (zAb (gn _ _ (zAf (fun gL gt => (zAw ?_)))))
  refine zAf (fun gM gf => (zAa (w_p (zAd (o := 1) (i := 1) underlying44 rfl sizeOf28 rfl rfl rfl) rfl (w_p (zAd (o := 0) (i := 0) underlying28 rfl sizeOf3 rfl rfl rfl) rfl (w_p (zAi isAgg3 ge rfl rfl (aow 1 [_])) rfl ?_)))))
  refine w_p (zAd (o := 1) (i := 1) underlying44 rfl sizeOf28 rfl rfl rfl) rfl (w_p (zAd (o := 1) (i := 1) underlying28 rfl sizeOf3 rfl rfl rfl) rfl (w_p (zAi isAgg3 ge rfl rfl (aow 1 [_])) rfl ?_))
  refine zBc (ps := [(0, _),(1, _)]) (pv := [(0, .int _ _),(1, .int _ _)]) (cs := [_,_]) zAc rfl rfl (fun w => Try_SD_fb2 _ _ w) ge (fun gN gO gu => ?_)
  refine zCi zAc call78 rfl rfl rfl rfl (c78 _ _ _ [_,_] _ (by simp) (zBx (i := 0) (rows := [[_], [_]]) rfl (by simp) rfl) gu) (fun gP gb => ?_)
  refine w_p (zAn rfl rfl) rfl (zBk (fun g4 => ?_) (fun g4 => ?_))
  ·
   try simp only [zS] at g4
   refine zAg rfl rfl rfl ?_
   refine zAg rfl rfl rfl ?_
   refine zAg rfl rfl rfl ?_
   refine zAg rfl rfl rfl ?_
   refine zAg rfl rfl rfl ?_
   refine zAg rfl rfl rfl ?_
   refine w_p (zAt (v := _) rfl rfl rfl rfl) rfl (w_p (zAl rfl rfl) rfl (zAe (zAb (gf _ _ (zBz rfl rfl ?_)))))
   refine zAf (fun gQ gw => (zAa (zA9 rfl rfl (zAe (zAb (gw _ _ (zA0 (zAz (zAh (zA1 (l := [.tmp 5]) (vs := [_]) rfl ⟨⟨rfl, (rfl : _ = Value.int _ _)⟩, trivial⟩ ?_))))))))))
   try simp only [List.any_cons, List.any_nil, Bool.or_false, Bool.or_eq_false_iff] at g3 g4
   first
     | exact ⟨congrArg (Value.int .i64) (zC4 (by assumption)), _, N, fun h => absurd (zC4 (by assumption) ▸ h) (by assumption), gb.tail.tail.tail⟩
     | exact ⟨congrArg (Value.int .i64) (by rw [zEx (by assumption)]; simp [roomOwn, g3, g4] <;> omega), _, g9, fun _ => hN, gb.tail.tail.tail⟩
  try simp only [zS] at g4
  refine w_y rfl rfl rfl (zAd (o := 3) (i := 2) underlying44 rfl sizeOf3 rfl rfl rfl) rfl ?_
  refine w_y rfl rfl rfl (zAi isAgg3 gb rfl rfl (aow 2 [_])) rfl ?_
  refine w_y rfl rfl rfl (zAd (o := 4) (i := 3) underlying44 rfl sizeOf3 rfl rfl rfl) rfl ?_
  refine w_y rfl rfl rfl (zAi isAgg3 gb rfl rfl (aow 2 [_])) rfl ?_
  refine zBc (ps := [(0, _),(1, _)]) (pv := [(0, .int _ _),(1, .int _ _)]) (cs := [_,_]) (zAm rfl rfl rfl) rfl rfl (fun w => Try_SD_fb2 _ _ w) gb (fun gR gS gx => ?_)
  refine zA4 (zAm rfl rfl rfl) call78 rfl rfl rfl rfl (c78 _ _ _ [_,_] _ (by simp) (zBx (i := 0) (rows := [[_], [_]]) rfl (by simp) rfl) gx) ?_
  rintro _ gT ⟨rfl, g5⟩
  refine w_p (zBb (v := .bool _) rfl rfl rfl rfl) rfl (w_p (zAl rfl rfl) rfl (zAe (zAb (gf _ _ (zAv rfl rfl (fun g6 => ?_) (fun g6 => ?_))))))
  ·
   try simp only [zS] at g6
   refine zAf (fun gU gy => (zAa (zA9 rfl rfl (zAe (zAb (gy _ _ (zA0 (zAz (zAh (zA1 (l := [.tmp 5]) (vs := [_]) rfl ⟨⟨rfl, (rfl : _ = Value.int _ _)⟩, trivial⟩ ?_))))))))))
   try simp only [List.any_cons, List.any_nil, Bool.or_false, Bool.or_eq_false_iff] at g3 g4 g6
   first
     | exact ⟨congrArg (Value.int .i64) (zC4 (by assumption)), _, N, fun h => absurd (zC4 (by assumption) ▸ h) (by assumption), g5.tail.tail.tail.tail⟩
     | exact ⟨congrArg (Value.int .i64) (by rw [zEx (by assumption)]; simp [roomOwn, g3, g4, g6] <;> omega), _, g9, fun _ => hN, g5.tail.tail.tail.tail⟩
  try simp only [zS] at g6
  refine zAf (fun gV gg => (zAa (w_p (zAd (o := 1) (i := 1) underlying44 rfl sizeOf28 rfl rfl rfl) rfl (w_p (zAd (o := 0) (i := 0) underlying28 rfl sizeOf3 rfl rfl rfl) rfl (w_p (zAi isAgg3 g5 rfl rfl (aow 3 [_])) rfl ?_)))))
  refine w_p (zAd (o := 1) (i := 1) underlying44 rfl sizeOf28 rfl rfl rfl) rfl (w_p (zAd (o := 1) (i := 1) underlying28 rfl sizeOf3 rfl rfl rfl) rfl (w_p (zAi isAgg3 g5 rfl rfl (aow 3 [_])) rfl (w_p (zD5 rfl rfl rfl rfl) rfl ?_)))
  refine w_p (zAn rfl rfl) rfl (zBk (fun g7 => ?_) (fun g7 => ?_))
  ·
   try simp only [zS] at g7
   refine zAg rfl rfl rfl ?_
   refine zAg rfl rfl rfl ?_
   refine zAg rfl rfl rfl ?_
   refine zAg rfl rfl rfl ?_
   refine zAg rfl rfl rfl ?_
   refine w_p (zAt (v := _) rfl rfl rfl rfl) rfl (w_p (zAl rfl rfl) rfl (zAe (zAb (gg _ _ (zBz rfl rfl ?_)))))
   refine zAf (fun gW gz => (zAa (zA9 rfl rfl (zAe (zAb (gz _ _ (zA0 (zAz (zAh (zA1 (l := [.tmp 5]) (vs := [_]) rfl ⟨⟨rfl, (rfl : _ = Value.int _ _)⟩, trivial⟩ ?_))))))))))
   try simp only [List.any_cons, List.any_nil, Bool.or_false, Bool.or_eq_false_iff] at g3 g4 g6 g7
   first
     | exact ⟨congrArg (Value.int .i64) (zC4 (by assumption)), _, N, fun h => absurd (zC4 (by assumption) ▸ h) (by assumption), g5.tail.tail.tail.tail⟩
     | exact ⟨congrArg (Value.int .i64) (by rw [zEx (by assumption)]; simp [roomOwn, g3, g4, g6, g7] <;> omega), _, g9, fun _ => hN, g5.tail.tail.tail.tail⟩
  try simp only [zS] at g7
  refine w_y rfl rfl rfl (zAd (o := 3) (i := 2) underlying44 rfl sizeOf3 rfl rfl rfl) rfl ?_
  refine w_y rfl rfl rfl (zAi isAgg3 g5 rfl rfl (aow 3 [_])) rfl ?_
  refine w_y rfl rfl rfl (zAd (o := 4) (i := 3) underlying44 rfl sizeOf3 rfl rfl rfl) rfl ?_
  refine w_y rfl rfl rfl (zAi isAgg3 g5 rfl rfl (aow 3 [_])) rfl ?_
  refine w_y rfl rfl rfl (zD5 rfl rfl rfl rfl) rfl ?_
  refine w_p (zBb (v := .bool _) rfl rfl rfl rfl) rfl (w_p (zAl rfl rfl) rfl (zAe (zAb (gg _ _ (zAv rfl rfl (fun g8 => ?_) (fun g8 => ?_))))))
  ·
   try simp only [zS] at g8
   refine zAf (fun gX gA => (zAa (zA9 rfl rfl (zAe (zAb (gA _ _ (zA0 (zAz (zAh (zA1 (l := [.tmp 5]) (vs := [_]) rfl ⟨⟨rfl, (rfl : _ = Value.int _ _)⟩, trivial⟩ ?_))))))))))
   try simp only [List.any_cons, List.any_nil, Bool.or_false, Bool.or_eq_false_iff] at g3 g4 g6 g7 g8
   first
     | exact ⟨congrArg (Value.int .i64) (zC4 (by assumption)), _, N, fun h => absurd (zC4 (by assumption) ▸ h) (by assumption), g5.tail.tail.tail.tail⟩
     | exact ⟨congrArg (Value.int .i64) (by rw [zEx (by assumption)]; simp [roomOwn, g3, g4, g6, g7, g8] <;> omega), _, g9, fun _ => hN, g5.tail.tail.tail.tail⟩
  try simp only [zS] at g8
  refine zAr (zAk (zAb (gt _ _ (zAf (fun gY gB => (zAa (zA9 rfl rfl (zAe (zAb (gB _ _ (zA0 (zA1 (l := [.tmp 5]) (vs := [_]) rfl ⟨⟨rfl, (rfl : _ = Value.int _ _)⟩, trivial⟩ ?_))))))))))))
  try simp only [List.any_cons, List.any_nil, Bool.or_false, Bool.or_eq_false_iff] at g3 g4 g6 g7 g8
  first
    | exact ⟨congrArg (Value.int .i64) (zC4 (by assumption)), _, N, fun h => absurd (zC4 (by assumption) ▸ h) (by assumption), g5.tail.tail.tail.tail⟩
    | exact ⟨congrArg (Value.int .i64) (by rw [zEx (by assumption)]; simp [roomOwn, g3, g4, g6, g7, g8] <;> omega), _, g9, fun _ => hN, g5.tail.tail.tail.tail⟩

theorem c108 {w0 w : World} {F : List (Nat × Obj)} (i : Int) (x : Shop) (hx : x.name.size ≤ 9223372036854775807) (bf : List Shop) (hbf : bf.length ≤ 1000) (bn : Nat) (v : Value) (N : List (Nat × Obj)) (hown : Rt.Own v 9 1 (bf.map (·.name)).length (strs (bf.map (·.name))) N) (hs : St w0 w ((bn, blk 55 [v]) :: (N ++ F))) :
    Con Tryz.prog 108 [.int .i64 i, .agg x.cells.toArray, .pointer (some ⟨bn, 0, none⟩)] w fun u w' => u = .int .i64 (shopE bf x) ∧ ∃ v' N', (shopE bf x = 0 → Rt.Own v' 9 1 (bf.map (·.name) ++ [x.name]).length (strs (bf.map (·.name) ++ [x.name])) N') ∧ St w0 w' ((bn, blk 55 [v']) :: (N' ++ F)) := by
  refine zAo (n := 29) func108 rfl rfl (zNl rfl) ?_
  have hbl : (bf.map (·.name)).length ≤ 1000 := by rw [List.length_map]; exact hbf
  obtain ⟨ab, cb, rfl, hsb⟩ := zEe (w0 := w0) hown rfl F
  refine zAf (fun K2 ge => (zAa (zCd (v := .agg #[.string _, .int _ _, .int _ _]) (cs := [_,_,_]) zAc rfl rfl rfl hs (fun b3 w4 ga => ?_))))
  refine zA9 rfl rfl (zAe (zAb (ge _ _ (zAf (fun K7 gf => (zAf (fun K9 gg => (zAa (w_p (zAd (o := 0) (i := 0) underlying51 rfl sizeOf9 rfl rfl rfl) rfl ?_)))))))))
  refine w_p (zAi isAgg9 ga rfl rfl (aow 0 [_])) rfl (w_p (zAi isAgg55 ga rfl rfl (aow 1 [_])) rfl ?_)
  refine zCi zAc call106 rfl rfl rfl rfl (c106 _ _ _ (by omega) hsb.cons.cons _ (by omega) ga) (fun gx g6 => ?_)
  refine zBg rfl rfl (zAe (zAb (gg _ _ (zAf (fun gy gh => (zAa (zA2 rfl rfl (w_p (zCj rfl rfl rfl rfl) rfl (zAe (zAb (gh _ _ (zAv rfl rfl (fun g3 => ?_) (fun g3 => ?_)))))))))))))
  ·
   try simp only [zS] at g3
   refine zAf (fun gz gi => (zAa (zA2 rfl rfl (zBg rfl rfl (zAe (zAb (gi _ _ (zA0 (zAh (zA1 (l := [.tmp 5]) (vs := [_]) rfl ⟨⟨rfl, (rfl : _ = Value.int _ _)⟩, trivial⟩ ?_))))))))))
   try simp only [List.any_cons, List.any_nil, Bool.or_false, Bool.or_eq_false_iff] at g3
   first
     | exact ⟨congrArg (Value.int .i64) (zDy (by assumption)), _, N, fun h => absurd (zDy (by assumption) ▸ h) (by assumption), g6.tail⟩
     | exact ⟨congrArg (Value.int .i64) (by rw [zGf (by assumption)]; simp [shopOwn, g3] <;> omega), _, N, fun _ => hN, g6.tail⟩
  try simp only [zS] at g3
  refine zAr (zAb (gf _ _ (zAf (fun gA gj => (zAa (w_p (zAi isAgg55 g6 rfl rfl (aow 1 [_])) rfl (w_p (zAd (o := 0) (i := 0) underlying51 rfl sizeOf9 rfl rfl rfl) rfl ?_)))))))
  refine w_p (zAi isAgg9 g6 rfl rfl (aow 0 [_])) rfl ?_
  refine zBc (ps := [(0, _)]) (pv := [(0, .string _)]) (cs := [_]) zAc rfl rfl (fun w => Try_SD_fb0 _ w) g6 (fun gB gC gk => ?_)
  refine zDd (X := (_ :: _ :: _ :: [])) (B := N) (rows := [[_]]) (sz := 1) (bytes := 16) zAc underlying55 zE3 rfl rfl rfl rfl rfl rfl rfl rfl rfl gk hown (zBx (i := 0) rfl (by simp) rfl) rfl (by simp) (by simp [Value.oneCell']) (by simp only [maxLen]; omega) (by omega) (fun gD gE g7 gm gb => ?_)
  replace gb := (show St _ _ (_ :: _ :: _ :: g7 ++ (F)) from gb)
  have hN := own_name gm
  obtain ⟨an, cn, rfl⟩ := hN.slice
  refine zBt 2 (.slice _ _ _) [_] sizeOf55 gb (fun gF gc => ?_)
  refine zAe (zAb (gj _ _ (zAf (fun gG gn => (zAf (fun gH gd => (zAa (w_p (zAd (o := 1) (i := 1) underlying51 rfl sizeOf3 rfl rfl rfl) rfl (w_p (zAi isAgg3 gc rfl rfl (aow 1 [_])) rfl ?_)))))))))
  refine zBc (ps := [(0, _)]) (pv := [(0, .int _ _)]) (cs := [_]) zAc rfl rfl (fun w => zEo _ w) gc (fun gI gJ gq => ?_)
  refine zCi zAc call78 rfl rfl rfl rfl (c78 _ _ _ [_] _ (by simp) (zBx (i := 0) (rows := [[_]]) rfl (by simp) rfl) gq) (fun gK g8 => ?_)
  refine w_p (zAn rfl rfl) rfl (zBk (fun g4 => ?_) (fun g4 => ?_))
  ·
   try simp only [zS] at g4
   refine zAg rfl rfl rfl ?_
   refine zAg rfl rfl rfl ?_
   refine zAg rfl rfl rfl ?_
   refine zAg rfl rfl rfl ?_
   refine w_p (zAt (v := _) rfl rfl rfl rfl) rfl (zAe (zAb (gd _ _ (zBz rfl rfl ?_))))
   refine zAf (fun gL gr => (zAa (zA9 rfl rfl (zAe (zAb (gr _ _ (zA0 (zAh (zA1 (l := [.tmp 5]) (vs := [_]) rfl ⟨⟨rfl, (rfl : _ = Value.int _ _)⟩, trivial⟩ ?_)))))))))
   try simp only [List.any_cons, List.any_nil, Bool.or_false, Bool.or_eq_false_iff] at g3 g4
   first
     | exact ⟨congrArg (Value.int .i64) (zDy (by assumption)), _, N, fun h => absurd (zDy (by assumption) ▸ h) (by assumption), g8.tail.tail.tail⟩
     | exact ⟨congrArg (Value.int .i64) (by rw [zGf (by assumption)]; simp [shopOwn, g3, g4] <;> omega), _, g7, fun _ => hN, g8.tail.tail.tail⟩
  try simp only [zS] at g4
  refine w_y rfl rfl rfl (zAd (o := 2) (i := 2) underlying51 rfl sizeOf3 rfl rfl rfl) rfl ?_
  refine w_y rfl rfl rfl (zAi isAgg3 g8 rfl rfl (aow 2 [_])) rfl ?_
  refine zBc (ps := [(0, _)]) (pv := [(0, .int _ _)]) (cs := [_]) (zAm rfl rfl rfl) rfl rfl (fun w => zEo _ w) g8 (fun gM gN gt => ?_)
  refine zA4 (zAm rfl rfl rfl) call78 rfl rfl rfl rfl (c78 _ _ _ [_] _ (by simp) (zBx (i := 0) (rows := [[_]]) rfl (by simp) rfl) gt) ?_
  rintro _ gO ⟨rfl, g9⟩
  refine w_p (zBb (v := .bool _) rfl rfl rfl rfl) rfl (zAe (zAb (gd _ _ (zAv rfl rfl (fun g5 => ?_) (fun g5 => ?_)))))
  ·
   try simp only [zS] at g5
   refine zAf (fun gP gu => (zAa (zA9 rfl rfl (zAe (zAb (gu _ _ (zA0 (zAh (zA1 (l := [.tmp 5]) (vs := [_]) rfl ⟨⟨rfl, (rfl : _ = Value.int _ _)⟩, trivial⟩ ?_)))))))))
   try simp only [List.any_cons, List.any_nil, Bool.or_false, Bool.or_eq_false_iff] at g3 g4 g5
   first
     | exact ⟨congrArg (Value.int .i64) (zDy (by assumption)), _, N, fun h => absurd (zDy (by assumption) ▸ h) (by assumption), g9.tail.tail.tail.tail⟩
     | exact ⟨congrArg (Value.int .i64) (by rw [zGf (by assumption)]; simp [shopOwn, g3, g4, g5] <;> omega), _, g7, fun _ => hN, g9.tail.tail.tail.tail⟩
  try simp only [zS] at g5
  refine zAr (zAb (gn _ _ (zAf (fun gQ gw => (zAa (zA9 rfl rfl (zAe (zAb (gw _ _ (zA0 (zA1 (l := [.tmp 5]) (vs := [_]) rfl ⟨⟨rfl, (rfl : _ = Value.int _ _)⟩, trivial⟩ ?_)))))))))))
  try simp only [List.any_cons, List.any_nil, Bool.or_false, Bool.or_eq_false_iff] at g3 g4 g5
  first
    | exact ⟨congrArg (Value.int .i64) (zDy (by assumption)), _, N, fun h => absurd (zDy (by assumption) ▸ h) (by assumption), g9.tail.tail.tail.tail⟩
    | exact ⟨congrArg (Value.int .i64) (by rw [zGf (by assumption)]; simp [shopOwn, g3, g4, g5] <;> omega), _, g7, fun _ => hN, g9.tail.tail.tail.tail⟩

theorem c110 {w0 w : World} {F : List (Nat × Obj)} (m : Market) (p : At3) (hm : MIn w0 F m p) (i : Int) (t : Train) (bm : Nat) (hb : Ats w0 F bm 0 (m.cells p)) (bf : List Train) (hs : St w0 w F) :
  Con Tryz.prog 110 [.int .i64 i, .agg t.cells.toArray, .pointer (some ⟨bm, 0, none⟩)] w fun v w' => v = .int .i64 (trainE m bf t) ∧ St w0 w' F := by
  refine zAo (n := 36) func110 rfl rfl (zNl rfl) ?_
  have hlr := hm.lr
  have hls := hm.ls
  refine zAf (fun K2 ge => (zAa (zCd (v := .agg #[.int _ _, .int _ _, .int _ _, .int _ _]) (cs := [_,_,_,_]) zAc rfl rfl rfl hs (fun b3 w4 g8 => ?_))))
  refine zA9 rfl rfl (zAe (zAb (ge _ _ (zAf (fun K7 gf => (zAw ?_))))))
  refine zAf (fun K9 gb => (zAa (w_p (zAd (o := 0) (i := 0) underlying26 rfl sizeOf22 rfl rfl rfl) rfl (w_p (zAi isAgg22 g8.tail rfl rfl (show Ats _ _ _ _ [_] from Ats.part hb 0 1)) rfl (w_p (zBd underlying22 rfl rfl) rfl (w_p (zDk rfl rfl rfl rfl (by omega) (by omega)) rfl ?_))))))
  refine w_p (zAd (o := 0) (i := 0) underlying53 rfl sizeOf3 rfl rfl rfl) rfl (w_p (zAi isAgg3 g8 rfl rfl (aow 0 [_])) rfl ?_)
  refine zBc (ps := [(0, _)]) (pv := [(0, .int _ _)]) (cs := [_]) zAc rfl rfl (fun w => zEo _ w) g8 (fun gt gu gg => ?_)
  refine zCi zAc call78 rfl rfl rfl rfl (c78 _ _ _ [_] _ (by simp) (zBx (i := 0) (rows := [[_]]) rfl (by simp) rfl) gg) (fun gw g7 => ?_)
  refine w_p (zAn rfl rfl) rfl (zBk (fun g3 => ?_) (fun g3 => ?_))
  ·
   try simp only [zS] at g3
   refine zAg rfl rfl rfl ?_
   refine zAg rfl rfl rfl ?_
   refine zAg rfl rfl rfl ?_
   refine zAg rfl rfl rfl ?_
   refine zAg rfl rfl rfl ?_
   refine zAg rfl rfl rfl ?_
   refine zAg rfl rfl rfl ?_
   refine zAg rfl rfl rfl ?_
   refine w_p (zAt (v := _) rfl rfl rfl rfl) rfl (w_p (zAl rfl rfl) rfl (zAe (zAb (gb _ _ (zBz rfl rfl ?_)))))
   refine zAf (fun gx gh => (zAa (zA9 rfl rfl (zAe (zAb (gh _ _ (zA0 (zAz (zAh (zA1 (l := [.tmp 5]) (vs := [_]) rfl ⟨⟨rfl, (rfl : _ = Value.int _ _)⟩, trivial⟩ ?_))))))))))
   try simp only [List.any_cons, List.any_nil, Bool.or_false, Bool.or_eq_false_iff] at g3
   exact ⟨congrArg (Value.int .i64) (by simp [trainE, g3]), g7.tail.tail⟩
  try simp only [zS] at g3
  refine w_y rfl rfl rfl (zAd (o := 1) (i := 1) underlying26 rfl sizeOf23 rfl rfl rfl) rfl ?_
  refine w_y rfl rfl rfl (zAi isAgg23 g7.tail.tail rfl rfl (show Ats _ _ _ _ [_] from Ats.part hb 1 1)) rfl ?_
  refine w_y rfl rfl rfl (zBd underlying23 rfl rfl) rfl ?_
  refine w_y rfl rfl rfl (zDk rfl rfl rfl rfl (by omega) (by omega)) rfl ?_
  refine w_y rfl rfl rfl (zAd (o := 1) (i := 1) underlying53 rfl sizeOf3 rfl rfl rfl) rfl ?_
  refine w_y rfl rfl rfl (zAi isAgg3 g7 rfl rfl (aow 1 [_])) rfl ?_
  refine zBc (ps := [(0, _)]) (pv := [(0, .int _ _)]) (cs := [_]) (zAm rfl rfl rfl) rfl rfl (fun w => zEo _ w) g7 (fun gy gz gi => ?_)
  refine zA4 (zAm rfl rfl rfl) call78 rfl rfl rfl rfl (c78 _ _ _ [_] _ (by simp) (zBx (i := 0) (rows := [[_]]) rfl (by simp) rfl) gi) ?_
  rintro _ gA ⟨rfl, g9⟩
  refine w_p (zBb (v := .bool _) rfl rfl rfl rfl) rfl (w_p (zAl rfl rfl) rfl (zAe (zAb (gb _ _ (zAv rfl rfl (fun g4 => ?_) (fun g4 => ?_))))))
  ·
   try simp only [zS] at g4
   refine zAf (fun gB gj => (zAa (zA9 rfl rfl (zAe (zAb (gj _ _ (zA0 (zAz (zAh (zA1 (l := [.tmp 5]) (vs := [_]) rfl ⟨⟨rfl, (rfl : _ = Value.int _ _)⟩, trivial⟩ ?_))))))))))
   try simp only [List.any_cons, List.any_nil, Bool.or_false, Bool.or_eq_false_iff] at g3 g4
   exact ⟨congrArg (Value.int .i64) (by simp [trainE, g3, g4]), g9.tail.tail.tail⟩
  try simp only [zS] at g4
  refine zAf (fun gC gc => (zAa (w_p (zAd (o := 2) (i := 2) underlying53 rfl sizeOf3 rfl rfl rfl) rfl (w_p (zAi isAgg3 g9 rfl rfl (aow 2 [_])) rfl ?_))))
  refine zBc (ps := [(0, _)]) (pv := [(0, .int _ _)]) (cs := [_]) zAc rfl rfl (fun w => zEo _ w) g9 (fun gD gE gk => ?_)
  refine zCi zAc call78 rfl rfl rfl rfl (c78 _ _ _ [_] _ (by simp) (zBx (i := 0) (rows := [[_]]) rfl (by simp) rfl) gk) (fun gF ga => ?_)
  refine w_p (zAn rfl rfl) rfl (zBk (fun g5 => ?_) (fun g5 => ?_))
  ·
   try simp only [zS] at g5
   refine zAg rfl rfl rfl ?_
   refine zAg rfl rfl rfl ?_
   refine zAg rfl rfl rfl ?_
   refine zAg rfl rfl rfl ?_
   refine w_p (zAt (v := _) rfl rfl rfl rfl) rfl (w_p (zAl rfl rfl) rfl (zAe (zAb (gc _ _ (zBz rfl rfl ?_)))))
   refine zAf (fun gG gm => (zAa (zA9 rfl rfl (zAe (zAb (gm _ _ (zA0 (zAz (zAh (zA1 (l := [.tmp 5]) (vs := [_]) rfl ⟨⟨rfl, (rfl : _ = Value.int _ _)⟩, trivial⟩ ?_))))))))))
   try simp only [List.any_cons, List.any_nil, Bool.or_false, Bool.or_eq_false_iff] at g3 g4 g5
   exact ⟨congrArg (Value.int .i64) (by simp [trainE, g3, g4, g5]), ga.tail.tail.tail.tail⟩
  try simp only [zS] at g5
  refine w_y rfl rfl rfl (zAd (o := 3) (i := 3) underlying53 rfl sizeOf3 rfl rfl rfl) rfl ?_
  refine w_y rfl rfl rfl (zAi isAgg3 ga rfl rfl (aow 3 [_])) rfl ?_
  refine zBc (ps := [(0, _)]) (pv := [(0, .int _ _)]) (cs := [_]) (zAm rfl rfl rfl) rfl rfl (fun w => zEo _ w) ga (fun gH gI gn => ?_)
  refine zA4 (zAm rfl rfl rfl) call78 rfl rfl rfl rfl (c78 _ _ _ [_] _ (by simp) (zBx (i := 0) (rows := [[_]]) rfl (by simp) rfl) gn) ?_
  rintro _ gJ ⟨rfl, gd⟩
  refine w_p (zBb (v := .bool _) rfl rfl rfl rfl) rfl (w_p (zAl rfl rfl) rfl (zAe (zAb (gc _ _ (zAv rfl rfl (fun g6 => ?_) (fun g6 => ?_))))))
  ·
   try simp only [zS] at g6
   refine zAf (fun gK gq => (zAa (zA9 rfl rfl (zAe (zAb (gq _ _ (zA0 (zAz (zAh (zA1 (l := [.tmp 5]) (vs := [_]) rfl ⟨⟨rfl, (rfl : _ = Value.int _ _)⟩, trivial⟩ ?_))))))))))
   try simp only [List.any_cons, List.any_nil, Bool.or_false, Bool.or_eq_false_iff] at g3 g4 g5 g6
   exact ⟨congrArg (Value.int .i64) (by simp [trainE, g3, g4, g5, g6]), gd.tail.tail.tail.tail.tail⟩
  try simp only [zS] at g6
  refine zAr (zAk (zAb (gf _ _ (zAf (fun gL gr => (zAa (zA9 rfl rfl (zAe (zAb (gr _ _ (zA0 (zA1 (l := [.tmp 5]) (vs := [_]) rfl ⟨⟨rfl, (rfl : _ = Value.int _ _)⟩, trivial⟩ ?_))))))))))))
  try simp only [List.any_cons, List.any_nil, Bool.or_false, Bool.or_eq_false_iff] at g3 g4 g5 g6
  exact ⟨congrArg (Value.int .i64) (by simp [trainE, g3, g4, g5, g6]), gd.tail.tail.tail.tail.tail⟩

def NI (bn : Nat) (nm : Nat → List ByteArray) (i : Nat) (B : List (Nat × Obj)) : Prop := ∃ v N, B = (bn, blk 55 [v]) :: N ∧ Rt.Own v 9 1 (nm i).length (strs (nm i)) N
theorem NI0 (bn : Nat) {nm : Nat → List ByteArray} (h : nm 0 = []) : NI bn nm 0 [(bn, blk 55 [.slice none 0 0])] := ⟨_, [], rfl, by rw [h]; exact zEv 9 1⟩
theorem nm_rooms {w0 : World} {G : List (Nat × Obj)} (l : List Room) (hn : ∀ x ∈ l, x.name.size ≤ 9223372036854775807) (hl : l.length ≤ 1000) (bn : Nat) (i : Nat) (hi : i < l.length) (X B : List (Nat × Obj)) (w : World) (hI : NI bn (fun i => (l.take i).map (·.name)) i B) (hs : St w0 w (X ++ (B ++ G))) :
    FCon Tryz.prog (.func (.func 105) #[] #[.pointer (some ⟨bn, 0, none⟩)]) [.int .i64 i, .agg l[i].cells.toArray] w fun v w' => v = .int .i64 (roomE (l.take i) l[i]) ∧ ∃ B', (roomE (l.take i) l[i] = 0 → NI bn (fun i => (l.take i).map (·.name)) (i + 1) B') ∧ St w0 w' (X ++ (B' ++ G)) := by
  obtain ⟨v, N, rfl, hown⟩ := hI
  have g3 : St w0 w ((bn, blk 55 [v]) :: (N ++ (X ++ G))) := hs.perm (zB3 X ((bn, blk 55 [v]) :: N) G)
  refine zDs call105 ((c105 i l[i] (hn _ (List.getElem_mem hi)) (l.take i) (by rw [List.length_take]; omega) bn v N hown g3).mono fun u w' h => ?_)
  obtain ⟨h1, v', N', h2, h3⟩ := h
  refine ⟨h1, (bn, blk 55 [v']) :: N', fun h => ⟨v', N', rfl, ?_⟩, h3.perm (zB3 ((bn, blk 55 [v']) :: N') X G)⟩
  have e : (l.take (i + 1)).map (·.name) = (l.take i).map (·.name) ++ [l[i].name] := by rw [List.take_succ_eq_append_getElem hi, List.map_append]; rfl
  show Rt.Own v' 9 1 ((l.take (i + 1)).map (·.name)).length (strs ((l.take (i + 1)).map (·.name))) N'
  rw [e]; exact h2 h
theorem nm_shops {w0 : World} {G : List (Nat × Obj)} (l : List Shop) (hn : ∀ x ∈ l, x.name.size ≤ 9223372036854775807) (hl : l.length ≤ 1000) (bn : Nat) (i : Nat) (hi : i < l.length) (X B : List (Nat × Obj)) (w : World) (hI : NI bn (fun i => (l.take i).map (·.name)) i B) (hs : St w0 w (X ++ (B ++ G))) :
    FCon Tryz.prog (.func (.func 108) #[] #[.pointer (some ⟨bn, 0, none⟩)]) [.int .i64 i, .agg l[i].cells.toArray] w fun v w' => v = .int .i64 (shopE (l.take i) l[i]) ∧ ∃ B', (shopE (l.take i) l[i] = 0 → NI bn (fun i => (l.take i).map (·.name)) (i + 1) B') ∧ St w0 w' (X ++ (B' ++ G)) := by
  obtain ⟨v, N, rfl, hown⟩ := hI
  have g3 : St w0 w ((bn, blk 55 [v]) :: (N ++ (X ++ G))) := hs.perm (zB3 X ((bn, blk 55 [v]) :: N) G)
  refine zDs call108 ((c108 i l[i] (hn _ (List.getElem_mem hi)) (l.take i) (by rw [List.length_take]; omega) bn v N hown g3).mono fun u w' h => ?_)
  obtain ⟨h1, v', N', h2, h3⟩ := h
  refine ⟨h1, (bn, blk 55 [v']) :: N', fun h => ⟨v', N', rfl, ?_⟩, h3.perm (zB3 ((bn, blk 55 [v']) :: N') X G)⟩
  have e : (l.take (i + 1)).map (·.name) = (l.take i).map (·.name) ++ [l[i].name] := by rw [List.take_succ_eq_append_getElem hi, List.map_append]; rfl
  show Rt.Own v' 9 1 ((l.take (i + 1)).map (·.name)).length (strs ((l.take (i + 1)).map (·.name))) N'
  rw [e]; exact h2 h
theorem c77 {w0 w : World} {F : List (Nat × Obj)} (m : Market) (p : At3) (hm : MIn w0 F m p)  (hs : St w0 w F) :
  Con Tryz.prog 77 [.agg (m.cells p).toArray] w fun v w' => v = .tuple #[.int .i64 (check m).1, .int .i64 (check m).2.1, .int .i64 (check m).2.2] ∧ St w0 w' F := by
  refine zAo (n := 39) func77 rfl rfl (zNl rfl) ?_
  have hlr := hm.lr
  have hls := hm.ls
  have hlt := hm.lt
  refine zAf (fun K2 gc => (zAa (zCd (v := .agg #[.slice _ _ _, .slice _ _ _, .slice _ _ _]) (cs := [_,_,_]) zAc rfl rfl rfl hs (fun b3 w4 gd => ?_))))
  refine zA9 rfl rfl (zA9 rfl rfl (zA9 rfl rfl (zAe (zAb (gc _ _ (zAf (fun K7 ge => (zAa (zA5 (cs := [_]) zAc zeroValue55 rfl gd (fun b8 w9 g9 => ?_))))))))))
  refine zAe (zAb (ge _ _ (zAf (fun gz gf => (zAa (w_p (zAd (o := 0) (i := 0) underlying26 rfl sizeOf22 rfl rfl rfl) rfl (w_p (zAi isAgg22 g9 rfl rfl (aow 1 [_])) rfl ?_)))))))
  refine w_p (zCl (fv := []) (cv := [_]) rfl rfl rfl rfl) rfl (zA4 zAc call104 rfl rfl rfl rfl (c104 (F := ((b3, blk 26 (m.cells p)) :: F)) _ _ m.rooms hlr hm.r.cons 3 (.func (.func 105) #[] #[.pointer (some ⟨b8,0, none⟩)]) roomE (NI b8 fun i => (m.rooms.take i).map (·.name)) [_] (NI0 _ rfl) (fun hle i hi X B w hI hs => nm_rooms m.rooms hm.nr (by omega) _ i hi X B w hI hs) g9) ?_)
  rintro _ gA ⟨rfl, B1, h_B1, g6⟩
  replace g6 := (show St _ _ (B1 ++ (_ :: F)) from g6)
  refine w_p (zA6 rfl rfl) rfl (w_p (zAq rfl rfl rfl) rfl (w_p (zAq rfl rfl rfl) rfl (zBg rfl rfl (zBg rfl rfl (zAe (zAb (gf _ _ (zAf (fun gB gg => (zAf (fun gC gh => (zAa (zA2 rfl rfl ?_)))))))))))))
  refine w_p (zCj rfl rfl rfl rfl) rfl (zAe (zAb (gh _ _ (zAv rfl rfl (fun g3 => ?_) (fun g3 => ?_)))))
  ·
   try simp only [zS] at g3
   refine zAf (fun gD gi => (zAa (zA2 rfl rfl (zA2 rfl rfl (zA9 rfl rfl (zBg rfl rfl (zBg rfl rfl (zAe (zAb (gi _ _ (zA0 (zAh (zA1 (l := [.tmp 2, .tmp 3, .tmp 4]) (vs := [_,_,_]) rfl ⟨⟨rfl, (rfl : _ = Value.int _ _)⟩, ⟨rfl, (rfl : _ = Value.int _ _)⟩, ⟨rfl, (rfl : _ = Value.int _ _)⟩, trivial⟩ ?_)))))))))))))
   refine ⟨tup3 ?_, g6.drop.tail⟩; unfold check; simp [g3]
  try simp only [zS] at g3
  refine zAr (zAb (gg _ _ (zAf (fun gE gj => ?_))))
  obtain ⟨v_B1, N_B1, rfl, _⟩ := h_B1 (by assumption)
  have gk := zFs (Y := N_B1) (show St _ _ (_ :: (N_B1 ++ (_ :: F))) from g6)
  refine zAa (zBt 0 (.slice _ _ _) [_] sizeOf55 gk (fun gF ga => ?_))
  refine zAe (zAb (gj _ _ (zAf (fun gG gm => (zAa (w_p (zAd (o := 1) (i := 1) underlying26 rfl sizeOf23 rfl rfl rfl) rfl (w_p (zAi isAgg23 ga rfl rfl (aow 1 [_])) rfl ?_)))))))
  refine w_p (zCl (fv := []) (cv := [_]) rfl rfl rfl rfl) rfl (zA4 zAc call107 rfl rfl rfl rfl (c107 (F := ((b3, blk 26 (m.cells p)) :: F)) _ _ m.shops hls hm.s.cons 4 (.func (.func 108) #[] #[.pointer (some ⟨b8,0, none⟩)]) shopE (NI b8 fun i => (m.shops.take i).map (·.name)) [_] (NI0 _ rfl) (fun hle i hi X B w hI hs => nm_shops m.shops hm.ns (by omega) _ i hi X B w hI hs) ga) ?_)
  rintro _ gH ⟨rfl, B2, h_B2, g7⟩
  replace g7 := (show St _ _ (B2 ++ (_ :: F)) from g7)
  refine w_p (zA6 rfl rfl) rfl (w_p (zAq rfl rfl rfl) rfl (w_p (zAq rfl rfl rfl) rfl (zBg rfl rfl (zBg rfl rfl (zAe (zAb (gm _ _ (zAf (fun gI gn => (zAf (fun gJ gq => (zAa (zA2 rfl rfl ?_)))))))))))))
  refine w_p (zCj rfl rfl rfl rfl) rfl (zAe (zAb (gq _ _ (zAv rfl rfl (fun g4 => ?_) (fun g4 => ?_)))))
  ·
   try simp only [zS] at g4
   refine zAf (fun gK gr => (zAa (zA2 rfl rfl (zA2 rfl rfl (zA9 rfl rfl (zBg rfl rfl (zBg rfl rfl (zAe (zAb (gr _ _ (zA0 (zAh (zA1 (l := [.tmp 2, .tmp 3, .tmp 4]) (vs := [_,_,_]) rfl ⟨⟨rfl, (rfl : _ = Value.int _ _)⟩, ⟨rfl, (rfl : _ = Value.int _ _)⟩, ⟨rfl, (rfl : _ = Value.int _ _)⟩, trivial⟩ ?_)))))))))))))
   refine ⟨tup3 ?_, g7.drop.tail⟩; unfold check; simp [g3, g4]
  try simp only [zS] at g4
  refine zAr (zAb (gn _ _ (zAf (fun gL gt => ?_))))
  obtain ⟨v_B2, N_B2, rfl, _⟩ := h_B2 (by assumption)
  have gb := zFs (Y := N_B2) (show St _ _ (_ :: (N_B2 ++ (_ :: F))) from g7)
  refine zAa (w_p (zAd (o := 2) (i := 2) underlying26 rfl sizeOf24 rfl rfl rfl) rfl (w_p (zAi isAgg24 gb rfl rfl (aow 1 [_])) rfl (w_p (zCl (fv := []) (cv := [_]) rfl rfl rfl rfl) rfl ?_)))
  refine zA4 zAc call109 rfl rfl rfl rfl (c109 (F := _ :: ((b3, blk 26 (m.cells p)) :: F)) _ _ m.trains hlt hm.t.cons.cons 6 (.func (.func 110) #[] #[.pointer (some ⟨b3,0, none⟩)]) (trainE m) (fun _ B => B = []) [] rfl (fun _ i hi X B w hI hs => zDs call110 ((c110 (F := X ++ (B ++ _)) m p hm.cons.cons.app.app i m.trains[i] _ (Ats.mono (zBm (i := 1) (vs := m.cells p) (L := _ :: ((b3, blk 26 (m.cells p)) :: F)) rfl rfl) fun _ h => h.drop.drop) _ hs).mono fun u w2 h => ⟨h.1, B, fun _ => hI, h.2⟩)) gb) ?_
  rintro _ gM ⟨rfl, B3, h_B3, g8⟩
  replace g8 := (show St _ _ (B3 ++ (_ :: _ :: F)) from g8)
  refine w_p (zA6 rfl rfl) rfl (w_p (zAq rfl rfl rfl) rfl (w_p (zAq rfl rfl rfl) rfl (zBg rfl rfl (zBg rfl rfl (zAe (zAb (gt _ _ (zAf (fun gN gu => (zAf (fun gO gw => (zAa (zA2 rfl rfl ?_)))))))))))))
  refine w_p (zCj rfl rfl rfl rfl) rfl (zAe (zAb (gw _ _ (zAv rfl rfl (fun g5 => ?_) (fun g5 => ?_)))))
  ·
   try simp only [zS] at g5
   refine zAf (fun gP gx => (zAa (zA2 rfl rfl (zA2 rfl rfl (zA9 rfl rfl (zBg rfl rfl (zBg rfl rfl (zAe (zAb (gx _ _ (zA0 (zAh (zA1 (l := [.tmp 2, .tmp 3, .tmp 4]) (vs := [_,_,_]) rfl ⟨⟨rfl, (rfl : _ = Value.int _ _)⟩, ⟨rfl, (rfl : _ = Value.int _ _)⟩, ⟨rfl, (rfl : _ = Value.int _ _)⟩, trivial⟩ ?_)))))))))))))
   refine ⟨tup3 ?_, g8.drop.tail.tail⟩; unfold check; simp [g3, g4, g5]
  try simp only [zS] at g5
  refine zAr (zAb (gu _ _ (zAf (fun gQ gy => (zAa (zA9 rfl rfl (zA9 rfl rfl (zA9 rfl rfl (zAe (zAb (gy _ _ (zA0 (zA1 (l := [.tmp 2, .tmp 3, .tmp 4]) (vs := [_,_,_]) rfl ⟨⟨rfl, (rfl : _ = Value.int _ _)⟩, ⟨rfl, (rfl : _ = Value.int _ _)⟩, ⟨rfl, (rfl : _ = Value.int _ _)⟩, trivial⟩ ?_)))))))))))))
  refine ⟨tup3 ?_, g8.drop.tail.tail⟩; unfold check; simp [g3, g4, g5]

end Go.Proofs.Sb
set_option maxRecDepth 20000
namespace Go.Proofs.Sb
open Go.Proofs.Tryz
open Go.Rt Go.Rt.Sh
attribute [local irreducible] WL WC Con Yd At Ats Sl Agree DW
theorem Try_SE_fb1 (x0 : Int) (w : World) : (Instr.buildSlice 30 1 [(0, .int .i64 x0)].toArray).run Tryz.prog w = .ok (.slice (some ⟨w.heap.size, 0, none⟩) 1 1) (w.alloc (Go.Rt.blk 3 [.int .i64 x0])) := by kernel_rfl
theorem Try_SE_fb2 (x0 : Option Addr) (l0 c0 : Nat) (x1 : Option Addr) (l1 c1 : Nat) (x2 : Option Addr) (l2 c2 : Nat) (x3 : Option Nat) (w : World) : (Instr.build 146 [(0, .agg #[.slice x0 l0 c0, .slice x1 l1 c1, .slice x2 l2 c2]),(1, .map x3)].toArray).run Tryz.prog w = .ok (.agg #[.slice x0 l0 c0, .slice x1 l1 c1, .slice x2 l2 c2, .map x3]) w := by kernel_rfl
theorem zDf : Tryz.prog.info? 3 = some Tryz.t3 := by kernel_rfl
def Memo (m : Market) (mm : Nat) (M : List (Nat × Obj)) : Prop := ∃ es ck, M = [(mm, .map es ck)] ∧ ∀ e ∈ es.toList, ∃ x, x.length = 8 ∧ e.key = ia x ∧ e.val = ia (lacksV m x)
theorem zEl (m : Market) (mm : Nat) : Memo m mm [(mm, .map #[] 0)] := ⟨#[], 0, rfl, fun e he => by simp at he⟩
structure MK (w0 : World) (F : List (Nat × Obj)) (m : Market) (p : At3) (mb mm : Nat) : Prop where
  i : MIn w0 F m p
  b : Ats w0 F mb 0 [.slice p.ar m.rooms.length p.cr, .slice p.az m.shops.length p.cs, .slice p.at_ m.trains.length p.ct, .map (some mm)]
  ok : m.Ok
theorem MK.mono {w0 : World} {F F' : List (Nat × Obj)} {m : Market} {p : At3} {mb mm : Nat} (h : MK w0 F m p mb mm) (hs : ∀ w, St w0 w F' → St w0 w F) : MK w0 F' m p mb mm := ⟨h.i.mono hs, h.b.mono hs, h.ok⟩
theorem MK.cons {w0 : World} {F : List (Nat × Obj)} {x : Nat × Obj} {m : Market} {p : At3} {mb mm : Nat} (h : MK w0 F m p mb mm) : MK w0 (x :: F) m p mb mm := h.mono fun _ h => h.tail
theorem MK.app {w0 : World} {F B : List (Nat × Obj)} {m : Market} {p : At3} {mb mm : Nat} (h : MK w0 F m p mb mm) : MK w0 (B ++ F) m p mb mm := h.mono fun _ h => h.drop
theorem two_of_four {w0 w : World} {F : List (Nat × Obj)} {a b c : Nat × Obj} (h : St w0 w (a :: b :: c :: F)) : St w0 w (a :: b :: F) := (h.perm (zB3 [a, b] [c] F)).tail
theorem _root_.Go.Rt.Sl.top {w0 : World} {B F : List (Nat × Obj)} {a : Option Addr} {sz : Nat} {rows : List (List Value)} (h : Sl w0 B a sz rows) : Sl w0 (B ++ F) a sz rows := h.mono fun _ h => h.front
theorem zFx {w0 w : World} {M F : List (Nat × Obj)} {b c : Nat × Obj} (h : St w0 w (M ++ (b :: c :: F))) : St w0 w (M ++ (b :: F)) := by
  have e : M ++ (b :: c :: F) = (M ++ [b]) ++ ([c] ++ F) := by simp
  rw [e] at h
  have h2 := (h.perm (zB3 (M ++ [b]) [c] F)).tail
  have e2 : (M ++ [b]) ++ F = M ++ (b :: F) := by simp
  exact e2 ▸ h2
theorem two_front {w0 w : World} {F : List (Nat × Obj)} {a b x : Nat × Obj} (h : St w0 w (a :: b :: x :: F)) : St w0 w (a :: b :: F) := two_of_four h
theorem c46 {w0 w : World} {F : List (Nat × Obj)} (m : Market) (p : At3) (mb mm : Nat) (hk : MK w0 F m p mb mm) (i : Nat) (hi : i < m.trains.length) (hs : St w0 w F) :
  Con Tryz.prog 46 [.pointer (some ⟨mb, 0, none⟩), .int .i64 i] w fun v w' => v = .bool (leaves m m.trains[i]) ∧ St w0 w' F := by
  refine zAo (n := 44) func46 rfl rfl (zNl rfl) ?_
  obtain ⟨ar, cr, as_, cs, at_, ct⟩ := p
  have hb := hk.b
  have ht := hk.ok.train _ (List.getElem_mem hi)
  have hlr := hk.ok.lr
  have hls := hk.ok.ls
  have hlt := hk.ok.lt
  obtain ⟨bt, ot, rfl, hxt⟩ := sl_trows hk.i.t hi
  have hir : m.trains[i].room.toNat < m.rooms.length := by omega
  have his : m.trains[i].shop.toNat < m.shops.length := by omega
  obtain ⟨br, or_, rfl, hxr⟩ := sl_rrows hk.i.r hir
  obtain ⟨bs, os, rfl, hxs⟩ := sl_srows hk.i.s his
  have hrr := hk.ok.room _ (List.getElem_mem hir)
  have hss := hk.ok.shop _ (List.getElem_mem his)
  refine zAf (fun K2 g8 => (zAa (zA9 rfl rfl (zAe (zAb (g8 _ _ (zAf (fun K4 g9 => (zAa (w_p (zBi rfl rfl) rfl (w_p (zBl rfl rfl) rfl ?_)))))))))))
  refine w_p (zAd (o := 0) (i := 0) underlying146 rfl sizeOf26 rfl rfl rfl) rfl (w_p (zAd (o := 2) (i := 2) underlying26 rfl sizeOf24 rfl rfl rfl) rfl (w_p (zAi isAgg24 hs rfl rfl (show Ats _ _ _ _ [_] from Ats.part hb 2 1)) rfl (zA2 rfl rfl (w_p (zA7 underlying24 sizeOf53 rfl rfl rfl rfl (i := _) rfl (by omega)) rfl ?_))))
  refine w_p (zAs (vs := [_,_,_,_]) isAgg53 sizeOf53 hs rfl rfl hxt) rfl (zA5 (cs := [_,_,_,_]) zAc zeroValue53 rfl hs (fun b5 w6 ga => ?_))
  refine zBt 0 (.agg #[.int _ _, .int _ _, .int _ _, .int _ _]) [_,_,_,_] sizeOf53 ga (fun w8 gb => ?_)
  refine zAe (zAb (g9 _ _ (zAf (fun gf gc => (zCc [10] [(0,0),(1,0),(2,0),(3,0),(4,1),(5,0),(6,1),(7,0),(8,1),(9,2),(10,3)] zB7 (by kernel_rfl) gb (fun gg g4 => ?_))))))
  refine d_w rfl (fun _ => zBi rfl rfl) rfl (d_w rfl (fun _ => zBl rfl rfl) rfl (d_w rfl (fun _ => zAd (o := 0) (i := 0) underlying146 rfl sizeOf26 rfl rfl rfl) rfl (d_w rfl (fun _ => zAd (o := 0) (i := 0) underlying26 rfl sizeOf22 rfl rfl rfl) rfl ?_)))
  refine zA3 rfl zAc rfl g4 (fun _ hq => (zAi isAgg22 hq.tail rfl rfl (show Ats _ _ _ _ [_] from Ats.part hb 0 1))) ?_
  refine d_w rfl (fun _ => zAd (o := 0) (i := 0) underlying53 rfl sizeOf3 rfl rfl rfl) rfl ?_
  refine zA3 rfl zAc rfl g4 (fun _ hq => (zAi isAgg3 hq rfl rfl (aow 0 [_]))) ?_
  refine d_w rfl (fun _ => zA7 underlying22 sizeOf44 rfl rfl rfl rfl (i := (m.trains[i]'hi).room.toNat) (by omega) (by omega)) rfl ?_
  refine zA3 rfl zAc rfl g4 (fun _ hq => (zAs (vs := [_,_,_,_,_]) isAgg44 sizeOf44 hq.tail rfl rfl hxr)) ?_
  refine zB0 rfl ?_
  refine zA5 (cs := [_,_,_,_,_]) zAc zeroValue44 rfl g4 (fun gh gi g5 => ?_)
  refine zAe (qn ⟨g5.tail, ?_⟩)
  refine zCa rfl ?_
  refine zBt 0 (.agg #[.string _, .int _ _, .int _ _, .int _ _, .int _ _]) [_,_,_,_,_] sizeOf44 g5 (fun gj gd => ?_)
  refine zAe (qn ?_)
  refine zB5 ?_
  refine zAb (gc _ _ (zAf (fun gk ge => (zCc [] [(0,0),(1,1),(2,0),(3,1),(4,0),(5,0),(6,0),(7,0),(8,1),(9,0),(10,1),(11,0),(12,0),(13,1),(14,0),(15,1),(16,0),(17,2),(18,2),(19,0),(20,0)] zB7 (by kernel_rfl) gd (fun gm g3 => ?_)))))
  refine d_w rfl (fun _ => zAd (o := 3) (i := 2) underlying44 rfl sizeOf3 rfl rfl rfl) rfl ?_
  refine zA3 rfl zAc rfl g3 (fun _ hq => (zAi isAgg3 hq rfl rfl (aow 0 [_]))) ?_
  refine d_w rfl (fun _ => zAd (o := 4) (i := 3) underlying44 rfl sizeOf3 rfl rfl rfl) rfl ?_
  refine zA3 rfl zAc rfl g3 (fun _ hq => (zAi isAgg3 hq rfl rfl (aow 0 [_]))) ?_
  refine d_w rfl (fun _ => zBi rfl rfl) rfl (d_w rfl (fun _ => zBl rfl rfl) rfl (d_w rfl (fun _ => zAd (o := 0) (i := 0) underlying146 rfl sizeOf26 rfl rfl rfl) rfl (d_w rfl (fun _ => zAd (o := 1) (i := 1) underlying26 rfl sizeOf23 rfl rfl rfl) rfl ?_)))
  refine zA3 rfl zAc rfl g3 (fun _ hq => (zAi isAgg23 hq.tail.tail rfl rfl (show Ats _ _ _ _ [_] from Ats.part hb 1 1))) ?_
  refine d_w rfl (fun _ => zAd (o := 1) (i := 1) underlying53 rfl sizeOf3 rfl rfl rfl) rfl ?_
  refine zA3 rfl zAc rfl g3 (fun _ hq => (zAi isAgg3 hq rfl rfl (aow 1 [_]))) ?_
  refine d_w rfl (fun _ => zA7 underlying23 sizeOf51 rfl rfl rfl rfl (i := (m.trains[i]'hi).shop.toNat) (by omega) (by omega)) rfl (d_w rfl (fun _ => zAd (o := 1) (i := 1) underlying51 rfl sizeOf3 rfl rfl rfl) rfl ?_)
  refine zA3 rfl zAc rfl g3 (fun _ hq => (zAi isAgg3 hq.tail.tail rfl rfl (show Ats _ _ _ _ [_] from Ats.part hxs 1 1))) ?_
  refine d_w rfl (fun _ => zAd (o := 2) (i := 2) underlying53 rfl sizeOf3 rfl rfl rfl) rfl ?_
  refine zA3 rfl zAc rfl g3 (fun _ hq => (zAi isAgg3 hq rfl rfl (aow 1 [_]))) ?_
  refine d_w rfl (fun _ => zDk rfl rfl rfl rfl (by omega) (by omega)) rfl ?_
  refine zB0 rfl ?_
  refine zBc (ps := [(0, _)]) (pv := [(0, .int _ _)]) (cs := [_]) zAc rfl rfl (fun w => Try_SE_fb1 _ w) g3 (fun gn gq g6 => ?_)
  refine zAe (qn ⟨g6.tail, ?_⟩)
  refine zB0 rfl ?_
  refine zCi zAc call78 rfl rfl rfl rfl (c78 _ _ _ [_] _ (by simp) (zBx (i := 0) (rows := [[_]]) rfl (by simp) rfl) g6) (fun gr g7 => ?_)
  refine zAe (qn ⟨g7.tail, ?_⟩)
  refine d_w rfl (fun _ => zC0 rfl rfl) rfl (d_w rfl (fun _ => zAl rfl rfl) rfl ?_)
  refine zB5 ?_
  refine zAb (ge _ _ (zA0 (zA1 (l := [.tmp 4]) (vs := [_]) rfl ⟨⟨rfl, (rfl : _ = Value.bool _)⟩, trivial⟩ ?_)))
  exact ⟨congrArg Value.bool (by rw [leaves_at hir his]; simp), g7.tail.tail.tail⟩

theorem c72 {w0 w : World} {F : List (Nat × Obj)} (m : Market) (p : At3) (hs : St w0 w F) :
  Con Tryz.prog 72 [.agg (m.cells p).toArray] w fun v w' => ∃ mb mm M, v = .pointer (some ⟨mb, 0, none⟩) ∧ Memo m mm M ∧ St w0 w' (M ++ ((mb, blk 146 [.slice p.ar m.rooms.length p.cr, .slice p.az m.shops.length p.cs, .slice p.at_ m.trains.length p.ct, .map (some mm)]) :: F)) := by
  refine zAo (n := 7) func72 rfl rfl (zNl rfl) ?_
  refine zAf (fun K2 g4 => (zAa (zCd (v := .agg #[.slice _ _ _, .slice _ _ _, .slice _ _ _]) (cs := [_,_,_]) zAc rfl rfl rfl hs (fun b3 w4 g3 => ?_))))
  refine zA9 rfl rfl (zAe (zAb (g4 _ _ (zAf (fun K7 g5 => (zAa (w_p (zAs (vs := [_,_,_]) isAgg26 sizeOf26 g3 rfl rfl (aow 0 [_,_,_])) rfl ?_)))))))
  refine w_makeMap zAc g3 (fun b8 w9 g6 => ?_)
  refine w_p (zCh (ps := [(0, _),(1, _)]) (pv := [(0, .agg #[.slice _ _ _, .slice _ _ _, .slice _ _ _]),(1, .map _)]) rfl rfl (fun w => Try_SE_fb2 _ _ _ _ _ _ _ _ _ _ w)) rfl (zCd (v := .agg #[.slice _ _ _, .slice _ _ _, .slice _ _ _, .map _]) (cs := [_,_,_,_]) zAc rfl rfl rfl g6 (fun g8 g9 g7 => ?_))
  refine w_p (zBu rfl rfl) rfl (zAe (zAb (g5 _ _ (zA0 (zA1 (l := [.tmp 2]) (vs := [_]) rfl ⟨⟨rfl, show _ = (.pointer _ : Value) from rfl⟩, trivial⟩ ?_)))))
  exact ⟨_, _,_, rfl, zEl m _, (two_front g7).perm (List.Perm.swap _ _ _)⟩

theorem c45 {w0 w : World} {F : List (Nat × Obj)} (m : Market) (p : At3) (hm : MIn w0 F m p) (n : Int) (hn0 : 0 ≤ n) (hn1 : n ≤ 9223372036854775807) (al : Option Addr) (cl : Nat) (l : List Int) (hll : l.length ≤ 9223372036854775807) (hl : Sl w0 F al 1 (l.map fun x => [Value.int .i64 x]))  (hs : St w0 w F) :
  Con Tryz.prog 45 [.agg (m.cells p).toArray, .int .i64 n, .slice al l.length cl] w fun v w' => (enterE m n l ≠ 0 ∧ v = .tuple #[.pointer none, .int .i64 (enterE m n l)] ∧ St w0 w' F) ∨ (enterE m n l = 0 ∧ ∃ mb mm M, v = .tuple #[.pointer (some ⟨mb, 0, none⟩), .int .i64 0] ∧ Memo m mm M ∧ St w0 w' (M ++ ((mb, blk 146 [.slice p.ar m.rooms.length p.cr, .slice p.az m.shops.length p.cs, .slice p.at_ m.trains.length p.ct, .map (some mm)]) :: F))) := by
  refine zAo (n := 28) func45 rfl rfl (zNl rfl) ?_
  refine zAf (fun K2 g9 => (zAa (zCd (v := .agg #[.slice _ _ _, .slice _ _ _, .slice _ _ _]) (cs := [_,_,_]) zAc rfl rfl rfl hs (fun b3 w4 g8 => ?_))))
  refine zA9 rfl rfl (zA9 rfl rfl (zAe (zAb (g9 _ _ (zAf (fun K7 ga => (zAa (w_p (zAs (vs := [_,_,_]) isAgg26 sizeOf26 g8 rfl rfl (aow 0 [_,_,_])) rfl ?_))))))))
  refine zCi zAc call77 rfl rfl rfl rfl (c77 m _ hm.cons g8) (fun w9 g5 => ?_)
  refine w_p (zA6 rfl rfl) rfl (w_p (zAq rfl rfl rfl) rfl (w_p (zAq rfl rfl rfl) rfl (w_p (zAq rfl rfl rfl) rfl (zBg rfl rfl (zBg rfl rfl (zBg rfl rfl (zAe (zAb (ga _ _ (zAf (fun gh gb => (zAw ?_))))))))))))
  refine zAf (fun gi gc => (zAa (zA2 rfl rfl (w_p (zCj rfl rfl rfl rfl) rfl (w_p (zAl rfl rfl) rfl (zAe (zAb (gc _ _ (zAv rfl rfl (fun g6 => ?_) (fun g6 => ?_))))))))))
  ·
   try simp only [zS] at g6
   refine zAf (fun gj gd => (zAa (zA2 rfl rfl (zA9 rfl rfl (zBg rfl rfl (zAe (zAb (gd _ _ (zA0 (zAz (zAh (zA1 (l := [.tmp 6, .tmp 7]) (vs := [_,_]) rfl ⟨⟨rfl, show _ = (.pointer _ : Value) from rfl⟩, ⟨rfl, (rfl : _ = Value.int _ _)⟩, trivial⟩ ?_))))))))))))
   first
     | exact .inl ⟨by rw [zFv (by assumption)]; assumption, by rw [zFv (by assumption)]; rfl, g5.tail⟩
     | exact .inl ⟨by rw [zFu (by assumption) (by assumption)]; decide, by rw [zFu (by assumption) (by assumption)]; rfl, g5.tail⟩
     | exact .inr ⟨enterE_0 (by assumption) (by assumption), mb, mm, M, rfl, hM, zFx g5⟩
  try simp only [zS] at g6
  refine zAf (fun gk ge => (zAa (zA2 rfl rfl (w_p (zDk rfl rfl rfl rfl (by omega) (by omega)) rfl (w_p (zAx rfl rfl) rfl (zCi zAc call78 rfl rfl rfl rfl (c78 _ _ _ _ _ (by omega) hl.cons g5) (fun gm g3 => ?_)))))))
  refine w_p (zAl rfl rfl) rfl (zAe (zAb (ge _ _ (zAv rfl rfl (fun g7 => ?_) (fun g7 => ?_)))))
  ·
   try simp only [zS] at g7
   refine zAf (fun gn gf => (zAa (zA9 rfl rfl (zA9 rfl rfl (zAe (zAb (gf _ _ (zA0 (zAz (zAh (zA1 (l := [.tmp 6, .tmp 7]) (vs := [_,_]) rfl ⟨⟨rfl, show _ = (.pointer _ : Value) from rfl⟩, ⟨rfl, (rfl : _ = Value.int _ _)⟩, trivial⟩ ?_)))))))))))
   first
     | exact .inl ⟨by rw [zFv (by assumption)]; assumption, by rw [zFv (by assumption)]; rfl, g3.tail⟩
     | exact .inl ⟨by rw [zFu (by assumption) (by assumption)]; decide, by rw [zFu (by assumption) (by assumption)]; rfl, g3.tail⟩
     | exact .inr ⟨enterE_0 (by assumption) (by assumption), mb, mm, M, rfl, hM, zFx g3⟩
  try simp only [zS] at g7
  refine zAr (zAk (zAb (gb _ _ (zAf (fun gq gg => (zAa (w_p (zAs (vs := [_,_,_]) isAgg26 sizeOf26 g3 rfl rfl (aow 0 [_,_,_])) rfl ?_)))))))
  refine zA4 zAc call72 rfl rfl rfl rfl (c72 m p g3) ?_
  rintro _ gr ⟨mb, mm, M, rfl, hM, g4⟩
  replace g4 := (show St _ _ (M ++ (_ :: _ :: F)) from g4)
  refine w_p (zBu rfl rfl) rfl (zA9 rfl rfl (zAe (zAb (gg _ _ (zA0 (zA1 (l := [.tmp 6, .tmp 7]) (vs := [_,_]) rfl ⟨⟨rfl, show _ = (.pointer _ : Value) from rfl⟩, ⟨rfl, (rfl : _ = Value.int _ _)⟩, trivial⟩ ?_))))))
  first
    | exact .inl ⟨by rw [zFv (by assumption)]; assumption, by rw [zFv (by assumption)]; rfl, g4.drop.tail.tail⟩
    | exact .inl ⟨by rw [zFu (by assumption) (by assumption)]; decide, by rw [zFu (by assumption) (by assumption)]; rfl, g4.drop.tail.tail⟩
    | exact .inr ⟨enterE_0 (by assumption) (by assumption), mb, mm, M, rfl, hM, zFx g4⟩

theorem c117 {w0 w : World} {F : List (Nat × Obj)} (x : Int) (hs : St w0 w F) :
  Con Tryz.prog 117 [.int .i64 x] w fun v w' => v = .bool false ∧ St w0 w' F := by
  refine zAo (n := 6) func117 rfl rfl (zNl rfl) ?_
  refine zAf (fun K2 g3 => (zAa (zA9 rfl rfl (zAe (zAb (g3 _ _ (zAf (fun K4 g4 => (zAa (zA2 rfl rfl (zA2 rfl rfl (w_p (zCj rfl rfl rfl rfl) rfl ?_))))))))))))
  refine w_p (zAl rfl rfl) rfl (zAe (zAb (g4 _ _ (zA0 (zA1 (l := [.tmp 2]) (vs := [_]) rfl ⟨⟨rfl, (rfl : _ = Value.bool _)⟩, trivial⟩ ?_)))))
  exact ⟨by simp [retV], hs⟩

def cmpI (a b : Int) : Int := if a < b then -1 else if b < a then 1 else 0
theorem c99 {w0 w : World} {F : List (Nat × Obj)} (a b : Int) (hs : St w0 w F) :
  Con Tryz.prog 99 [.int .i64 a, .int .i64 b] w fun v w' => v = .int .i64 (cmpI a b) ∧ St w0 w' F := by
  refine zAo (n := 20) func99 rfl rfl (zNl rfl) ?_
  refine zAf (fun K2 g6 => (zAa (zA9 rfl rfl (zAe (zAb (g6 _ _ (zAf (fun K4 g7 => (zAa (zA2 rfl rfl (zCi zAc call117 rfl rfl rfl rfl (c117 _ hs) (fun w6 g8 => ?_))))))))))))
  refine w_p (zAl rfl rfl) rfl (zAe (zAb (g7 _ _ (zAf (fun K9 g9 => (zAa (zA2 rfl rfl (zCi zAc call117 rfl rfl rfl rfl (c117 _ g8) (fun gm g3 => ?_)))))))))
  refine w_p (zAl rfl rfl) rfl (zAe (zAb (g9 _ _ (zAf (fun gn ga => (zAf (fun gq gb => (zAa (w_p (zAn rfl rfl) rfl (zAe (zAb (gb _ _ (zBj rfl rfl ?_)))))))))))))
  refine zAr (zAb (ga _ _ (zAf (fun gr gc => (zAf (fun gt gd => (zAa (w_p (zAn rfl rfl) rfl (zAe (zAb (gd _ _ (zBj rfl rfl ?_))))))))))))
  refine zAr (zAb (gc _ _ (zAf (fun gu ge => (zAf (fun gw gf => (zAa (zA2 rfl rfl (zA2 rfl rfl (w_p (zCb rfl rfl rfl rfl) rfl (zAe (zAb (gf _ _ (zAv rfl rfl (fun g4 => ?_) (fun g4 => ?_)))))))))))))))
  ·
   try simp only [zS] at g4
   refine zAf (fun gx gg => (zAa (zA9 rfl rfl (zAe (zAb (gg _ _ (zA0 (zAh (zA1 (l := [.tmp 4]) (vs := [_]) rfl ⟨⟨rfl, (rfl : _ = Value.int _ _)⟩, trivial⟩ ?_)))))))))
   exact ⟨congrArg (Value.int .i64) (by unfold cmpI; (repeat' split) <;> first | rfl | omega), g3⟩
  try simp only [zS] at g4
  refine zAr (zAb (ge _ _ (zAf (fun gy gh => (zAf (fun gz gi => (zAa (zA2 rfl rfl (zA2 rfl rfl (w_p (zD5 rfl rfl rfl rfl) rfl (zAe (zAb (gi _ _ (zAv rfl rfl (fun g5 => ?_) (fun g5 => ?_)))))))))))))))
  ·
   try simp only [zS] at g5
   refine zAf (fun gA gj => (zAa (zA9 rfl rfl (zAe (zAb (gj _ _ (zA0 (zAh (zA1 (l := [.tmp 4]) (vs := [_]) rfl ⟨⟨rfl, (rfl : _ = Value.int _ _)⟩, trivial⟩ ?_)))))))))
   exact ⟨congrArg (Value.int .i64) (by unfold cmpI; (repeat' split) <;> first | rfl | omega), g3⟩
  try simp only [zS] at g5
  refine zAr (zAb (gh _ _ (zAf (fun gB gk => (zAa (zA9 rfl rfl (zAe (zAb (gk _ _ (zA0 (zA1 (l := [.tmp 4]) (vs := [_]) rfl ⟨⟨rfl, (rfl : _ = Value.int _ _)⟩, trivial⟩ ?_)))))))))))
  exact ⟨congrArg (Value.int .i64) (by unfold cmpI; (repeat' split) <;> first | rfl | omega), g3⟩

theorem zEm {a b : List Int} {i : Nat} (h : a.take i = b.take i) (ha : i < a.length) (hb : i < b.length) (hne : ¬ cmpI a[i] b[i] = 0) : decide (cmpI a[i] b[i] < 0) = less a b := by
  have hn : a[i] ≠ b[i] := fun e => hne (by unfold cmpI; rw [e]; simp)
  rw [zDn h ha hb hn]
  unfold cmpI
  rw [Bool.eq_iff_iff]
  simp only [decide_eq_true_eq]
  split
  · simp [*]
  · split <;> simp <;> omega
theorem cmp_zero {a b : Int} (h : cmpI a b = 0) : a = b := by
  unfold cmpI at h
  split at h
  · omega
  · split at h <;> omega
theorem c65 {w0 w : World} {F : List (Nat × Obj)} (aa ab : Option Addr) (a b : List Int) (ca cb : Nat) (hla : a.length ≤ 9223372036854775807) (hlb : b.length ≤ 9223372036854775807) (ha : Sl w0 F aa 1 (a.map fun x => [Value.int .i64 x])) (hb : Sl w0 F ab 1 (b.map fun x => [Value.int .i64 x])) (hs : St w0 w F) :
  Con Tryz.prog 65 [.slice aa a.length ca, .slice ab b.length cb] w fun v w' => (∃ z, v = .int .i64 z ∧ decide (z < 0) = less a b) ∧ St w0 w' F := by
  refine zAo (n := 36) func65 rfl rfl (zNl rfl) ?_
  refine zAf (fun K2 g8 => (zAa (zA9 rfl rfl (zAe (zAb (g8 _ _ (zAf (fun K4 g9 => (zAf (fun K6 ga => (zAa (w_p (zAx rfl rfl) rfl ?_))))))))))))
  refine w_p (zBd underlying30 rfl rfl) rfl (w_p (zBo (v := _) rfl rfl) rfl (zAe (zAb (ga _ _ (zAw ?_)))))
  refine zB2 [4,5,6,7,8,11,12,13,14,15,16,17,18,19,20,21,22,23,24,25,26,27,28,29,30] [11] (fun k vs w => ∃ i : Nat, vs = [.int .i64 i] ∧ i ≤ a.length ∧ i ≤ b.length ∧ k = a.length - i ∧ a.take i = b.take i ∧ St w0 w F) (a.length) ?_ ?_
  ·
   exact ⟨0, rfl, by omega, by omega, by omega, rfl, hs⟩
  intro k vs μ w9 hI K8 gb
  obtain ⟨i, rfl, hia, hib, rfl, hpre, hs⟩ := hI
  refine zAf (fun gw gc => (zAa (w_p (zCb rfl rfl rfl rfl) rfl (zAe (zAb (gc _ _ (zAf (fun gx gd => (zAv rfl rfl (fun g4 => ?_) (fun g4 => ?_))))))))))
  ·
   try simp only [zS] at g4
   refine zAr (zAb (gd _ _ (zAf (fun gy ge => (zAw ?_)))))
   refine zAf (fun gz gf => ?_)
   have hia2 : i < a.length := by omega
   obtain ⟨ba, oa, rfl, hxa⟩ := zCy ha hia2
   refine zAa (zA2 rfl rfl (w_p (zA7 underlying30 sizeOf3 rfl rfl rfl rfl (i := _) rfl (by omega)) rfl (w_p (zAi isAgg3 hs rfl rfl hxa) rfl (zBg rfl rfl (zBg rfl rfl (zAe (zAb (gf _ _ (zAf (fun gA gg => (zAf (fun gB gh => (zAa (zA2 rfl rfl ?_))))))))))))))
   refine w_p (zAx rfl rfl) rfl (w_p (zBd underlying30 rfl rfl) rfl (w_p (zHv rfl rfl rfl rfl) rfl (zAe (zAb (gh _ _ (zAv rfl rfl (fun g5 => ?_) (fun g5 => ?_)))))))
   ·
    try simp only [zS] at g5
    refine zAf (fun gC gi => (zAa (zA9 rfl rfl (zAe (zAb (gi _ _ (zA0 (zAh (zAz (zAh (zAh (zAz (zAh (zA1 (l := [.tmp 4]) (vs := [_]) rfl ⟨⟨rfl, (rfl : _ = Value.int _ _)⟩, trivial⟩ ?_))))))))))))))
    first
      | exact ⟨⟨_, rfl, zEm hpre hia2 hib2 (by assumption)⟩, hs⟩
      | exact ⟨⟨_, rfl, by rw [zC7 hpre hia (by omega)]; rfl⟩, hs⟩
      | exact ⟨⟨_, rfl, by rw [zCn hpre (by omega) (by omega)]; rfl⟩, hs⟩
   try simp only [zS] at g5
   refine zAr (zAb (gg _ _ (zAf (fun gD gj => ?_))))
   have hib2 : i < b.length := by omega
   obtain ⟨bb, ob, rfl, hxb⟩ := zCy hb hib2
   refine zAa (w_p (zAx rfl rfl) rfl (zA2 rfl rfl (w_p (zA7 underlying30 sizeOf3 rfl rfl rfl rfl (i := _) rfl (by omega)) rfl (w_p (zAi isAgg3 hs rfl rfl hxb) rfl (zBg rfl rfl (zAe (zAb (gj _ _ (zAf (fun gE gk => (zAa (zA2 rfl rfl ?_))))))))))))
   refine zA2 rfl rfl (zCi zAc call99 rfl rfl rfl rfl (c99 _ _ hs) (fun gF g3 => ?_))
   refine zBg rfl rfl (zAe (zAb (gk _ _ (zAf (fun gG gm => (zAa (zA2 rfl rfl (w_p (zCj rfl rfl rfl rfl) rfl (zAe (zAb (gm _ _ (zAv rfl rfl (fun g6 => ?_) (fun g6 => ?_)))))))))))))
   ·
    try simp only [zS] at g6
    refine zAf (fun gH gn => (zAa (zA2 rfl rfl (zBg rfl rfl (zAe (zAb (gn _ _ (zA0 (zAz (zAh (zAh (zAz (zAh (zA1 (l := [.tmp 4]) (vs := [_]) rfl ⟨⟨rfl, (rfl : _ = Value.int _ _)⟩, trivial⟩ ?_))))))))))))))
    first
      | exact ⟨⟨_, rfl, zEm hpre hia2 hib2 (by assumption)⟩, g3⟩
      | exact ⟨⟨_, rfl, by rw [zC7 hpre hia (by omega)]; rfl⟩, g3⟩
      | exact ⟨⟨_, rfl, by rw [zCn hpre (by omega) (by omega)]; rfl⟩, g3⟩
   try simp only [zS] at g6
   refine zAr (zAk (zAb (ge _ _ (zAa (w_p (zBe rfl rfl rfl rfl (by omega) (by omega)) rfl (zA2 rfl rfl (zAe (zAb (gb _ _ (nxI (a.length - (i + 1)) (by omega) ?_))))))))))
   exact ⟨i + 1, rfl, by omega, by omega, rfl, zFh hpre (by omega) (by omega) (cmp_zero (by assumption)), g3⟩
  try simp only [zS] at g4
  refine zBr (zAj (zAj (zAy (zAb (g9 _ _ (zAf (fun gI gq => (zAf (fun gJ gr => (zAa (w_p (zAx rfl rfl) rfl ?_)))))))))))
  refine w_p (zBd underlying30 rfl rfl) rfl (w_p (zAx rfl rfl) rfl (w_p (zBd underlying30 rfl rfl) rfl (w_p (zCb rfl rfl rfl rfl) rfl (zAe (zAb (gr _ _ (zAv rfl rfl (fun g7 => ?_) (fun g7 => ?_))))))))
  ·
   try simp only [zS] at g7
   refine zAf (fun gK gt => (zAa (zA9 rfl rfl (zAe (zAb (gt _ _ (zA0 (zAh (zA1 (l := [.tmp 4]) (vs := [_]) rfl ⟨⟨rfl, (rfl : _ = Value.int _ _)⟩, trivial⟩ ?_)))))))))
   first
     | exact ⟨⟨_, rfl, zEm hpre hia2 hib2 (by assumption)⟩, hs⟩
     | exact ⟨⟨_, rfl, by rw [zC7 hpre hia (by omega)]; rfl⟩, hs⟩
     | exact ⟨⟨_, rfl, by rw [zCn hpre (by omega) (by omega)]; rfl⟩, hs⟩
  try simp only [zS] at g7
  refine zAr (zAb (gq _ _ (zAf (fun gL gu => (zAa (zA9 rfl rfl (zAe (zAb (gu _ _ (zA0 (zA1 (l := [.tmp 4]) (vs := [_]) rfl ⟨⟨rfl, (rfl : _ = Value.int _ _)⟩, trivial⟩ ?_)))))))))))
  first
    | exact ⟨⟨_, rfl, zEm hpre hia2 hib2 (by assumption)⟩, hs⟩
    | exact ⟨⟨_, rfl, by rw [zC7 hpre hia (by omega)]; rfl⟩, hs⟩
    | exact ⟨⟨_, rfl, by rw [zCn hpre (by omega) (by omega)]; rfl⟩, hs⟩

theorem c80 {w0 w : World} {F : List (Nat × Obj)} (aa ab : Option Addr) (a b : List Int) (ca cb : Nat) (hla : a.length ≤ 9223372036854775807) (hlb : b.length ≤ 9223372036854775807) (ha : Sl w0 F aa 1 (a.map fun x => [Value.int .i64 x])) (hb : Sl w0 F ab 1 (b.map fun x => [Value.int .i64 x])) (hs : St w0 w F) :
  Con Tryz.prog 80 [.slice aa a.length ca, .slice ab b.length cb] w fun v w' => v = .bool (before a b) ∧ St w0 w' F := by
  refine zAo (n := 23) func80 rfl rfl (zNl rfl) ?_
  refine zAf (fun K2 g4 => (zAa (zA9 rfl rfl (zAe (zAb (g4 _ _ (zAf (fun K4 g3 => (zAa (w_p (zAx rfl rfl) rfl (w_p (zBd underlying30 rfl rfl) rfl ?_)))))))))))
  refine w_p (zAx rfl rfl) rfl (w_p (zBd underlying30 rfl rfl) rfl (w_p (zCb rfl rfl rfl rfl) rfl (w_p (zAn rfl rfl) rfl (zBk (fun h5 => ?_) (fun h5 => ?_)))))
  ·
   try simp only [zS] at h5
   refine zAg rfl rfl rfl ?_
   refine zAg rfl rfl rfl ?_
   refine zAg rfl rfl rfl ?_
   refine zAg rfl rfl rfl ?_
   refine zAg rfl rfl rfl ?_
   refine zAg rfl rfl rfl ?_
   refine zBa rfl rfl rfl ?_
   refine zBa rfl rfl rfl ?_
   refine zBa rfl rfl rfl ?_
   refine zBa rfl rfl rfl ?_
   refine zAg rfl rfl rfl ?_
   refine w_p (zAt (v := _) rfl rfl rfl rfl) rfl (w_p (zAl rfl rfl) rfl (zAe (zAb (g3 _ _ (zA0 (zA1 (l := [.tmp 4]) (vs := [_]) rfl ⟨⟨rfl, (rfl : _ = Value.bool _)⟩, trivial⟩ ?_))))))
   exact ⟨congrArg Value.bool (by unfold before; (try rw [← hz]); (try clear hz); rw [Bool.eq_iff_iff]; simp [*] <;> omega), hs⟩
  try simp only [zS] at h5
  refine w_y rfl rfl rfl (zAx rfl rfl) rfl ?_
  refine w_y rfl rfl rfl (zBd underlying30 rfl rfl) rfl ?_
  refine w_y rfl rfl rfl (zAx rfl rfl) rfl ?_
  refine w_y rfl rfl rfl (zBd underlying30 rfl rfl) rfl ?_
  refine w_y rfl rfl rfl (zCk rfl rfl rfl rfl) rfl ?_
  refine w_y rfl rfl rfl (zAn rfl rfl) rfl ?_
  refine zBk (fun h6 => ?_) (fun h6 => ?_)
  ·
   try simp only [zS] at h6
   refine w_y rfl rfl rfl (zAx rfl rfl) rfl ?_
   refine w_y rfl rfl rfl (zAx rfl rfl) rfl ?_
   refine zA4 (zAm rfl rfl rfl) call65 rfl rfl rfl rfl (c65 _ _ _ _ _ _ (by omega) (by omega) (by assumption) (by assumption) hs) ?_
   rintro _ w8 ⟨⟨z, rfl, hz⟩, g5⟩
   refine w_y rfl rfl rfl (zCb rfl rfl rfl rfl) rfl ?_
   refine w_y rfl rfl rfl (zAt (v := .bool _) rfl rfl rfl rfl) rfl ?_
   refine w_p (zBb (v := .bool _) rfl rfl rfl rfl) rfl (w_p (zAl rfl rfl) rfl (zAe (zAb (g3 _ _ (zA0 (zA1 (l := [.tmp 4]) (vs := [_]) rfl ⟨⟨rfl, (rfl : _ = Value.bool _)⟩, trivial⟩ ?_))))))
   exact ⟨congrArg Value.bool (by unfold before; (try rw [← hz]); (try clear hz); rw [Bool.eq_iff_iff]; simp [*] <;> omega), g5⟩
  try simp only [zS] at h6
  refine zAg rfl rfl rfl ?_
  refine zAg rfl rfl rfl ?_
  refine zAg rfl rfl rfl ?_
  refine zAg rfl rfl rfl ?_
  refine w_y rfl rfl rfl (zBb (v := _) rfl rfl rfl rfl) rfl ?_
  refine w_p (zBb (v := .bool _) rfl rfl rfl rfl) rfl (w_p (zAl rfl rfl) rfl (zAe (zAb (g3 _ _ (zA0 (zA1 (l := [.tmp 4]) (vs := [_]) rfl ⟨⟨rfl, (rfl : _ = Value.bool _)⟩, trivial⟩ ?_))))))
  exact ⟨congrArg Value.bool (by unfold before; (try rw [← hz]); (try clear hz); rw [Bool.eq_iff_iff]; simp [*] <;> omega), hs⟩

theorem zFg {b k : Nat} (h : ¬ ((bit b k : Nat) : Int) = 1) : ¬ bit b k = 1 := fun e => h (by rw [e]; rfl)
theorem bit_one {b k : Nat} (h : ((bit b k : Nat) : Int) = 1) : bit b k = 1 := by omega
theorem listL_sl {w0 : World} {L : List (Nat × Obj)} {i b : Nat} {t : TypeId} {x n : Nat} (hi : L[i]? = some (b, blk t (iv (listTo x n n)))) (hc : listL x n ≠ []) : Sl w0 L (some ⟨b, 0, none⟩) 1 ((listL x n).map fun x => [Value.int .i64 x]) := by
  have h := Sl.cut (w0 := w0) (l' := 0) (h' := (listL x n).length) (c := n) (zFb hi) (Nat.zero_le _) (by have := zDm x n; simp [zHf x n n (Nat.le_refl _)]; omega) (by simp [zHf x n n (Nat.le_refl _)])
  rw [← List.map_drop, List.drop_zero, Nat.sub_zero, ← List.map_take, listTo_take] at h
  have hn : n ≠ 0 := by rintro rfl; exact hc rfl
  rw [if_neg hn] at h
  have e : (some (⟨b, 0, none⟩ : Addr)).map (·.add (0 * 1)) = some ⟨b, 0, none⟩ := rfl
  rwa [e] at h
theorem iv2 {a b c d : Int} (h : a = b) (h2 : c = d) : [Value.int .i64 a, Value.int .i64 c] = [Value.int .i64 b, Value.int .i64 d] := by rw [h, h2]
theorem listL_slc {w0 : World} {L : List (Nat × Obj)} {b : Nat} {t : TypeId} {x n : Nat} (hi : L[0]? = some (b, blk t (iv (listTo x n n)))) : Sl w0 L (if n = 0 then some ⟨b, 0, none⟩ else (some (⟨b, 0, none⟩ : Addr)).map (·.add (0 * 1))) 1 ((listL x n).map fun x => [Value.int .i64 x]) := by
  by_cases hc : listL x n = []
  · rw [hc]; exact Sl.nil _ _
  · have hn : n ≠ 0 := by rintro rfl; exact hc rfl
    rw [if_neg hn]
    exact listL_sl hi hc
theorem c79 {w0 w : World} {F : List (Nat × Obj)} (x n : Nat) (hx : x < 1000) (hn : n ≤ 40) (hs : St w0 w F) :
  Con Tryz.prog 79 [.int .i64 x, .int .i64 n] w fun v w' => ∃ B a c, v = .slice a (listL x n).length c ∧ Sl w0 B a 1 ((listL x n).map fun x => [Value.int .i64 x]) ∧ St w0 w' (B ++ F) := by
  refine zAo (n := 31) func79 rfl rfl (zNl rfl) ?_
  refine zAf (fun K2 g8 => (zAa (zA9 rfl rfl (zAe (zAb (g8 _ _ (zAf (fun K4 g9 => (zAa (zA2 rfl rfl (zG4 (k := n) zAc underlying30 zDf rfl rfl (by omega) rfl rfl rfl rfl rfl hs (fun b5 w6 ga => ?_))))))))))))
  refine w_p (zBh rfl rfl) rfl (zAe (zAb (g9 _ _ (zAf (fun K9 gb => (zAa (zA9 rfl rfl (zAe (zAb (gb _ _ (zAf (fun gk gc => (zAf (fun gm gd => (zAa (zA2 rfl rfl ?_))))))))))))))))
  refine w_p (zBo (v := _) rfl rfl) rfl (zAe (zAb (gd _ _ (zAw ?_))))
  refine zB2 [6,7,11,12,13,14,15,16,17,18,19,20,21,22,23,24,25,26,27] [6,11] (fun k vs w => ∃ i : Nat, vs = [.int .i64 (listL x i).length, .int .i64 i] ∧ i ≤ n ∧ k = n - i ∧ St w0 w ((b5, blk 3 (iv (listTo x n i))) :: F)) (n) ?_ ?_
  ·
   exact ⟨0, rfl, by omega, by omega, by rw [listTo_zero]; exact ga⟩
  intro k vs μ gn hI gq g5
  obtain ⟨i, rfl, hia, rfl, hs⟩ := hI
  have hll := zDm x i
  refine zAf (fun gr ge => (zAa (w_p (zCb rfl rfl rfl rfl) rfl (zAe (zAb (ge _ _ (zAf (fun gt gf => (zAv rfl rfl (fun g3 => ?_) (fun g3 => ?_))))))))))
  ·
   try simp only [zS] at g3
   refine zAr (zAb (gf _ _ (zAf (fun gu g6 => (zAw ?_)))))
   refine zAf (fun gw gg => (zAa (zA2 rfl rfl (zBg rfl rfl (zAe (zAb (gg _ _ (zAf (fun gx gh => (zAa (zA2 rfl rfl (zA2 rfl rfl (w_p (y_shr (x := _) (y := _) rfl rfl rfl rfl rfl rfl (by first | omega | exact zCs (by omega))) rfl ?_)))))))))))))
   refine w_p (show Yd _ _ _ _ (.int .i64 ((bit x i : Nat) : Int)) from (y_and (x := _) (y := 1) rfl rfl rfl rfl rfl rfl (by first | omega | exact zCs (by omega)) (by first | omega | exact zCs (by omega)))) rfl ?_
   refine w_p (zCk rfl rfl rfl rfl) rfl (zAe (zAb (gh _ _ (zAv rfl rfl (fun g4 => ?_) (fun g4 => ?_)))))
   ·
    try simp only [zS] at g4
    refine zAa (zA2 rfl rfl (w_p (zAx rfl rfl) rfl (zA2 rfl rfl (w_p (y_sliceS (l' := (listL x i).length) (h' := _) underlying30 sizeOf3 rfl rfl ⟨rfl, _,_, rfl, rfl⟩ rfl (by omega) (by omega)) rfl (zA2 rfl rfl (zBc (ps := [(0, _)]) (pv := [(0, .int _ _)]) (cs := [_]) zAc rfl rfl (fun w => Try_SE_fb1 _ w) hs (fun gy gz gi => ?_)))))))
    refine w_copy1 (i := 1) (i2 := 0) zAc underlying30 sizeOf3 rfl rfl rfl rfl gi rfl rfl (by omega) (by first | omega | rfl | (simp only [zHf x n i (by omega), zL] <;> omega)) (fun gA g7 => ?_)
    refine w_p (zBe rfl rfl rfl rfl (by omega) (by omega)) rfl (zBg rfl rfl (zAe (zAk (zAb (g6 _ _ (zAa (w_p (zBe rfl rfl rfl rfl (by omega) (by omega)) rfl ?_)))))))
    refine zA2 rfl rfl (zAe (zAb (g5 _ _ (nxI (n - (i + 1)) (by omega) ?_))))
    first
      | exact ⟨i + 1, iv2 (by rw [listL_yes (bit_one (by assumption)), List.length_append]; rfl) rfl, by omega, rfl, by have hq := g7.tail; rw [listTo_yes (by omega) (bit_one (by assumption))] at hq; exact hq⟩
      | exact ⟨i + 1, iv2 (by rw [listL_no (zFg (by assumption))]) rfl, by omega, rfl, by rw [← listTo_no (zFg (by assumption))]; exact g7⟩
   try simp only [zS] at g4
   refine zAr (zAk (zAb (g6 _ _ (zAa (w_p (zBe rfl rfl rfl rfl (by omega) (by omega)) rfl (zA2 rfl rfl (zAe (zAb (g5 _ _ (nxI (n - (i + 1)) (by omega) ?_))))))))))
   first
     | exact ⟨i + 1, iv2 (by rw [listL_yes (bit_one (by assumption)), List.length_append]; rfl) rfl, by omega, rfl, by have hq := hs.tail; rw [listTo_yes (by omega) (bit_one (by assumption))] at hq; exact hq⟩
     | exact ⟨i + 1, iv2 (by rw [listL_no (zFg (by assumption))]) rfl, by omega, rfl, by rw [← listTo_no (zFg (by assumption))]; exact hs⟩
  try simp only [zS] at g3
  refine zBr (zAj (zAj (zAy (zAb (gc _ _ (zAf (fun gB gj => (zAa (w_p (zAx rfl rfl) rfl (zA2 rfl rfl (w_p (y_sliceS (l' := 0) (h' := (listL x i).length) underlying30 sizeOf3 rfl rfl rfl ⟨rfl, _,_, rfl, rfl⟩ (by omega) (by omega)) rfl ?_)))))))))))
  refine w_p (zBh rfl rfl) rfl (zAe (zAb (gj _ _ (zA0 (zA1 (l := [.tmp 4]) (vs := [_]) rfl ⟨⟨rfl, show _ = (.slice _ _ _ : Value) from rfl⟩, trivial⟩ ?_)))))
  have hin : i = n := by omega
  subst hin
  exact ⟨[_], _,_, rfl, listL_slc (L := [_]) rfl, hs⟩

theorem c49 {w0 w : World} {F : List (Nat × Obj)} (m : Market) (p : At3) (mb mm : Nat) (hk : MK w0 F m p mb mm) (most : Bool) (hs : St w0 w F) :
  Con Tryz.prog 49 [.pointer (some ⟨mb, 0, none⟩), .bool most] w fun v w' => v = ia (allX m most) ∧ St w0 w' F := by
  refine zAo (n := 52) func49 rfl rfl (zNl rfl) ?_
  obtain ⟨ar, cr, as_, cs, at_, ct⟩ := p
  have hb := hk.b
  have hlr := hk.ok.lr
  have hls := hk.ok.ls
  have hlt := hk.ok.lt
  refine zAf (fun K2 ge => (zAa (zA5 (cs := iv [0,0,0,0,0,0,0,0]) zAc zeroValue114 rfl hs (fun b3 w4 g7 => ?_))))
  refine zAe (zAb (ge _ _ (zAf (fun K7 gf => (zAf (fun K9 gg => (zAa (w_p (zBi rfl rfl) rfl (w_p (zBl rfl rfl) rfl (w_p (zAd (o := 0) (i := 0) underlying146 rfl sizeOf26 rfl rfl rfl) rfl ?_))))))))))
  refine w_p (zAd (o := 0) (i := 0) underlying26 rfl sizeOf22 rfl rfl rfl) rfl (w_p (zAi isAgg22 g7.tail rfl rfl (show Ats _ _ _ _ [_] from Ats.part hb 0 1)) rfl (w_p (zBd underlying22 rfl rfl) rfl (w_p (zBo (v := _) rfl rfl) rfl (zAe (zAb (gg _ _ (zAw ?_)))))))
  refine zB2 [5,6,15,16,17,18,19,20,21,22,23,24,25,26,27,28,29,30,31,32,33] [15] (fun k vs w => ∃ i : Nat, vs = [.int .i64 i] ∧ i ≤ m.rooms.length ∧ k = m.rooms.length - i ∧ St w0 w ((b3, blk 114 (iv (handsTo m most i))) :: F)) (m.rooms.length) ?_ ?_
  ·
   exact ⟨0, rfl, by omega, by omega, g7⟩
  intro k vs μ gC hI gD g8
  obtain ⟨i, rfl, hia, rfl, hs⟩ := hI
  refine zAf (fun gE gh => (zAa (w_p (zCb rfl rfl rfl rfl) rfl (zAe (zAb (gh _ _ (zAf (fun gF gi => (zAv rfl rfl (fun g4 => ?_) (fun g4 => ?_))))))))))
  ·
   try simp only [zS] at g4
   refine zAr (zAb (gi _ _ (zAf (fun gG g9 => (zAw ?_)))))
   refine zAf (fun gH gj => ?_)
   have hi2 : i < m.rooms.length := by omega
   obtain ⟨br, or_, hbr, hxr⟩ := sl_rrows hk.i.r hi2
   subst hbr
   refine zAa (zA2 rfl rfl (w_p (zA7 underlying22 sizeOf44 rfl rfl rfl rfl (i := _) rfl (by omega)) rfl (w_p (zAs (vs := [_,_,_,_,_]) isAgg44 sizeOf44 hs.tail rfl rfl hxr) rfl (zA5 (cs := [_,_,_,_,_]) zAc zeroValue44 rfl hs (fun gI gJ gk => ?_)))))
   refine zBg rfl rfl (zBt 0 (.agg #[.string _, .int _ _, .int _ _, .int _ _, .int _ _]) [_,_,_,_,_] sizeOf44 gk (fun gK ga => ?_))
   refine zAe (zAb (gj _ _ (zAf (fun gL gm => (zAa (zA2 rfl rfl (w_p (zAd (o := 1) (i := 1) underlying44 rfl sizeOf28 rfl rfl rfl) rfl (w_p (zAd (o := 0) (i := 0) underlying28 rfl sizeOf3 rfl rfl rfl) rfl ?_))))))))
   refine w_p (zAi isAgg3 ga rfl rfl (aow 0 [_])) rfl (w_p (zAd (o := 0) (i := 0) underlying114 rfl sizeOf112 rfl rfl rfl) rfl (w_p (zBn underlying112 sizeOf3 rfl rfl rfl rfl (i := i) (by first | rfl | omega) (by omega)) rfl ?_))
   refine zDe (i := 1) (j := i) zAc sizeOf3 rfl rfl rfl rfl ga rfl (by first | omega | rfl | (simp only [zDi, zDh, zL] <;> omega)) (fun gM g3 => ?_)
   refine zAe (zAb (gm _ _ (zAf (fun gN gn => (zAa (w_p (zAn rfl rfl) rfl (zAe (zAb (gn _ _ (zAv rfl rfl (fun g5 => ?_) (fun g5 => ?_)))))))))))
   ·
    try simp only [zS] at g5
    refine zAa (zA2 rfl rfl (w_p (zAd (o := 1) (i := 1) underlying44 rfl sizeOf28 rfl rfl rfl) rfl (w_p (zAd (o := 1) (i := 1) underlying28 rfl sizeOf3 rfl rfl rfl) rfl (w_p (zAi isAgg3 g3 rfl rfl (aow 0 [_])) rfl ?_))))
    refine w_p (zAd (o := 0) (i := 0) underlying114 rfl sizeOf112 rfl rfl rfl) rfl (w_p (zBn underlying112 sizeOf3 rfl rfl rfl rfl (i := i) (by first | rfl | omega) (by omega)) rfl ?_)
    refine zDe (i := 1) (j := i) zAc sizeOf3 rfl rfl rfl rfl g3 rfl (by first | omega | rfl | (simp only [zDi, zDh, zL] <;> omega)) (fun gO gb => ?_)
    refine zAe (zAk (zAb (g9 _ _ (zAa (w_p (zBe rfl rfl rfl rfl (by omega) (by omega)) rfl (zA2 rfl rfl (zAe (zAb (g8 _ _ (nxI (m.rooms.length - (i + 1)) (by omega) ?_))))))))))
    first
      | exact ⟨i + 1, rfl, by omega, rfl, by have hq := gb.tail; have hmo : most = true := (by assumption); subst hmo; rw [handsTo_yes hi2] at hq; exact hq⟩
      | exact ⟨i + 1, rfl, by omega, rfl, by have hq := gb.tail; have hmo : most = false := (by assumption); subst hmo; rw [handsTo_no hi2] at hq; exact hq⟩
   try simp only [zS] at g5
   refine zAr (zAk (zAb (g9 _ _ (zAa (w_p (zBe rfl rfl rfl rfl (by omega) (by omega)) rfl (zA2 rfl rfl (zAe (zAb (g8 _ _ (nxI (m.rooms.length - (i + 1)) (by omega) ?_))))))))))
   first
     | exact ⟨i + 1, rfl, by omega, rfl, by have hq := g3.tail; have hmo : most = true := (by assumption); subst hmo; rw [handsTo_yes hi2] at hq; exact hq⟩
     | exact ⟨i + 1, rfl, by omega, rfl, by have hq := g3.tail; have hmo : most = false := (by assumption); subst hmo; rw [handsTo_no hi2] at hq; exact hq⟩
  try simp only [zS] at g4
  refine zBr (zAj (zAj (zAy (zAb (gf _ _ (zAf (fun gP gq => (zAf (fun gQ gr => (zAa (w_p (zBi rfl rfl) rfl ?_)))))))))))
  refine w_p (zBl rfl rfl) rfl (w_p (zAd (o := 0) (i := 0) underlying146 rfl sizeOf26 rfl rfl rfl) rfl (w_p (zAd (o := 1) (i := 1) underlying26 rfl sizeOf23 rfl rfl rfl) rfl (w_p (zAi isAgg23 hs.tail rfl rfl (show Ats _ _ _ _ [_] from Ats.part hb 1 1)) rfl ?_)))
  refine w_p (zBd underlying23 rfl rfl) rfl (w_p (zBo (v := _) rfl rfl) rfl (zAe (zAb (gr _ _ (zAw ?_)))))
  refine zB2 [7,8,40,41,42,43,44,45,46,47,48,49,50] [40] (fun k vs w => ∃ i : Nat, vs = [.int .i64 i] ∧ i ≤ m.shops.length ∧ k = m.shops.length - i ∧ St w0 w ((b3, blk 114 (iv (wantsTo m most i))) :: F)) (m.shops.length) ?_ ?_
  ·
   exact ⟨0, rfl, by omega, by omega, by have hil : i = m.rooms.length := (by omega); subst hil; exact hs⟩
  intro k vs μ gR hI gS gt
  obtain ⟨j, rfl, hja, rfl, hs⟩ := hI
  refine zAf (fun gT gu => (zAa (w_p (zCb rfl rfl rfl rfl) rfl (zAe (zAb (gu _ _ (zAf (fun gU gw => (zAv rfl rfl (fun g6 => ?_) (fun g6 => ?_))))))))))
  ·
   try simp only [zS] at g6
   refine zAr (zAb (gw _ _ (zAf (fun gV gx => (zAw ?_)))))
   refine zAf (fun gW gy => ?_)
   have hj2 : j < m.shops.length := by omega
   obtain ⟨bs, os, hbs, hxs⟩ := sl_srows hk.i.s hj2
   subst hbs
   refine zAa (zA2 rfl rfl (w_p (zA7 underlying23 sizeOf51 rfl rfl rfl rfl (i := _) rfl (by omega)) rfl (w_p (zAs (vs := [_,_,_]) isAgg51 sizeOf51 hs.tail rfl rfl hxs) rfl (zA5 (cs := [_,_,_]) zAc zeroValue51 rfl hs (fun gX gY gz => ?_)))))
   refine zBg rfl rfl (zBt 0 (.agg #[.string _, .int _ _, .int _ _]) [_,_,_] sizeOf51 gz (fun gZ gc => ?_))
   refine zAe (zAb (gy _ _ (zAa (zA2 rfl rfl (w_p (zAd (o := 2) (i := 2) underlying51 rfl sizeOf3 rfl rfl rfl) rfl (w_p (zAi isAgg3 gc rfl rfl (aow 0 [_])) rfl (w_p (zAd (o := 3) (i := 1) underlying114 rfl sizeOf93 rfl rfl rfl) rfl ?_)))))))
   refine w_p (zBn underlying93 sizeOf3 rfl rfl rfl rfl (i := j) (by first | rfl | omega) (by omega)) rfl ?_
   refine w_storeAtIO (i := 1) (o := 3) (j := j) zAc sizeOf3 rfl rfl rfl rfl gc rfl (by first | omega | rfl | (simp only [zDi, zDh, zL] <;> omega)) (fun hG gA => ?_)
   refine zAe (zAk (zAb (gx _ _ (zAa (w_p (zBe rfl rfl rfl rfl (by omega) (by omega)) rfl (zA2 rfl rfl (zAe (zAb (gt _ _ (nxI (m.shops.length - (j + 1)) (by omega) ?_))))))))))
   exact ⟨j + 1, rfl, by omega, rfl, by have hq := gA.tail; rw [wantsTo_succ hj2] at hq; exact hq⟩
  try simp only [zS] at g6
  refine zBr (zAj (zAj (zAy (zAb (gq _ _ (zAf (fun hH gB => (zAa (w_p (zC2 (i := 0) isAgg114 sizeOf114 (by first | omega | rfl | (simp only [zDi, zDh, zL] <;> omega)) hs rfl rfl rfl) rfl ?_)))))))))
  refine zDu (i := 0) (l := _) zAc sizeOf114 (by first | omega | rfl | (simp only [zDi, zDh, zL] <;> omega)) rfl rfl rfl rfl rfl hs rfl (by first | omega | rfl | (simp only [zDi, zDh, zL] <;> omega)) (fun hO gd => ?_)
  refine zAe (zAb (gB _ _ (zA0 (zA1 (l := [.cell 4 114]) (vs := [_]) rfl ⟨⟨rfl, _, rfl, run_loadI (i := 0) isAgg114 sizeOf114 (by first | omega | rfl | (simp only [zDi, zDh, zL] <;> omega)) gd rfl⟩, trivial⟩ ?_))))
  exact ⟨by have hjl : j = m.shops.length := (by omega); subst hjl; rfl, gd.tail⟩

end Go.Proofs.Sb
set_option maxRecDepth 20000
namespace Go.Proofs.Sb
open Go.Proofs.Tryz
open Go.Rt Go.Rt.Sh
attribute [local irreducible] WL WC Con Yd At Ats Sl Agree DW

theorem key93_cov : ∀ l m : List Int, l.length = 8 → m.length = 8 → (decide ((l.drop 0).take 3 = (m.drop 0).take 3) && (decide ((l.drop 3).take 4 = (m.drop 3).take 4) && (decide ((l.drop 7).take 1 = (m.drop 7).take 1) && true))) = decide (l = m) := by
  intro l m hl hm
  match l, hl with
  | [a, b, c, d, e, f, g, h], _ =>
    match m, hm with
    | [a', b', c', d', e', f', g', h'], _ =>
      rw [Bool.eq_iff_iff]
      simp
      constructor
      · rintro ⟨⟨_, _, _⟩, ⟨_, _,_, _⟩, _⟩; simp [*]
      · rintro ⟨_, _,_,_,_,_,_, _⟩; simp [*]
theorem key_zip {P : Program} {t k : Nat} {fs : Array Field} (ks : List Nat) (hu : P.underlying t = some (.struct fs)) (hp : P.stoodInHeld t = false) (h1 : fs.toList = (fs.toList.zip ks).map Prod.fst) (h2 : ∀ q ∈ fs.toList.zip ks, FF P q.1 q.2 ∧ q.1.offset + q.2 ≤ k)
    (h3 : ∀ q ∈ fs.toList.zip ks, P.underlying q.1.type = some (.int .i64) ∨ ∃ el, P.underlying q.1.type = some (.array q.2 el) ∧ P.underlying el = some (.int .i64) ∧ ∀ w, (sizeOf el).run P w = .ok 1 w)
    (h4 : ∀ l m : List Int, l.length = k → m.length = k → ((fs.toList.zip ks).all fun q => decide ((l.drop q.1.offset).take q.2 = (m.drop q.1.offset).take q.2)) = decide (l = m)) : KeyTy P t k := keyTy_struct _ hu hp h1 h2 h3 h4
theorem key114 : KeyTy Tryz.prog 114 8 := by
  refine key_zip [3,4,1] underlying114 (by kernel_rfl) rfl ?_ ?_ ?_
  · intro q hq
    simp only [List.zip_cons_cons, List.zip_nil_right, List.mem_cons, List.not_mem_nil, or_false] at hq
    rcases hq with rfl | rfl | rfl
    · exact ⟨⟨by decide, .inr ⟨by kernel_rfl, isAgg112, sizeOf112⟩⟩, by decide⟩
    · exact ⟨⟨by decide, .inr ⟨by kernel_rfl, isAgg93, sizeOf93⟩⟩, by decide⟩
    · exact ⟨⟨by decide, .inl ⟨underlying3, rfl⟩⟩, by decide⟩
  · intro q hq
    simp only [List.zip_cons_cons, List.zip_nil_right, List.mem_cons, List.not_mem_nil, or_false] at hq
    rcases hq with rfl | rfl | rfl
    · exact .inr ⟨3, underlying112, underlying3, sizeOf3⟩
    · exact .inr ⟨3, underlying93, underlying3, sizeOf3⟩
    · exact .inl underlying3
  · exact key93_cov

theorem zFf {b j : Nat} (h : ((bit b j : Nat) : Int) = 0) : bit b j = 0 := by omega
theorem c100f {w0 w : World} {F : List (Nat × Obj)} (m : Market) (p : At3) (mb mm : Nat) (hk : MK w0 F m p mb mm)  (x : List Int) (hx : Small x) (es : Array MapEntry) (ck : Nat) (j : Nat) (y : List Int) (hy : y.length = 16) (hf : ∀ w, (Instr.findKey 114 (ia x) es.toList).run Tryz.prog w = .ok (some (j, ia y)) w) (hs : St w0 w ((mm, .map es ck) :: F)) :
  Con Tryz.prog 100 [.pointer (some ⟨mb, 0, none⟩), ia x] w fun v w' => v = ia y ∧ St w0 w' ((mm, .map es ck) :: F) := by
  refine zAo (n := 113) func100 rfl rfl (zNl rfl) ?_
  have hb := hk.b
  refine zAf (fun K2 g7 => (zAa (zHo (l := _) zAc rfl rfl rfl hs (fun b3 w4 g8 => ?_))))
  refine zA5 (cs := iv [0,0,0,0,0,0,0,0,0,0,0,0,0,0,0,0]) zAc zeroValue166 rfl g8 (fun b6 w7 g9 => ?_)
  refine zAe (zAb (g7 _ _ (zAf (fun gd ge => (zAf (fun gf ga => (zCc [10] [(0,0),(1,0),(2,0),(3,1),(4,1),(5,1),(6,0),(7,0),(8,0),(9,2),(10,3),(11,0)] zB7 (by kernel_rfl) g9 (fun gg g3 => ?_))))))))
  refine d_w rfl (fun _ => zBi rfl rfl) rfl (d_w rfl (fun _ => zBl rfl rfl) rfl (d_w rfl (fun _ => zAd (o := 3) (i := 1) underlying146 rfl sizeOf144 rfl rfl rfl) rfl ?_))
  refine zA3 rfl zAc rfl g3 (fun _ hq => (zAi isAgg144 hq.tail.tail.tail rfl rfl (show Ats _ _ _ _ [_] from Ats.part hb 3 1))) ?_
  refine zA3 rfl zAc rfl g3 (fun _ hq => (zC2 (i := 1) isAgg114 sizeOf114 (by first | omega | rfl | (simp only [hx.1, hy, zL] <;> omega)) hq rfl rfl rfl)) ?_
  refine zA3 rfl zAc rfl g3 (fun _ hq => (K_lookupS (i := 2) (l := x) underlying144 key114 hx.1 hq rfl rfl rfl rfl rfl rfl hf)) ?_
  refine d_w rfl (fun _ => zA6 rfl rfl) rfl (d_w rfl (fun _ => zBp (v := (ia _)) rfl rfl rfl) rfl (d_w rfl (fun _ => zBf rfl rfl rfl) rfl ?_))
  refine zB0 rfl ?_
  refine zA5 (cs := iv [0,0,0,0,0,0,0,0,0,0,0,0,0,0,0,0]) zAc zeroValue166 rfl g3 (fun gh gi g4 => ?_)
  refine zAe (qn ⟨g4.tail, ?_⟩)
  refine zCa rfl ?_
  refine zDu (i := 0) (l := _) zAc sizeOf166 (by first | omega | rfl | (simp only [hx.1, hy, zL] <;> omega)) rfl rfl rfl rfl rfl g4 rfl (by first | omega | rfl | (simp only [hx.1, hy, zL] <;> omega)) (fun gj g5 => ?_)
  refine zAe (qn ?_)
  refine d_w rfl (fun _ => zAl rfl rfl) rfl ?_
  refine zB5 ?_
  refine zAb (ga _ _ (zAf (fun gk gb => (zAa (w_p (zAn rfl rfl) rfl (zAe (zAb (gb _ _ (zBz rfl rfl ?_)))))))))
  refine zAf (fun gm gc => (zAa (w_p (zC2 (i := 0) isAgg166 sizeOf166 (by first | omega | rfl | (simp only [hx.1, hy, zL] <;> omega)) g5 rfl rfl rfl) rfl ?_)))
  refine zDu (i := 1) (l := _) zAc sizeOf166 (by first | omega | rfl | (simp only [hx.1, hy, zL] <;> omega)) rfl rfl rfl rfl rfl g5 rfl (by first | omega | rfl | (simp only [hx.1, hy, zL] <;> omega)) (fun gn g6 => ?_)
  refine zAe (zAb (gc _ _ (zA0 (zAh (zA1 (l := [.cell 4 166]) (vs := [_]) rfl ⟨⟨rfl, _, rfl, run_loadI (i := 1) isAgg166 sizeOf166 (by first | omega | rfl | (simp only [hx.1, hy, zL] <;> omega)) g6 rfl⟩, trivial⟩ ?_)))))
  exact ⟨rfl, g6.tail.tail.tail⟩

theorem c100n {w0 w : World} {F : List (Nat × Obj)} (m : Market) (p : At3) (mb mm : Nat) (hk : MK w0 F m p mb mm)  (x : List Int) (hx : Small x) (es : Array MapEntry) (ck : Nat) (hf : ∀ w, (Instr.findKey 114 (ia x) es.toList).run Tryz.prog w = .ok none w) (hs : St w0 w ((mm, .map es ck) :: F)) :
  Con Tryz.prog 100 [.pointer (some ⟨mb, 0, none⟩), ia x] w fun v w' => v = ia (lacksV m x) ∧ St w0 w' ((mm, .map (es.push { key := ia x, val := ia (lacksV m x), born := ck }) (ck + 1)) :: F) := by
  refine zAo (n := 113) func100 rfl rfl (zNl rfl) ?_
  obtain ⟨ar, cr, as_, cs, at_, ct⟩ := p
  have hb := hk.b
  have hlr := hk.ok.lr
  have hls := hk.ok.ls
  have hlt := hk.ok.lt
  refine zAf (fun K2 gw => (zAa (zHo (l := _) zAc rfl rfl rfl hs (fun b3 w4 gx => ?_))))
  refine zA5 (cs := iv [0,0,0,0,0,0,0,0,0,0,0,0,0,0,0,0]) zAc zeroValue166 rfl gx (fun b6 w7 gy => ?_)
  refine zAe (zAb (gw _ _ (zAf (fun j9 gz => (zAf (fun ja gA => (zCc [10] [(0,0),(1,0),(2,0),(3,1),(4,1),(5,1),(6,0),(7,0),(8,0),(9,2),(10,3),(11,0)] zB7 (by kernel_rfl) gy (fun jb g4 => ?_))))))))
  refine d_w rfl (fun _ => zBi rfl rfl) rfl (d_w rfl (fun _ => zBl rfl rfl) rfl (d_w rfl (fun _ => zAd (o := 3) (i := 1) underlying146 rfl sizeOf144 rfl rfl rfl) rfl ?_))
  refine zA3 rfl zAc rfl g4 (fun _ hq => (zAi isAgg144 hq.tail.tail.tail rfl rfl (show Ats _ _ _ _ [_] from Ats.part hb 3 1))) ?_
  refine zA3 rfl zAc rfl g4 (fun _ hq => (zC2 (i := 1) isAgg114 sizeOf114 (by first | omega | rfl | (simp only [hx.1, zB1, zB8, zCg, zL] <;> omega)) hq rfl rfl rfl)) ?_
  refine zA3 rfl zAc rfl g4 (fun _ hq => (K_lookupN (i := 2) (l := x) underlying144 key114 hx.1 (show ∀ w, (zeroValue 166).run Tryz.prog w = .ok (ia (List.replicate 16 0)) w from zeroValue166) hq rfl rfl rfl rfl rfl rfl hf)) ?_
  refine d_w rfl (fun _ => zA6 rfl rfl) rfl (d_w rfl (fun _ => zBp (v := (ia _)) rfl rfl rfl) rfl (d_w rfl (fun _ => zBf rfl rfl rfl) rfl ?_))
  refine zB0 rfl ?_
  refine zA5 (cs := iv [0,0,0,0,0,0,0,0,0,0,0,0,0,0,0,0]) zAc zeroValue166 rfl g4 (fun g5 jc gm => ?_)
  refine zAe (qn ⟨gm.tail, ?_⟩)
  refine zCa rfl ?_
  refine zDu (i := 0) (l := _) zAc sizeOf166 (by first | omega | rfl | (simp only [hx.1, zB1, zB8, zCg, zL] <;> omega)) rfl rfl rfl rfl rfl gm rfl (by first | omega | rfl | (simp only [hx.1, zB1, zB8, zCg, zL] <;> omega)) (fun jd gB => ?_)
  refine zAe (qn ?_)
  refine d_w rfl (fun _ => zAl rfl rfl) rfl ?_
  refine zB5 ?_
  refine zAb (gA _ _ (zAf (fun je gC => (zAa (w_p (zAn rfl rfl) rfl (zAe (zAb (gC _ _ (zBj rfl rfl ?_)))))))))
  refine zAr (zAb (gz _ _ (zAf (fun jf gD => (zAa (w_p (zBi rfl rfl) rfl (w_p (zCl (fv := [_]) (cv := []) rfl rfl rfl rfl) rfl (w_p (zB9 (v := .func _ _ _) rfl rfl) rfl ?_))))))))
  refine zAe (zAb (gD _ _ (zAf (fun jg gE => (zAf (fun jh gF => (zAa (w_p (zBo (v := _) rfl rfl) rfl (zAe (zAb (gF _ _ (zAw ?_))))))))))))
  refine zB2 [8,9,10,11,12,13,14,15,29,30,31,32,33,34,35,36,37,38,39,40,41,42,43,44,45,46,47,48,49,50,51,52,53,54,55,56,57,58,59,60,61,62,63,64,65,66,67,68,69,70,71,72,73,74,75,76,77,78,79,80,81,82,83,84,85,86,87,88,89,90,91,92,93,94,95,96,97,98,99,100,101,102,103,104,105] [29] (fun k vs w => ∃ b : Nat, vs = [.int .i64 b] ∧ b ≤ 16 ∧ k = 16 - b ∧ St w0 w ((g5, blk 166 (iv (List.replicate 16 0))) :: (b6, blk 166 (iv (lacksTo m x b))) :: (b3, blk 114 (iv x)) :: (mm, .map es ck) :: F)) (16) ?_ ?_
  ·
   exact ⟨0, rfl, by omega, by omega, by rw [lacksTo_zero]; exact gB⟩
  intro k vs μ ji hI jj gG
  obtain ⟨b, rfl, hba, rfl, hs⟩ := hI
  refine zAf (fun jk gH => (zAa (w_p (zCb rfl rfl rfl rfl) rfl (zAe (zAb (gH _ _ (zAf (fun jl gI => (zAv rfl rfl (fun ga => ?_) (fun ga => ?_))))))))))
  ·
   try simp only [zS] at ga
   refine zAr (zAb (gI _ _ (zAf (fun jm gJ => (zAw ?_)))))
   refine zAf (fun jo gK => ?_)
   have hb16 : b < 16 := by omega
   refine zAa (zA2 rfl rfl (zBg rfl rfl (zAe (zAb (gK _ _ (w_scope ?_))))))
   refine zAf (fun jp gL => (zAa (zA5 (cs := iv [0,0,0]) zAc zeroValue112 rfl hs (fun gb jq gn => ?_))))
   refine zAe (zAb (gL _ _ (zAf (fun jr gM => (w_label ?_)))))
   refine zAb (gM _ _ (zAf (fun js gN => (zAf (fun jt gO => (zAa (w_p (zBi rfl rfl) rfl (w_p (zBl rfl rfl) rfl (w_p (zAd (o := 0) (i := 0) underlying146 rfl sizeOf26 rfl rfl rfl) rfl ?_)))))))))
   refine w_p (zAd (o := 2) (i := 2) underlying26 rfl sizeOf24 rfl rfl rfl) rfl (w_p (zAi isAgg24 gn.tail.tail.tail.tail.tail rfl rfl (show Ats _ _ _ _ [_] from Ats.part hb 2 1)) rfl (w_p (zBd underlying24 rfl rfl) rfl (w_p (zBo (v := _) rfl rfl) rfl (zAe (zAb (gO _ _ (zAw ?_)))))))
   refine zB2 [10,11,38,39,40,41,42,43,44,45,46,47,48,49,50,51,52,53,54,55,56,57,58,59,60,61,62,63,64,65,66,67,68,69] [38] (fun k vs w => ∃ i : Nat, vs = [.int .i64 i] ∧ i ≤ m.trains.length ∧ k = m.trains.length - i ∧ St w0 w ((gb, blk 112 (iv (capsU m (x.getD 7 0) b i))) :: (g5, blk 166 (iv (List.replicate 16 0))) :: (b6, blk 166 (iv (lacksTo m x b))) :: (b3, blk 114 (iv x)) :: (mm, .map es ck) :: F)) (m.trains.length) ?_ ?_
   ·
    exact ⟨0, rfl, by omega, by omega, gn⟩
   intro k vs μ ju hI jv g6
   obtain ⟨i, rfl, hia, rfl, hs⟩ := hI
   refine zAf (fun jw gP => (zAa (w_p (zCb rfl rfl rfl rfl) rfl (zAe (zAb (gP _ _ (zAf (fun jx gQ => (zAv rfl rfl (fun gc => ?_) (fun gc => ?_))))))))))
   ·
    try simp only [zS] at gc
    refine zAr (zAb (gQ _ _ (zAf (fun jy g7 => (zAw ?_)))))
    refine zAf (fun jz gR => ?_)
    have hi2 : i < m.trains.length := by omega
    obtain ⟨bt, ot, hbt, hxt⟩ := sl_trows hk.i.t hi2
    subst hbt
    have ht := hk.ok.train _ (List.getElem_mem hi2)
    have hcb := caps_get_bound hk.ok (x.getD 7 0) b i (m.trains[i]'hi2).room.toNat (by omega)
    refine zAa (zA2 rfl rfl (w_p (zA7 underlying24 sizeOf53 rfl rfl rfl rfl (i := _) rfl (by omega)) rfl (w_p (zAs (vs := [_,_,_,_]) isAgg53 sizeOf53 hs.tail.tail.tail.tail.tail rfl rfl hxt) rfl (zA5 (cs := [_,_,_,_]) zAc zeroValue53 rfl hs (fun jA jB gS => ?_)))))
    refine zBg rfl rfl (zBt 0 (.agg #[.int _ _, .int _ _, .int _ _, .int _ _]) [_,_,_,_] sizeOf53 gS (fun jC g3 => ?_))
    refine zAe (zAb (gR _ _ (zAf (fun jD gT => (zAf (fun jE gd => (zAa (zA2 rfl rfl (w_p (zAd (o := 7) (i := 2) underlying114 rfl sizeOf3 rfl rfl rfl) rfl ?_)))))))))
    refine w_p (zAi isAgg3 g3 rfl rfl (zG1 (i := 4) (o := 7) rfl (by first | omega | rfl | (simp only [hx.1, zB1, zB8, zCg, zL] <;> omega)))) rfl ?_
    refine w_p (zCb rfl rfl rfl rfl) rfl (w_p (zAn rfl rfl) rfl (zBk (fun ge => ?_) (fun ge => ?_)))
    ·
     try simp only [zS] at ge
     refine zAg rfl rfl rfl ?_
     refine zAg rfl rfl rfl ?_
     refine zAg rfl rfl rfl ?_
     refine zAg rfl rfl rfl ?_
     refine zAg rfl rfl rfl ?_
     refine zAg rfl rfl rfl ?_
     refine w_p (zAt (v := _) rfl rfl rfl rfl) rfl (w_p (zAn rfl rfl) rfl (zAg rfl rfl rfl ?_))
     refine zAg rfl rfl rfl ?_
     refine zAg rfl rfl rfl ?_
     refine zAg rfl rfl rfl ?_
     refine w_p (zAt (v := _) rfl rfl rfl rfl) rfl (zAe (zAb (gd _ _ (zBz rfl rfl ?_))))
     refine zBr (zAj (zAy (zAb (g7 _ _ (zAa (w_p (zBe rfl rfl rfl rfl (by omega) (by omega)) rfl (zA2 rfl rfl (zAe (zAb (g6 _ _ (nxI (m.trains.length - (i + 1)) (by omega) ?_)))))))))))
     first
       | exact ⟨i + 1, rfl, by omega, rfl, by rw [zE0 hi2 (by first | exact .inl (by omega) | exact .inr (.inl (zFf (by assumption))) | exact .inr (.inr (by assumption)))]; exact g3.tail⟩
       | exact ⟨i + 1, rfl, by omega, rfl, by rw [zFp hi2 (fun h => by rcases h with h | h | h; omega; omega; simp_all)]; exact g3.tail⟩
    try simp only [zS] at ge
    refine w_y rfl rfl rfl (zAu rfl rfl) rfl ?_
    refine w_y rfl rfl rfl (zAd (o := 1) (i := 1) underlying53 rfl sizeOf3 rfl rfl rfl) rfl ?_
    refine w_y rfl rfl rfl (zAi isAgg3 g3 rfl rfl (aow 0 [_])) rfl ?_
    refine w_y rfl rfl rfl (y_shr (x := _) (y := (m.trains[i]'hi2).shop.toNat) rfl rfl rfl rfl rfl (by first | rfl | omega) (by first | omega | exact zCs (by omega))) rfl ?_
    refine w_y rfl rfl rfl (show Yd _ _ _ _ (.int .i64 ((bit b (m.trains[i]'hi2).shop.toNat : Nat) : Int)) from (y_and (x := _) (y := 1) rfl rfl rfl rfl rfl rfl (by first | omega | exact zCs (by omega)) (by first | omega | exact zCs (by omega)))) rfl ?_
    refine w_y rfl rfl rfl (zCk rfl rfl rfl rfl) rfl ?_
    refine w_p (zBb (v := .bool _) rfl rfl rfl rfl) rfl (w_p (zAn rfl rfl) rfl (zBk (fun gf => ?_) (fun gf => ?_)))
    ·
     try simp only [zS] at gf
     refine zAg rfl rfl rfl ?_
     refine zAg rfl rfl rfl ?_
     refine zAg rfl rfl rfl ?_
     refine zAg rfl rfl rfl ?_
     refine w_p (zAt (v := _) rfl rfl rfl rfl) rfl (zAe (zAb (gd _ _ (zBz rfl rfl ?_))))
     refine zBr (zAj (zAy (zAb (g7 _ _ (zAa (w_p (zBe rfl rfl rfl rfl (by omega) (by omega)) rfl (zA2 rfl rfl (zAe (zAb (g6 _ _ (nxI (m.trains.length - (i + 1)) (by omega) ?_)))))))))))
     first
       | exact ⟨i + 1, rfl, by omega, rfl, by rw [zE0 hi2 (by first | exact .inl (by omega) | exact .inr (.inl (zFf (by assumption))) | exact .inr (.inr (by assumption)))]; exact g3.tail⟩
       | exact ⟨i + 1, rfl, by omega, rfl, by rw [zFp hi2 (fun h => by rcases h with h | h | h; omega; omega; simp_all)]; exact g3.tail⟩
    try simp only [zS] at gf
    refine w_y rfl rfl rfl (zBo (v := .func _ _ _) rfl rfl) rfl ?_
    refine w_y rfl rfl rfl (zAu rfl rfl) rfl ?_
    refine zA4 (zAm rfl rfl rfl) call46 rfl rfl rfl rfl (c46 m _ mb mm hk.cons.cons.cons.cons.cons.cons i hi2 g3) ?_
    rintro _ jF ⟨rfl, gg⟩
    refine w_y rfl rfl rfl (zC0 rfl rfl) rfl ?_
    refine w_p (zBb (v := .bool _) rfl rfl rfl rfl) rfl (zAe (zAb (gd _ _ (zAv rfl rfl (fun gh => ?_) (fun gh => ?_)))))
    ·
     try simp only [zS] at gh
     refine zBr (zAj (zAy (zAb (g7 _ _ (zAa (w_p (zBe rfl rfl rfl rfl (by omega) (by omega)) rfl (zA2 rfl rfl (zAe (zAb (g6 _ _ (nxI (m.trains.length - (i + 1)) (by omega) ?_)))))))))))
     first
       | exact ⟨i + 1, rfl, by omega, rfl, by rw [zE0 hi2 (by first | exact .inl (by omega) | exact .inr (.inl (zFf (by assumption))) | exact .inr (.inr (by assumption)))]; exact gg.tail⟩
       | exact ⟨i + 1, rfl, by omega, rfl, by rw [zFp hi2 (fun h => by rcases h with h | h | h; omega; omega; simp_all)]; exact gg.tail⟩
    try simp only [zS] at gh
    refine zAr (zAb (gT _ _ (zCc [8] [(0,0),(1,1),(2,0),(3,1),(4,0),(5,1),(6,0),(7,0),(8,3)] zB7 (by kernel_rfl) gg (fun jG g8 => ?_))))
    refine d_w rfl (fun _ => zAd (o := 0) (i := 0) underlying53 rfl sizeOf3 rfl rfl rfl) rfl ?_
    refine zA3 rfl zAc rfl g8 (fun _ hq => (zAi isAgg3 hq rfl rfl (aow 0 [_]))) ?_
    refine d_w rfl (fun _ => zBn underlying112 sizeOf3 rfl rfl rfl rfl (i := (m.trains[i]'hi2).room.toNat) (by first | rfl | omega) (by omega)) rfl ?_
    refine zA3 rfl zAc rfl g8 (fun _ hq => (zAi isAgg3 hq rfl rfl (zDr (i := 1) (j := (m.trains[i]'hi2).room.toNat) rfl (by first | omega | rfl | (simp only [hx.1, zB1, zB8, zCg, zL] <;> omega))))) ?_
    refine d_w rfl (fun _ => zAd (o := 3) (i := 3) underlying53 rfl sizeOf3 rfl rfl rfl) rfl ?_
    refine zA3 rfl zAc rfl g8 (fun _ hq => (zAi isAgg3 hq rfl rfl (aow 0 [_]))) ?_
    refine d_w rfl (fun _ => zBe rfl rfl rfl rfl (by omega) (by omega)) rfl (d_w rfl (fun _ => zBn underlying112 sizeOf3 rfl rfl rfl rfl (i := (m.trains[i]'hi2).room.toNat) (by first | rfl | omega) (by omega)) rfl ?_)
    refine zCa rfl ?_
    refine zDe (i := 1) (j := (m.trains[i]'hi2).room.toNat) zAc sizeOf3 rfl rfl rfl rfl g8 rfl (by first | omega | rfl | (simp only [hx.1, zB1, zB8, zCg, zL] <;> omega)) (fun jH gq => ?_)
    refine zAe (qn ?_)
    refine zB5 ?_
    refine zAk (zAb (g7 _ _ (zAa (w_p (zBe rfl rfl rfl rfl (by omega) (by omega)) rfl (zA2 rfl rfl (zAe (zAb (g6 _ _ (nxI (m.trains.length - (i + 1)) (by omega) ?_)))))))))
    first
      | exact ⟨i + 1, rfl, by omega, rfl, by rw [zE0 hi2 (by first | exact .inl (by omega) | exact .inr (.inl (zFf (by assumption))) | exact .inr (.inr (by assumption)))]; exact gq.tail⟩
      | exact ⟨i + 1, rfl, by omega, rfl, by rw [zFp hi2 (fun h => by rcases h with h | h | h; omega; omega; simp_all)]; exact gq.tail⟩
   try simp only [zS] at gc
   refine zBr (zAj (zAj (zAy (zAb (gN _ _ (zAf (fun jI gU => (zAf (fun jJ gV => (zAa (w_p (zAd (o := 3) (i := 1) underlying114 rfl sizeOf93 rfl rfl rfl) rfl ?_)))))))))))
   refine w_p (y_loadIP (o := 3) (i := 3) isAgg93 sizeOf93 (by first | omega | rfl | (simp only [hx.1, zB1, zB8, zCg, zL] <;> omega)) hs rfl rfl rfl) rfl ?_
   refine w_p (zBo (v := _) rfl rfl) rfl (zAe (zAb (gV _ _ (zAw ?_))))
   refine zB2 [12,13,72,73,74,75,76,77,78,79,80,81,82,83,84,85,86,87] [72] (fun k vs w => ∃ j : Nat, vs = [.int .i64 j] ∧ j ≤ 4 ∧ k = 4 - j ∧ St w0 w ((gb, blk 112 (iv (capsU m (x.getD 7 0) b m.trains.length))) :: (g5, blk 166 (iv (List.replicate 16 0))) :: (b6, blk 166 (iv ((lacksTo m x b).set b (wantU x b j)))) :: (b3, blk 114 (iv x)) :: (mm, .map es ck) :: F)) (4) ?_ ?_
   ·
    exact ⟨0, rfl, by omega, by omega, by have hil : i = m.trains.length := (by omega); subst hil; rw [show wantU x b 0 = 0 from rfl, set_zero]; exact hs⟩
   intro k vs μ jK hI jL gW
   obtain ⟨j, rfl, hja, rfl, hs⟩ := hI
   refine zAf (fun jM gX => (zAa (w_p (zCb rfl rfl rfl rfl) rfl (zAe (zAb (gX _ _ (zAf (fun jN gY => (zAv rfl rfl (fun gi => ?_) (fun gi => ?_))))))))))
   ·
    try simp only [zS] at gi
    refine zAr (zAb (gY _ _ (zAf (fun jO gZ => (zAw ?_)))))
    refine zAf (fun jP hG => (zAa (zA2 rfl rfl (w_p (y_indexV (i := j) underlying93 underlying3 sizeOf3 rfl rfl rfl rfl rfl rfl (by omega) (by first | omega | rfl | (simp only [hx.1, zB1, zB8, zCg, zL] <;> omega))) rfl ?_))))
    refine zBg rfl rfl (zBg rfl rfl (zAe (zAb (hG _ _ ?_))))
    have hw1 := zE8 hx.2 b j
    have hgw := drop_get (x := x) (show j < 4 by omega)
    have hw2 := zEw (by omega) (by omega) hx.2 (3 + j)
    rw [← hgw] at hw2
    have hw3 := mul_bit (b := b) (j := j) (a := 10000) (by omega) hw2
    have hw4 := zFt (l := lacksTo m x b) (b := b) (v := wantU x b j) (by rw [zB1]; omega)
    refine zCc [11] [(0,0),(1,0),(2,1),(3,0),(4,0),(5,0),(6,0),(7,0),(8,0),(9,0),(10,0),(11,3)] zB7 (by kernel_rfl) hs (fun jQ gr => ?_)
    refine d_w rfl (fun _ => zAu rfl rfl) rfl (d_w rfl (fun _ => zBn underlying166 sizeOf3 rfl rfl rfl rfl (i := b) (by first | rfl | omega) (by omega)) rfl ?_)
    refine zA3 rfl zAc rfl gr (fun _ hq => (zAi isAgg3 hq rfl rfl (zDr (i := 2) (j := b) rfl (by first | omega | rfl | (simp only [hx.1, zB1, zB8, zCg, zL] <;> omega))))) ?_
    refine d_w rfl (fun _ => zAu rfl rfl) rfl (d_w rfl (fun _ => zAu rfl rfl) rfl (d_w rfl (fun _ => zAu rfl rfl) rfl (d_w rfl (fun _ => y_shr (x := _) (y := _) rfl rfl rfl rfl rfl rfl (by first | omega | exact zCs (by omega))) rfl ?_)))
    refine d_w rfl (fun _ => show Yd _ _ _ _ (.int .i64 ((bit b j : Nat) : Int)) from (y_and (x := _) (y := 1) rfl rfl rfl rfl rfl rfl (by first | omega | exact zCs (by omega)) (by first | omega | exact zCs (by omega)))) rfl ?_
    refine d_w rfl (fun _ => y_mul rfl rfl rfl rfl (by omega) (by omega)) rfl (d_w rfl (fun _ => zBe rfl rfl rfl rfl (by omega) (by omega)) rfl (d_w rfl (fun _ => zBn underlying166 sizeOf3 rfl rfl rfl rfl (i := b) (by first | rfl | omega) (by omega)) rfl ?_))
    refine zCa rfl ?_
    refine zDe (i := 2) (j := b) zAc sizeOf3 rfl rfl rfl rfl gr rfl (by first | omega | rfl | (simp only [hx.1, zB1, zB8, zCg, zL] <;> omega)) (fun jR hH => ?_)
    refine zAe (qn ?_)
    refine zB5 ?_
    refine zAk (zAb (gZ _ _ (zAa (w_p (zBe rfl rfl rfl rfl (by omega) (by omega)) rfl (zA2 rfl rfl (zAe (zAb (gW _ _ (nxI (4 - (j + 1)) (by omega) ?_)))))))))
    exact ⟨j + 1, rfl, by omega, rfl, by rw [← set_want hb16 (by omega)]; exact hH⟩
   try simp only [zS] at gi
   refine zBr (zAj (zAj (zAy (zAb (gU _ _ (zAf (fun jS hO => (zAa (w_p (zC2 (i := 0) isAgg112 sizeOf112 (by first | omega | rfl | (simp only [hx.1, zB1, zB8, zCg, zL] <;> omega)) hs rfl rfl rfl) rfl ?_)))))))))
   refine w_p (zBo (v := _) rfl rfl) rfl (zAe (zAb (hO _ _ (zAw ?_))))
   refine zB2 [14,15,89,90,91,92,93,94,95,96,97,98,99,100,101,102,103,104] [89] (fun k vs w => ∃ q : Nat, vs = [.int .i64 q] ∧ q ≤ 3 ∧ k = 3 - q ∧ St w0 w ((gb, blk 112 (iv (capsU m (x.getD 7 0) b m.trains.length))) :: (g5, blk 166 (iv (List.replicate 16 0))) :: (b6, blk 166 (iv ((lacksTo m x b).set b (wantU x b 4 - handU (capsU m (x.getD 7 0) b m.trains.length) x q)))) :: (b3, blk 114 (iv x)) :: (mm, .map es ck) :: F)) (3) ?_ ?_
   ·
    exact ⟨0, rfl, by omega, by omega, by have hj4 : j = 4 := (by omega); subst hj4; rw [show handU (capsU m (x.getD 7 0) b m.trains.length) x 0 = 0 from rfl, Int.sub_zero]; exact hs⟩
   intro k vs μ jT hI jU hY
   obtain ⟨q, rfl, hqa, rfl, hs⟩ := hI
   refine zAf (fun jV j0 => (zAa (w_p (zCb rfl rfl rfl rfl) rfl (zAe (zAb (j0 _ _ (zAf (fun jW j1 => (zAv rfl rfl (fun gj => ?_) (fun gj => ?_))))))))))
   ·
    try simp only [zS] at gj
    refine zAr (zAb (j1 _ _ (zAf (fun jX j3 => (zAw ?_)))))
    refine zAf (fun jY j4 => (zAa (zA2 rfl rfl (w_p (y_indexV (i := q) underlying112 underlying3 sizeOf3 rfl rfl rfl rfl rfl rfl (by omega) (by first | omega | rfl | (simp only [hx.1, zB1, zB8, zCg, zL] <;> omega))) rfl ?_))))
    refine zBg rfl rfl (zBg rfl rfl (zAe (zAb (j4 _ _ ?_))))
    have hw1 := zE8 hx.2 b 4
    have hcc := caps_in hk.ok (x.getD 7 0) b m.trains.length (Nat.le_refl _)
    have hh1 := zF2 hcc hx.2 q
    have hh2 := zEw (by omega) (by omega) hx.2 q
    have hh3 := zEw (by omega) (by omega) hcc q
    have hw4 := zFt (l := lacksTo m x b) (b := b) (v := wantU x b 4 - handU (capsU m (x.getD 7 0) b m.trains.length) x q) (by rw [zB1]; omega)
    refine zCc [11] [(0,0),(1,0),(2,1),(3,0),(4,0),(5,0),(6,0),(7,1),(8,0),(9,0),(10,0),(11,3)] zB7 (by kernel_rfl) hs (fun jZ gk => ?_)
    refine d_w rfl (fun _ => zAu rfl rfl) rfl (d_w rfl (fun _ => zBn underlying166 sizeOf3 rfl rfl rfl rfl (i := b) (by first | rfl | omega) (by omega)) rfl ?_)
    refine zA3 rfl zAc rfl gk (fun _ hq => (zAi isAgg3 hq rfl rfl (zDr (i := 2) (j := b) rfl (by first | omega | rfl | (simp only [hx.1, zB1, zB8, zCg, zL] <;> omega))))) ?_
    refine d_w rfl (fun _ => zAu rfl rfl) rfl (d_w rfl (fun _ => zAu rfl rfl) rfl (d_w rfl (fun _ => zAd (o := 0) (i := 0) underlying114 rfl sizeOf112 rfl rfl rfl) rfl (d_w rfl (fun _ => zBn underlying112 sizeOf3 rfl rfl rfl rfl (i := q) (by first | rfl | omega) (by omega)) rfl ?_)))
    refine zA3 rfl zAc rfl gk (fun _ hq => (zAi isAgg3 hq rfl rfl (zDr (i := 3) (j := q) rfl (by first | omega | rfl | (simp only [hx.1, zB1, zB8, zCg, zL] <;> omega))))) ?_
    refine d_w rfl (fun _ => y_min2 rfl rfl rfl rfl) rfl (d_w rfl (fun _ => zDk rfl rfl rfl rfl (by omega) (by omega)) rfl (d_w rfl (fun _ => zBn underlying166 sizeOf3 rfl rfl rfl rfl (i := b) (by first | rfl | omega) (by omega)) rfl ?_))
    refine zCa rfl ?_
    refine zDe (i := 2) (j := b) zAc sizeOf3 rfl rfl rfl rfl gk rfl (by first | omega | rfl | (simp only [hx.1, zB1, zB8, zCg, zL] <;> omega)) (fun k4 j5 => ?_)
    refine zAe (qn ?_)
    refine zB5 ?_
    refine zAk (zAb (j3 _ _ (zAa (w_p (zBe rfl rfl rfl rfl (by omega) (by omega)) rfl (zA2 rfl rfl (zAe (zAb (hY _ _ (nxI (3 - (q + 1)) (by omega) ?_)))))))))
    exact ⟨q + 1, rfl, by omega, rfl, by rw [← set_hand hb16]; exact j5⟩
   try simp only [zS] at gj
   refine zBr (zAj (zAj (zAy (q_ng_normal ?_))))
   refine zAk (zAb (gJ _ _ (zAa (w_p (zBe rfl rfl rfl rfl (by omega) (by omega)) rfl (zA2 rfl rfl (zAe (zAb (gG _ _ (nxI (16 - (b + 1)) (by omega) ?_)))))))))
   exact ⟨b + 1, rfl, by omega, rfl, by have hq3 : q = 3 := (by omega); subst hq3; rw [← set_done hb16]; exact hs.tail⟩
  try simp only [zS] at ga
  refine zBr (zAj (zAj (zAy (zAb (gE _ _ (zAf (fun k5 j6 => ?_)))))))
  have hb16 : b = 16 := by omega
  subst hb16
  rw [lacksTo_all] at hs
  refine zCc [6] [(0,0),(1,0),(2,0),(3,1),(4,1),(5,1),(6,3)] zB7 (by kernel_rfl) hs (fun k6 g9 => ?_)
  refine d_w rfl (fun _ => zBi rfl rfl) rfl (d_w rfl (fun _ => zBl rfl rfl) rfl (d_w rfl (fun _ => zAd (o := 3) (i := 1) underlying146 rfl sizeOf144 rfl rfl rfl) rfl ?_))
  refine zA3 rfl zAc rfl g9 (fun _ hq => (zAi isAgg144 hq.tail.tail.tail.tail rfl rfl (show Ats _ _ _ _ [_] from Ats.part hb 3 1))) ?_
  refine zA3 rfl zAc rfl g9 (fun _ hq => (zC2 (i := 2) isAgg114 sizeOf114 (by first | omega | rfl | (simp only [hx.1, zB1, zB8, zCg, zL] <;> omega)) hq rfl rfl rfl)) ?_
  refine zA3 rfl zAc rfl g9 (fun _ hq => (zC2 (i := 1) isAgg166 sizeOf166 (by first | omega | rfl | (simp only [hx.1, zB1, zB8, zCg, zL] <;> omega)) hq rfl rfl rfl)) ?_
  refine zCa rfl ?_
  refine K_mapAdd (i := 3) (l := x) zAc underlying144 key114 hx.1 rfl rfl rfl rfl rfl rfl rfl g9 rfl hf (fun k7 gt => ?_)
  refine zAe (qn ?_)
  refine zB5 ?_
  refine zAb (j6 _ _ (zAf (fun k8 j7 => (zAa (w_p (zC2 (i := 1) isAgg166 sizeOf166 (by first | omega | rfl | (simp only [hx.1, zB1, zB8, zCg, zL] <;> omega)) gt rfl rfl rfl) rfl ?_)))))
  refine zDu (i := 1) (l := _) zAc sizeOf166 (by first | omega | rfl | (simp only [hx.1, zB1, zB8, zCg, zL] <;> omega)) rfl rfl rfl rfl rfl gt rfl (by first | omega | rfl | (simp only [hx.1, zB1, zB8, zCg, zL] <;> omega)) (fun k9 gu => ?_)
  refine zAe (zAb (j7 _ _ (zA0 (zA1 (l := [.cell 4 166]) (vs := [_]) rfl ⟨⟨rfl, _, rfl, run_loadI (i := 1) isAgg166 sizeOf166 (by first | omega | rfl | (simp only [hx.1, zB1, zB8, zCg, zL] <;> omega)) gu rfl⟩, trivial⟩ ?_))))
  exact ⟨rfl, gu.tail.tail.tail⟩

theorem lacks_con {w0 w : World} {X M F : List (Nat × Obj)} (m : Market) (p : At3) (mb mm : Nat) (hk : MK w0 F m p mb mm)  (x : List Int) (hx : Small x) (hM : Memo m mm M) (hs : St w0 w (X ++ (M ++ F))) :
    Con Tryz.prog 100 [.pointer (some ⟨mb, 0, none⟩), ia x] w fun v w' => v = ia (lacksV m x) ∧ ∃ M', Memo m mm M' ∧ St w0 w' (X ++ (M' ++ F)) := by
  obtain ⟨es, ck, rfl, hes⟩ := hM
  have g4 : St w0 w ((mm, .map es ck) :: (X ++ F)) := hs.perm (zB3 X [(mm, .map es ck)] F)
  rcases K_findKey key114 hx.1 es.toList (fun e he => by obtain ⟨y, h1, h2, _⟩ := hes e he; exact ⟨y, h1, h2⟩) with ⟨hf, hne⟩ | ⟨j, e, hf, hmem, hkey⟩
  · refine (c100n m p mb mm hk.app x hx es ck hf g4).mono ?_
    rintro v w' ⟨rfl, g3⟩
    refine ⟨rfl, [(mm, .map (es.push { key := ia x, val := ia (lacksV m x), born := ck }) (ck + 1))], ⟨_, _, rfl, fun e he => ?_⟩, g3.perm (zB3 [_] X F)⟩
    rw [Array.toList_push, List.mem_append] at he
    rcases he with he | he
    · exact hes e he
    · rw [List.mem_singleton] at he
      subst he
      exact ⟨x, hx.1, rfl, rfl⟩
  · obtain ⟨y, h1, h2, h3⟩ := hes e hmem
    have hyx : y = x := ia_inj (h2.symm.trans hkey)
    subst hyx
    rw [h3] at hf
    refine (c100f m p mb mm hk.app y hx es ck j _ (zB8 m y) hf g4).mono ?_
    rintro v w' ⟨rfl, g3⟩
    exact ⟨rfl, _, ⟨es, ck, rfl, hes⟩, g3.perm (zB3 [_] X F)⟩
end Go.Proofs.Sb
