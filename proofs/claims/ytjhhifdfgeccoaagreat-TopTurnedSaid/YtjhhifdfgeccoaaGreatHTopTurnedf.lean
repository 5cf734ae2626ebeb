/- Own texts of this claim, joined. No conditions. -/
import Derived.Test.YtjhhifdfgeccoaaGreatHTopTurneda
import Derived.Test.YtjhhifdfgeccoaaGreatHTopTurnedb
import Derived.Test.YtjhhifdfgeccoaaGreatHTopTurnedc
import Derived.Test.YtjhhifdfgeccoaaGreatHTopTurnedd
import Derived.Test.YtjhhifdfgeccoaaGreatHTopTurnede
/- The walking engine, part 21: regions that draw their order, where up to four operations can come: all ways are walked; a state that is reached in several ways is proved once. No conditions. -/
set_option linter.unusedSimpArgs false
set_option linter.unusedVariables false
namespace Go.Rt
open Go.RowKit
variable {r : Option Nat} {P : Program} {ops : Array Oper} {K K' : Act → World → Prop} {n : Nat} {ρ : Nat → Value} {ds : List Deferred} {w w0 : World} {L : List (Nat × Obj)}
inductive OF where
  | done (pre : List (Nat × Nat))
  | one (pre : List (Nat × Nat)) (i : Nat) (a : OF)
  | two (pre : List (Nat × Nat)) (i j : Nat) (a b : OF)
  | three (pre : List (Nat × Nat)) (i j k : Nat) (a b c : OF)
  | four (pre : List (Nat × Nat)) (i j k m : Nat) (a b c d : OF)
def OF.len : OF → Nat
  | .done pre => pre.length
  | .one pre _ a => pre.length + (a.len + 1)
  | .two pre _ _ a _ => pre.length + (a.len + 1)
  | .three pre _ _ _ a _ _ => pre.length + (a.len + 1)
  | .four pre _ _ _ _ a _ _ _ => pre.length + (a.len + 1)
def drawF (ops : Array Oper) (late : List Nat) : OF → Array Bool → Bool
  | .done pre, l => drawE ops late (fun l => (Region.ready .any ops l).isEmpty) pre l
  | .one pre i a, l => drawE ops late (fun l => Region.ready .any ops l == [i] && !late.contains i && drawF ops late a (l.setIfInBounds i true)) pre l
  | .two pre i j a b, l => drawE ops late (fun l => Region.ready .any ops l == [i, j] && !late.contains i && !late.contains j && Nat.beq a.len b.len && drawF ops late a (l.setIfInBounds i true) && drawF ops late b (l.setIfInBounds j true)) pre l
  | .three pre i j k a b c, l => drawE ops late (fun l => Region.ready .any ops l == [i, j, k] && !late.contains i && !late.contains j && !late.contains k && Nat.beq a.len b.len && Nat.beq a.len c.len && drawF ops late a (l.setIfInBounds i true) && drawF ops late b (l.setIfInBounds j true) && drawF ops late c (l.setIfInBounds k true)) pre l
  | .four pre i j k m a b c d, l => drawE ops late (fun l => Region.ready .any ops l == [i, j, k, m] && !late.contains i && !late.contains j && !late.contains k && !late.contains m && Nat.beq a.len b.len && Nat.beq a.len c.len && Nat.beq a.len d.len && drawF ops late a (l.setIfInBounds i true) && drawF ops late b (l.setIfInBounds j true) && drawF ops late c (l.setIfInBounds k true) && drawF ops late d (l.setIfInBounds m true)) pre l
def DO (r : Option Nat) (P : Program) (ops : Array Oper) (X : Act → World → Prop) (C : World → Prop) (i : Nat) (a : Act) (w : World) : Prop := ∃ o, ops[i]? = some o ∧ WL r P ops (Qn fun a' w' => C w' ∧ X a' w') [o] a w
def DF (r : Option Nat) (P : Program) (ops : Array Oper) (K : Act → World → Prop) (C : World → Prop) : OF → Act → World → Prop
  | .done pre => DW r P ops K C pre
  | .one pre i x => DW r P ops (DO r P ops (DF r P ops K C x) C i) C pre
  | .two pre i j x y => DW r P ops (fun a w => DO r P ops (DF r P ops K C x) C i a w ∧ DO r P ops (DF r P ops K C y) C j a w) C pre
  | .three pre i j k x y z => DW r P ops (fun a w => DO r P ops (DF r P ops K C x) C i a w ∧ DO r P ops (DF r P ops K C y) C j a w ∧ DO r P ops (DF r P ops K C z) C k a w) C pre
  | .four pre i j k m x y z u => DW r P ops (fun a w => DO r P ops (DF r P ops K C x) C i a w ∧ DO r P ops (DF r P ops K C y) C j a w ∧ DO r P ops (DF r P ops K C z) C k a w ∧ DO r P ops (DF r P ops K C u) C m a w) C pre
theorem zD1 {C : World → Prop} {late : List Nat} (hns : Region.noSelect ops = true) (hnd : noDefer ops = true) : ∀ (T : OF) (l : Array Bool) (a : Act) (w : World), l.size = ops.size → drawF ops late T l = true →
    (badB late l = false → C w) → DF r P ops K C T a w → wAH r P ops K (fun l w => badB late l = false → C w) T.len l a w
  | .done pre, l, a, w, hsz, hB, hC, h => by
    refine zEj (m := 0) (e := fun l => (Region.ready .any ops l).isEmpty) hns hnd ?_ pre l a w hsz hB hC h
    intro l' a' w' _ he _ hk
    exact ⟨by simpa using he, hk⟩
  | .one pre i x, l, a, w, hsz, hB, hC, h => by
    refine zEj (m := x.len + 1) hns hnd ?_ pre l a w hsz hB hC h
    intro l' a' w' hsz' he hC' hk
    simp only [Bool.and_eq_true, Bool.not_eq_true', beq_iff_eq] at he
    obtain ⟨⟨h1, h2⟩, h5⟩ := he
    obtain ⟨o1, ho1, hw1⟩ := hk
    refine ⟨fun h0 => (by rw [h1] at h0; cases h0), fun q hq => ?_⟩
    rw [h1, List.mem_singleton] at hq
    subst hq
    exact wpOpIn_mono (fun a'' w'' h' => ⟨fun _ => h'.1, zD1 hns hnd x _ a'' w'' (by simpa using hsz') h5 (fun _ => h'.1) h'.2⟩) (zEz (K := K) ho1 hw1)
  | .two pre i j x y, l, a, w, hsz, hB, hC, h => by
    refine zEj (m := x.len + 1) hns hnd ?_ pre l a w hsz hB hC h
    intro l' a' w' hsz' he hC' hk
    simp only [Bool.and_eq_true, Bool.not_eq_true', beq_iff_eq] at he
    obtain ⟨⟨⟨⟨⟨h1, h2⟩, h3⟩, h4⟩, h5⟩, h6⟩ := he
    obtain ⟨⟨o1, ho1, hw1⟩, ⟨o2, ho2, hw2⟩⟩ := hk
    have hy : y.len = x.len := (Nat.eq_of_beq_eq_true h4).symm
    refine ⟨fun h0 => (by rw [h1] at h0; cases h0), fun q hq => ?_⟩
    rw [h1] at hq
    simp only [List.mem_cons, List.not_mem_nil, or_false] at hq
    rcases hq with rfl | rfl
    · exact wpOpIn_mono (fun a'' w'' h' => ⟨fun _ => h'.1, zD1 hns hnd x _ a'' w'' (by simpa using hsz') h5 (fun _ => h'.1) h'.2⟩) (zEz (K := K) ho1 hw1)
    · exact wpOpIn_mono (fun a'' w'' h' => ⟨fun _ => h'.1, by rw [← hy]; exact zD1 hns hnd y _ a'' w'' (by simpa using hsz') h6 (fun _ => h'.1) h'.2⟩) (zEz (K := K) ho2 hw2)
  | .three pre i j k x y z, l, a, w, hsz, hB, hC, h => by
    refine zEj (m := x.len + 1) hns hnd ?_ pre l a w hsz hB hC h
    intro l' a' w' hsz' he hC' hk
    simp only [Bool.and_eq_true, Bool.not_eq_true', beq_iff_eq] at he
    obtain ⟨⟨⟨⟨⟨⟨⟨⟨h1, _⟩, _⟩, _⟩, h4⟩, h4'⟩, h5⟩, h6⟩, h7⟩ := he
    obtain ⟨⟨o1, ho1, hw1⟩, ⟨o2, ho2, hw2⟩, ⟨o3, ho3, hw3⟩⟩ := hk
    have hy : y.len = x.len := (Nat.eq_of_beq_eq_true h4).symm
    have hz : z.len = x.len := (Nat.eq_of_beq_eq_true h4').symm
    refine ⟨fun h0 => (by rw [h1] at h0; cases h0), fun q hq => ?_⟩
    rw [h1] at hq
    simp only [List.mem_cons, List.not_mem_nil, or_false] at hq
    rcases hq with rfl | rfl | rfl
    · exact wpOpIn_mono (fun a'' w'' h' => ⟨fun _ => h'.1, zD1 hns hnd x _ a'' w'' (by simpa using hsz') h5 (fun _ => h'.1) h'.2⟩) (zEz (K := K) ho1 hw1)
    · exact wpOpIn_mono (fun a'' w'' h' => ⟨fun _ => h'.1, by rw [← hy]; exact zD1 hns hnd y _ a'' w'' (by simpa using hsz') h6 (fun _ => h'.1) h'.2⟩) (zEz (K := K) ho2 hw2)
    · exact wpOpIn_mono (fun a'' w'' h' => ⟨fun _ => h'.1, by rw [← hz]; exact zD1 hns hnd z _ a'' w'' (by simpa using hsz') h7 (fun _ => h'.1) h'.2⟩) (zEz (K := K) ho3 hw3)
  | .four pre i j k m x y z u, l, a, w, hsz, hB, hC, h => by
    refine zEj (m := x.len + 1) hns hnd ?_ pre l a w hsz hB hC h
    intro l' a' w' hsz' he hC' hk
    simp only [Bool.and_eq_true, Bool.not_eq_true', beq_iff_eq] at he
    obtain ⟨⟨⟨⟨⟨⟨⟨⟨⟨⟨⟨h1, _⟩, _⟩, _⟩, _⟩, h4⟩, h4'⟩, h4''⟩, h5⟩, h6⟩, h7⟩, h8⟩ := he
    obtain ⟨⟨o1, ho1, hw1⟩, ⟨o2, ho2, hw2⟩, ⟨o3, ho3, hw3⟩, ⟨o4, ho4, hw4⟩⟩ := hk
    have hy : y.len = x.len := (Nat.eq_of_beq_eq_true h4).symm
    have hz : z.len = x.len := (Nat.eq_of_beq_eq_true h4').symm
    have hu : u.len = x.len := (Nat.eq_of_beq_eq_true h4'').symm
    refine ⟨fun h0 => (by rw [h1] at h0; cases h0), fun q hq => ?_⟩
    rw [h1] at hq
    simp only [List.mem_cons, List.not_mem_nil, or_false] at hq
    rcases hq with rfl | rfl | rfl | rfl
    · exact wpOpIn_mono (fun a'' w'' h' => ⟨fun _ => h'.1, zD1 hns hnd x _ a'' w'' (by simpa using hsz') h5 (fun _ => h'.1) h'.2⟩) (zEz (K := K) ho1 hw1)
    · exact wpOpIn_mono (fun a'' w'' h' => ⟨fun _ => h'.1, by rw [← hy]; exact zD1 hns hnd y _ a'' w'' (by simpa using hsz') h6 (fun _ => h'.1) h'.2⟩) (zEz (K := K) ho2 hw2)
    · exact wpOpIn_mono (fun a'' w'' h' => ⟨fun _ => h'.1, by rw [← hz]; exact zD1 hns hnd z _ a'' w'' (by simpa using hsz') h7 (fun _ => h'.1) h'.2⟩) (zEz (K := K) ho3 hw3)
    · exact wpOpIn_mono (fun a'' w'' h' => ⟨fun _ => h'.1, by rw [← hu]; exact zD1 hns hnd u _ a'' w'' (by simpa using hsz') h8 (fun _ => h'.1) h'.2⟩) (zEz (K := K) ho4 hw4)
def drawFOK (ops : Array Oper) (late : List Nat) (T : OF) : Bool := Region.noSelect ops && noDefer ops && Nat.beq T.len ops.size && drawF ops late T (Array.replicate ops.size false)
theorem w_drawF {id : Nat} {l : List Oper} {Q : Exit → Act → World → Prop} {C : World → Prop} (late : List Nat) (T : OF) (hm : P.follows .mixedOrders = true) (hB : drawFOK l.toArray late T = true) (hC : C w)
    (hdrew : ∀ w, C w → C { w with drawn := w.drawn + 1 }) (h : ∀ w', C w' → DF r P l.toArray (fun a w => Q .normal a w) C T (A n ρ ds) w') : WC r P (.region id l.toArray true) Q (A n ρ ds) w := by
  unfold drawFOK at hB
  simp only [Bool.and_eq_true] at hB
  obtain ⟨⟨⟨h1, h2⟩, h3⟩, h4⟩ := hB
  have hst' := hdrew _ hC
  have hsz : T.len = l.toArray.size := Nat.eq_of_beq_eq_true h3
  have := zD1 h1 h2 T (Array.replicate l.toArray.size false) (A n ρ ds) _ (by simp) h4 (fun _ => hst') (h _ hst')
  have hany := zEt _ _ _ _ this
  rw [hsz] at hany
  refine wpIn_mono (wpIn_region_any hm hany) ?_
  intro e a w hq
  cases e <;> first | exact hq | exact hq.elim
theorem zDy {X : Act → World → Prop} {C : World → Prop} {i : Nat} {a : Act} {o : Oper} (h : ops[i]? = some o) (hw : WL r P ops (Qn fun a' w' => C w' ∧ X a' w') [o] a w) : DO r P ops X C i a w := ⟨o, h, hw⟩
end Go.Rt
set_option maxRecDepth 20000
namespace Go.Proofs.Ut
open Go.Proofs.Tryz
open Go.Rt Go.Rt.Tu
open Go.Rt.Ha (firstE zB3 zAp zBn failE felt spanL upto zBv listL fewest fewTo bit Bunch before fewStep zB8 zCi zBx zB2 zCg zCf zBu)
attribute [local irreducible] WL WC Con Yd At Ats Sl Agree DW
theorem Try_UN_fb3 (x0 : Go.Fn) (a0 c0 : Array Value) (w : World) : (Instr.build 98 [(0, .func x0 a0 c0)].toArray).run Tryz.prog w = .ok (.agg #[.func x0 a0 c0]) w := by kernel_rfl
theorem zDa (x0 : Int) (w : World) : (Instr.buildSlice 22 1 [(0, .int .i64 x0)].toArray).run Tryz.prog w = .ok (.slice (some ⟨w.heap.size, 0, none⟩) 1 1) (w.alloc (Go.Rt.blk 3 [.int .i64 x0])) := by kernel_rfl
theorem zCy (x0 : Bool) (x1 : Int) (x2 : Bool) (x3 : Int) (w : World) : (Instr.buildSlice 132 2 [(0, .agg #[.bool x0, .int .i64 x1]),(1, .agg #[.bool x2, .int .i64 x3])].toArray).run Tryz.prog w = .ok (.slice (some ⟨w.heap.size, 0, none⟩) 2 2) (w.alloc (Go.Rt.blk 88 [.bool x0, .int .i64 x1, .bool x2, .int .i64 x3])) := by kernel_rfl
theorem _root_.Go.Rt.Ats.top {w0 : World} {B F : List (Nat × Obj)} {b off : Nat} {vs : List Value} (h : Ats w0 B b off vs) : Ats w0 (B ++ F) b off vs := h.mono fun _ h => h.front
theorem zDh {c : Cargo} {a b : Int} : ∀ x ∈ outL c a b, x.1 = true → x.2 ≠ 0 := by intro x hx _; simp only [outL, List.mem_cons, List.not_mem_nil, or_false] at hx; rcases hx with rfl | rfl <;> simp [noneA, hoursA]
theorem out_y {c : Cargo} {until_ z : Int} {t : List Int} {i : Nat} (hz : z = (i : Int)) (hi : i < c.lots.length) (h : ¬ c.lots[i].frm ≤ until_ ∨ ¬ t.getD i 0 ≤ until_) : (!(decide ((lotAt c z.toNat).frm ≤ until_) && decide (t.getD z.toNat 0 ≤ until_))) = true := by
  subst hz
  rw [show ((i : Int)).toNat = i from rfl, zC5 hi]
  rcases h with h | h
  · rw [decide_eq_false h]; rfl
  · rw [decide_eq_false h, Bool.and_false]; rfl
theorem out_n {c : Cargo} {until_ z : Int} {t : List Int} {i : Nat} (hz : z = (i : Int)) (hi : i < c.lots.length) (h : c.lots[i].frm ≤ until_) (h2 : t.getD i 0 ≤ until_) : (!(decide ((lotAt c z.toNat).frm ≤ until_) && decide (t.getD z.toNat 0 ≤ until_))) = false := by
  subst hz
  rw [show ((i : Int)).toNat = i from rfl, zC5 hi, decide_eq_true h, decide_eq_true h2]; rfl
theorem zGq {α : Type} {p : α → Bool} {l : List α} {j : Nat} (hj : j < l.length) (h : (l.take j).all p = true) (h2 : p l[j] = true) : (l.take (j + 1)).all p = true := by
  rw [List.take_succ_eq_append_getElem hj, List.all_append, h]; simp [h2]
theorem all_not {α : Type} {p : α → Bool} {l : List α} {j : Nat} (hj : j < l.length) (h2 : p l[j] = false) : false = l.all p := by
  symm; rw [List.all_eq_false]; exact ⟨l[j], List.getElem_mem hj, by simp [h2]⟩
theorem outS_1 {c : Cargo} {n set : Nat} {u : Int} (h : ((bitDiff set (ofH c (n : Int)) : Nat) : Int) = 0) : decide (Tu.ask c n (outQ c set u) = 1) = outS c n u set := by unfold outS; rw [decide_eq_true (p := bitDiff set (ofH c (n : Int)) = 0) (by omega)]; rfl
theorem outS_0 {c : Cargo} {n set : Nat} {u : Int} (h : ¬ ((bitDiff set (ofH c (n : Int)) : Nat) : Int) = 0) : false = outS c n u set := by unfold outS; rw [decide_eq_false (p := bitDiff set (ofH c (n : Int)) = 0) (by omega)]; rfl
theorem outP_e {c : Cargo} {a b : Int} (h : ¬ enterE c (outL c a b) = 0) : outP c a b = ([], enterE c (outL c a b)) := by unfold outP; rw [if_pos h]
theorem outP_y {c : Cargo} {a b : Int} (h : enterE c (outL c a b) = 0) : outP c a b = ((fewest (outS c a.toNat b) c.lots.length).1,0) := by unfold outP; rw [if_neg (by simp [h])]
theorem wrongP_e {c : Cargo} (h : ¬ (check c).2.2 = 0) : wrongP c = ([], (check c).2.2) := by unfold wrongP; rw [if_pos h]
theorem wrongP_y {c : Cargo} (h : (check c).2.2 = 0) : wrongP c = ((fewest (someB c) c.seen.length).1,0) := by unfold wrongP; rw [if_neg (by simp [h])]
theorem c60 {w0 w : World} {X M F : List (Nat × Obj)} (c : Cargo) (p : AtT) (cb mm : Nat) (hk : CK w0 F c p 0 cb mm) (hco : c.Ok) (set : Nat) (hset : set < 16) (until_ : Int) (b2 b3 b4 b5 : Nat) (h2 : Ats w0 F b2 0 [.int .i64 (set : Int)]) (h3 : Ats w0 F b3 0 [.pointer (some ⟨cb, 0, none⟩)]) (h4 : Ats w0 F b4 0 (c.cells p)) (h5 : Ats w0 F b5 0 [.int .i64 until_]) (s : List Int) (hso : SOk s) (hM : Memo c mm M) (hs : St w0 w (X ++ (M ++ F))) :
  Con Tryz.prog 60 [ia s, ia (times c s), .pointer (some ⟨b2,0, none⟩), .pointer (some ⟨b3,0, none⟩), .pointer (some ⟨b4,0, none⟩), .pointer (some ⟨b5,0, none⟩)] w fun v w' => v = .bool (outQ c set until_ s) ∧ ∃ M', Memo c mm M' ∧ St w0 w' (X ++ (M' ++ F)) := by
  refine zAo (n := 47) func60 rfl rfl (zNl rfl) ?_
  have hls := hso.len
  have htl := zBf c s
  have htt := hso.tt
  have hsw := zG2 hso set
  have hwl := hsw.len
  have hwt := hsw.tt
  have htw := zBf c (without s set)
  have hlo := hco.ll
  refine zAf (fun K2 gg => (zAb (zEi (l := _) zAa rfl rfl rfl hs (fun b3 w4 gh => ?_))))
  refine zEi (l := _) zAa rfl rfl rfl gh (fun b6 w7 g4 => ?_)
  refine zBi rfl rfl (zAd (zAc (gg _ _ (zAf (fun gx gi => (zAb (w_p (zAe (o := 7) (i := 3) underlying94 rfl sizeOf3 rfl rfl rfl) rfl (w_p (zAg isAgg3 g4 rfl rfl (zEr (i := 1) (o := 7) rfl (by first | omega | rfl | (simp only [hls, zBf, zL] <;> omega)))) rfl ?_))))))))
  refine w_p (zAg isAgg3 g4.tail.tail.drop.drop rfl rfl h2) rfl (w_p (zI0 (x := tt s) (y := set) rfl rfl rfl rfl (by first | rfl | omega) (by first | rfl | omega) (by first | omega | exact zCr (by omega))) rfl ?_)
  refine w_p (zAe (o := 7) (i := 3) underlying94 rfl sizeOf3 rfl rfl rfl) rfl (zE8 (i := 1) (o := 7) zAa sizeOf3 rfl rfl rfl rfl g4 rfl (by first | omega | rfl | (simp only [hls, zBf, zL] <;> omega)) (fun gy g5 => ?_))
  refine zAd (zAc (gi _ _ (zAf (fun gz gj => (zAb (w_p (zAg isAgg84 g5.tail.tail.drop.drop rfl rfl h3) rfl (w_p (zCt (i := 1) isAgg94 sizeOf94 (by first | omega | rfl | (simp only [hls, zBf, zL] <;> omega)) g5 rfl rfl rfl) rfl ?_)))))))
  refine zA4 zAa call53 rfl rfl rfl rfl (zF5 (X := _ :: _ :: X) (M := M) c p 0 cb mm hk _ hsw hM g5) ?_
  rintro _ gA ⟨M2, rfl, g3, g6⟩
  replace g6 := (show St _ _ (_ :: _ :: X ++ (M2 ++ (F))) from g6)
  refine zA1 (cs := iv [0,0,0,0,0]) zAa zeroValue92 rfl g6 (fun gk gB gm => ?_)
  refine zDg (i := 0) (l := _) zAa sizeOf92 (by first | omega | rfl | (simp only [hls, zBf, zL] <;> omega)) rfl rfl rfl rfl rfl gm rfl (by first | omega | rfl | (simp only [hls, zBf, zL] <;> omega)) (fun gC g7 => ?_)
  refine zAd (zAc (gj _ _ (zAf (fun gD gn => (zAf (fun gE go => (zAb (w_p (zAe (o := 7) (i := 3) underlying94 rfl sizeOf3 rfl rfl rfl) rfl (w_p (zAg isAgg3 g7 rfl rfl (zEr (i := 2) (o := 7) rfl (by first | omega | rfl | (simp only [hls, zBf, zL] <;> omega)))) rfl ?_)))))))))
  refine w_p (zAe (o := 3) (i := 3) underlying27 rfl sizeOf24 rfl rfl rfl) rfl (w_p (zAg isAgg24 g7.tail.tail.tail.drop.drop rfl rfl (show Ats _ _ _ _ [_] from Ats.part h4 3 1)) rfl (w_p (zBc underlying24 rfl rfl) rfl (zA4 zAa call61 rfl rfl rfl rfl ((by have h := c61 (tt (without s set)) c.lots.length (by omega) (by omega) g7; rw [← hwt.1] at h; exact h)) ?_)))
  rintro _ gF ⟨B1, hown1, g8⟩
  replace g8 := (show St _ _ (B1 ++ (_ :: _ :: _ :: X ++ (M2 ++ (F)))) from g8)
  obtain ⟨aL, cL, rfl, hslL, _, _⟩ := zFj (w0 := w0) hown1
  have hll := zDx (tt (without s set)) c.lots.length
  have gp := (show St _ _ (_ :: _ :: _ :: (B1 ++ ((X ++ ((M2 ++ (F))))))) from St.pk [B1, [_], [_], [_], X, M2] [1,2,3,0,4,5] g8)
  refine w_p (zBc underlying22 rfl rfl) rfl (w_p (zBy (v := _) rfl rfl) rfl (zAd (zAc (go _ _ (zAq ?_)))))
  refine zB6 [8,11,27,28,29,30,31,32,33,34,35,36,37,38,39,40,41,42,43,44,45,46] [27] (fun k vs w => ∃ (j : Nat), vs = [.int .i64 (j : Int)] ∧ j ≤ (listL (tt (without s set)) c.lots.length).length ∧ k = (listL (tt (without s set)) c.lots.length).length - j ∧ ((listL (tt (without s set)) c.lots.length).take j).all (fun i => !(decide ((lotAt c i.toNat).frm ≤ until_) && decide ((times c (without s set)).getD i.toNat 0 ≤ until_))) = true ∧ St w0 w ((gk, blk 92 (iv (times c (without s set)))) :: (b6, blk 92 (iv (times c s))) :: (b3, blk 94 (iv (without s set))) :: (B1 ++ (X ++ (M2 ++ F))))) ((listL (tt (without s set)) c.lots.length).length) ?_ ?_
  ·
   exact ⟨0, rfl, by omega, by omega, rfl, gp⟩
  intro k vs μ gG hI gH gd
  clear hs
  obtain ⟨j, rfl, hja, rfl, hall, hs⟩ := hI
  refine zAf (fun gI gq => (zAb (w_p (zCp rfl rfl rfl rfl) rfl (zAd (zAc (gq _ _ (zAf (fun gJ gt => (zAr rfl rfl (fun g9 => ?_) (fun g9 => ?_))))))))))
  ·
   try simp only [zS] at g9
   refine zAn (zAc (gt _ _ (zAf (fun gK ge => (zAq ?_)))))
   refine zAf (fun gL gu => ?_)
   have hj2 : j < (listL (tt (without s set)) c.lots.length).length := by omega
   obtain ⟨bq, oq, hbq, hxq0⟩ := zCx hslL hj2
   subst hbq
   have hxq := hxq0.top (F := X ++ (M2 ++ F))
   have hzi := zGo _ _ _ (List.getElem_mem hj2)
   refine zAb (w_p (zA7 underlying22 sizeOf3 rfl rfl rfl rfl (i := _) rfl (by omega)) rfl (w_p (zAg isAgg3 hs.tail.tail.tail rfl rfl hxq) rfl (zBw rfl rfl (zAd (zAc (gu _ _ (zAf (fun gM gf => ?_))))))))
   obtain ⟨i, hiz⟩ : ∃ i : Nat, ((listL (tt (without s set)) c.lots.length)[j]'hj2) = (i : Int) := ⟨(((listL (tt (without s set)) c.lots.length)[j]'hj2)).toNat, by omega⟩
   have hi2 : i < c.lots.length := by omega
   obtain ⟨bx, ox, hbx, hx⟩ := sl_lrows hk.i.l hi2
   refine zCq [] [(0,0),(1,1),(2,0),(3,0),(4,0),(5,1),(6,1),(7,0),(8,0),(9,0),(10,0),(11,1),(12,1),(13,0),(14,0)] zB4 (zBk (by kernel_rfl)) hs (fun gN g0 => ?_)
   refine d_w rfl (fun _ => zAe (o := 3) (i := 3) underlying27 rfl sizeOf24 rfl rfl rfl) rfl ?_
   refine zAz rfl zAa rfl g0 (fun _ hq => (zCl hbx (zAg isAgg24 hq.tail.tail.tail.drop.drop.drop rfl rfl (show Ats _ _ _ _ [_] from Ats.part h4 3 1)))) ?_
   refine d_w rfl (fun _ => zAy rfl rfl) rfl (d_w rfl (fun _ => zA7 underlying24 sizeOf38 rfl rfl rfl rfl (i := i) hiz hi2) rfl (d_w rfl (fun _ => zAe (o := 1) (i := 1) underlying38 rfl sizeOf3 rfl rfl rfl) rfl ?_))
   refine zAz rfl zAa rfl g0 (fun _ hq => (zAg isAgg3 hq.tail.tail.tail.drop.drop.drop rfl rfl (show Ats _ _ _ _ [_] from Ats.part hx 1 1))) ?_
   refine zAz rfl zAa rfl g0 (fun _ hq => (zAg isAgg3 hq.tail.tail.tail.drop.drop.drop rfl rfl h5)) ?_
   refine d_w rfl (fun _ => zFc rfl rfl rfl rfl) rfl (d_w rfl (fun _ => zAt rfl rfl) rfl ?_)
   refine zC6 (fun ga => ?_) (fun ga => ?_)
   ·
    try simp only [zS] at ga
    refine zBe rfl (zAh rfl rfl rfl) rfl (fun _ => (zAy rfl rfl)) ?_
    refine zBe rfl (zAh rfl rfl rfl) rfl (fun _ => (zCw underlying92 sizeOf3 rfl rfl rfl rfl (i := i) hiz (by omega))) ?_
    refine zAz rfl (zAh rfl rfl rfl) rfl g0 (fun _ hq => (zAg isAgg3 hq rfl rfl (zC9 (i := 0) (j := i) rfl (by first | omega | rfl | (simp only [hls, zBf, zL] <;> omega))))) ?_
    refine zAz rfl (zAh rfl rfl rfl) rfl g0 (fun _ hq => (zAg isAgg3 hq.tail.tail.tail.drop.drop.drop rfl rfl h5)) ?_
    refine zBe rfl (zAh rfl rfl rfl) rfl (fun _ => (zFc rfl rfl rfl rfl)) ?_
    refine d_w rfl (fun _ => zA5 (v := .bool _) rfl rfl rfl rfl) rfl ?_
    refine zBm ?_
    refine zAc (gf _ _ (zAr rfl rfl (fun gc => ?_) (fun gc => ?_)))
    ·
     try simp only [zS] at gc
     refine zAf (fun gO gv => (zAb (zBi rfl rfl (zAd (zAc (gv _ _ (zA8 (zA9 (zAl (zAl (zA9 (zAl (zBa (l := [.tmp 8]) (vs := [_]) rfl ⟨⟨rfl, (rfl : _ = Value.bool _)⟩, trivial⟩ ?_)))))))))))))
     first
       | exact ⟨congrArg Value.bool (all_not hj2 (out_n hiz hi2 (by assumption) (by assumption))), M2, g3, g0.tail.tail.tail.drop⟩
       | (have hjl : j = (listL (tt (without s set)) c.lots.length).length := by omega
          subst hjl
          rw [List.take_length] at hall
          exact ⟨congrArg Value.bool hall.symm, M2, g3, g0.tail.tail.tail.drop⟩)
    try simp only [zS] at gc
    refine zAn (zAi (zAc (ge _ _ (zAb (w_p (zBo rfl rfl rfl rfl (by omega) (by omega)) rfl (zA6 rfl rfl (zAd (zAc (gd _ _ (nxI ((listL (tt (without s set)) c.lots.length).length - (j + 1)) (by omega) ?_))))))))))
    first
      | exact ⟨j + 1, rfl, by omega, rfl, zGq hj2 hall (out_y hiz hi2 (.inl (by omega))), g0⟩
      | exact ⟨j + 1, rfl, by omega, rfl, zGq hj2 hall (out_y hiz hi2 (.inr (by omega))), g0⟩
   try simp only [zS] at ga
   refine zBl rfl rfl rfl rfl ?_
   refine zBl rfl rfl rfl rfl ?_
   refine zCb rfl rfl rfl rfl g0 ?_
   refine zCb rfl rfl rfl rfl g0 ?_
   refine zBl rfl rfl rfl rfl ?_
   refine d_w rfl (fun _ => zBg (v := _) rfl rfl rfl rfl) rfl ?_
   refine zBm ?_
   refine zAc (gf _ _ (zBs rfl rfl ?_))
   refine zAn (zAi (zAc (ge _ _ (zAb (w_p (zBo rfl rfl rfl rfl (by omega) (by omega)) rfl (zA6 rfl rfl (zAd (zAc (gd _ _ (nxI ((listL (tt (without s set)) c.lots.length).length - (j + 1)) (by omega) ?_))))))))))
   first
     | exact ⟨j + 1, rfl, by omega, rfl, zGq hj2 hall (out_y hiz hi2 (.inl (by omega))), g0⟩
     | exact ⟨j + 1, rfl, by omega, rfl, zGq hj2 hall (out_y hiz hi2 (.inr (by omega))), g0⟩
  try simp only [zS] at g9
  refine zBt (zAj (zAj (zAv (zAc (gn _ _ (zAf (fun gP gw => (zAb (zBi rfl rfl (zAd (zAc (gw _ _ (zA8 (zBa (l := [.tmp 8]) (vs := [_]) rfl ⟨⟨rfl, (rfl : _ = Value.bool _)⟩, trivial⟩ ?_))))))))))))))
  first
    | exact ⟨congrArg Value.bool (all_not hj2 (out_n hiz hi2 (by assumption) (by assumption))), M2, g3, hs.tail.tail.tail.drop⟩
    | (have hjl : j = (listL (tt (without s set)) c.lots.length).length := by omega
       subst hjl
       rw [List.take_length] at hall
       exact ⟨congrArg Value.bool hall.symm, M2, g3, hs.tail.tail.tail.drop⟩)

theorem out_qis {w0 : World} {F : List (Nat × Obj)} (c : Cargo) (p : AtT) (cb mm : Nat) (hk : CK w0 F c p 0 cb mm) (hco : c.Ok) (hold : Nat) (hh : hold < c.holds.length) (set : Nat) (hset : set < 16) (until_ : Int) (b2 b3 b4 b5 : Nat) (h2 : Ats w0 F b2 0 [.int .i64 (set : Int)]) (h3 : Ats w0 F b3 0 [.pointer (some ⟨cb, 0, none⟩)]) (h4 : Ats w0 F b4 0 (c.cells p)) (h5 : Ats w0 F b5 0 [.int .i64 until_]) : QIs w0 F c mm hold (.func (.func 60) #[] #[.pointer (some ⟨b2,0, none⟩), .pointer (some ⟨b3,0, none⟩), .pointer (some ⟨b4,0, none⟩), .pointer (some ⟨b5,0, none⟩)]) (outQ c set until_) (fun i B => B = []) := by
  intro i hi B M X w hB hM hs
  subst hB
  refine (zDm call60 (c60 (X := X) (M := M) (F := F) c p cb mm hk hco set hset until_ b2 b3 b4 b5 h2 h3 h4 h5 _ (zEg hco hh (List.getElem_mem hi)).1 hM hs)).mono ?_
  rintro v w' ⟨rfl, M', hM', g0⟩
  exact ⟨rfl, [], M', rfl, hM', g0⟩
theorem c59 {w0 w : World} {X M F : List (Nat × Obj)} (c : Cargo) (p : AtT) (cb mm : Nat) (hk : CK w0 F c p 0 cb mm) (hco : c.Ok) (n : Nat) (hh : n < c.holds.length) (until_ : Int) (b1 b2 b3 b4 b5 : Nat) (h1 : Ats w0 F b1 0 [.int .i64 ((ofH c (n : Int) : Nat) : Int)]) (h2 : Ats w0 F b2 0 [.pointer (some ⟨cb, 0, none⟩)]) (h3 : Ats w0 F b3 0 [.int .i64 (n : Int)]) (h4 : Ats w0 F b4 0 (c.cells p)) (h5 : Ats w0 F b5 0 [.int .i64 until_]) (set : Nat) (hset : set < 16) (hM : Memo c mm M) (hs : St w0 w (X ++ (M ++ F))) :
  Con Tryz.prog 59 [.int .i64 (set : Int), .pointer (some ⟨b1,0, none⟩), .pointer (some ⟨b2,0, none⟩), .pointer (some ⟨b3,0, none⟩), .pointer (some ⟨b4,0, none⟩), .pointer (some ⟨b5,0, none⟩)] w fun v w' => v = .bool (outS c n until_ set) ∧ ∃ M', Memo c mm M' ∧ St w0 w' (X ++ (M' ++ F)) := by
  refine zAo (n := 20) func59 rfl rfl (zNl rfl) ?_
  have hlo := hco.ll
  have hof : ofH c (n : Int) < 32 := zI7 c (n : Int) (i := c.lots.length) (by omega)
  refine zAf (fun K2 g7 => (zAb (zCj (v := .int _ _) (cs := [_]) zAa rfl rfl rfl hs (fun b3 w4 g0 => ?_))))
  refine zBi rfl rfl (zAd (zAc (g7 _ _ (zAf (fun K7 g4 => (zAb (w_p (zAg isAgg3 g0 rfl rfl (aow 0 [_])) rfl (w_p (zAg isAgg3 g0.tail.drop.drop rfl rfl h1) rfl (w_p (zI0 (x := set) (y := (ofH c (n : Int))) rfl rfl rfl rfl (by first | rfl | omega) (by first | rfl | omega) (by first | omega | exact zCr (by omega))) rfl ?_)))))))))
  refine w_p (zCa rfl rfl rfl rfl) rfl (w_p (zAt rfl rfl) rfl (zB5 (fun h8 => ?_) (fun h8 => ?_)))
  ·
   try simp only [zS] at h8
   refine w_y rfl rfl rfl (zAg isAgg84 g0.tail.drop.drop rfl rfl h2) rfl ?_
   refine w_y rfl rfl rfl (zAg isAgg3 g0.tail.drop.drop rfl rfl h3) rfl ?_
   refine w_y rfl rfl rfl (zCc (fv := []) (cv := [_,_,_,_]) rfl rfl rfl rfl) rfl ?_
   refine w_y rfl rfl rfl (zB1 (ps := [(0, _)]) (pv := [(0, .func _ _ _)]) rfl rfl (fun w => Try_UN_fb3 _ _ _ w)) rfl ?_
   have g8 := (show St _ _ ((X ++ ((M ++ (_ :: F))))) from St.pk [[_], X, M] [1,2,0] g0)
   refine zA4 (zAh rfl rfl rfl) call44 rfl rfl rfl rfl (c44 (X := X) (B := []) (M := M) (F := _ :: F) c p cb mm hk.cons hco n hh 60 #[] #[.pointer (some ⟨b3,0, none⟩), .pointer (some ⟨b2,0, none⟩), .pointer (some ⟨b4,0, none⟩), .pointer (some ⟨b5,0, none⟩)] (outQ c set until_) (fun i B => B = []) (out_qis c p cb mm hk.cons hco n hh set hset until_ _ _ _ _ (aow 0 [_]) h2.cons h4.cons h5.cons) rfl hM g8) ?_
   rintro _ g9 ⟨rfl, B1, M2, hJ1, g5, g3⟩
   subst hJ1
   replace g3 := (show St _ _ (X ++ (M2 ++ (_ :: F))) from g3)
   have g6 := (show St _ _ (_ :: (X ++ ((M2 ++ (F))))) from St.pk [X, M2, [_]] [2,0,1] g3)
   refine w_y rfl rfl rfl (zCa rfl rfl rfl rfl) rfl ?_
   refine w_p (zA5 (v := .bool _) rfl rfl rfl rfl) rfl (w_p (zAs rfl rfl) rfl (zAd (zAc (g4 _ _ (zA8 (zBa (l := [.tmp 7]) (vs := [_]) rfl ⟨⟨rfl, (rfl : _ = Value.bool _)⟩, trivial⟩ ?_))))))
   first
     | exact ⟨congrArg Value.bool (outS_1 (by assumption)), M2, g5, g6.tail⟩
     | exact ⟨congrArg Value.bool (outS_0 (by assumption)), M, hM, g6.tail⟩
  try simp only [zS] at h8
  refine zAm rfl rfl rfl ?_
  refine zAm rfl rfl rfl ?_
  refine zAm rfl rfl rfl ?_
  refine zAm rfl rfl rfl ?_
  refine zAm rfl rfl rfl ?_
  refine zAm rfl rfl rfl ?_
  refine w_p (zBg (v := _) rfl rfl rfl rfl) rfl (w_p (zAs rfl rfl) rfl (zAd (zAc (g4 _ _ (zA8 (zBa (l := [.tmp 7]) (vs := [_]) rfl ⟨⟨rfl, (rfl : _ = Value.bool _)⟩, trivial⟩ ?_))))))
  first
    | exact ⟨congrArg Value.bool (outS_1 (by assumption)), M2, g5, g0.tail⟩
    | exact ⟨congrArg Value.bool (outS_0 (by assumption)), M, hM, g0.tail⟩

theorem c25 {w0 w : World} {F : List (Nat × Obj)} (c : Cargo) (p : AtT) (hm : TIn w0 F c p) (hold until_ : Int) (hs : St w0 w F) :
  Con Tryz.prog 25 [.agg (c.cells p).toArray, .int .i64 hold, .int .i64 until_] w fun v w' => ∃ B a c', v = .tuple #[.slice a (outP c hold until_).1.length c', .int .i64 (outP c hold until_).2] ∧ Sl w0 B a 1 ((outP c hold until_).1.map fun x => [Value.int .i64 x]) ∧ St w0 w' (B ++ F) := by
  refine zAo (n := 38) func25 rfl rfl (zNl rfl) ?_
  have hll0 := hm.ll
  have hlh0 := hm.lh
  refine zAf (fun K2 jL => (zAb (zCj (v := .agg #[.slice _ _ _, .int _ _, .slice _ _ _, .slice _ _ _, .slice _ _ _]) (cs := [_,_,_,_,_]) zAa rfl rfl rfl hs (fun b3 w4 jM => ?_))))
  refine zCj (v := .int _ _) (cs := [_]) zAa rfl rfl rfl jM (fun b6 w7 jN => ?_)
  refine zCj (v := .int _ _) (cs := [_]) zAa rfl rfl rfl jN (fun b9 mZ jO => ?_)
  refine zBi rfl rfl (zBi rfl rfl (zAd (zAc (jL _ _ (zAf (fun q1 gM => (w_cut [8,9,11,12,13,14,15,16,17,18,19,20,21,22,23,24,25,26] [9,8] (fun vs w => ∃ bc, (¬ enterE c (outL c hold until_) = 0 ∧ vs = [.int .i64 (enterE c (outL c hold until_)), .pointer (some ⟨bc, 0, none⟩)] ∧ St w0 w ((b9, blk 3 [.int .i64 until_]) :: (b6, blk 3 [.int .i64 hold]) :: (b3, blk 27 (c.cells p)) :: F)) ∨ (enterE c (outL c hold until_) = 0 ∧ ∃ cb mm M, vs = [.int .i64 0, .pointer (some ⟨bc, 0, none⟩)] ∧ Memo c mm M ∧ St w0 w ((cb, blk 138 [.slice p.ae c.heat.length p.ce, .int .i64 c.gas, .slice p.ah c.holds.length p.ch, .slice p.al c.lots.length p.cl, .slice p.an c.seen.length p.cn, .int .i64 ((0 : Nat) : Int), .map (some mm)]) :: (bc, blk 84 [.pointer (some ⟨cb, 0, none⟩)]) :: (b9, blk 3 [.int .i64 until_]) :: (b6, blk 3 [.int .i64 hold]) :: (b3, blk 27 (c.cells p)) :: (M ++ F)))) (fun q5 g0 => ?_) ?_)))))))
  ·
   refine w_drawF (C := fun w => St w0 w _) [17] (.three [(0,1),(1,0),(2,1),(3,0),(4,1),(7,1),(8,1)] 5 9 16 (.three [] 6 9 16 (.two [] 9 16 (.two [] 10 16 (.two [] 11 16 (.two [] 12 16 (.done [(13,0),(14,0),(15,0),(16,2),(17,3),(18,0)]) (.done [(12,2),(13,0),(14,0),(15,0),(17,3),(18,0)])) (.done [(11,2),(12,2),(13,0),(14,0),(15,0),(17,3),(18,0)])) (.done [(10,2),(11,2),(12,2),(13,0),(14,0),(15,0),(17,3),(18,0)])) (.done [(9,2),(10,2),(11,2),(12,2),(13,0),(14,0),(15,0),(17,3),(18,0)])) (.two [] 6 16 (.two [] 10 16 (.two [] 11 16 (.two [] 12 16 (.done [(13,0),(14,0),(15,0),(16,2),(17,3),(18,0)]) (.done [(12,2),(13,0),(14,0),(15,0),(17,3),(18,0)])) (.done [(11,2),(12,2),(13,0),(14,0),(15,0),(17,3),(18,0)])) (.done [(10,2),(11,2),(12,2),(13,0),(14,0),(15,0),(17,3),(18,0)])) (.done [(6,2),(10,2),(11,2),(12,2),(13,0),(14,0),(15,0),(17,3),(18,0)])) (.two [] 6 9 (.done [(9,2),(10,2),(11,2),(12,2),(13,0),(14,0),(15,0),(17,3),(18,0)]) (.done [(6,2),(10,2),(11,2),(12,2),(13,0),(14,0),(15,0),(17,3),(18,0)]))) (.two [] 5 16 (.two [] 6 16 (.two [] 10 16 (.two [] 11 16 (.two [] 12 16 (.done [(13,0),(14,0),(15,0),(16,2),(17,3),(18,0)]) (.done [(12,2),(13,0),(14,0),(15,0),(17,3),(18,0)])) (.done [(11,2),(12,2),(13,0),(14,0),(15,0),(17,3),(18,0)])) (.done [(10,2),(11,2),(12,2),(13,0),(14,0),(15,0),(17,3),(18,0)])) (.done [(6,2),(10,2),(11,2),(12,2),(13,0),(14,0),(15,0),(17,3),(18,0)])) (.done [(5,2),(6,2),(10,2),(11,2),(12,2),(13,0),(14,0),(15,0),(17,3),(18,0)])) (.two [] 5 9 (.two [] 6 9 (.done [(9,2),(10,2),(11,2),(12,2),(13,0),(14,0),(15,0),(17,3),(18,0)]) (.done [(6,2),(10,2),(11,2),(12,2),(13,0),(14,0),(15,0),(17,3),(18,0)])) (.done [(5,2),(6,2),(10,2),(11,2),(12,2),(13,0),(14,0),(15,0),(17,3),(18,0)]))) zB4 (by kernel_rfl) jO (fun _ h => h.drew) (fun q6 g3 => ?_)
   refine zAz rfl zAa rfl g3 (fun _ hq => (zA2 (vs := [_,_,_,_,_]) isAgg27 sizeOf27 hq rfl rfl (aow 2 [_,_,_,_,_]))) ?_
   refine d_w rfl (fun _ => zAe (o := 2) (i := 2) underlying27 rfl sizeOf23 rfl rfl rfl) rfl ?_
   refine zAz rfl zAa rfl g3 (fun _ hq => (zAg isAgg23 hq rfl rfl (aow 2 [_]))) ?_
   refine d_w rfl (fun _ => zBc underlying23 rfl rfl) rfl ?_
   refine zAz rfl zAa rfl g3 (fun _ hq => (zAg isAgg3 hq rfl rfl (aow 1 [_]))) ?_
   refine zAz rfl zAa rfl g3 (fun _ hq => (zA2 (vs := [_,_,_,_,_]) isAgg27 sizeOf27 hq rfl rfl (aow 2 [_,_,_,_,_]))) ?_
   refine zAz rfl zAa rfl g3 (fun _ hq => (zAg isAgg3 hq rfl rfl (aow 0 [_]))) ?_
   refine zBm ⟨zDy rfl ?_, zDy rfl ?_, zDy rfl ?_⟩
   ·
    refine zAu (ps := [(0, _)]) (pv := [(0, .int _ _)]) (cs := [_]) zAa rfl rfl (fun w => zDa _ w) g3 (fun q7 q8 gt => ?_)
    refine zAd (qn ⟨gt.tail, ?_⟩)
    refine zBm ⟨zDy rfl ?_, zDy rfl ?_, zDy rfl ?_⟩
    ·
     refine zCo zAa call43 rfl rfl rfl rfl (c43 _ (by omega) _ _ [_] (by simp) (zBb (i := 0) (rows := [[_]]) rfl (by simp) rfl) gt) (fun q9 gv => ?_)
     refine zAd (qn ⟨gv.tail, ?_⟩)
     refine zBm ⟨zDy rfl ?_, zDy rfl ?_⟩
     ·
      refine zAu (ps := [(0, _)]) (pv := [(0, .int _ _)]) (cs := [_]) zAa rfl rfl (fun w => zDa _ w) gv (fun qa qb gw => ?_)
      refine zAd (qn ⟨gw.tail.tail, ?_⟩)
      refine zBm ⟨zDy rfl ?_, zDy rfl ?_⟩
      ·
       refine zCo zAa call48 rfl rfl rfl rfl (c48 c _ hm.cons.cons.cons.cons.cons _ _ [_] (by simp) (zBb (i := 0) (rows := [[_]]) rfl (by simp) rfl) gw) (fun qc gx => ?_)
       refine zAd (qn ⟨gx.tail.tail, ?_⟩)
       refine zBm ⟨zDy rfl ?_, zDy rfl ?_⟩
       ·
        refine zAu (ps := [(0, _),(1, _)]) (pv := [(0, .agg #[.bool _, .int _ _]),(1, .agg #[.bool _, .int _ _])]) (cs := [_,_,_,_]) zAa rfl rfl (fun w => zCy _ _ _ _ w) gx (fun qd qe gy => ?_)
        refine zAd (qn ⟨gy.tail.tail.tail, ?_⟩)
        refine zBm ⟨zDy rfl ?_, zDy rfl ?_⟩
        ·
         refine zA4 zAa call42 rfl rfl rfl rfl (c42 c _ hm.cons.cons.cons.cons.cons.cons _ _ (outL c hold until_) (by simp [spoilsL, putL, outL]) zDh (zBb (i := 0) (rows := (arows (outL c hold until_))) rfl (arow2 _) rfl) gy) ?_
         rintro _ qf (⟨hee, rfl, g4⟩ | ⟨hee, cb, mm, M, rfl, hM, g4⟩)
         ·
          refine zAd (qn ⟨g4.tail.tail.tail, ?_⟩)
          refine d_w rfl (fun _ => zA3 rfl rfl) rfl (d_w rfl (fun _ => zAw rfl rfl rfl) rfl (d_w rfl (fun _ => zAk rfl rfl rfl) rfl ?_))
          refine zBh rfl ?_
          refine zA1 (cs := [_]) zAa zeroValue84 rfl g4 (fun qg qh gN => ?_)
          refine zAd (qn ⟨gN.tail.tail.tail.tail, ?_⟩)
          refine zBr rfl ?_
          refine zBj 0 (.pointer _) [_] sizeOf84 gN (fun qi jP => ?_)
          refine zAd (qn ?_)
          refine d_w rfl (fun _ => zA0 rfl rfl) rfl ?_
          refine zBm ?_
          refine zAc (g0 _ _ (mdI ?_))
          have jQ := (show St _ _ (_ :: _ :: _ :: F) from jP.tail.tail.tail.tail)
          exact ⟨_, .inl ⟨hee, rfl, jQ⟩⟩
         replace g4 := (show St _ _ (M ++ (_ :: _ :: _ :: _ :: _ :: _ :: _ :: F)) from g4)
         refine zAd (qn ⟨g4.drop.tail.tail.tail.tail, ?_⟩)
         refine d_w rfl (fun _ => zA3 rfl rfl) rfl (d_w rfl (fun _ => zAw rfl rfl rfl) rfl (d_w rfl (fun _ => zAk rfl rfl rfl) rfl ?_))
         refine zBh rfl ?_
         refine zA1 (cs := [_]) zAa zeroValue84 rfl g4 (fun qj qk gO => ?_)
         refine zAd (qn ⟨gO.tail.drop.tail.tail.tail.tail, ?_⟩)
         have jR := (show St _ _ (_ :: _ :: _ :: _ :: _ :: _ :: _ :: _ :: (M ++ (F))) from St.pk [[_], M, [_], [_], [_], [_], [_], [_], [_]] [0,2,3,4,5,6,7,8,1] gO)
         refine zBr rfl ?_
         refine zBj 0 (.pointer _) [_] sizeOf84 jR (fun ql jS => ?_)
         refine zAd (qn ?_)
         refine d_w rfl (fun _ => zA0 rfl rfl) rfl ?_
         refine zBm ?_
         refine zAc (g0 _ _ (mdI ?_))
         have jT := (show St _ _ (_ :: _ :: _ :: _ :: _ :: (M ++ (F))) from St.pk [[_], [_], [_], [_], [_], [_], [_], [_], M] [1,0,5,6,7,8] jS)
         exact ⟨_, .inr ⟨hee, cb, mm, M, rfl, hM, jT⟩⟩
        refine zA1 (cs := [_]) zAa zeroValue84 rfl gy (fun qm qo gP => ?_)
        refine zAd (qn ⟨gP.tail.tail.tail.tail, ?_⟩)
        refine zBh rfl ?_
        refine zA4 zAa call42 rfl rfl rfl rfl (c42 c _ hm.cons.cons.cons.cons.cons.cons.cons _ _ (outL c hold until_) (by simp [spoilsL, putL, outL]) zDh (zBb (i := 1) (rows := (arows (outL c hold until_))) rfl (arow2 _) rfl) gP) ?_
        rintro _ qp (⟨hee, rfl, g5⟩ | ⟨hee, cb, mm, M, rfl, hM, g5⟩)
        ·
         refine zAd (qn ⟨g5.tail.tail.tail.tail, ?_⟩)
         refine d_w rfl (fun _ => zA3 rfl rfl) rfl (d_w rfl (fun _ => zAw rfl rfl rfl) rfl (d_w rfl (fun _ => zAk rfl rfl rfl) rfl ?_))
         refine zBr rfl ?_
         refine zBj 0 (.pointer _) [_] sizeOf84 g5 (fun qq jU => ?_)
         refine zAd (qn ?_)
         refine d_w rfl (fun _ => zA0 rfl rfl) rfl ?_
         refine zBm ?_
         refine zAc (g0 _ _ (mdI ?_))
         have jV := (show St _ _ (_ :: _ :: _ :: F) from jU.tail.tail.tail.tail)
         exact ⟨_, .inl ⟨hee, rfl, jV⟩⟩
        replace g5 := (show St _ _ (M ++ (_ :: _ :: _ :: _ :: _ :: _ :: _ :: _ :: F)) from g5)
        refine zAd (qn ⟨g5.drop.tail.tail.tail.tail.tail, ?_⟩)
        refine d_w rfl (fun _ => zA3 rfl rfl) rfl (d_w rfl (fun _ => zAw rfl rfl rfl) rfl (d_w rfl (fun _ => zAk rfl rfl rfl) rfl ?_))
        have jW := (show St _ _ (_ :: _ :: _ :: _ :: _ :: _ :: _ :: _ :: (M ++ (F))) from St.pk [M, [_], [_], [_], [_], [_], [_], [_], [_]] [1,2,3,4,5,6,7,8,0] g5)
        refine zBr rfl ?_
        refine zBj 1 (.pointer _) [_] sizeOf84 jW (fun qr jX => ?_)
        refine zAd (qn ?_)
        refine d_w rfl (fun _ => zA0 rfl rfl) rfl ?_
        refine zBm ?_
        refine zAc (g0 _ _ (mdI ?_))
        have jY := (show St _ _ (_ :: _ :: _ :: _ :: _ :: (M ++ (F))) from St.pk [[_], [_], [_], [_], [_], [_], [_], [_], M] [0,1,5,6,7,8] jX)
        exact ⟨_, .inr ⟨hee, cb, mm, M, rfl, hM, jY⟩⟩
       refine zA1 (cs := [_]) zAa zeroValue84 rfl gx (fun qs qt gQ => ?_)
       refine zAd (qn ⟨gQ.tail.tail.tail, ?_⟩)
       refine zBh rfl ?_
       refine zAu (ps := [(0, _),(1, _)]) (pv := [(0, .agg #[.bool _, .int _ _]),(1, .agg #[.bool _, .int _ _])]) (cs := [_,_,_,_]) zAa rfl rfl (fun w => zCy _ _ _ _ w) gQ (fun qu qv gR => ?_)
       refine zAd (qn ⟨gR.tail.tail.tail.tail, ?_⟩)
       refine zBh rfl ?_
       refine zA4 zAa call42 rfl rfl rfl rfl (c42 c _ hm.cons.cons.cons.cons.cons.cons.cons _ _ (outL c hold until_) (by simp [spoilsL, putL, outL]) zDh (zBb (i := 0) (rows := (arows (outL c hold until_))) rfl (arow2 _) rfl) gR) ?_
       rintro _ qw (⟨hee, rfl, g6⟩ | ⟨hee, cb, mm, M, rfl, hM, g6⟩)
       ·
        refine zAd (qn ⟨g6.tail.tail.tail.tail, ?_⟩)
        refine d_w rfl (fun _ => zA3 rfl rfl) rfl (d_w rfl (fun _ => zAw rfl rfl rfl) rfl (d_w rfl (fun _ => zAk rfl rfl rfl) rfl ?_))
        refine zBr rfl ?_
        refine zBj 1 (.pointer _) [_] sizeOf84 g6 (fun qx jZ => ?_)
        refine zAd (qn ?_)
        refine d_w rfl (fun _ => zA0 rfl rfl) rfl ?_
        refine zBm ?_
        refine zAc (g0 _ _ (mdI ?_))
        have k4 := (show St _ _ (_ :: _ :: _ :: F) from jZ.tail.tail.tail.tail)
        exact ⟨_, .inl ⟨hee, rfl, k4⟩⟩
       replace g6 := (show St _ _ (M ++ (_ :: _ :: _ :: _ :: _ :: _ :: _ :: _ :: F)) from g6)
       refine zAd (qn ⟨g6.drop.tail.tail.tail.tail.tail, ?_⟩)
       refine d_w rfl (fun _ => zA3 rfl rfl) rfl (d_w rfl (fun _ => zAw rfl rfl rfl) rfl (d_w rfl (fun _ => zAk rfl rfl rfl) rfl ?_))
       have k5 := (show St _ _ (_ :: _ :: _ :: _ :: _ :: _ :: _ :: _ :: (M ++ (F))) from St.pk [M, [_], [_], [_], [_], [_], [_], [_], [_]] [1,2,3,4,5,6,7,8,0] g6)
       refine zBr rfl ?_
       refine zBj 2 (.pointer _) [_] sizeOf84 k5 (fun qy k6 => ?_)
       refine zAd (qn ?_)
       refine d_w rfl (fun _ => zA0 rfl rfl) rfl ?_
       refine zBm ?_
       refine zAc (g0 _ _ (mdI ?_))
       have k7 := (show St _ _ (_ :: _ :: _ :: _ :: _ :: (M ++ (F))) from St.pk [[_], [_], [_], [_], [_], [_], [_], [_], M] [0,2,5,6,7,8] k6)
       exact ⟨_, .inr ⟨hee, cb, mm, M, rfl, hM, k7⟩⟩
      refine zA1 (cs := [_]) zAa zeroValue84 rfl gw (fun qz qA gS => ?_)
      refine zAd (qn ⟨gS.tail.tail.tail, ?_⟩)
      refine zBh rfl ?_
      refine zCo zAa call48 rfl rfl rfl rfl (c48 c _ hm.cons.cons.cons.cons.cons.cons _ _ [_] (by simp) (zBb (i := 1) (rows := [[_]]) rfl (by simp) rfl) gS) (fun qB gT => ?_)
      refine zAd (qn ⟨gT.tail.tail.tail, ?_⟩)
      refine zBh rfl ?_
      refine zAu (ps := [(0, _),(1, _)]) (pv := [(0, .agg #[.bool _, .int _ _]),(1, .agg #[.bool _, .int _ _])]) (cs := [_,_,_,_]) zAa rfl rfl (fun w => zCy _ _ _ _ w) gT (fun qC qD gU => ?_)
      refine zAd (qn ⟨gU.tail.tail.tail.tail, ?_⟩)
      refine zBh rfl ?_
      refine zA4 zAa call42 rfl rfl rfl rfl (c42 c _ hm.cons.cons.cons.cons.cons.cons.cons _ _ (outL c hold until_) (by simp [spoilsL, putL, outL]) zDh (zBb (i := 0) (rows := (arows (outL c hold until_))) rfl (arow2 _) rfl) gU) ?_
      rintro _ qE (⟨hee, rfl, g7⟩ | ⟨hee, cb, mm, M, rfl, hM, g7⟩)
      ·
       refine zAd (qn ⟨g7.tail.tail.tail.tail, ?_⟩)
       refine d_w rfl (fun _ => zA3 rfl rfl) rfl (d_w rfl (fun _ => zAw rfl rfl rfl) rfl (d_w rfl (fun _ => zAk rfl rfl rfl) rfl ?_))
       refine zBr rfl ?_
       refine zBj 1 (.pointer _) [_] sizeOf84 g7 (fun qF k8 => ?_)
       refine zAd (qn ?_)
       refine d_w rfl (fun _ => zA0 rfl rfl) rfl ?_
       refine zBm ?_
       refine zAc (g0 _ _ (mdI ?_))
       have k9 := (show St _ _ (_ :: _ :: _ :: F) from k8.tail.tail.tail.tail)
       exact ⟨_, .inl ⟨hee, rfl, k9⟩⟩
      replace g7 := (show St _ _ (M ++ (_ :: _ :: _ :: _ :: _ :: _ :: _ :: _ :: F)) from g7)
      refine zAd (qn ⟨g7.drop.tail.tail.tail.tail.tail, ?_⟩)
      refine d_w rfl (fun _ => zA3 rfl rfl) rfl (d_w rfl (fun _ => zAw rfl rfl rfl) rfl (d_w rfl (fun _ => zAk rfl rfl rfl) rfl ?_))
      have ka := (show St _ _ (_ :: _ :: _ :: _ :: _ :: _ :: _ :: _ :: (M ++ (F))) from St.pk [M, [_], [_], [_], [_], [_], [_], [_], [_]] [1,2,3,4,5,6,7,8,0] g7)
      refine zBr rfl ?_
      refine zBj 2 (.pointer _) [_] sizeOf84 ka (fun qG kb => ?_)
      refine zAd (qn ?_)
      refine d_w rfl (fun _ => zA0 rfl rfl) rfl ?_
      refine zBm ?_
      refine zAc (g0 _ _ (mdI ?_))
      have kc := (show St _ _ (_ :: _ :: _ :: _ :: _ :: (M ++ (F))) from St.pk [[_], [_], [_], [_], [_], [_], [_], [_], M] [0,2,5,6,7,8] kb)
      exact ⟨_, .inr ⟨hee, cb, mm, M, rfl, hM, kc⟩⟩
     refine zA1 (cs := [_]) zAa zeroValue84 rfl gv (fun qH qI gV => ?_)
     refine zAd (qn ⟨gV.tail.tail, ?_⟩)
     refine zBh rfl ?_
     refine zAu (ps := [(0, _)]) (pv := [(0, .int _ _)]) (cs := [_]) zAa rfl rfl (fun w => zDa _ w) gV (fun qJ qK gW => ?_)
     refine zAd (qn ⟨gW.tail.tail.tail, ?_⟩)
     refine zBh rfl ?_
     refine zCo zAa call48 rfl rfl rfl rfl (c48 c _ hm.cons.cons.cons.cons.cons.cons _ _ [_] (by simp) (zBb (i := 0) (rows := [[_]]) rfl (by simp) rfl) gW) (fun qL gX => ?_)
     refine zAd (qn ⟨gX.tail.tail.tail, ?_⟩)
     refine zBh rfl ?_
     refine zAu (ps := [(0, _),(1, _)]) (pv := [(0, .agg #[.bool _, .int _ _]),(1, .agg #[.bool _, .int _ _])]) (cs := [_,_,_,_]) zAa rfl rfl (fun w => zCy _ _ _ _ w) gX (fun qM qN gY => ?_)
     refine zAd (qn ⟨gY.tail.tail.tail.tail, ?_⟩)
     refine zBh rfl ?_
     refine zA4 zAa call42 rfl rfl rfl rfl (c42 c _ hm.cons.cons.cons.cons.cons.cons.cons _ _ (outL c hold until_) (by simp [spoilsL, putL, outL]) zDh (zBb (i := 0) (rows := (arows (outL c hold until_))) rfl (arow2 _) rfl) gY) ?_
     rintro _ qO (⟨hee, rfl, g8⟩ | ⟨hee, cb, mm, M, rfl, hM, g8⟩)
     ·
      refine zAd (qn ⟨g8.tail.tail.tail.tail, ?_⟩)
      refine d_w rfl (fun _ => zA3 rfl rfl) rfl (d_w rfl (fun _ => zAw rfl rfl rfl) rfl (d_w rfl (fun _ => zAk rfl rfl rfl) rfl ?_))
      refine zBr rfl ?_
      refine zBj 2 (.pointer _) [_] sizeOf84 g8 (fun qP kd => ?_)
      refine zAd (qn ?_)
      refine d_w rfl (fun _ => zA0 rfl rfl) rfl ?_
      refine zBm ?_
      refine zAc (g0 _ _ (mdI ?_))
      have ke := (show St _ _ (_ :: _ :: _ :: F) from kd.tail.tail.tail.tail)
      exact ⟨_, .inl ⟨hee, rfl, ke⟩⟩
     replace g8 := (show St _ _ (M ++ (_ :: _ :: _ :: _ :: _ :: _ :: _ :: _ :: F)) from g8)
     refine zAd (qn ⟨g8.drop.tail.tail.tail.tail.tail, ?_⟩)
     refine d_w rfl (fun _ => zA3 rfl rfl) rfl (d_w rfl (fun _ => zAw rfl rfl rfl) rfl (d_w rfl (fun _ => zAk rfl rfl rfl) rfl ?_))
     have kf := (show St _ _ (_ :: _ :: _ :: _ :: _ :: _ :: _ :: _ :: (M ++ (F))) from St.pk [M, [_], [_], [_], [_], [_], [_], [_], [_]] [1,2,3,4,5,6,7,8,0] g8)
     refine zBr rfl ?_
     refine zBj 3 (.pointer _) [_] sizeOf84 kf (fun qQ kg => ?_)
     refine zAd (qn ?_)
     refine d_w rfl (fun _ => zA0 rfl rfl) rfl ?_
     refine zBm ?_
     refine zAc (g0 _ _ (mdI ?_))
     have kh := (show St _ _ (_ :: _ :: _ :: _ :: _ :: (M ++ (F))) from St.pk [[_], [_], [_], [_], [_], [_], [_], [_], M] [0,3,5,6,7,8] kg)
     exact ⟨_, .inr ⟨hee, cb, mm, M, rfl, hM, kh⟩⟩
    ·
     refine zAu (ps := [(0, _)]) (pv := [(0, .int _ _)]) (cs := [_]) zAa rfl rfl (fun w => zDa _ w) gt (fun qR qS gz => ?_)
     refine zAd (qn ⟨gz.tail.tail, ?_⟩)
     refine zBm ⟨zDy rfl ?_, zDy rfl ?_⟩
     ·
      refine zCo zAa call43 rfl rfl rfl rfl (c43 _ (by omega) _ _ [_] (by simp) (zBb (i := 1) (rows := [[_]]) rfl (by simp) rfl) gz) (fun qT gA => ?_)
      refine zAd (qn ⟨gA.tail.tail, ?_⟩)
      refine zBm ⟨zDy rfl ?_, zDy rfl ?_⟩
      ·
       refine zCo zAa call48 rfl rfl rfl rfl (c48 c _ hm.cons.cons.cons.cons.cons _ _ [_] (by simp) (zBb (i := 0) (rows := [[_]]) rfl (by simp) rfl) gA) (fun qU gB => ?_)
       refine zAd (qn ⟨gB.tail.tail, ?_⟩)
       refine zBm ⟨zDy rfl ?_, zDy rfl ?_⟩
       ·
        refine zAu (ps := [(0, _),(1, _)]) (pv := [(0, .agg #[.bool _, .int _ _]),(1, .agg #[.bool _, .int _ _])]) (cs := [_,_,_,_]) zAa rfl rfl (fun w => zCy _ _ _ _ w) gB (fun qV qW gC => ?_)
        refine zAd (qn ⟨gC.tail.tail.tail, ?_⟩)
        refine zBm ⟨zDy rfl ?_, zDy rfl ?_⟩
        ·
         refine zA4 zAa call42 rfl rfl rfl rfl (c42 c _ hm.cons.cons.cons.cons.cons.cons _ _ (outL c hold until_) (by simp [spoilsL, putL, outL]) zDh (zBb (i := 0) (rows := (arows (outL c hold until_))) rfl (arow2 _) rfl) gC) ?_
         rintro _ qX (⟨hee, rfl, g9⟩ | ⟨hee, cb, mm, M, rfl, hM, g9⟩)
         ·
          refine zAd (qn ⟨g9.tail.tail.tail, ?_⟩)
          refine d_w rfl (fun _ => zA3 rfl rfl) rfl (d_w rfl (fun _ => zAw rfl rfl rfl) rfl (d_w rfl (fun _ => zAk rfl rfl rfl) rfl ?_))
          refine zBh rfl ?_
          refine zA1 (cs := [_]) zAa zeroValue84 rfl g9 (fun qY qZ gZ => ?_)
          refine zAd (qn ⟨gZ.tail.tail.tail.tail, ?_⟩)
          refine zBr rfl ?_
          refine zBj 0 (.pointer _) [_] sizeOf84 gZ (fun s5 ki => ?_)
          refine zAd (qn ?_)
          refine d_w rfl (fun _ => zA0 rfl rfl) rfl ?_
          refine zBm ?_
          refine zAc (g0 _ _ (mdI ?_))
          have kj := (show St _ _ (_ :: _ :: _ :: F) from ki.tail.tail.tail.tail)
          exact ⟨_, .inl ⟨hee, rfl, kj⟩⟩
         replace g9 := (show St _ _ (M ++ (_ :: _ :: _ :: _ :: _ :: _ :: _ :: F)) from g9)
         refine zAd (qn ⟨g9.drop.tail.tail.tail.tail, ?_⟩)
         refine d_w rfl (fun _ => zA3 rfl rfl) rfl (d_w rfl (fun _ => zAw rfl rfl rfl) rfl (d_w rfl (fun _ => zAk rfl rfl rfl) rfl ?_))
         refine zBh rfl ?_
         refine zA1 (cs := [_]) zAa zeroValue84 rfl g9 (fun s6 s7 hD => ?_)
         refine zAd (qn ⟨hD.tail.drop.tail.tail.tail.tail, ?_⟩)
         have km := (show St _ _ (_ :: _ :: _ :: _ :: _ :: _ :: _ :: _ :: (M ++ (F))) from St.pk [[_], M, [_], [_], [_], [_], [_], [_], [_]] [0,2,3,4,5,6,7,8,1] hD)
         refine zBr rfl ?_
         refine zBj 0 (.pointer _) [_] sizeOf84 km (fun s8 kn => ?_)
         refine zAd (qn ?_)
         refine d_w rfl (fun _ => zA0 rfl rfl) rfl ?_
         refine zBm ?_
         refine zAc (g0 _ _ (mdI ?_))
         have ko := (show St _ _ (_ :: _ :: _ :: _ :: _ :: (M ++ (F))) from St.pk [[_], [_], [_], [_], [_], [_], [_], [_], M] [1,0,5,6,7,8] kn)
         exact ⟨_, .inr ⟨hee, cb, mm, M, rfl, hM, ko⟩⟩
        refine zA1 (cs := [_]) zAa zeroValue84 rfl gC (fun s9 sa hN => ?_)
        refine zAd (qn ⟨hN.tail.tail.tail.tail, ?_⟩)
        refine zBh rfl ?_
        refine zA4 zAa call42 rfl rfl rfl rfl (c42 c _ hm.cons.cons.cons.cons.cons.cons.cons _ _ (outL c hold until_) (by simp [spoilsL, putL, outL]) zDh (zBb (i := 1) (rows := (arows (outL c hold until_))) rfl (arow2 _) rfl) hN) ?_
        rintro _ sb (⟨hee, rfl, ga⟩ | ⟨hee, cb, mm, M, rfl, hM, ga⟩)
        ·
         refine zAd (qn ⟨ga.tail.tail.tail.tail, ?_⟩)
         refine d_w rfl (fun _ => zA3 rfl rfl) rfl (d_w rfl (fun _ => zAw rfl rfl rfl) rfl (d_w rfl (fun _ => zAk rfl rfl rfl) rfl ?_))
         refine zBr rfl ?_
         refine zBj 0 (.pointer _) [_] sizeOf84 ga (fun sc kp => ?_)
         refine zAd (qn ?_)
         refine d_w rfl (fun _ => zA0 rfl rfl) rfl ?_
         refine zBm ?_
         refine zAc (g0 _ _ (mdI ?_))
         have kq := (show St _ _ (_ :: _ :: _ :: F) from kp.tail.tail.tail.tail)
         exact ⟨_, .inl ⟨hee, rfl, kq⟩⟩
        replace ga := (show St _ _ (M ++ (_ :: _ :: _ :: _ :: _ :: _ :: _ :: _ :: F)) from ga)
        refine zAd (qn ⟨ga.drop.tail.tail.tail.tail.tail, ?_⟩)
        refine d_w rfl (fun _ => zA3 rfl rfl) rfl (d_w rfl (fun _ => zAw rfl rfl rfl) rfl (d_w rfl (fun _ => zAk rfl rfl rfl) rfl ?_))
        have kr := (show St _ _ (_ :: _ :: _ :: _ :: _ :: _ :: _ :: _ :: (M ++ (F))) from St.pk [M, [_], [_], [_], [_], [_], [_], [_], [_]] [1,2,3,4,5,6,7,8,0] ga)
        refine zBr rfl ?_
        refine zBj 1 (.pointer _) [_] sizeOf84 kr (fun sd ku => ?_)
        refine zAd (qn ?_)
        refine d_w rfl (fun _ => zA0 rfl rfl) rfl ?_
        refine zBm ?_
        refine zAc (g0 _ _ (mdI ?_))
        have kw := (show St _ _ (_ :: _ :: _ :: _ :: _ :: (M ++ (F))) from St.pk [[_], [_], [_], [_], [_], [_], [_], [_], M] [0,1,5,6,7,8] ku)
        exact ⟨_, .inr ⟨hee, cb, mm, M, rfl, hM, kw⟩⟩
       refine zA1 (cs := [_]) zAa zeroValue84 rfl gB (fun se sf hP => ?_)
       refine zAd (qn ⟨hP.tail.tail.tail, ?_⟩)
       refine zBh rfl ?_
       refine zAu (ps := [(0, _),(1, _)]) (pv := [(0, .agg #[.bool _, .int _ _]),(1, .agg #[.bool _, .int _ _])]) (cs := [_,_,_,_]) zAa rfl rfl (fun w => zCy _ _ _ _ w) hP (fun sg sh hX => ?_)
       refine zAd (qn ⟨hX.tail.tail.tail.tail, ?_⟩)
       refine zBh rfl ?_
       refine zA4 zAa call42 rfl rfl rfl rfl (c42 c _ hm.cons.cons.cons.cons.cons.cons.cons _ _ (outL c hold until_) (by simp [spoilsL, putL, outL]) zDh (zBb (i := 0) (rows := (arows (outL c hold until_))) rfl (arow2 _) rfl) hX) ?_
       rintro _ si (⟨hee, rfl, gc⟩ | ⟨hee, cb, mm, M, rfl, hM, gc⟩)
       ·
        refine zAd (qn ⟨gc.tail.tail.tail.tail, ?_⟩)
        refine d_w rfl (fun _ => zA3 rfl rfl) rfl (d_w rfl (fun _ => zAw rfl rfl rfl) rfl (d_w rfl (fun _ => zAk rfl rfl rfl) rfl ?_))
        refine zBr rfl ?_
        refine zBj 1 (.pointer _) [_] sizeOf84 gc (fun sj kx => ?_)
        refine zAd (qn ?_)
        refine d_w rfl (fun _ => zA0 rfl rfl) rfl ?_
        refine zBm ?_
        refine zAc (g0 _ _ (mdI ?_))
        have ky := (show St _ _ (_ :: _ :: _ :: F) from kx.tail.tail.tail.tail)
        exact ⟨_, .inl ⟨hee, rfl, ky⟩⟩
       replace gc := (show St _ _ (M ++ (_ :: _ :: _ :: _ :: _ :: _ :: _ :: _ :: F)) from gc)
       refine zAd (qn ⟨gc.drop.tail.tail.tail.tail.tail, ?_⟩)
       refine d_w rfl (fun _ => zA3 rfl rfl) rfl (d_w rfl (fun _ => zAw rfl rfl rfl) rfl (d_w rfl (fun _ => zAk rfl rfl rfl) rfl ?_))
       have kz := (show St _ _ (_ :: _ :: _ :: _ :: _ :: _ :: _ :: _ :: (M ++ (F))) from St.pk [M, [_], [_], [_], [_], [_], [_], [_], [_]] [1,2,3,4,5,6,7,8,0] gc)
       refine zBr rfl ?_
       refine zBj 2 (.pointer _) [_] sizeOf84 kz (fun sk kA => ?_)
       refine zAd (qn ?_)
       refine d_w rfl (fun _ => zA0 rfl rfl) rfl ?_
       refine zBm ?_
       refine zAc (g0 _ _ (mdI ?_))
       have kB := (show St _ _ (_ :: _ :: _ :: _ :: _ :: (M ++ (F))) from St.pk [[_], [_], [_], [_], [_], [_], [_], [_], M] [0,2,5,6,7,8] kA)
       exact ⟨_, .inr ⟨hee, cb, mm, M, rfl, hM, kB⟩⟩
      refine zA1 (cs := [_]) zAa zeroValue84 rfl gA (fun sm sn hY => ?_)
      refine zAd (qn ⟨hY.tail.tail.tail, ?_⟩)
      refine zBh rfl ?_
      refine zCo zAa call48 rfl rfl rfl rfl (c48 c _ hm.cons.cons.cons.cons.cons.cons _ _ [_] (by simp) (zBb (i := 1) (rows := [[_]]) rfl (by simp) rfl) hY) (fun so j0 => ?_)
      refine zAd (qn ⟨j0.tail.tail.tail, ?_⟩)
      refine zBh rfl ?_
      refine zAu (ps := [(0, _),(1, _)]) (pv := [(0, .agg #[.bool _, .int _ _]),(1, .agg #[.bool _, .int _ _])]) (cs := [_,_,_,_]) zAa rfl rfl (fun w => zCy _ _ _ _ w) j0 (fun sq sr j1 => ?_)
      refine zAd (qn ⟨j1.tail.tail.tail.tail, ?_⟩)
      refine zBh rfl ?_
      refine zA4 zAa call42 rfl rfl rfl rfl (c42 c _ hm.cons.cons.cons.cons.cons.cons.cons _ _ (outL c hold until_) (by simp [spoilsL, putL, outL]) zDh (zBb (i := 0) (rows := (arows (outL c hold until_))) rfl (arow2 _) rfl) j1) ?_
      rintro _ ss (⟨hee, rfl, gd⟩ | ⟨hee, cb, mm, M, rfl, hM, gd⟩)
      ·
       refine zAd (qn ⟨gd.tail.tail.tail.tail, ?_⟩)
       refine d_w rfl (fun _ => zA3 rfl rfl) rfl (d_w rfl (fun _ => zAw rfl rfl rfl) rfl (d_w rfl (fun _ => zAk rfl rfl rfl) rfl ?_))
       refine zBr rfl ?_
       refine zBj 1 (.pointer _) [_] sizeOf84 gd (fun st kC => ?_)
       refine zAd (qn ?_)
       refine d_w rfl (fun _ => zA0 rfl rfl) rfl ?_
       refine zBm ?_
       refine zAc (g0 _ _ (mdI ?_))
       have kD := (show St _ _ (_ :: _ :: _ :: F) from kC.tail.tail.tail.tail)
       exact ⟨_, .inl ⟨hee, rfl, kD⟩⟩
      replace gd := (show St _ _ (M ++ (_ :: _ :: _ :: _ :: _ :: _ :: _ :: _ :: F)) from gd)
      refine zAd (qn ⟨gd.drop.tail.tail.tail.tail.tail, ?_⟩)
      refine d_w rfl (fun _ => zA3 rfl rfl) rfl (d_w rfl (fun _ => zAw rfl rfl rfl) rfl (d_w rfl (fun _ => zAk rfl rfl rfl) rfl ?_))
      have kE := (show St _ _ (_ :: _ :: _ :: _ :: _ :: _ :: _ :: _ :: (M ++ (F))) from St.pk [M, [_], [_], [_], [_], [_], [_], [_], [_]] [1,2,3,4,5,6,7,8,0] gd)
      refine zBr rfl ?_
      refine zBj 2 (.pointer _) [_] sizeOf84 kE (fun su kF => ?_)
      refine zAd (qn ?_)
      refine d_w rfl (fun _ => zA0 rfl rfl) rfl ?_
      refine zBm ?_
      refine zAc (g0 _ _ (mdI ?_))
      have kG := (show St _ _ (_ :: _ :: _ :: _ :: _ :: (M ++ (F))) from St.pk [[_], [_], [_], [_], [_], [_], [_], [_], M] [0,2,5,6,7,8] kF)
      exact ⟨_, .inr ⟨hee, cb, mm, M, rfl, hM, kG⟩⟩
     refine zA1 (cs := [_]) zAa zeroValue84 rfl gz (fun sv sw j3 => ?_)
     refine zAd (qn ⟨j3.tail.tail.tail, ?_⟩)
     refine zBh rfl ?_
     refine zCo zAa call43 rfl rfl rfl rfl (c43 _ (by omega) _ _ [_] (by simp) (zBb (i := 2) (rows := [[_]]) rfl (by simp) rfl) j3) (fun sx j4 => ?_)
     refine zAd (qn ⟨j4.tail.tail.tail, ?_⟩)
     refine zBh rfl ?_
     refine zCo zAa call48 rfl rfl rfl rfl (c48 c _ hm.cons.cons.cons.cons.cons.cons _ _ [_] (by simp) (zBb (i := 1) (rows := [[_]]) rfl (by simp) rfl) j4) (fun sy j5 => ?_)
     refine zAd (qn ⟨j5.tail.tail.tail, ?_⟩)
     refine zBh rfl ?_
     refine zAu (ps := [(0, _),(1, _)]) (pv := [(0, .agg #[.bool _, .int _ _]),(1, .agg #[.bool _, .int _ _])]) (cs := [_,_,_,_]) zAa rfl rfl (fun w => zCy _ _ _ _ w) j5 (fun sA sB j6 => ?_)
     refine zAd (qn ⟨j6.tail.tail.tail.tail, ?_⟩)
     refine zBh rfl ?_
     refine zA4 zAa call42 rfl rfl rfl rfl (c42 c _ hm.cons.cons.cons.cons.cons.cons.cons _ _ (outL c hold until_) (by simp [spoilsL, putL, outL]) zDh (zBb (i := 0) (rows := (arows (outL c hold until_))) rfl (arow2 _) rfl) j6) ?_
     rintro _ sC (⟨hee, rfl, ge⟩ | ⟨hee, cb, mm, M, rfl, hM, ge⟩)
     ·
      refine zAd (qn ⟨ge.tail.tail.tail.tail, ?_⟩)
      refine d_w rfl (fun _ => zA3 rfl rfl) rfl (d_w rfl (fun _ => zAw rfl rfl rfl) rfl (d_w rfl (fun _ => zAk rfl rfl rfl) rfl ?_))
      refine zBr rfl ?_
      refine zBj 1 (.pointer _) [_] sizeOf84 ge (fun sD kH => ?_)
      refine zAd (qn ?_)
      refine d_w rfl (fun _ => zA0 rfl rfl) rfl ?_
      refine zBm ?_
      refine zAc (g0 _ _ (mdI ?_))
      have kI := (show St _ _ (_ :: _ :: _ :: F) from kH.tail.tail.tail.tail)
      exact ⟨_, .inl ⟨hee, rfl, kI⟩⟩
     replace ge := (show St _ _ (M ++ (_ :: _ :: _ :: _ :: _ :: _ :: _ :: _ :: F)) from ge)
     refine zAd (qn ⟨ge.drop.tail.tail.tail.tail.tail, ?_⟩)
     refine d_w rfl (fun _ => zA3 rfl rfl) rfl (d_w rfl (fun _ => zAw rfl rfl rfl) rfl (d_w rfl (fun _ => zAk rfl rfl rfl) rfl ?_))
     have kJ := (show St _ _ (_ :: _ :: _ :: _ :: _ :: _ :: _ :: _ :: (M ++ (F))) from St.pk [M, [_], [_], [_], [_], [_], [_], [_], [_]] [1,2,3,4,5,6,7,8,0] ge)
     refine zBr rfl ?_
     refine zBj 2 (.pointer _) [_] sizeOf84 kJ (fun sE kK => ?_)
     refine zAd (qn ?_)
     refine d_w rfl (fun _ => zA0 rfl rfl) rfl ?_
     refine zBm ?_
     refine zAc (g0 _ _ (mdI ?_))
     have kL := (show St _ _ (_ :: _ :: _ :: _ :: _ :: (M ++ (F))) from St.pk [[_], [_], [_], [_], [_], [_], [_], [_], M] [0,2,5,6,7,8] kK)
     exact ⟨_, .inr ⟨hee, cb, mm, M, rfl, hM, kL⟩⟩
    refine zA1 (cs := [_]) zAa zeroValue84 rfl gt (fun sF sG gD => ?_)
    refine zAd (qn ⟨gD.tail.tail, ?_⟩)
    refine zBm ⟨zDy rfl ?_, zDy rfl ?_⟩
    ·
     refine zCo zAa call43 rfl rfl rfl rfl (c43 _ (by omega) _ _ [_] (by simp) (zBb (i := 1) (rows := [[_]]) rfl (by simp) rfl) gD) (fun sH j7 => ?_)
     refine zAd (qn ⟨j7.tail.tail, ?_⟩)
     refine zBh rfl ?_
     refine zAu (ps := [(0, _)]) (pv := [(0, .int _ _)]) (cs := [_]) zAa rfl rfl (fun w => zDa _ w) j7 (fun sI sJ j8 => ?_)
     refine zAd (qn ⟨j8.tail.tail.tail, ?_⟩)
     refine zBh rfl ?_
     refine zCo zAa call48 rfl rfl rfl rfl (c48 c _ hm.cons.cons.cons.cons.cons.cons _ _ [_] (by simp) (zBb (i := 0) (rows := [[_]]) rfl (by simp) rfl) j8) (fun sK j9 => ?_)
     refine zAd (qn ⟨j9.tail.tail.tail, ?_⟩)
     refine zBh rfl ?_
     refine zAu (ps := [(0, _),(1, _)]) (pv := [(0, .agg #[.bool _, .int _ _]),(1, .agg #[.bool _, .int _ _])]) (cs := [_,_,_,_]) zAa rfl rfl (fun w => zCy _ _ _ _ w) j9 (fun sL sM ja => ?_)
     refine zAd (qn ⟨ja.tail.tail.tail.tail, ?_⟩)
     refine zBh rfl ?_
     refine zA4 zAa call42 rfl rfl rfl rfl (c42 c _ hm.cons.cons.cons.cons.cons.cons.cons _ _ (outL c hold until_) (by simp [spoilsL, putL, outL]) zDh (zBb (i := 0) (rows := (arows (outL c hold until_))) rfl (arow2 _) rfl) ja) ?_
     rintro _ sN (⟨hee, rfl, gf⟩ | ⟨hee, cb, mm, M, rfl, hM, gf⟩)
     ·
      refine zAd (qn ⟨gf.tail.tail.tail.tail, ?_⟩)
      refine d_w rfl (fun _ => zA3 rfl rfl) rfl (d_w rfl (fun _ => zAw rfl rfl rfl) rfl (d_w rfl (fun _ => zAk rfl rfl rfl) rfl ?_))
      refine zBr rfl ?_
      refine zBj 2 (.pointer _) [_] sizeOf84 gf (fun sO kM => ?_)
      refine zAd (qn ?_)
      refine d_w rfl (fun _ => zA0 rfl rfl) rfl ?_
      refine zBm ?_
      refine zAc (g0 _ _ (mdI ?_))
      have kN := (show St _ _ (_ :: _ :: _ :: F) from kM.tail.tail.tail.tail)
      exact ⟨_, .inl ⟨hee, rfl, kN⟩⟩
     replace gf := (show St _ _ (M ++ (_ :: _ :: _ :: _ :: _ :: _ :: _ :: _ :: F)) from gf)
     refine zAd (qn ⟨gf.drop.tail.tail.tail.tail.tail, ?_⟩)
     refine d_w rfl (fun _ => zA3 rfl rfl) rfl (d_w rfl (fun _ => zAw rfl rfl rfl) rfl (d_w rfl (fun _ => zAk rfl rfl rfl) rfl ?_))
     have kO := (show St _ _ (_ :: _ :: _ :: _ :: _ :: _ :: _ :: _ :: (M ++ (F))) from St.pk [M, [_], [_], [_], [_], [_], [_], [_], [_]] [1,2,3,4,5,6,7,8,0] gf)
     refine zBr rfl ?_
     refine zBj 3 (.pointer _) [_] sizeOf84 kO (fun sP kP => ?_)
     refine zAd (qn ?_)
     refine d_w rfl (fun _ => zA0 rfl rfl) rfl ?_
     refine zBm ?_
     refine zAc (g0 _ _ (mdI ?_))
     have kQ := (show St _ _ (_ :: _ :: _ :: _ :: _ :: (M ++ (F))) from St.pk [[_], [_], [_], [_], [_], [_], [_], [_], M] [0,3,5,6,7,8] kP)
     exact ⟨_, .inr ⟨hee, cb, mm, M, rfl, hM, kQ⟩⟩
    refine zAu (ps := [(0, _)]) (pv := [(0, .int _ _)]) (cs := [_]) zAa rfl rfl (fun w => zDa _ w) gD (fun sQ sR jb => ?_)
    refine zAd (qn ⟨jb.tail.tail.tail, ?_⟩)
    refine zBh rfl ?_
    refine zCo zAa call43 rfl rfl rfl rfl (c43 _ (by omega) _ _ [_] (by simp) (zBb (i := 2) (rows := [[_]]) rfl (by simp) rfl) jb) (fun sS jc => ?_)
    refine zAd (qn ⟨jc.tail.tail.tail, ?_⟩)
    refine zBh rfl ?_
    refine zCo zAa call48 rfl rfl rfl rfl (c48 c _ hm.cons.cons.cons.cons.cons.cons _ _ [_] (by simp) (zBb (i := 0) (rows := [[_]]) rfl (by simp) rfl) jc) (fun sT jd => ?_)
    refine zAd (qn ⟨jd.tail.tail.tail, ?_⟩)
    refine zBh rfl ?_
    refine zAu (ps := [(0, _),(1, _)]) (pv := [(0, .agg #[.bool _, .int _ _]),(1, .agg #[.bool _, .int _ _])]) (cs := [_,_,_,_]) zAa rfl rfl (fun w => zCy _ _ _ _ w) jd (fun sU sV je => ?_)
    refine zAd (qn ⟨je.tail.tail.tail.tail, ?_⟩)
    refine zBh rfl ?_
    refine zA4 zAa call42 rfl rfl rfl rfl (c42 c _ hm.cons.cons.cons.cons.cons.cons.cons _ _ (outL c hold until_) (by simp [spoilsL, putL, outL]) zDh (zBb (i := 0) (rows := (arows (outL c hold until_))) rfl (arow2 _) rfl) je) ?_
    rintro _ sW (⟨hee, rfl, gg⟩ | ⟨hee, cb, mm, M, rfl, hM, gg⟩)
    ·
     refine zAd (qn ⟨gg.tail.tail.tail.tail, ?_⟩)
     refine d_w rfl (fun _ => zA3 rfl rfl) rfl (d_w rfl (fun _ => zAw rfl rfl rfl) rfl (d_w rfl (fun _ => zAk rfl rfl rfl) rfl ?_))
     refine zBr rfl ?_
     refine zBj 2 (.pointer _) [_] sizeOf84 gg (fun sX kR => ?_)
     refine zAd (qn ?_)
     refine d_w rfl (fun _ => zA0 rfl rfl) rfl ?_
     refine zBm ?_
     refine zAc (g0 _ _ (mdI ?_))
     have kS := (show St _ _ (_ :: _ :: _ :: F) from kR.tail.tail.tail.tail)
     exact ⟨_, .inl ⟨hee, rfl, kS⟩⟩
    replace gg := (show St _ _ (M ++ (_ :: _ :: _ :: _ :: _ :: _ :: _ :: _ :: F)) from gg)
    refine zAd (qn ⟨gg.drop.tail.tail.tail.tail.tail, ?_⟩)
    refine d_w rfl (fun _ => zA3 rfl rfl) rfl (d_w rfl (fun _ => zAw rfl rfl rfl) rfl (d_w rfl (fun _ => zAk rfl rfl rfl) rfl ?_))
    have kT := (show St _ _ (_ :: _ :: _ :: _ :: _ :: _ :: _ :: _ :: (M ++ (F))) from St.pk [M, [_], [_], [_], [_], [_], [_], [_], [_]] [1,2,3,4,5,6,7,8,0] gg)
    refine zBr rfl ?_
    refine zBj 3 (.pointer _) [_] sizeOf84 kT (fun sY kU => ?_)
    refine zAd (qn ?_)
    refine d_w rfl (fun _ => zA0 rfl rfl) rfl ?_
    refine zBm ?_
    refine zAc (g0 _ _ (mdI ?_))
    have kV := (show St _ _ (_ :: _ :: _ :: _ :: _ :: (M ++ (F))) from St.pk [[_], [_], [_], [_], [_], [_], [_], [_], M] [0,3,5,6,7,8] kU)
    exact ⟨_, .inr ⟨hee, cb, mm, M, rfl, hM, kV⟩⟩
   ·
    refine zAu (ps := [(0, _)]) (pv := [(0, .int _ _)]) (cs := [_]) zAa rfl rfl (fun w => zDa _ w) g3 (fun sZ t4 gE => ?_)
    refine zAd (qn ⟨gE.tail, ?_⟩)
    refine zBm ⟨zDy rfl ?_, zDy rfl ?_⟩
    ·
     refine zAu (ps := [(0, _)]) (pv := [(0, .int _ _)]) (cs := [_]) zAa rfl rfl (fun w => zDa _ w) gE (fun t5 t6 gF => ?_)
     refine zAd (qn ⟨gF.tail.tail, ?_⟩)
     refine zBm ⟨zDy rfl ?_, zDy rfl ?_⟩
     ·
      refine zCo zAa call43 rfl rfl rfl rfl (c43 _ (by omega) _ _ [_] (by simp) (zBb (i := 0) (rows := [[_]]) rfl (by simp) rfl) gF) (fun t7 gG => ?_)
      refine zAd (qn ⟨gG.tail.tail, ?_⟩)
      refine zBm ⟨zDy rfl ?_, zDy rfl ?_⟩
      ·
       refine zCo zAa call48 rfl rfl rfl rfl (c48 c _ hm.cons.cons.cons.cons.cons _ _ [_] (by simp) (zBb (i := 1) (rows := [[_]]) rfl (by simp) rfl) gG) (fun t8 gH => ?_)
       refine zAd (qn ⟨gH.tail.tail, ?_⟩)
       refine zBm ⟨zDy rfl ?_, zDy rfl ?_⟩
       ·
        refine zAu (ps := [(0, _),(1, _)]) (pv := [(0, .agg #[.bool _, .int _ _]),(1, .agg #[.bool _, .int _ _])]) (cs := [_,_,_,_]) zAa rfl rfl (fun w => zCy _ _ _ _ w) gH (fun t9 ta gI => ?_)
        refine zAd (qn ⟨gI.tail.tail.tail, ?_⟩)
        refine zBm ⟨zDy rfl ?_, zDy rfl ?_⟩
        ·
         refine zA4 zAa call42 rfl rfl rfl rfl (c42 c _ hm.cons.cons.cons.cons.cons.cons _ _ (outL c hold until_) (by simp [spoilsL, putL, outL]) zDh (zBb (i := 0) (rows := (arows (outL c hold until_))) rfl (arow2 _) rfl) gI) ?_
         rintro _ td (⟨hee, rfl, gh⟩ | ⟨hee, cb, mm, M, rfl, hM, gh⟩)
         ·
          refine zAd (qn ⟨gh.tail.tail.tail, ?_⟩)
          refine d_w rfl (fun _ => zA3 rfl rfl) rfl (d_w rfl (fun _ => zAw rfl rfl rfl) rfl (d_w rfl (fun _ => zAk rfl rfl rfl) rfl ?_))
          refine zBh rfl ?_
          refine zA1 (cs := [_]) zAa zeroValue84 rfl gh (fun te tf jf => ?_)
          refine zAd (qn ⟨jf.tail.tail.tail.tail, ?_⟩)
          refine zBr rfl ?_
          refine zBj 0 (.pointer _) [_] sizeOf84 jf (fun tg kW => ?_)
          refine zAd (qn ?_)
          refine d_w rfl (fun _ => zA0 rfl rfl) rfl ?_
          refine zBm ?_
          refine zAc (g0 _ _ (mdI ?_))
          have kX := (show St _ _ (_ :: _ :: _ :: F) from kW.tail.tail.tail.tail)
          exact ⟨_, .inl ⟨hee, rfl, kX⟩⟩
         replace gh := (show St _ _ (M ++ (_ :: _ :: _ :: _ :: _ :: _ :: _ :: F)) from gh)
         refine zAd (qn ⟨gh.drop.tail.tail.tail.tail, ?_⟩)
         refine d_w rfl (fun _ => zA3 rfl rfl) rfl (d_w rfl (fun _ => zAw rfl rfl rfl) rfl (d_w rfl (fun _ => zAk rfl rfl rfl) rfl ?_))
         refine zBh rfl ?_
         refine zA1 (cs := [_]) zAa zeroValue84 rfl gh (fun th ti jg => ?_)
         refine zAd (qn ⟨jg.tail.drop.tail.tail.tail.tail, ?_⟩)
         have kY := (show St _ _ (_ :: _ :: _ :: _ :: _ :: _ :: _ :: _ :: (M ++ (F))) from St.pk [[_], M, [_], [_], [_], [_], [_], [_], [_]] [0,2,3,4,5,6,7,8,1] jg)
         refine zBr rfl ?_
         refine zBj 0 (.pointer _) [_] sizeOf84 kY (fun tj kZ => ?_)
         refine zAd (qn ?_)
         refine d_w rfl (fun _ => zA0 rfl rfl) rfl ?_
         refine zBm ?_
         refine zAc (g0 _ _ (mdI ?_))
         have m5 := (show St _ _ (_ :: _ :: _ :: _ :: _ :: (M ++ (F))) from St.pk [[_], [_], [_], [_], [_], [_], [_], [_], M] [1,0,5,6,7,8] kZ)
         exact ⟨_, .inr ⟨hee, cb, mm, M, rfl, hM, m5⟩⟩
        refine zA1 (cs := [_]) zAa zeroValue84 rfl gI (fun tk tl jh => ?_)
        refine zAd (qn ⟨jh.tail.tail.tail.tail, ?_⟩)
        refine zBh rfl ?_
        refine zA4 zAa call42 rfl rfl rfl rfl (c42 c _ hm.cons.cons.cons.cons.cons.cons.cons _ _ (outL c hold until_) (by simp [spoilsL, putL, outL]) zDh (zBb (i := 1) (rows := (arows (outL c hold until_))) rfl (arow2 _) rfl) jh) ?_
        rintro _ tm (⟨hee, rfl, gi⟩ | ⟨hee, cb, mm, M, rfl, hM, gi⟩)
        ·
         refine zAd (qn ⟨gi.tail.tail.tail.tail, ?_⟩)
         refine d_w rfl (fun _ => zA3 rfl rfl) rfl (d_w rfl (fun _ => zAw rfl rfl rfl) rfl (d_w rfl (fun _ => zAk rfl rfl rfl) rfl ?_))
         refine zBr rfl ?_
         refine zBj 0 (.pointer _) [_] sizeOf84 gi (fun tn m6 => ?_)
         refine zAd (qn ?_)
         refine d_w rfl (fun _ => zA0 rfl rfl) rfl ?_
         refine zBm ?_
         refine zAc (g0 _ _ (mdI ?_))
         have m7 := (show St _ _ (_ :: _ :: _ :: F) from m6.tail.tail.tail.tail)
         exact ⟨_, .inl ⟨hee, rfl, m7⟩⟩
        replace gi := (show St _ _ (M ++ (_ :: _ :: _ :: _ :: _ :: _ :: _ :: _ :: F)) from gi)
        refine zAd (qn ⟨gi.drop.tail.tail.tail.tail.tail, ?_⟩)
        refine d_w rfl (fun _ => zA3 rfl rfl) rfl (d_w rfl (fun _ => zAw rfl rfl rfl) rfl (d_w rfl (fun _ => zAk rfl rfl rfl) rfl ?_))
        have m8 := (show St _ _ (_ :: _ :: _ :: _ :: _ :: _ :: _ :: _ :: (M ++ (F))) from St.pk [M, [_], [_], [_], [_], [_], [_], [_], [_]] [1,2,3,4,5,6,7,8,0] gi)
        refine zBr rfl ?_
        refine zBj 1 (.pointer _) [_] sizeOf84 m8 (fun tp m9 => ?_)
        refine zAd (qn ?_)
        refine d_w rfl (fun _ => zA0 rfl rfl) rfl ?_
        refine zBm ?_
        refine zAc (g0 _ _ (mdI ?_))
        have ma := (show St _ _ (_ :: _ :: _ :: _ :: _ :: (M ++ (F))) from St.pk [[_], [_], [_], [_], [_], [_], [_], [_], M] [0,1,5,6,7,8] m9)
        exact ⟨_, .inr ⟨hee, cb, mm, M, rfl, hM, ma⟩⟩
       refine zA1 (cs := [_]) zAa zeroValue84 rfl gH (fun tq tr ji => ?_)
       refine zAd (qn ⟨ji.tail.tail.tail, ?_⟩)
       refine zBh rfl ?_
       refine zAu (ps := [(0, _),(1, _)]) (pv := [(0, .agg #[.bool _, .int _ _]),(1, .agg #[.bool _, .int _ _])]) (cs := [_,_,_,_]) zAa rfl rfl (fun w => zCy _ _ _ _ w) ji (fun tu tv jj => ?_)
       refine zAd (qn ⟨jj.tail.tail.tail.tail, ?_⟩)
       refine zBh rfl ?_
       refine zA4 zAa call42 rfl rfl rfl rfl (c42 c _ hm.cons.cons.cons.cons.cons.cons.cons _ _ (outL c hold until_) (by simp [spoilsL, putL, outL]) zDh (zBb (i := 0) (rows := (arows (outL c hold until_))) rfl (arow2 _) rfl) jj) ?_
       rintro _ tx (⟨hee, rfl, gj⟩ | ⟨hee, cb, mm, M, rfl, hM, gj⟩)
       ·
        refine zAd (qn ⟨gj.tail.tail.tail.tail, ?_⟩)
        refine d_w rfl (fun _ => zA3 rfl rfl) rfl (d_w rfl (fun _ => zAw rfl rfl rfl) rfl (d_w rfl (fun _ => zAk rfl rfl rfl) rfl ?_))
        refine zBr rfl ?_
        refine zBj 1 (.pointer _) [_] sizeOf84 gj (fun tz mb => ?_)
        refine zAd (qn ?_)
        refine d_w rfl (fun _ => zA0 rfl rfl) rfl ?_
        refine zBm ?_
        refine zAc (g0 _ _ (mdI ?_))
        have mc := (show St _ _ (_ :: _ :: _ :: F) from mb.tail.tail.tail.tail)
        exact ⟨_, .inl ⟨hee, rfl, mc⟩⟩
       replace gj := (show St _ _ (M ++ (_ :: _ :: _ :: _ :: _ :: _ :: _ :: _ :: F)) from gj)
       refine zAd (qn ⟨gj.drop.tail.tail.tail.tail.tail, ?_⟩)
       refine d_w rfl (fun _ => zA3 rfl rfl) rfl (d_w rfl (fun _ => zAw rfl rfl rfl) rfl (d_w rfl (fun _ => zAk rfl rfl rfl) rfl ?_))
       have md := (show St _ _ (_ :: _ :: _ :: _ :: _ :: _ :: _ :: _ :: (M ++ (F))) from St.pk [M, [_], [_], [_], [_], [_], [_], [_], [_]] [1,2,3,4,5,6,7,8,0] gj)
       refine zBr rfl ?_
       refine zBj 2 (.pointer _) [_] sizeOf84 md (fun tA me => ?_)
       refine zAd (qn ?_)
       refine d_w rfl (fun _ => zA0 rfl rfl) rfl ?_
       refine zBm ?_
       refine zAc (g0 _ _ (mdI ?_))
       have mf := (show St _ _ (_ :: _ :: _ :: _ :: _ :: (M ++ (F))) from St.pk [[_], [_], [_], [_], [_], [_], [_], [_], M] [0,2,5,6,7,8] me)
       exact ⟨_, .inr ⟨hee, cb, mm, M, rfl, hM, mf⟩⟩
      refine zA1 (cs := [_]) zAa zeroValue84 rfl gG (fun tB tC jk => ?_)
      refine zAd (qn ⟨jk.tail.tail.tail, ?_⟩)
      refine zBh rfl ?_
      refine zCo zAa call48 rfl rfl rfl rfl (c48 c _ hm.cons.cons.cons.cons.cons.cons _ _ [_] (by simp) (zBb (i := 2) (rows := [[_]]) rfl (by simp) rfl) jk) (fun tD jl => ?_)
      refine zAd (qn ⟨jl.tail.tail.tail, ?_⟩)
      refine zBh rfl ?_
      refine zAu (ps := [(0, _),(1, _)]) (pv := [(0, .agg #[.bool _, .int _ _]),(1, .agg #[.bool _, .int _ _])]) (cs := [_,_,_,_]) zAa rfl rfl (fun w => zCy _ _ _ _ w) jl (fun tE tF jm => ?_)
      refine zAd (qn ⟨jm.tail.tail.tail.tail, ?_⟩)
      refine zBh rfl ?_
      refine zA4 zAa call42 rfl rfl rfl rfl (c42 c _ hm.cons.cons.cons.cons.cons.cons.cons _ _ (outL c hold until_) (by simp [spoilsL, putL, outL]) zDh (zBb (i := 0) (rows := (arows (outL c hold until_))) rfl (arow2 _) rfl) jm) ?_
      rintro _ tG (⟨hee, rfl, gk⟩ | ⟨hee, cb, mm, M, rfl, hM, gk⟩)
      ·
       refine zAd (qn ⟨gk.tail.tail.tail.tail, ?_⟩)
       refine d_w rfl (fun _ => zA3 rfl rfl) rfl (d_w rfl (fun _ => zAw rfl rfl rfl) rfl (d_w rfl (fun _ => zAk rfl rfl rfl) rfl ?_))
       refine zBr rfl ?_
       refine zBj 1 (.pointer _) [_] sizeOf84 gk (fun tH mg => ?_)
       refine zAd (qn ?_)
       refine d_w rfl (fun _ => zA0 rfl rfl) rfl ?_
       refine zBm ?_
       refine zAc (g0 _ _ (mdI ?_))
       have mh := (show St _ _ (_ :: _ :: _ :: F) from mg.tail.tail.tail.tail)
       exact ⟨_, .inl ⟨hee, rfl, mh⟩⟩
      replace gk := (show St _ _ (M ++ (_ :: _ :: _ :: _ :: _ :: _ :: _ :: _ :: F)) from gk)
      refine zAd (qn ⟨gk.drop.tail.tail.tail.tail.tail, ?_⟩)
      refine d_w rfl (fun _ => zA3 rfl rfl) rfl (d_w rfl (fun _ => zAw rfl rfl rfl) rfl (d_w rfl (fun _ => zAk rfl rfl rfl) rfl ?_))
      have mi := (show St _ _ (_ :: _ :: _ :: _ :: _ :: _ :: _ :: _ :: (M ++ (F))) from St.pk [M, [_], [_], [_], [_], [_], [_], [_], [_]] [1,2,3,4,5,6,7,8,0] gk)
      refine zBr rfl ?_
      refine zBj 2 (.pointer _) [_] sizeOf84 mi (fun tI mj => ?_)
      refine zAd (qn ?_)
      refine d_w rfl (fun _ => zA0 rfl rfl) rfl ?_
      refine zBm ?_
      refine zAc (g0 _ _ (mdI ?_))
      have ml := (show St _ _ (_ :: _ :: _ :: _ :: _ :: (M ++ (F))) from St.pk [[_], [_], [_], [_], [_], [_], [_], [_], M] [0,2,5,6,7,8] mj)
      exact ⟨_, .inr ⟨hee, cb, mm, M, rfl, hM, ml⟩⟩
     refine zA1 (cs := [_]) zAa zeroValue84 rfl gF (fun tJ tK jo => ?_)
     refine zAd (qn ⟨jo.tail.tail.tail, ?_⟩)
     refine zBh rfl ?_
     refine zCo zAa call43 rfl rfl rfl rfl (c43 _ (by omega) _ _ [_] (by simp) (zBb (i := 1) (rows := [[_]]) rfl (by simp) rfl) jo) (fun tL jp => ?_)
     refine zAd (qn ⟨jp.tail.tail.tail, ?_⟩)
     refine zBh rfl ?_
     refine zCo zAa call48 rfl rfl rfl rfl (c48 c _ hm.cons.cons.cons.cons.cons.cons _ _ [_] (by simp) (zBb (i := 2) (rows := [[_]]) rfl (by simp) rfl) jp) (fun tM jq => ?_)
     refine zAd (qn ⟨jq.tail.tail.tail, ?_⟩)
     refine zBh rfl ?_
     refine zAu (ps := [(0, _),(1, _)]) (pv := [(0, .agg #[.bool _, .int _ _]),(1, .agg #[.bool _, .int _ _])]) (cs := [_,_,_,_]) zAa rfl rfl (fun w => zCy _ _ _ _ w) jq (fun tN tO jr => ?_)
     refine zAd (qn ⟨jr.tail.tail.tail.tail, ?_⟩)
     refine zBh rfl ?_
     refine zA4 zAa call42 rfl rfl rfl rfl (c42 c _ hm.cons.cons.cons.cons.cons.cons.cons _ _ (outL c hold until_) (by simp [spoilsL, putL, outL]) zDh (zBb (i := 0) (rows := (arows (outL c hold until_))) rfl (arow2 _) rfl) jr) ?_
     rintro _ tP (⟨hee, rfl, gm⟩ | ⟨hee, cb, mm, M, rfl, hM, gm⟩)
     ·
      refine zAd (qn ⟨gm.tail.tail.tail.tail, ?_⟩)
      refine d_w rfl (fun _ => zA3 rfl rfl) rfl (d_w rfl (fun _ => zAw rfl rfl rfl) rfl (d_w rfl (fun _ => zAk rfl rfl rfl) rfl ?_))
      refine zBr rfl ?_
      refine zBj 1 (.pointer _) [_] sizeOf84 gm (fun tQ mn => ?_)
      refine zAd (qn ?_)
      refine d_w rfl (fun _ => zA0 rfl rfl) rfl ?_
      refine zBm ?_
      refine zAc (g0 _ _ (mdI ?_))
      have mp := (show St _ _ (_ :: _ :: _ :: F) from mn.tail.tail.tail.tail)
      exact ⟨_, .inl ⟨hee, rfl, mp⟩⟩
     replace gm := (show St _ _ (M ++ (_ :: _ :: _ :: _ :: _ :: _ :: _ :: _ :: F)) from gm)
     refine zAd (qn ⟨gm.drop.tail.tail.tail.tail.tail, ?_⟩)
     refine d_w rfl (fun _ => zA3 rfl rfl) rfl (d_w rfl (fun _ => zAw rfl rfl rfl) rfl (d_w rfl (fun _ => zAk rfl rfl rfl) rfl ?_))
     have mq := (show St _ _ (_ :: _ :: _ :: _ :: _ :: _ :: _ :: _ :: (M ++ (F))) from St.pk [M, [_], [_], [_], [_], [_], [_], [_], [_]] [1,2,3,4,5,6,7,8,0] gm)
     refine zBr rfl ?_
     refine zBj 2 (.pointer _) [_] sizeOf84 mq (fun tR mr => ?_)
     refine zAd (qn ?_)
     refine d_w rfl (fun _ => zA0 rfl rfl) rfl ?_
     refine zBm ?_
     refine zAc (g0 _ _ (mdI ?_))
     have ms := (show St _ _ (_ :: _ :: _ :: _ :: _ :: (M ++ (F))) from St.pk [[_], [_], [_], [_], [_], [_], [_], [_], M] [0,2,5,6,7,8] mr)
     exact ⟨_, .inr ⟨hee, cb, mm, M, rfl, hM, ms⟩⟩
    refine zA1 (cs := [_]) zAa zeroValue84 rfl gE (fun tS tT js => ?_)
    refine zAd (qn ⟨js.tail.tail, ?_⟩)
    refine zBh rfl ?_
    refine zAu (ps := [(0, _)]) (pv := [(0, .int _ _)]) (cs := [_]) zAa rfl rfl (fun w => zDa _ w) js (fun tU tV jt => ?_)
    refine zAd (qn ⟨jt.tail.tail.tail, ?_⟩)
    refine zBh rfl ?_
    refine zCo zAa call43 rfl rfl rfl rfl (c43 _ (by omega) _ _ [_] (by simp) (zBb (i := 0) (rows := [[_]]) rfl (by simp) rfl) jt) (fun tW ju => ?_)
    refine zAd (qn ⟨ju.tail.tail.tail, ?_⟩)
    refine zBh rfl ?_
    refine zCo zAa call48 rfl rfl rfl rfl (c48 c _ hm.cons.cons.cons.cons.cons.cons _ _ [_] (by simp) (zBb (i := 2) (rows := [[_]]) rfl (by simp) rfl) ju) (fun tX jv => ?_)
    refine zAd (qn ⟨jv.tail.tail.tail, ?_⟩)
    refine zBh rfl ?_
    refine zAu (ps := [(0, _),(1, _)]) (pv := [(0, .agg #[.bool _, .int _ _]),(1, .agg #[.bool _, .int _ _])]) (cs := [_,_,_,_]) zAa rfl rfl (fun w => zCy _ _ _ _ w) jv (fun tY tZ jw => ?_)
    refine zAd (qn ⟨jw.tail.tail.tail.tail, ?_⟩)
    refine zBh rfl ?_
    refine zA4 zAa call42 rfl rfl rfl rfl (c42 c _ hm.cons.cons.cons.cons.cons.cons.cons _ _ (outL c hold until_) (by simp [spoilsL, putL, outL]) zDh (zBb (i := 0) (rows := (arows (outL c hold until_))) rfl (arow2 _) rfl) jw) ?_
    rintro _ wa (⟨hee, rfl, gn⟩ | ⟨hee, cb, mm, M, rfl, hM, gn⟩)
    ·
     refine zAd (qn ⟨gn.tail.tail.tail.tail, ?_⟩)
     refine d_w rfl (fun _ => zA3 rfl rfl) rfl (d_w rfl (fun _ => zAw rfl rfl rfl) rfl (d_w rfl (fun _ => zAk rfl rfl rfl) rfl ?_))
     refine zBr rfl ?_
     refine zBj 2 (.pointer _) [_] sizeOf84 gn (fun wc mu => ?_)
     refine zAd (qn ?_)
     refine d_w rfl (fun _ => zA0 rfl rfl) rfl ?_
     refine zBm ?_
     refine zAc (g0 _ _ (mdI ?_))
     have mv := (show St _ _ (_ :: _ :: _ :: F) from mu.tail.tail.tail.tail)
     exact ⟨_, .inl ⟨hee, rfl, mv⟩⟩
    replace gn := (show St _ _ (M ++ (_ :: _ :: _ :: _ :: _ :: _ :: _ :: _ :: F)) from gn)
    refine zAd (qn ⟨gn.drop.tail.tail.tail.tail.tail, ?_⟩)
    refine d_w rfl (fun _ => zA3 rfl rfl) rfl (d_w rfl (fun _ => zAw rfl rfl rfl) rfl (d_w rfl (fun _ => zAk rfl rfl rfl) rfl ?_))
    have mw := (show St _ _ (_ :: _ :: _ :: _ :: _ :: _ :: _ :: _ :: (M ++ (F))) from St.pk [M, [_], [_], [_], [_], [_], [_], [_], [_]] [1,2,3,4,5,6,7,8,0] gn)
    refine zBr rfl ?_
    refine zBj 3 (.pointer _) [_] sizeOf84 mw (fun wd mx => ?_)
    refine zAd (qn ?_)
    refine d_w rfl (fun _ => zA0 rfl rfl) rfl ?_
    refine zBm ?_
    refine zAc (g0 _ _ (mdI ?_))
    have my := (show St _ _ (_ :: _ :: _ :: _ :: _ :: (M ++ (F))) from St.pk [[_], [_], [_], [_], [_], [_], [_], [_], M] [0,3,5,6,7,8] mx)
    exact ⟨_, .inr ⟨hee, cb, mm, M, rfl, hM, my⟩⟩
   refine zA1 (cs := [_]) zAa zeroValue84 rfl g3 (fun we wg gJ => ?_)
   refine zAd (qn ⟨gJ.tail, ?_⟩)
   refine zBm ⟨zDy rfl ?_, zDy rfl ?_⟩
   ·
    refine zAu (ps := [(0, _)]) (pv := [(0, .int _ _)]) (cs := [_]) zAa rfl rfl (fun w => zDa _ w) gJ (fun wh wi gK => ?_)
    refine zAd (qn ⟨gK.tail.tail, ?_⟩)
    refine zBm ⟨zDy rfl ?_, zDy rfl ?_⟩
    ·
     refine zCo zAa call43 rfl rfl rfl rfl (c43 _ (by omega) _ _ [_] (by simp) (zBb (i := 0) (rows := [[_]]) rfl (by simp) rfl) gK) (fun wj jx => ?_)
     refine zAd (qn ⟨jx.tail.tail, ?_⟩)
     refine zBh rfl ?_
     refine zAu (ps := [(0, _)]) (pv := [(0, .int _ _)]) (cs := [_]) zAa rfl rfl (fun w => zDa _ w) jx (fun wk wn jy => ?_)
     refine zAd (qn ⟨jy.tail.tail.tail, ?_⟩)
     refine zBh rfl ?_
     refine zCo zAa call48 rfl rfl rfl rfl (c48 c _ hm.cons.cons.cons.cons.cons.cons _ _ [_] (by simp) (zBb (i := 0) (rows := [[_]]) rfl (by simp) rfl) jy) (fun wo jz => ?_)
     refine zAd (qn ⟨jz.tail.tail.tail, ?_⟩)
     refine zBh rfl ?_
     refine zAu (ps := [(0, _),(1, _)]) (pv := [(0, .agg #[.bool _, .int _ _]),(1, .agg #[.bool _, .int _ _])]) (cs := [_,_,_,_]) zAa rfl rfl (fun w => zCy _ _ _ _ w) jz (fun wp wr jA => ?_)
     refine zAd (qn ⟨jA.tail.tail.tail.tail, ?_⟩)
     refine zBh rfl ?_
     refine zA4 zAa call42 rfl rfl rfl rfl (c42 c _ hm.cons.cons.cons.cons.cons.cons.cons _ _ (outL c hold until_) (by simp [spoilsL, putL, outL]) zDh (zBb (i := 0) (rows := (arows (outL c hold until_))) rfl (arow2 _) rfl) jA) ?_
     rintro _ wt (⟨hee, rfl, go⟩ | ⟨hee, cb, mm, M, rfl, hM, go⟩)
     ·
      refine zAd (qn ⟨go.tail.tail.tail.tail, ?_⟩)
      refine d_w rfl (fun _ => zA3 rfl rfl) rfl (d_w rfl (fun _ => zAw rfl rfl rfl) rfl (d_w rfl (fun _ => zAk rfl rfl rfl) rfl ?_))
      refine zBr rfl ?_
      refine zBj 3 (.pointer _) [_] sizeOf84 go (fun wu mz => ?_)
      refine zAd (qn ?_)
      refine d_w rfl (fun _ => zA0 rfl rfl) rfl ?_
      refine zBm ?_
      refine zAc (g0 _ _ (mdI ?_))
      have mA := (show St _ _ (_ :: _ :: _ :: F) from mz.tail.tail.tail.tail)
      exact ⟨_, .inl ⟨hee, rfl, mA⟩⟩
     replace go := (show St _ _ (M ++ (_ :: _ :: _ :: _ :: _ :: _ :: _ :: _ :: F)) from go)
     refine zAd (qn ⟨go.drop.tail.tail.tail.tail.tail, ?_⟩)
     refine d_w rfl (fun _ => zA3 rfl rfl) rfl (d_w rfl (fun _ => zAw rfl rfl rfl) rfl (d_w rfl (fun _ => zAk rfl rfl rfl) rfl ?_))
     have mB := (show St _ _ (_ :: _ :: _ :: _ :: _ :: _ :: _ :: _ :: (M ++ (F))) from St.pk [M, [_], [_], [_], [_], [_], [_], [_], [_]] [1,2,3,4,5,6,7,8,0] go)
     refine zBr rfl ?_
     refine zBj 4 (.pointer _) [_] sizeOf84 mB (fun wv mC => ?_)
     refine zAd (qn ?_)
     refine d_w rfl (fun _ => zA0 rfl rfl) rfl ?_
     refine zBm ?_
     refine zAc (g0 _ _ (mdI ?_))
     have mD := (show St _ _ (_ :: _ :: _ :: _ :: _ :: (M ++ (F))) from St.pk [[_], [_], [_], [_], [_], [_], [_], [_], M] [0,4,5,6,7,8] mC)
     exact ⟨_, .inr ⟨hee, cb, mm, M, rfl, hM, mD⟩⟩
    refine zAu (ps := [(0, _)]) (pv := [(0, .int _ _)]) (cs := [_]) zAa rfl rfl (fun w => zDa _ w) gK (fun ww wx jB => ?_)
    refine zAd (qn ⟨jB.tail.tail.tail, ?_⟩)
    refine zBh rfl ?_
    refine zCo zAa call43 rfl rfl rfl rfl (c43 _ (by omega) _ _ [_] (by simp) (zBb (i := 1) (rows := [[_]]) rfl (by simp) rfl) jB) (fun wy jC => ?_)
    refine zAd (qn ⟨jC.tail.tail.tail, ?_⟩)
    refine zBh rfl ?_
    refine zCo zAa call48 rfl rfl rfl rfl (c48 c _ hm.cons.cons.cons.cons.cons.cons _ _ [_] (by simp) (zBb (i := 0) (rows := [[_]]) rfl (by simp) rfl) jC) (fun wz jD => ?_)
    refine zAd (qn ⟨jD.tail.tail.tail, ?_⟩)
    refine zBh rfl ?_
    refine zAu (ps := [(0, _),(1, _)]) (pv := [(0, .agg #[.bool _, .int _ _]),(1, .agg #[.bool _, .int _ _])]) (cs := [_,_,_,_]) zAa rfl rfl (fun w => zCy _ _ _ _ w) jD (fun wA wB jE => ?_)
    refine zAd (qn ⟨jE.tail.tail.tail.tail, ?_⟩)
    refine zBh rfl ?_
    refine zA4 zAa call42 rfl rfl rfl rfl (c42 c _ hm.cons.cons.cons.cons.cons.cons.cons _ _ (outL c hold until_) (by simp [spoilsL, putL, outL]) zDh (zBb (i := 0) (rows := (arows (outL c hold until_))) rfl (arow2 _) rfl) jE) ?_
    rintro _ wC (⟨hee, rfl, gp⟩ | ⟨hee, cb, mm, M, rfl, hM, gp⟩)
    ·
     refine zAd (qn ⟨gp.tail.tail.tail.tail, ?_⟩)
     refine d_w rfl (fun _ => zA3 rfl rfl) rfl (d_w rfl (fun _ => zAw rfl rfl rfl) rfl (d_w rfl (fun _ => zAk rfl rfl rfl) rfl ?_))
     refine zBr rfl ?_
     refine zBj 3 (.pointer _) [_] sizeOf84 gp (fun wD mE => ?_)
     refine zAd (qn ?_)
     refine d_w rfl (fun _ => zA0 rfl rfl) rfl ?_
     refine zBm ?_
     refine zAc (g0 _ _ (mdI ?_))
     have mF := (show St _ _ (_ :: _ :: _ :: F) from mE.tail.tail.tail.tail)
     exact ⟨_, .inl ⟨hee, rfl, mF⟩⟩
    replace gp := (show St _ _ (M ++ (_ :: _ :: _ :: _ :: _ :: _ :: _ :: _ :: F)) from gp)
    refine zAd (qn ⟨gp.drop.tail.tail.tail.tail.tail, ?_⟩)
    refine d_w rfl (fun _ => zA3 rfl rfl) rfl (d_w rfl (fun _ => zAw rfl rfl rfl) rfl (d_w rfl (fun _ => zAk rfl rfl rfl) rfl ?_))
    have mG := (show St _ _ (_ :: _ :: _ :: _ :: _ :: _ :: _ :: _ :: (M ++ (F))) from St.pk [M, [_], [_], [_], [_], [_], [_], [_], [_]] [1,2,3,4,5,6,7,8,0] gp)
    refine zBr rfl ?_
    refine zBj 4 (.pointer _) [_] sizeOf84 mG (fun wE mH => ?_)
    refine zAd (qn ?_)
    refine d_w rfl (fun _ => zA0 rfl rfl) rfl ?_
    refine zBm ?_
    refine zAc (g0 _ _ (mdI ?_))
    have mI := (show St _ _ (_ :: _ :: _ :: _ :: _ :: (M ++ (F))) from St.pk [[_], [_], [_], [_], [_], [_], [_], [_], M] [0,4,5,6,7,8] mH)
    exact ⟨_, .inr ⟨hee, cb, mm, M, rfl, hM, mI⟩⟩
   refine zAu (ps := [(0, _)]) (pv := [(0, .int _ _)]) (cs := [_]) zAa rfl rfl (fun w => zDa _ w) gJ (fun wF wG jF => ?_)
   refine zAd (qn ⟨jF.tail.tail, ?_⟩)
   refine zBh rfl ?_
   refine zAu (ps := [(0, _)]) (pv := [(0, .int _ _)]) (cs := [_]) zAa rfl rfl (fun w => zDa _ w) jF (fun wH wI jG => ?_)
   refine zAd (qn ⟨jG.tail.tail.tail, ?_⟩)
   refine zBh rfl ?_
   refine zCo zAa call43 rfl rfl rfl rfl (c43 _ (by omega) _ _ [_] (by simp) (zBb (i := 0) (rows := [[_]]) rfl (by simp) rfl) jG) (fun wJ jH => ?_)
   refine zAd (qn ⟨jH.tail.tail.tail, ?_⟩)
   refine zBh rfl ?_
   refine zCo zAa call48 rfl rfl rfl rfl (c48 c _ hm.cons.cons.cons.cons.cons.cons _ _ [_] (by simp) (zBb (i := 1) (rows := [[_]]) rfl (by simp) rfl) jH) (fun wK jI => ?_)
   refine zAd (qn ⟨jI.tail.tail.tail, ?_⟩)
   refine zBh rfl ?_
   refine zAu (ps := [(0, _),(1, _)]) (pv := [(0, .agg #[.bool _, .int _ _]),(1, .agg #[.bool _, .int _ _])]) (cs := [_,_,_,_]) zAa rfl rfl (fun w => zCy _ _ _ _ w) jI (fun wL wM jJ => ?_)
   refine zAd (qn ⟨jJ.tail.tail.tail.tail, ?_⟩)
   refine zBh rfl ?_
   refine zA4 zAa call42 rfl rfl rfl rfl (c42 c _ hm.cons.cons.cons.cons.cons.cons.cons _ _ (outL c hold until_) (by simp [spoilsL, putL, outL]) zDh (zBb (i := 0) (rows := (arows (outL c hold until_))) rfl (arow2 _) rfl) jJ) ?_
   rintro _ wN (⟨hee, rfl, gq⟩ | ⟨hee, cb, mm, M, rfl, hM, gq⟩)
   ·
    refine zAd (qn ⟨gq.tail.tail.tail.tail, ?_⟩)
    refine d_w rfl (fun _ => zA3 rfl rfl) rfl (d_w rfl (fun _ => zAw rfl rfl rfl) rfl (d_w rfl (fun _ => zAk rfl rfl rfl) rfl ?_))
    refine zBr rfl ?_
    refine zBj 3 (.pointer _) [_] sizeOf84 gq (fun wO mJ => ?_)
    refine zAd (qn ?_)
    refine d_w rfl (fun _ => zA0 rfl rfl) rfl ?_
    refine zBm ?_
    refine zAc (g0 _ _ (mdI ?_))
    have mK := (show St _ _ (_ :: _ :: _ :: F) from mJ.tail.tail.tail.tail)
    exact ⟨_, .inl ⟨hee, rfl, mK⟩⟩
   replace gq := (show St _ _ (M ++ (_ :: _ :: _ :: _ :: _ :: _ :: _ :: _ :: F)) from gq)
   refine zAd (qn ⟨gq.drop.tail.tail.tail.tail.tail, ?_⟩)
   refine d_w rfl (fun _ => zA3 rfl rfl) rfl (d_w rfl (fun _ => zAw rfl rfl rfl) rfl (d_w rfl (fun _ => zAk rfl rfl rfl) rfl ?_))
   have mL := (show St _ _ (_ :: _ :: _ :: _ :: _ :: _ :: _ :: _ :: (M ++ (F))) from St.pk [M, [_], [_], [_], [_], [_], [_], [_], [_]] [1,2,3,4,5,6,7,8,0] gq)
   refine zBr rfl ?_
   refine zBj 4 (.pointer _) [_] sizeOf84 mL (fun wP mM => ?_)
   refine zAd (qn ?_)
   refine d_w rfl (fun _ => zA0 rfl rfl) rfl ?_
   refine zBm ?_
   refine zAc (g0 _ _ (mdI ?_))
   have mN := (show St _ _ (_ :: _ :: _ :: _ :: _ :: (M ++ (F))) from St.pk [[_], [_], [_], [_], [_], [_], [_], [_], M] [0,4,5,6,7,8] mM)
   exact ⟨_, .inr ⟨hee, cb, mm, M, rfl, hM, mN⟩⟩
  intro vs μ wQ hM
  clear hs
  obtain ⟨bc, hM⟩ := hM
  rcases hM with hM | hM
  ·
   obtain ⟨hee, rfl, hs⟩ := hM
   refine zAc (gM _ _ (zAf (fun wR wS => (zAf (fun wT mO => (zAb (zA6 rfl rfl (w_p (zCs rfl rfl rfl rfl) rfl (zAd (zAc (mO _ _ (zAr rfl rfl (fun gu => ?_) (fun gu => ?_)))))))))))))
   ·
    try simp only [zS] at gu
    refine zAf (fun wU mP => (zAb (zA6 rfl rfl (zBi rfl rfl (zBw rfl rfl (zAd (zAc (mP _ _ (zA8 (zAl (zBa (l := [.tmp 6, .tmp 7]) (vs := [_,_]) rfl ⟨⟨rfl, show _ = (.slice _ _ _ : Value) from rfl⟩, ⟨rfl, (rfl : _ = Value.int _ _)⟩, trivial⟩ ?_)))))))))))
    exact ⟨[], none, 0, by rw [outP_e hee]; rfl, by rw [outP_e hee]; exact Sl.nil _ _, hs.tail.tail.tail⟩
   exfalso
   try simp only [zS] at gu
   exact hee gu
  obtain ⟨hee, cb, mm, M, rfl, hM, hs⟩ := hM
  have hew := zFp zDh hee
  have hok := zEe hew.1
  have hlo := hok.ll
  have hle2 := hok.le
  have hlh2 := hok.lh
  refine zAc (gM _ _ (zAf (fun wV mQ => (zAf (fun wW mR => (zAb (zA6 rfl rfl (w_p (zCs rfl rfl rfl rfl) rfl (zAd (zAc (mR _ _ (zBs rfl rfl ?_))))))))))))
  refine zAn (zAc (mQ _ _ (zAf (fun wX mS => ?_))))
  obtain ⟨n, rfl⟩ : ∃ n : Nat, hold = (n : Int) := ⟨hold.toNat, by have := zFz (any_2 hew.2.1).1 hold (by simp); omega⟩
  have hnh : n < c.holds.length := by have := zFz (any_2 hew.2.1).1 (n : Int) (by simp); omega
  refine zAb (w_p (zAg isAgg84 hs rfl rfl (aow 1 [_])) rfl (w_p (zAg isAgg3 hs rfl rfl (aow 3 [_])) rfl ?_))
  refine zCo zAa call57 rfl rfl rfl rfl (c57 c p 0 cb mm ⟨hm.app.cons.cons.cons.cons.cons, zB9 (i := 0) rfl rfl, hok.t, by omega⟩ _ hs) (fun wY mT => ?_)
  refine zA1 (cs := [_]) zAa zeroValue3 rfl mT (fun mU wZ mV => ?_)
  refine zBj 0 (.int _ _) [_] sizeOf3 mV (fun xa jK => ?_)
  refine zAd (zAc (mS _ _ (zAf (fun xb mW => (zAb (w_p (zAe (o := 3) (i := 3) underlying27 rfl sizeOf24 rfl rfl rfl) rfl (w_p (zAg isAgg24 jK rfl rfl (aow 5 [_])) rfl ?_)))))))
  refine w_p (zBc underlying24 rfl rfl) rfl (w_p (zCc (fv := []) (cv := [_,_,_,_,_]) rfl rfl rfl rfl) rfl ?_)
  have mX := (show St _ _ ((M ++ (_ :: _ :: _ :: _ :: _ :: _ :: F))) from St.pk [[_], [_], [_], [_], [_], [_], M] [6,0,1,2,3,4,5] jK)
  refine zA4 zAa call58 rfl rfl rfl rfl (c58 (M := M) (F := _ :: (cb, blk 138 [.slice p.ae c.heat.length p.ce, .int .i64 c.gas, .slice p.ah c.holds.length p.ch, .slice p.al c.lots.length p.cl, .slice p.an c.seen.length p.cn, .int .i64 ((0 : Nat) : Int), .map (some mm)]) :: _ :: _ :: _ :: _ :: F) c.lots.length (by omega) (.func (.func 59) #[] #[.pointer (some ⟨mU,0, none⟩), .pointer (some ⟨bc, 0, none⟩), .pointer (some ⟨b6,0, none⟩), .pointer (some ⟨b3,0, none⟩), .pointer (some ⟨b9,0, none⟩)]) (outS c n until_) (fun M => Memo c mm M) (fun set M X w hset hM hs => zDm call59 (c59 c p cb mm ⟨hm.cons.cons.cons.cons.cons.cons, zB9 (i := 1) rfl rfl, hok.t, by omega⟩ hok n hnh until_ _ _ _ _ _ (aow 0 [_]) (aow 2 [_]) (aow 4 [_]) (zB9 (i := 5) (vs := c.cells p) rfl rfl) (aow 3 [_]) set (by have := shl_16 (n := c.lots.length) (by omega); omega) hM hs)) hM mX) ?_
  rintro _ xc ⟨B, M1, aL, cL, rfl, hslB, xd, gL⟩
  replace gL := (show St _ _ (B ++ (M1 ++ (_ :: _ :: _ :: _ :: _ :: _ :: F))) from gL)
  refine w_p (zBz rfl rfl) rfl (zBi rfl rfl (zAd (zAc (mW _ _ (zA8 (zBa (l := [.tmp 6, .tmp 7]) (vs := [_,_]) rfl ⟨⟨rfl, show _ = (.slice _ _ _ : Value) from rfl⟩, ⟨rfl, (rfl : _ = Value.int _ _)⟩, trivial⟩ ?_))))))
  have mY := (show St _ _ ((B ++ (F))) from St.pk [B, M1, [_], [_], [_], [_], [_], [_]] [0] gL)
  exact ⟨B, aL, cL, by rw [outP_y hee]; rfl, by rw [outP_y hee]; exact hslB, mY⟩

theorem c63 {w0 w : World} {F : List (Nat × Obj)} (c : Cargo) (p : AtT) (hm : TIn w0 F c p) (hco : c.Ok) (but : Nat) (hbt : but < 1000) (b1 : Nat) (h1 : Ats w0 F b1 0 (c.cells p)) (hs : St w0 w F) :
  Con Tryz.prog 63 [.int .i64 (but : Int), .pointer (some ⟨b1,0, none⟩)] w fun v w' => v = .bool (someB c but) ∧ St w0 w' F := by
  refine zAo (n := 8) func63 rfl rfl (zNl rfl) ?_
  refine zAf (fun K2 g4 => (zAb (zBi rfl rfl (zAd (zAc (g4 _ _ (zAf (fun K4 g5 => (zAb (w_p (zA2 (vs := [_,_,_,_,_]) isAgg27 sizeOf27 hs rfl rfl h1) rfl ?_))))))))))
  refine zA6 rfl rfl (zA4 zAa call55 rfl rfl rfl rfl (c55 c p but hs) ?_)
  rintro _ w6 ⟨cb, mm, rfl, g0⟩
  replace g0 := (show St _ _ (_ :: _ :: F) from g0)
  have g6 := (show St _ _ (_ :: _ :: F) from St.pk [[_], [_]] [1,0] g0)
  have hkc : CK w0 ((cb, blk 138 [.slice p.ae c.heat.length p.ce, .int .i64 c.gas, .slice p.ah c.holds.length p.ch, .slice p.al c.lots.length p.cl, .slice p.an c.seen.length p.cn, .int .i64 (but : Int), .map (some mm)]) :: F) c p but cb mm := zEs hm hco hbt
  refine zA4 zAa call64 rfl rfl rfl rfl (c64 (X := []) (M := [(mm, .map #[] 0)]) c p but cb mm hkc hco (zE1 c mm) g6) ?_
  rintro _ g7 ⟨rfl, M2, g8, g3⟩
  replace g3 := (show St _ _ (M2 ++ (_ :: F)) from g3)
  refine w_p (zAs rfl rfl) rfl (zAd (zAc (g5 _ _ (zA8 (zBa (l := [.tmp 3]) (vs := [_]) rfl ⟨⟨rfl, (rfl : _ = Value.bool _)⟩, trivial⟩ ?_)))))
  exact ⟨rfl, g3.drop.tail⟩

theorem c26 {w0 w : World} {F : List (Nat × Obj)} (c : Cargo) (p : AtT) (hm : TIn w0 F c p)  (hs : St w0 w F) :
  Con Tryz.prog 26 [.agg (c.cells p).toArray] w fun v w' => ∃ B a c', v = .tuple #[.slice a (wrongP c).1.length c', .int .i64 (wrongP c).2] ∧ Sl w0 B a 1 ((wrongP c).1.map fun x => [Value.int .i64 x]) ∧ St w0 w' (B ++ F) := by
  refine zAo (n := 21) func26 rfl rfl (zNl rfl) ?_
  refine zAf (fun K2 g6 => (zAb (zCj (v := .agg #[.slice _ _ _, .int _ _, .slice _ _ _, .slice _ _ _, .slice _ _ _]) (cs := [_,_,_,_,_]) zAa rfl rfl rfl hs (fun b3 w4 g5 => ?_))))
  refine zBi rfl rfl (zBi rfl rfl (zAd (zAc (g6 _ _ (zAf (fun K7 g7 => (zAf (fun K9 g8 => (zAb (w_p (zA2 (vs := [_,_,_,_,_]) isAgg27 sizeOf27 g5 rfl rfl (aow 0 [_,_,_,_,_])) rfl ?_))))))))))
  refine zCo zAa call62 rfl rfl rfl rfl (c62 c _ hm.cons g5) (fun ge g0 => ?_)
  refine w_p (zA3 rfl rfl) rfl (w_p (zAk rfl rfl rfl) rfl (w_p (zAk rfl rfl rfl) rfl (w_p (zAk rfl rfl rfl) rfl (zBw rfl rfl (zBw rfl rfl (zBw rfl rfl (zAd (zAc (g8 _ _ (zAf (fun gf g9 => (zAb (zA6 rfl rfl ?_)))))))))))))
  refine w_p (zCs rfl rfl rfl rfl) rfl (zAd (zAc (g9 _ _ (zAr rfl rfl (fun g3 => ?_) (fun g3 => ?_)))))
  ·
   try simp only [zS] at g3
   refine zAf (fun gg ga => (zAb (zA6 rfl rfl (zBi rfl rfl (zBw rfl rfl (zAd (zAc (ga _ _ (zA8 (zAl (zBa (l := [.tmp 2, .tmp 3]) (vs := [_,_]) rfl ⟨⟨rfl, show _ = (.slice _ _ _ : Value) from rfl⟩, ⟨rfl, (rfl : _ = Value.int _ _)⟩, trivial⟩ ?_)))))))))))
   exact ⟨[], none, 0, by rw [wrongP_e (by assumption)]; rfl, by rw [wrongP_e (by assumption)]; exact Sl.nil _ _, g0.tail⟩
  try simp only [zS] at g3
  refine zAn (zAc (g7 _ _ (zAf (fun gh gc => ?_))))
  have hok := zEe (by assumption)
  have hln := hok.ln
  refine zAb (w_p (zAe (o := 4) (i := 4) underlying27 rfl sizeOf25 rfl rfl rfl) rfl (w_p (zAg isAgg25 g0 rfl rfl (aow 0 [_])) rfl (w_p (zBc underlying25 rfl rfl) rfl (w_p (zCc (fv := []) (cv := [_]) rfl rfl rfl rfl) rfl ?_))))
  refine zA4 zAa call58 rfl rfl rfl rfl (c58 (M := []) (F := _ :: F) c.seen.length (by omega) (.func (.func 63) #[] #[.pointer (some ⟨b3,0, none⟩)]) (someB c) (fun M => M = []) (fun s M X w gi hM hs => by subst hM; exact (zDm call63 (c63 c p hm.cons.app.app hok s (by have := shl_16 (n := c.seen.length) (by omega); omega) _ (Ats.app (Ats.app (zB9 (i := 0) (vs := c.cells p) rfl rfl))) hs)).mono fun _ _ h => ⟨h.1, [], rfl, h.2⟩) rfl g0) ?_
  rintro _ gj ⟨B, M1, aL, cL, rfl, hslB, gk, g4⟩
  replace g4 := (show St _ _ (B ++ (M1 ++ (_ :: F))) from g4)
  refine w_p (zBz rfl rfl) rfl (zBi rfl rfl (zAd (zAc (gc _ _ (zA8 (zBa (l := [.tmp 2, .tmp 3]) (vs := [_,_]) rfl ⟨⟨rfl, show _ = (.slice _ _ _ : Value) from rfl⟩, ⟨rfl, (rfl : _ = Value.int _ _)⟩, trivial⟩ ?_))))))
  have gd := (show St _ _ ((B ++ (F))) from St.pk [B, M1, [_]] [0] g4)
  exact ⟨B, aL, cL, by rw [wrongP_y (by assumption)]; rfl, by rw [wrongP_y (by assumption)]; exact hslB, gd⟩

end Go.Proofs.Ut
/- Plain words of the turn layer: the document's examples; the cargo of one lot that loses one of its green each hour. No conditions. -/
namespace Go.Rt.Tu
theorem ex_turns0 : turnsP (cargoX (-1)) 0 = ((2,4), 1,0) := by decide +kernel
theorem ex_turns1 : turnsP (cargoX (-1)) 1 = ((4,6), (turnsP (cargoX (-1)) 1).2.1,0) := by decide +kernel
theorem ex_turns2 : turnsP (cargoX (-1)) 2 = ((turnsP (cargoX (-1)) 2).1,2,0) := by decide +kernel
theorem ex_turnsD : turnsP (cargoX 3) 1 = ((6,6), 1,0) := by decide +kernel
theorem ex_safe : safeP (cargoX (-1)) 3 = ([1,2], 0) := by decide +kernel
theorem ex_first : firstP (cargoX (-1)) 0 = ([0], 0) := by decide +kernel
theorem ex_spoils : spoilsP (cargoX (-1)) 0 1 = (1,0) := by decide +kernel
theorem ex_put : putP (cargoX (-1)) (8,8) 1 5 = ([1], 0) := by decide +kernel
theorem ex_out : outP (cargoX (-1)) 0 4 = ([0], 0) := by decide +kernel
theorem ex_wrong : wrongP (cargoX 4) = ([0], 0) := by decide +kernel
theorem ex_none : (turnsP (cargoX 4) 0).2.2 = 8 := by decide +kernel
theorem ex_arg : (spoilsP (cargoX (-1)) 1 1).2 = 2 := by decide +kernel
def one (left : Int) : Cargo := ⟨List.replicate 8 0,0, [(1,1)], [⟨0,0, left, left⟩], []⟩
end Go.Rt.Tu
set_option maxRecDepth 20000
namespace Go.Proofs.Ut
open Go.Proofs.Tryz
open Go.Rt Go.Rt.Tu
open Go.Rt.Ha (firstE zB3 zAp zBn failE felt spanL upto zBv listL fewest fewTo bit Bunch before fewStep zB8 zCi zBx zB2 zCg zCf zBu)
attribute [local irreducible] WL WC Con Yd At Ats Sl Agree DW
theorem Try_UO_fb3 (x0 : Int) (x1 : Int) (w : World) : (Instr.build 36 [(0, .int .i64 x0),(1, .int .i64 x1)].toArray).run Tryz.prog w = .ok (.agg #[.int .i64 x0, .int .i64 x1]) w := by kernel_rfl
theorem Try_UO_fb4 (x0 : Int) (x1 : Int) (x2 : Int) (x3 : Int) (x4 : Int) (x5 : Int) (w : World) : (Instr.buildSlice 22 6 [(0, .int .i64 x0),(1, .int .i64 x1),(2, .int .i64 x2),(3, .int .i64 x3),(4, .int .i64 x4),(5, .int .i64 x5)].toArray).run Tryz.prog w = .ok (.slice (some ⟨w.heap.size, 0, none⟩) 6 6) (w.alloc (Go.Rt.blk 3 [.int .i64 x0, .int .i64 x1, .int .i64 x2, .int .i64 x3, .int .i64 x4, .int .i64 x5])) := by kernel_rfl
theorem Try_UO_fb5 (x0 : Int) (x1 : Int) (x2 : Int) (x3 : Int) (w : World) : (Instr.buildSlice 23 2 [(0, .agg #[.int .i64 x0, .int .i64 x1]),(1, .agg #[.int .i64 x2, .int .i64 x3])].toArray).run Tryz.prog w = .ok (.slice (some ⟨w.heap.size, 0, none⟩) 2 2) (w.alloc (Go.Rt.blk 36 [.int .i64 x0, .int .i64 x1, .int .i64 x2, .int .i64 x3])) := by kernel_rfl
theorem Try_UO_fb6 (x0 : Int) (x1 : Int) (w : World) : (Instr.build 38 [(2, .agg #[.int .i64 x0, .int .i64 x1])].toArray).run Tryz.prog w = .ok (.agg #[.int .i64 0, .int .i64 0, .int .i64 x0, .int .i64 x1]) w := by kernel_rfl
theorem Try_UO_fb7 (x0 : Int) (x1 : Int) (x2 : Int) (x3 : Int) (w : World) : (Instr.build 38 [(0, .int .i64 x0),(1, .int .i64 x1),(2, .agg #[.int .i64 x2, .int .i64 x3])].toArray).run Tryz.prog w = .ok (.agg #[.int .i64 x0, .int .i64 x1, .int .i64 x2, .int .i64 x3]) w := by kernel_rfl
theorem Try_UO_fb8 (x0 : Int) (x1 : Int) (x2 : Int) (x3 : Int) (x4 : Int) (x5 : Int) (x6 : Int) (x7 : Int) (x8 : Int) (x9 : Int) (x10 : Int) (x11 : Int) (w : World) : (Instr.buildSlice 24 3 [(0, .agg #[.int .i64 x0, .int .i64 x1, .int .i64 x2, .int .i64 x3]),(1, .agg #[.int .i64 x4, .int .i64 x5, .int .i64 x6, .int .i64 x7]),(2, .agg #[.int .i64 x8, .int .i64 x9, .int .i64 x10, .int .i64 x11])].toArray).run Tryz.prog w = .ok (.slice (some ⟨w.heap.size, 0, none⟩) 3 3) (w.alloc (Go.Rt.blk 38 [.int .i64 x0, .int .i64 x1, .int .i64 x2, .int .i64 x3, .int .i64 x4, .int .i64 x5, .int .i64 x6, .int .i64 x7, .int .i64 x8, .int .i64 x9, .int .i64 x10, .int .i64 x11])) := by kernel_rfl
theorem Try_UO_fb9 (x0 : Option Addr) (l0 c0 : Nat) (x1 : Int) (x2 : Option Addr) (l2 c2 : Nat) (x3 : Option Addr) (l3 c3 : Nat) (w : World) : (Instr.build 27 [(0, .slice x0 l0 c0),(1, .int .i64 x1),(2, .slice x2 l2 c2),(3, .slice x3 l3 c3)].toArray).run Tryz.prog w = .ok (.agg #[.slice x0 l0 c0, .int .i64 x1, .slice x2 l2 c2, .slice x3 l3 c3, .slice none 0 0]) w := by kernel_rfl
theorem Try_UO_fb10 (x0 : Int) (w : World) : (Instr.build 62 [(1, .int .i64 x0)].toArray).run Tryz.prog w = .ok (.agg #[.int .i64 0, .int .i64 x0, .bool false]) w := by kernel_rfl
theorem Try_UO_fb11 (x0 : Int) (x1 : Int) (x2 : Bool) (w : World) : (Instr.buildSlice 25 1 [(0, .agg #[.int .i64 x0, .int .i64 x1, .bool x2])].toArray).run Tryz.prog w = .ok (.slice (some ⟨w.heap.size, 0, none⟩) 1 1) (w.alloc (Go.Rt.blk 62 [.int .i64 x0, .int .i64 x1, .bool x2])) := by kernel_rfl
theorem zE7 : flatInts Tryz.prog 36 2 = true := by kernel_rfl
theorem Try_UO_fb13 (x0 : Int) (x1 : Int) (w : World) : (Instr.buildSlice 22 2 [(0, .int .i64 x0),(1, .int .i64 x1)].toArray).run Tryz.prog w = .ok (.slice (some ⟨w.heap.size, 0, none⟩) 2 2) (w.alloc (Go.Rt.blk 3 [.int .i64 x0, .int .i64 x1])) := by kernel_rfl
theorem zF2 (x0 : Int) (w : World) : (Instr.buildSlice 22 1 [(0, .int .i64 x0)].toArray).run Tryz.prog w = .ok (.slice (some ⟨w.heap.size, 0, none⟩) 1 1) (w.alloc (Go.Rt.blk 3 [.int .i64 x0])) := by kernel_rfl
theorem zIl {w0 w : World} {L : List (Nat × Obj)} {i b : Nat} {t : TypeId} {cs vs : List Value} (hs : St w0 w L) (hi : L[i]? = some (b, blk t cs)) (h : (cs.drop 0).take vs.length = vs) : Ats w0 L b 0 vs := zB9 hi h
theorem gen_Z {w0 w : World} {L : List (Nat × Obj)} (hs : St w0 w L) : ∃ Z, Z = L ∧ St w0 w Z := ⟨L, rfl, hs⟩
theorem zEo {k : FuncId} {args : List Value} {w : World} {x : Bool} {S : World → Prop} (h : Con Tryz.prog k args w fun v w' => v = .bool x ∧ S w') (hx : x = true) : Con Tryz.prog k args w fun v w' => v = .bool true ∧ S w' := by subst hx; exact h
theorem kz_own {w0 w : World} {B F : List (Nat × Obj)} {a : Nat × Obj} (h : St w0 w (B ++ (a :: F))) : St w0 w (B ++ F) := (h.perm (zBp B [a] F)).tail
theorem cargoX_y {n : Int} (h : 0 ≤ n) : cargoX n = ⟨[0,0,0,1,0,0], 2, [(1,2),(1,1)], [⟨0,0,4,5⟩, ⟨0,0,10,10⟩, ⟨1,2,6,6⟩], [⟨0, n, false⟩]⟩ := by unfold cargoX; rw [if_pos h]
theorem cargoX_n {n : Int} (h : ¬ 0 ≤ n) : cargoX n = ⟨[0,0,0,1,0,0], 2, [(1,2),(1,1)], [⟨0,0,4,5⟩, ⟨0,0,10,10⟩, ⟨1,2,6,6⟩], []⟩ := by unfold cargoX; rw [if_neg h]
theorem ex_tin1 {w0 : World} {n : Int} {bs b3 bl bp bh : Nat} {t3 : TypeId} {c3 : List Value} :
    TIn w0 [(b3, blk t3 c3), (bs, blk 62 [.int .i64 0, .int .i64 n, .bool false]), (bl, blk 38 [.int .i64 0, .int .i64 0, .int .i64 4, .int .i64 5, .int .i64 0, .int .i64 0, .int .i64 10, .int .i64 10, .int .i64 1, .int .i64 2, .int .i64 6, .int .i64 6]), (bp, blk 36 [.int .i64 1, .int .i64 2, .int .i64 1, .int .i64 1]), (bh, blk 3 (iv [0,0,0,1,0,0]))]
      ⟨[0,0,0,1,0,0], 2, [(1,2),(1,1)], [⟨0,0,4,5⟩, ⟨0,0,10,10⟩, ⟨1,2,6,6⟩], [⟨0, n, false⟩]⟩ ⟨some ⟨bh, 0, none⟩, 6, some ⟨bp, 0, none⟩, 2, some ⟨bl, 0, none⟩, 3, some ⟨bs, 0, none⟩, 1⟩ where
  e := zBb (i := 4) rfl (by intro row h; obtain ⟨q, _, rfl⟩ := List.mem_map.1 h; rfl) rfl
  h := zBb (i := 3) rfl (by intro row h; obtain ⟨q, _, rfl⟩ := List.mem_map.1 h; rfl) rfl
  l := zBb (i := 2) rfl (by intro row h; obtain ⟨q, _, rfl⟩ := List.mem_map.1 h; rfl) rfl
  n := zBb (i := 1) rfl (by intro row h; obtain ⟨q, _, rfl⟩ := List.mem_map.1 h; rfl) rfl
  le := by simp
  lh := by simp
  ll := by simp
  ln := by simp
theorem ex_tin0 {w0 : World} {b3 bl bp bh : Nat} {t3 : TypeId} {c3 : List Value} :
    TIn w0 [(b3, blk t3 c3), (bl, blk 38 [.int .i64 0, .int .i64 0, .int .i64 4, .int .i64 5, .int .i64 0, .int .i64 0, .int .i64 10, .int .i64 10, .int .i64 1, .int .i64 2, .int .i64 6, .int .i64 6]), (bp, blk 36 [.int .i64 1, .int .i64 2, .int .i64 1, .int .i64 1]), (bh, blk 3 (iv [0,0,0,1,0,0]))]
      ⟨[0,0,0,1,0,0], 2, [(1,2),(1,1)], [⟨0,0,4,5⟩, ⟨0,0,10,10⟩, ⟨1,2,6,6⟩], []⟩ ⟨some ⟨bh, 0, none⟩, 6, some ⟨bp, 0, none⟩, 2, some ⟨bl, 0, none⟩, 3, none, 0⟩ where
  e := zBb (i := 3) rfl (by intro row h; obtain ⟨q, _, rfl⟩ := List.mem_map.1 h; rfl) rfl
  h := zBb (i := 2) rfl (by intro row h; obtain ⟨q, _, rfl⟩ := List.mem_map.1 h; rfl) rfl
  l := zBb (i := 1) rfl (by intro row h; obtain ⟨q, _, rfl⟩ := List.mem_map.1 h; rfl) rfl
  n := Sl.nil _ _
  le := by simp
  lh := by simp
  ll := by simp
  ln := by simp
theorem c24 {w0 w : World} {F : List (Nat × Obj)} (x y : Int) (hs : St w0 w F) :
  Con Tryz.prog 24 [.int .i64 x, .int .i64 y] w fun v w' => v = .agg #[.int .i64 x, .int .i64 y] ∧ St w0 w' F := by
  refine zAo (n := 8) func24 rfl rfl (zNl rfl) ?_
  refine zAf (fun K2 g3 => (zAb (zA1 (cs := [_,_]) zAa zeroValue36 rfl hs (fun b3 w4 g4 => ?_))))
  refine zAd (zAc (g3 _ _ (zAf (fun K7 g5 => (zAb (zA6 rfl rfl (zA6 rfl rfl (w_p (zB1 (ps := [(0, _),(1, _)]) (pv := [(0, .int _ _),(1, .int _ _)]) rfl rfl (fun w => Try_UO_fb3 _ _ w)) rfl ?_))))))))
  refine zBj 0 (.agg #[.int _ _, .int _ _]) [_,_] sizeOf36 g4 (fun w8 g0 => ?_)
  refine zAd (zAc (g5 _ _ (zA8 (zBa (l := [.cell 4 36]) (vs := [_]) rfl ⟨⟨rfl, _, rfl, zCv (vs := [_,_]) isAgg36 sizeOf36 g0 (aow 0 [_,_])⟩, trivial⟩ ?_))))
  exact ⟨rfl, g0.tail⟩

theorem c19 {w0 w : World} {F : List (Nat × Obj)} (n : Int) (hs : St w0 w F) :
  Con Tryz.prog 19 [.int .i64 n] w fun v w' => ∃ p B, v = .agg ((cargoX n).cells p).toArray ∧ TIn w0 B (cargoX n) p ∧ St w0 w' (B ++ F) := by
  refine zAo (n := 23) func19 rfl rfl (zNl rfl) ?_
  refine zAf (fun K2 ga => (zAb (zA1 (cs := [_,_,_,_,_]) zAa zeroValue27 rfl hs (fun b3 w4 gc => ?_))))
  refine zAd (zAc (ga _ _ (zAf (fun K7 gd => (zAb (zAu (ps := [(0, _),(1, _),(2, _),(3, _),(4, _),(5, _)]) (pv := [(0, .int _ _),(1, .int _ _),(2, .int _ _),(3, .int _ _),(4, .int _ _),(5, .int _ _)]) (cs := [_,_,_,_,_,_]) zAa rfl rfl (fun w => Try_UO_fb4 _ _ _ _ _ _ w) gc (fun b8 w9 ge => ?_)))))))
  refine zCo zAa call24 rfl rfl rfl rfl (c24 _ _ ge) (fun gw gf => ?_)
  refine zCo zAa call24 rfl rfl rfl rfl (c24 _ _ gf) (fun gx gg => ?_)
  refine zAu (ps := [(0, _),(1, _)]) (pv := [(0, .agg #[.int _ _, .int _ _]),(1, .agg #[.int _ _, .int _ _])]) (cs := [_,_,_,_]) zAa rfl rfl (fun w => Try_UO_fb5 _ _ _ _ w) gg (fun g4 gy gh => ?_)
  refine zCo zAa call24 rfl rfl rfl rfl (c24 _ _ gh) (fun gz gi => ?_)
  refine w_p (zB1 (ps := [(2, _)]) (pv := [(2, .agg #[.int _ _, .int _ _])]) rfl rfl (fun w => Try_UO_fb6 _ _ w)) rfl (zCo zAa call24 rfl rfl rfl rfl (c24 _ _ gi) (fun gA gj => ?_))
  refine w_p (zB1 (ps := [(2, _)]) (pv := [(2, .agg #[.int _ _, .int _ _])]) rfl rfl (fun w => Try_UO_fb6 _ _ w)) rfl (zCo zAa call24 rfl rfl rfl rfl (c24 _ _ gj) (fun gB gk => ?_))
  refine w_p (zB1 (ps := [(0, _),(1, _),(2, _)]) (pv := [(0, .int _ _),(1, .int _ _),(2, .agg #[.int _ _, .int _ _])]) rfl rfl (fun w => Try_UO_fb7 _ _ _ _ w)) rfl (zAu (ps := [(0, _),(1, _),(2, _)]) (pv := [(0, .agg #[.int _ _, .int _ _, .int _ _, .int _ _]),(1, .agg #[.int _ _, .int _ _, .int _ _, .int _ _]),(2, .agg #[.int _ _, .int _ _, .int _ _, .int _ _])]) (cs := [_,_,_,_,_,_,_,_,_,_,_,_]) zAa rfl rfl (fun w => Try_UO_fb8 _ _ _ _ _ _ _ _ _ _ _ _ w) gk (fun g5 gC gm => ?_))
  refine w_p (zB1 (ps := [(0, _),(1, _),(2, _),(3, _)]) (pv := [(0, .slice _ _ _),(1, .int _ _),(2, .slice _ _ _),(3, .slice _ _ _)]) rfl rfl (fun w => Try_UO_fb9 _ _ _ _ _ _ _ _ _ _ w)) rfl ?_
  refine zA1 (cs := [_,_,_,_,_]) zAa zeroValue27 rfl gm (fun gD gE gn => ?_)
  refine zBj 0 (.agg #[.slice _ _ _, .int _ _, .slice _ _ _, .slice _ _ _, .slice _ _ _]) [_,_,_,_,_] sizeOf27 gn (fun gF g0 => ?_)
  refine zAd (zAc (gd _ _ (zAf (fun gG g6 => (zAf (fun gH go => (zAb (zA6 rfl rfl (w_p (zGw rfl rfl rfl rfl) rfl (zAd (zAc (go _ _ (zAr rfl rfl (fun g3 => ?_) (fun g3 => ?_))))))))))))))
  ·
   try simp only [zS] at g3
   refine zAb (zA6 rfl rfl (w_p (zB1 (ps := [(1, _)]) (pv := [(1, .int _ _)]) rfl rfl (fun w => Try_UO_fb10 _ w)) rfl (zAu (ps := [(0, _)]) (pv := [(0, .agg #[.int _ _, .int _ _, .bool _])]) (cs := [_,_,_]) zAa rfl rfl (fun w => Try_UO_fb11 _ _ _ w) g0 (fun gp gI gq => ?_))))
   refine w_p (zAe (o := 4) (i := 4) underlying27 rfl sizeOf25 rfl rfl rfl) rfl (zBj 1 (.slice _ _ _) [_] sizeOf25 gq (fun gJ g7 => ?_))
   refine zAd (zAc (g6 _ _ (zAf (fun gK gt => (zAb (w_p (zA2 (vs := [_,_,_,_,_]) isAgg27 sizeOf27 g7 rfl rfl (aow 1 [_,_,_,_,_])) rfl ?_))))))
   refine zBj 5 (.agg #[.slice _ _ _, .int _ _, .slice _ _ _, .slice _ _ _, .slice _ _ _]) [_,_,_,_,_] sizeOf27 g7 (fun gL g8 => ?_)
   refine zAd (zAc (gt _ _ (zA8 (zBa (l := [.cell 2 27]) (vs := [_]) rfl ⟨⟨rfl, _, rfl, zCv (vs := [_,_,_,_,_]) isAgg27 sizeOf27 g8 (aow 5 [_,_,_,_,_])⟩, trivial⟩ ?_))))
   have gu := (show St _ _ (_ :: _ :: _ :: _ :: _ :: _ :: F) from St.pk [[_], [_], [_], [_], [_], [_]] [1,0,2,3,4,5] g8)
   rw [cargoX_y (by omega)]
   exact ⟨⟨some ⟨b8,0, none⟩, 6, some ⟨g4,0, none⟩, 2, some ⟨g5,0, none⟩, 3, some ⟨gp,0, none⟩, 1⟩, [_,_,_,_,_], rfl, ex_tin1, kz_own (B := [_,_,_,_,_]) gu⟩
  try simp only [zS] at g3
  refine zAn (zAc (g6 _ _ (zAf (fun gM gv => (zAb (w_p (zA2 (vs := [_,_,_,_,_]) isAgg27 sizeOf27 g0 rfl rfl (aow 0 [_,_,_,_,_])) rfl ?_))))))
  refine zBj 4 (.agg #[.slice _ _ _, .int _ _, .slice _ _ _, .slice _ _ _, .slice _ _ _]) [_,_,_,_,_] sizeOf27 g0 (fun gN g9 => ?_)
  refine zAd (zAc (gv _ _ (zA8 (zBa (l := [.cell 2 27]) (vs := [_]) rfl ⟨⟨rfl, _, rfl, zCv (vs := [_,_,_,_,_]) isAgg27 sizeOf27 g9 (aow 4 [_,_,_,_,_])⟩, trivial⟩ ?_))))
  rw [cargoX_n (by omega)]
  exact ⟨⟨some ⟨b8,0, none⟩, 6, some ⟨g4,0, none⟩, 2, some ⟨g5,0, none⟩, 3, none, 0⟩, [_,_,_,_], rfl, ex_tin0, kz_own (B := [_,_,_,_]) g9⟩

theorem c6 {w0 w : World} {F : List (Nat × Obj)}  (hs : St w0 w F) :
  Con Tryz.prog 6 [] w fun v w' => v = .bool true ∧ St w0 w' F := by
  refine zAo (n := 204) func6 rfl rfl (zNl rfl) ?_
  refine zAf (fun K2 gE => (zAb (zBi rfl rfl (zAd (zAc (gE _ _ (zAf (fun K4 gF => (zAb (zA4 zAa call19 rfl rfl rfl rfl (c19 (-1) hs) ?_))))))))))
  rintro _ w6 ⟨p1, L1, rfl, hq1, g8⟩
  replace g8 := (show St _ _ (L1 ++ (F)) from g8)
  refine zA4 zAa call19 rfl rfl rfl rfl (c19 (3) g8) ?_
  rintro _ w9 ⟨p2, L2, rfl, hq2, g9⟩
  replace g9 := (show St _ _ (L2 ++ (L1 ++ (F))) from g9)
  refine zA4 zAa call19 rfl rfl rfl rfl (c19 (4) g9) ?_
  rintro _ jb ⟨p3, L3, rfl, hq3, ga⟩
  replace ga := (show St _ _ (L3 ++ (L2 ++ (L1 ++ (F)))) from ga)
  refine zA1 (cs := [_,_,_,_,_]) zAa zeroValue27 rfl ga (fun gG jc gH => ?_)
  refine zA1 (cs := [_,_,_,_,_]) zAa zeroValue27 rfl gH (fun gI jd gJ => ?_)
  refine zA1 (cs := [_,_,_,_,_]) zAa zeroValue27 rfl gJ (fun gK je gL => ?_)
  refine zBj 2 (.agg #[.slice _ _ _, .int _ _, .slice _ _ _, .slice _ _ _, .slice _ _ _]) [_,_,_,_,_] sizeOf27 gL (fun jf gM => ?_)
  refine zBj 1 (.agg #[.slice _ _ _, .int _ _, .slice _ _ _, .slice _ _ _, .slice _ _ _]) [_,_,_,_,_] sizeOf27 gM (fun jg gN => ?_)
  refine zBj 0 (.agg #[.slice _ _ _, .int _ _, .slice _ _ _, .slice _ _ _, .slice _ _ _]) [_,_,_,_,_] sizeOf27 gN (fun jh gO => ?_)
  refine zAd (zAc (gF _ _ (zAf (fun ji gP => ?_))))
  obtain ⟨Z, hZ, hsZ⟩ := gen_Z gO
  have hP1 : Ats w0 Z gG 0 ((cargoX (-1)).cells p1) := by rw [hZ]; exact zB9 (i := 2) (vs := (cargoX (-1)).cells p1) rfl rfl
  have g0 : TIn w0 Z (cargoX (-1)) p1 := by rw [hZ]; exact TIn.mono hq1 (fun w h => h.tail.tail.tail.drop.drop.front)
  have hP2 : Ats w0 Z gI 0 ((cargoX (3)).cells p2) := by rw [hZ]; exact zB9 (i := 1) (vs := (cargoX (3)).cells p2) rfl rfl
  have gQ : TIn w0 Z (cargoX (3)) p2 := by rw [hZ]; exact TIn.mono hq2 (fun w h => h.tail.tail.tail.drop.front)
  have hP3 : Ats w0 Z gK 0 ((cargoX (4)).cells p3) := by rw [hZ]; exact zB9 (i := 0) (vs := (cargoX (4)).cells p3) rfl rfl
  have gk : TIn w0 Z (cargoX (4)) p3 := by rw [hZ]; exact TIn.mono hq3 (fun w h => h.tail.tail.tail.front)
  refine zAb (w_p (zA2 (vs := [_,_,_,_,_]) isAgg27 sizeOf27 hsZ rfl rfl hP1) rfl (zCo zAa call11 rfl rfl rfl rfl ((c11 (cargoX (-1)) p1 g0 0 hsZ).mono (fun v w' h => by rw [ex_turns0] at h; exact h)) (fun jj gR => ?_)))
  refine w_p (zA3 rfl rfl) rfl (w_p (zDe (v := .agg _) rfl rfl rfl) rfl (w_p (zAk rfl rfl rfl) rfl (w_p (zAk rfl rfl rfl) rfl (zA1 (cs := [_,_]) zAa zeroValue36 rfl gR (fun jk jl gS => ?_)))))
  refine zBj 0 (.agg #[.int _ _, .int _ _]) [_,_] sizeOf36 gS (fun jm gc => ?_)
  refine zBw rfl rfl (zBw rfl rfl (zAd (zAc (gP _ _ (zAf (fun jo gT => ?_))))))
  have hx4 := zIl (i := 0) (vs := [_,_]) gc rfl rfl
  refine zAb (w_p (zA2 (vs := [_,_,_,_,_]) isAgg27 sizeOf27 gc.tail rfl rfl hP1) rfl (zCo zAa call11 rfl rfl rfl rfl ((c11 (cargoX (-1)) p1 g0.cons 1 gc).mono (fun v w' h => by rw [ex_turns1] at h; exact h)) (fun jp gU => ?_)))
  refine w_p (zA3 rfl rfl) rfl (w_p (zDe (v := .agg _) rfl rfl rfl) rfl (w_p (zAk rfl rfl rfl) rfl (w_p (zAk rfl rfl rfl) rfl (zA1 (cs := [_,_]) zAa zeroValue36 rfl gU (fun jq jr gV => ?_)))))
  refine zBj 0 (.agg #[.int _ _, .int _ _]) [_,_] sizeOf36 gV (fun js gd => ?_)
  refine zBw rfl rfl (zBw rfl rfl (zAd (zAc (gT _ _ (zAf (fun jt gW => ?_))))))
  have hx7 := zIl (i := 0) (vs := [_,_]) gd rfl rfl
  refine zAb (w_p (zA2 (vs := [_,_,_,_,_]) isAgg27 sizeOf27 gd.tail.tail rfl rfl hP1) rfl (zCo zAa call11 rfl rfl rfl rfl ((c11 (cargoX (-1)) p1 g0.cons.cons 2 gd).mono (fun v w' h => by rw [ex_turns2] at h; exact h)) (fun ju gX => ?_)))
  refine w_p (zA3 rfl rfl) rfl (w_p (zDe (v := .agg _) rfl rfl rfl) rfl (w_p (zAk rfl rfl rfl) rfl (w_p (zAk rfl rfl rfl) rfl (zA1 (cs := [_,_]) zAa zeroValue36 rfl gX (fun jv jw gY => ?_)))))
  refine zBj 0 (.agg #[.int _ _, .int _ _]) [_,_] sizeOf36 gY (fun jx gm => ?_)
  refine zBw rfl rfl (zBw rfl rfl (zAd (zAc (gW _ _ (zAf (fun jy gZ => (zAb (w_p (zA2 (vs := [_,_,_,_,_]) isAgg27 sizeOf27 gm.tail.tail.tail rfl rfl hP2) rfl (zCo zAa call11 rfl rfl rfl rfl ((c11 (cargoX (3)) p2 gQ.cons.cons.cons 1 gm).mono (fun v w' h => by rw [ex_turnsD] at h; exact h)) (fun jz hD => ?_))))))))))
  refine w_p (zA3 rfl rfl) rfl (w_p (zDe (v := .agg _) rfl rfl rfl) rfl (w_p (zAk rfl rfl rfl) rfl (w_p (zAk rfl rfl rfl) rfl (zA1 (cs := [_,_]) zAa zeroValue36 rfl hD (fun jA jB hN => ?_)))))
  refine zBj 0 (.agg #[.int _ _, .int _ _]) [_,_] sizeOf36 hN (fun jC ge => ?_)
  refine zBw rfl rfl (zBw rfl rfl (zAd (zAc (gZ _ _ (zAf (fun jD hP => ?_))))))
  have hx13 := zIl (i := 0) (vs := [_,_]) ge rfl rfl
  refine zAb (w_p (zA2 (vs := [_,_,_,_,_]) isAgg27 sizeOf27 ge.tail.tail.tail.tail rfl rfl hP1) rfl (zA4 zAa call20 rfl rfl rfl rfl ((c20 (cargoX (-1)) p1 g0.cons.cons.cons.cons 3 ge).mono (fun v w' h => by rw [ex_safe] at h; exact h)) ?_))
  rintro _ jE ⟨B1, a1, c1, rfl, hr1, g4⟩
  replace g4 := (show St _ _ (B1 ++ (_ :: _ :: _ :: _ :: Z)) from g4)
  refine w_p (zA3 rfl rfl) rfl (w_p (zDj rfl rfl rfl) rfl (w_p (zAk rfl rfl rfl) rfl (w_p (zBz rfl rfl) rfl (zBw rfl rfl (zAd (zAc (hP _ _ (zAf (fun jF hX => (zAb (w_p (zA2 (vs := [_,_,_,_,_]) isAgg27 sizeOf27 g4.drop.tail.tail.tail.tail rfl rfl hP1) rfl ?_)))))))))))
  refine zA4 zAa call21 rfl rfl rfl rfl ((c21 (cargoX (-1)) p1 g0.cons.cons.cons.cons.app 0 g4).mono (fun v w' h => by rw [ex_first] at h; exact h)) ?_
  rintro _ jG ⟨B2, a2, c2, rfl, hr2, g5⟩
  replace g5 := (show St _ _ (B2 ++ (B1 ++ (_ :: _ :: _ :: _ :: Z))) from g5)
  refine w_p (zA3 rfl rfl) rfl (w_p (zDj rfl rfl rfl) rfl (w_p (zAk rfl rfl rfl) rfl (w_p (zBz rfl rfl) rfl (zBw rfl rfl (zAd (zAc (hX _ _ (zAf (fun jH hY => (zAb (w_p (zA2 (vs := [_,_,_,_,_]) isAgg27 sizeOf27 g5.drop.drop.tail.tail.tail.tail rfl rfl hP1) rfl ?_)))))))))))
  refine zCo zAa call22 rfl rfl rfl rfl ((c22 (cargoX (-1)) p1 g0.cons.cons.cons.cons.app.app 0 1 g5).mono (fun v w' h => by rw [ex_spoils] at h; exact h)) (fun jI j0 => ?_)
  refine w_p (zA3 rfl rfl) rfl (w_p (zAk rfl rfl rfl) rfl (w_p (zAk rfl rfl rfl) rfl (zBw rfl rfl (zBw rfl rfl (zAd (zAc (hY _ _ (zAf (fun jJ j1 => (zCq [] [(0,1),(1,2),(2,2),(3,0),(4,0),(5,0),(6,0),(7,0)] zB4 (zBk (by kernel_rfl)) j0 (fun jK gn => ?_)))))))))))
  refine zAz rfl zAa rfl gn (fun _ hq => (zA2 (vs := [_,_,_,_,_]) isAgg27 sizeOf27 hq.drop.drop.tail.tail.tail.tail rfl rfl hP1)) ?_
  refine zBh rfl ?_
  refine zCo zAa call24 rfl rfl rfl rfl (c24 _ _ gn) (fun jL go => ?_)
  refine zAd (qn ⟨go, ?_⟩)
  refine zBh rfl ?_
  refine zA4 zAa call23 rfl rfl rfl rfl ((c23 (cargoX (-1)) p1 g0.cons.cons.cons.cons.app.app (8,8) 1 5 go).mono (fun v w' h => by rw [ex_put] at h; exact h)) ?_
  rintro _ jM ⟨B3, a3, c3, rfl, hr3, g3⟩
  replace g3 := (show St _ _ (B3 ++ (B2 ++ (B1 ++ (_ :: _ :: _ :: _ :: Z)))) from g3)
  refine zAd (qn ⟨g3.drop, ?_⟩)
  refine d_w rfl (fun _ => zA3 rfl rfl) rfl (d_w rfl (fun _ => zDj rfl rfl rfl) rfl (d_w rfl (fun _ => zAk rfl rfl rfl) rfl (d_w rfl (fun _ => zBz rfl rfl) rfl (d_w rfl (fun _ => zA0 rfl rfl) rfl ?_))))
  refine zBm ?_
  refine zAc (j1 _ _ (zAf (fun jN j3 => (zAb (w_p (zA2 (vs := [_,_,_,_,_]) isAgg27 sizeOf27 g3.drop.drop.drop.tail.tail.tail.tail rfl rfl hP1) rfl (zA4 zAa call25 rfl rfl rfl rfl ((c25 (cargoX (-1)) p1 g0.cons.cons.cons.cons.app.app.app 0 4 g3).mono (fun v w' h => by rw [ex_out] at h; exact h)) ?_))))))
  rintro _ jO ⟨B4, a4, c4, rfl, hr4, g6⟩
  replace g6 := (show St _ _ (B4 ++ (B3 ++ (B2 ++ (B1 ++ (_ :: _ :: _ :: _ :: Z))))) from g6)
  refine w_p (zA3 rfl rfl) rfl (w_p (zDj rfl rfl rfl) rfl (w_p (zAk rfl rfl rfl) rfl (w_p (zBz rfl rfl) rfl (zBw rfl rfl (zAd (zAc (j3 _ _ (zAf (fun jP j4 => (zAb (w_p (zA2 (vs := [_,_,_,_,_]) isAgg27 sizeOf27 g6.drop.drop.drop.drop.tail.tail.tail.tail rfl rfl hP3) rfl ?_)))))))))))
  refine zA4 zAa call26 rfl rfl rfl rfl ((c26 (cargoX (4)) p3 gk.cons.cons.cons.cons.app.app.app.app g6).mono (fun v w' h => by rw [ex_wrong] at h; exact h)) ?_
  rintro _ jQ ⟨B5, a5, c5, rfl, hr5, g7⟩
  replace g7 := (show St _ _ (B5 ++ (B4 ++ (B3 ++ (B2 ++ (B1 ++ (_ :: _ :: _ :: _ :: Z)))))) from g7)
  refine w_p (zA3 rfl rfl) rfl (w_p (zDj rfl rfl rfl) rfl (w_p (zAk rfl rfl rfl) rfl (w_p (zBz rfl rfl) rfl (zBw rfl rfl (zAd (zAc (j4 _ _ (zAf (fun jR j5 => (zAb (w_p (zA2 (vs := [_,_,_,_,_]) isAgg27 sizeOf27 g7.drop.drop.drop.drop.drop.tail.tail.tail.tail rfl rfl hP3) rfl ?_)))))))))))
  refine zCo zAa call11 rfl rfl rfl rfl ((c11 (cargoX (4)) p3 gk.cons.cons.cons.cons.app.app.app.app.app 0 g7).mono (fun v w' h => by rw [ex_none] at h; exact h)) (fun jS j6 => ?_)
  refine w_p (zA3 rfl rfl) rfl (w_p (zDe (v := .agg _) rfl rfl rfl) rfl (w_p (zAk rfl rfl rfl) rfl (w_p (zAk rfl rfl rfl) rfl (zA1 (cs := [_,_]) zAa zeroValue36 rfl j6 (fun jT jU j7 => ?_)))))
  refine zBj 0 (.agg #[.int _ _, .int _ _]) [_,_] sizeOf36 j7 (fun jV gp => ?_)
  refine zBw rfl rfl (zBw rfl rfl (zAd (zAc (j5 _ _ (zAf (fun jW j8 => (zAb (w_p (zA2 (vs := [_,_,_,_,_]) isAgg27 sizeOf27 gp.tail.drop.drop.drop.drop.drop.tail.tail.tail.tail rfl rfl hP1) rfl (zCo zAa call22 rfl rfl rfl rfl ((c22 (cargoX (-1)) p1 g0.cons.cons.cons.cons.app.app.app.app.app.cons 1 1 gp).mono (fun v w' h => by rw [ex_arg] at h; exact h)) (fun jX j9 => ?_))))))))))
  refine w_p (zA3 rfl rfl) rfl (w_p (zAk rfl rfl rfl) rfl (w_p (zAk rfl rfl rfl) rfl (zBw rfl rfl (zBw rfl rfl (zAd (zAc (j8 _ _ (zAf (fun jY ja => (zCq [] [(0,0),(1,0),(2,0),(3,0),(4,0),(5,0),(6,0),(7,0),(8,0),(9,0),(10,0),(11,0),(12,0),(13,0),(14,0),(15,0),(16,0),(17,0),(18,0),(19,0),(20,0),(21,0),(22,0),(23,0),(24,0),(25,0),(26,0),(27,0),(28,0),(29,0),(30,0),(31,0),(32,0),(33,0),(34,0),(35,0),(36,0),(37,0),(38,0),(39,0),(40,0),(41,0),(42,0),(43,0),(44,0),(45,0),(46,0),(47,1),(48,2),(49,0),(50,0),(51,0),(52,0),(53,0),(54,0),(55,0),(56,1),(57,2),(58,0),(59,0),(60,0),(61,0),(62,0),(63,0),(64,0),(65,1),(66,2),(67,0),(68,0),(69,0),(70,0),(71,0),(72,0),(73,0),(74,0),(75,2),(76,2),(77,0),(78,0),(79,0),(80,2),(81,2),(82,0),(83,0),(84,0),(85,0),(86,0),(87,0),(88,0),(89,2),(90,2),(91,0),(92,0),(93,0),(94,2),(95,2),(96,0),(97,0),(98,0),(99,2),(100,2),(101,0),(102,0)] zB4 (zBk (by kernel_rfl)) j9 (fun jZ gq => ?_)))))))))))
  refine d_w rfl (fun _ => zAy rfl rfl) rfl (d_w rfl (fun _ => zCa rfl rfl rfl rfl) rfl (d_w rfl (fun _ => zAt rfl rfl) rfl ?_))
  refine zBe rfl (zAh rfl rfl rfl) rfl (fun _ => (zAy rfl rfl)) ?_
  refine zBe rfl (zAh rfl rfl rfl) rfl (fun _ => (zCa rfl rfl rfl rfl)) ?_
  refine d_w rfl (fun _ => zA5 (v := .bool _) rfl rfl rfl rfl) rfl (d_w rfl (fun _ => zAt rfl rfl) rfl ?_)
  refine zBe rfl (zAh rfl rfl rfl) rfl (fun _ => (zAy rfl rfl)) ?_
  refine zBe rfl (zAh rfl rfl rfl) rfl (fun _ => (zCa rfl rfl rfl rfl)) ?_
  refine d_w rfl (fun _ => zA5 (v := .bool _) rfl rfl rfl rfl) rfl (d_w rfl (fun _ => zAt rfl rfl) rfl ?_)
  refine zBe rfl (zAh rfl rfl rfl) rfl (fun _ => (zAy rfl rfl)) ?_
  refine zBe rfl (zAh rfl rfl rfl) rfl (fun _ => (zCa rfl rfl rfl rfl)) ?_
  refine d_w rfl (fun _ => zA5 (v := .bool _) rfl rfl rfl rfl) rfl (d_w rfl (fun _ => zAt rfl rfl) rfl ?_)
  refine zBe rfl (zAh rfl rfl rfl) rfl (fun _ => (zAy rfl rfl)) ?_
  refine zBe rfl (zAh rfl rfl rfl) rfl (fun _ => (zCa rfl rfl rfl rfl)) ?_
  refine d_w rfl (fun _ => zA5 (v := .bool _) rfl rfl rfl rfl) rfl (d_w rfl (fun _ => zAt rfl rfl) rfl ?_)
  refine zBe rfl (zAh rfl rfl rfl) rfl (fun _ => (zAy rfl rfl)) ?_
  refine zBe rfl (zAh rfl rfl rfl) rfl (fun _ => (zCa rfl rfl rfl rfl)) ?_
  refine d_w rfl (fun _ => zA5 (v := .bool _) rfl rfl rfl rfl) rfl (d_w rfl (fun _ => zAt rfl rfl) rfl ?_)
  refine zBe rfl (zAh rfl rfl rfl) rfl (fun _ => (zAy rfl rfl)) ?_
  refine zBe rfl (zAh rfl rfl rfl) rfl (fun _ => (zCa rfl rfl rfl rfl)) ?_
  refine d_w rfl (fun _ => zA5 (v := .bool _) rfl rfl rfl rfl) rfl (d_w rfl (fun _ => zAt rfl rfl) rfl ?_)
  refine zBe rfl (zAh rfl rfl rfl) rfl (fun _ => (zAy rfl rfl)) ?_
  refine zBe rfl (zAh rfl rfl rfl) rfl (fun _ => (zCa rfl rfl rfl rfl)) ?_
  refine d_w rfl (fun _ => zA5 (v := .bool _) rfl rfl rfl rfl) rfl (d_w rfl (fun _ => zAt rfl rfl) rfl ?_)
  refine zBe rfl (zAh rfl rfl rfl) rfl (fun _ => (zAy rfl rfl)) ?_
  refine zBe rfl (zAh rfl rfl rfl) rfl (fun _ => (zCa rfl rfl rfl rfl)) ?_
  refine d_w rfl (fun _ => zA5 (v := .bool _) rfl rfl rfl rfl) rfl (d_w rfl (fun _ => zAt rfl rfl) rfl ?_)
  refine zBe rfl (zAh rfl rfl rfl) rfl (fun _ => (zAy rfl rfl)) ?_
  refine zBe rfl (zAh rfl rfl rfl) rfl (fun _ => (zCa rfl rfl rfl rfl)) ?_
  refine d_w rfl (fun _ => zA5 (v := .bool _) rfl rfl rfl rfl) rfl (d_w rfl (fun _ => zAt rfl rfl) rfl ?_)
  refine zBe rfl (zAh rfl rfl rfl) rfl (fun _ => (zAy rfl rfl)) ?_
  refine zBe rfl (zAh rfl rfl rfl) rfl (fun _ => (zCa rfl rfl rfl rfl)) ?_
  refine d_w rfl (fun _ => zA5 (v := .bool _) rfl rfl rfl rfl) rfl (d_w rfl (fun _ => zAt rfl rfl) rfl ?_)
  refine zBe rfl (zAh rfl rfl rfl) rfl (fun _ => (zAy rfl rfl)) ?_
  refine zBe rfl (zAh rfl rfl rfl) rfl (fun _ => (zCa rfl rfl rfl rfl)) ?_
  refine d_w rfl (fun _ => zA5 (v := .bool _) rfl rfl rfl rfl) rfl (d_w rfl (fun _ => zAt rfl rfl) rfl ?_)
  refine zAz rfl (zAh rfl rfl rfl) rfl gq (fun _ hq => (zA2 (vs := [_,_]) isAgg36 sizeOf36 hq.tail.drop.drop.drop.drop.drop.tail.tail.tail rfl rfl hx4)) ?_
  refine zBh rfl ?_
  refine zA4 (zAh rfl rfl rfl) call24 rfl rfl rfl rfl (c24 _ _ gq) ?_
  rintro _ k4 ⟨rfl, gf⟩
  refine zAd (qn ⟨gf, ?_⟩)
  refine zBe rfl (zAh rfl rfl rfl) rfl (fun _ => (zFt (l := [_,_]) (m := [_,_]) eqGuardType36 zE7 (by first | omega | rfl | (simp only [zL] <;> omega)) (by first | omega | rfl | (simp only [zL] <;> omega)) rfl rfl rfl rfl rfl rfl)) ?_
  refine d_w rfl (fun _ => zA5 (v := .bool _) rfl rfl rfl rfl) rfl (d_w rfl (fun _ => zAt rfl rfl) rfl ?_)
  refine zC6 (fun gg => ?_) (fun gg => ?_)
  ·
   try simp only [zS] at gg
   refine zBe rfl (zAh rfl rfl rfl) rfl (fun _ => (zAy rfl rfl)) ?_
   refine zBe rfl (zAh rfl rfl rfl) rfl (fun _ => (zCa rfl rfl rfl rfl)) ?_
   refine d_w rfl (fun _ => zA5 (v := .bool _) rfl rfl rfl rfl) rfl (d_w rfl (fun _ => zAt rfl rfl) rfl ?_)
   refine zAz rfl (zAh rfl rfl rfl) rfl gf (fun _ hq => (zA2 (vs := [_,_]) isAgg36 sizeOf36 hq.tail.drop.drop.drop.drop.drop.tail.tail rfl rfl hx7)) ?_
   refine zBh rfl ?_
   refine zA4 (zAh rfl rfl rfl) call24 rfl rfl rfl rfl (c24 _ _ gf) ?_
   rintro _ k5 ⟨rfl, gh⟩
   refine zAd (qn ⟨gh, ?_⟩)
   refine zBe rfl (zAh rfl rfl rfl) rfl (fun _ => (zFt (l := [_,_]) (m := [_,_]) eqGuardType36 zE7 (by first | omega | rfl | (simp only [zL] <;> omega)) (by first | omega | rfl | (simp only [zL] <;> omega)) rfl rfl rfl rfl rfl rfl)) ?_
   refine d_w rfl (fun _ => zA5 (v := .bool _) rfl rfl rfl rfl) rfl (d_w rfl (fun _ => zAt rfl rfl) rfl ?_)
   refine zC6 (fun gi => ?_) (fun gi => ?_)
   ·
    try simp only [zS] at gi
    refine zBe rfl (zAh rfl rfl rfl) rfl (fun _ => (zAy rfl rfl)) ?_
    refine zBe rfl (zAh rfl rfl rfl) rfl (fun _ => (zCa rfl rfl rfl rfl)) ?_
    refine d_w rfl (fun _ => zA5 (v := .bool _) rfl rfl rfl rfl) rfl (d_w rfl (fun _ => zAt rfl rfl) rfl ?_)
    refine zAz rfl (zAh rfl rfl rfl) rfl gh (fun _ hq => (zA2 (vs := [_,_]) isAgg36 sizeOf36 hq.tail.drop.drop.drop.drop.drop rfl rfl hx13)) ?_
    refine zBh rfl ?_
    refine zA4 (zAh rfl rfl rfl) call24 rfl rfl rfl rfl (c24 _ _ gh) ?_
    rintro _ k6 ⟨rfl, gt⟩
    refine zAd (qn ⟨gt, ?_⟩)
    refine zBe rfl (zAh rfl rfl rfl) rfl (fun _ => (zFt (l := [_,_]) (m := [_,_]) eqGuardType36 zE7 (by first | omega | rfl | (simp only [zL] <;> omega)) (by first | omega | rfl | (simp only [zL] <;> omega)) rfl rfl rfl rfl rfl rfl)) ?_
    refine d_w rfl (fun _ => zA5 (v := .bool _) rfl rfl rfl rfl) rfl (d_w rfl (fun _ => zAt rfl rfl) rfl ?_)
    refine zC6 (fun gj => ?_) (fun gj => ?_)
    ·
     try simp only [zS] at gj
     refine zBe rfl (zAh rfl rfl rfl) rfl (fun _ => (zAy rfl rfl)) ?_
     refine zBe rfl (zAh rfl rfl rfl) rfl (fun _ => (zCa rfl rfl rfl rfl)) ?_
     refine d_w rfl (fun _ => zA5 (v := .bool _) rfl rfl rfl rfl) rfl (d_w rfl (fun _ => zAt rfl rfl) rfl ?_)
     refine zBe rfl (zAh rfl rfl rfl) rfl (fun _ => (zAx rfl rfl)) ?_
     refine zBh rfl ?_
     refine zAu (ps := [(0, _),(1, _)]) (pv := [(0, .int _ _),(1, .int _ _)]) (cs := [_,_]) (zAh rfl rfl rfl) rfl rfl (fun w => Try_UO_fb13 _ _ w) gt (fun k7 k8 gu => ?_)
     refine zAd (qn ⟨gu.tail, ?_⟩)
     refine zBh rfl ?_
     refine zA4 (zAh rfl rfl rfl) call27 rfl rfl rfl rfl (zEo (c27 _ _ [1,2] [1,2] _ _ (by decide) hr1.top.app.app.app.app.cons.cons (zBb (i := 0) (rows := [[_], [_]]) rfl (by simp) rfl) gu) (by decide)) ?_
     rintro _ k9 ⟨rfl, gv⟩
     refine zAd (qn ⟨gv.tail, ?_⟩)
     refine d_w rfl (fun _ => zA5 (v := .bool _) rfl rfl rfl rfl) rfl (d_w rfl (fun _ => zAt rfl rfl) rfl ?_)
     refine zBe rfl (zAh rfl rfl rfl) rfl (fun _ => (zAx rfl rfl)) ?_
     refine zBh rfl ?_
     refine zAu (ps := [(0, _)]) (pv := [(0, .int _ _)]) (cs := [_]) (zAh rfl rfl rfl) rfl rfl (fun w => zF2 _ w) gv (fun ka kb gw => ?_)
     refine zAd (qn ⟨gw.tail.tail, ?_⟩)
     refine zBh rfl ?_
     refine zA4 (zAh rfl rfl rfl) call27 rfl rfl rfl rfl (zEo (c27 _ _ [0] [0] _ _ (by decide) hr2.top.app.app.app.cons.cons.cons (zBb (i := 0) (rows := [[_]]) rfl (by simp) rfl) gw) (by decide)) ?_
     rintro _ kc ⟨rfl, gx⟩
     refine zAd (qn ⟨gx.tail.tail, ?_⟩)
     refine d_w rfl (fun _ => zA5 (v := .bool _) rfl rfl rfl rfl) rfl (d_w rfl (fun _ => zAt rfl rfl) rfl ?_)
     refine zBe rfl (zAh rfl rfl rfl) rfl (fun _ => (zAy rfl rfl)) ?_
     refine zBe rfl (zAh rfl rfl rfl) rfl (fun _ => (zCa rfl rfl rfl rfl)) ?_
     refine d_w rfl (fun _ => zA5 (v := .bool _) rfl rfl rfl rfl) rfl (d_w rfl (fun _ => zAt rfl rfl) rfl ?_)
     refine zBe rfl (zAh rfl rfl rfl) rfl (fun _ => (zAx rfl rfl)) ?_
     refine zBh rfl ?_
     refine zAu (ps := [(0, _)]) (pv := [(0, .int _ _)]) (cs := [_]) (zAh rfl rfl rfl) rfl rfl (fun w => zF2 _ w) gx (fun kd ke gy => ?_)
     refine zAd (qn ⟨gy.tail.tail.tail, ?_⟩)
     refine zBh rfl ?_
     refine zA4 (zAh rfl rfl rfl) call27 rfl rfl rfl rfl (zEo (c27 _ _ [1] [1] _ _ (by decide) hr3.top.app.app.cons.cons.cons.cons (zBb (i := 0) (rows := [[_]]) rfl (by simp) rfl) gy) (by decide)) ?_
     rintro _ kf ⟨rfl, gz⟩
     refine zAd (qn ⟨gz.tail.tail.tail, ?_⟩)
     refine d_w rfl (fun _ => zA5 (v := .bool _) rfl rfl rfl rfl) rfl (d_w rfl (fun _ => zAt rfl rfl) rfl ?_)
     refine zBe rfl (zAh rfl rfl rfl) rfl (fun _ => (zAx rfl rfl)) ?_
     refine zBh rfl ?_
     refine zAu (ps := [(0, _)]) (pv := [(0, .int _ _)]) (cs := [_]) (zAh rfl rfl rfl) rfl rfl (fun w => zF2 _ w) gz (fun kg kh gA => ?_)
     refine zAd (qn ⟨gA.tail.tail.tail.tail, ?_⟩)
     refine zBh rfl ?_
     refine zA4 (zAh rfl rfl rfl) call27 rfl rfl rfl rfl (zEo (c27 _ _ [0] [0] _ _ (by decide) hr4.top.app.cons.cons.cons.cons.cons (zBb (i := 0) (rows := [[_]]) rfl (by simp) rfl) gA) (by decide)) ?_
     rintro _ ki ⟨rfl, gB⟩
     refine zAd (qn ⟨gB.tail.tail.tail.tail, ?_⟩)
     refine d_w rfl (fun _ => zA5 (v := .bool _) rfl rfl rfl rfl) rfl (d_w rfl (fun _ => zAt rfl rfl) rfl ?_)
     refine zBe rfl (zAh rfl rfl rfl) rfl (fun _ => (zAx rfl rfl)) ?_
     refine zBh rfl ?_
     refine zAu (ps := [(0, _)]) (pv := [(0, .int _ _)]) (cs := [_]) (zAh rfl rfl rfl) rfl rfl (fun w => zF2 _ w) gB (fun kj km gC => ?_)
     refine zAd (qn ⟨gC.tail.tail.tail.tail.tail, ?_⟩)
     refine zBh rfl ?_
     refine zA4 (zAh rfl rfl rfl) call27 rfl rfl rfl rfl (zEo (c27 _ _ [0] [0] _ _ (by decide) hr5.top.cons.cons.cons.cons.cons.cons (zBb (i := 0) (rows := [[_]]) rfl (by simp) rfl) gC) (by decide)) ?_
     rintro _ kn ⟨rfl, gD⟩
     refine zAd (qn ⟨gD.tail.tail.tail.tail.tail, ?_⟩)
     refine d_w rfl (fun _ => zA5 (v := .bool _) rfl rfl rfl rfl) rfl (d_w rfl (fun _ => zAs rfl rfl) rfl ?_)
     refine zBm ?_
     refine zAc (ja _ _ (zA8 (zBa (l := [.tmp 0]) (vs := [_]) rfl ⟨⟨rfl, (rfl : _ = Value.bool _)⟩, trivial⟩ ?_)))
     exact ⟨rfl, (St.cast hZ gD.tail.tail.tail.tail.tail.tail.drop.drop.drop.drop.drop.tail.tail.tail.tail).tail.tail.tail.drop.drop.drop⟩
    exfalso; simp at gj
   exfalso; simp at gi
  exfalso; simp at gg

end Go.Proofs.Ut
/- Plain words of the turn layer's reference: the hours at which lots turn, as the document reckons them; the program's are the same. No conditions. -/
namespace Go.Rt.Tu
open Go.Rt.Ha (firstE failE felt spanL upto bit listL fewest Bunch zC8 zD4 zC4 at_ zBv zDu upto_nodup zC2 bit01)
def rMarkS (c : Cargo) (h : Nat) (left : List Int) (z : Int) (out : List Int) : List Int :=
  if out.getD z.toNat 0 = never c ∧ (lotAt c z.toNat).frm ≤ (h : Int) ∧ left.getD z.toNat 0 ≤ 0 then out.set z.toNat h else out
def rMark (c : Cargo) (h : Nat) (left ls out : List Int) : Nat → List Int
  | 0 => out
  | k + 1 => rMarkS c h left (ls.getD k 0) (rMark c h left ls out k)
def rGas (h : Nat) (out ls : List Int) : Nat → Bool
  | 0 => false
  | k + 1 => rGas h out ls k || decide (out.getD (ls.getD k 0).toNat 0 ≤ (h : Int))
def rTake (c : Cargo) (h : Nat) (warm : Int) (g : Bool) : Int := c.heat.getD h 0 + warm + if g then c.gas else 0
def rDecS (c : Cargo) (h : Nat) (warm : Int) (out : List Int) (g : Bool) (z : Int) (left : List Int) : List Int :=
  if out.getD z.toNat 0 ≠ never c ∨ (h : Int) < (lotAt c z.toNat).frm then left else left.set z.toNat (left.getD z.toNat 0 - rTake c h warm g)
def rDec (c : Cargo) (h : Nat) (warm : Int) (out ls left : List Int) : Nat → List Int
  | 0 => left
  | k + 1 => rDecS c h warm out (rGas h out ls ls.length) (ls.getD k 0) (rDec c h warm out ls left k)
def rHour (c : Cargo) (warm : Int) (ls : List Int) (h : Nat) (p : List Int × List Int) : List Int × List Int :=
  (rMark c h p.2 ls p.1 ls.length, rDec c h warm (rMark c h p.2 ls p.1 ls.length) ls p.2 ls.length)
def rHourTo (c : Cargo) (warm : Int) (ls greens : List Int) : Nat → List Int × List Int
  | 0 => (List.replicate c.lots.length (never c), greens)
  | h + 1 => rHour c warm ls h (rHourTo c warm ls greens h)
def rTimes (c : Cargo) (ls : List Int) (warm : Int) (greens : List Int) : List Int := rMark c c.heat.length (rHourTo c warm ls greens c.heat.length).2 ls (rHourTo c warm ls greens c.heat.length).1 ls.length
theorem zEx (c : Cargo) (h : Nat) (left ls out : List Int) : ∀ k, (rMark c h left ls out k).length = out.length
  | 0 => rfl
  | k + 1 => by
    rw [rMark, rMarkS]; split
    · rw [List.length_set, zEx c h left ls out k]
    · exact zEx c h left ls out k
theorem zFh (c : Cargo) (h : Nat) (warm : Int) (out ls left : List Int) : ∀ k, (rDec c h warm out ls left k).length = left.length
  | 0 => rfl
  | k + 1 => by
    rw [rDec, rDecS]; split
    · exact zFh c h warm out ls left k
    · rw [List.length_set, zFh c h warm out ls left k]
theorem zGl (c : Cargo) (warm : Int) (ls greens : List Int) : ∀ h, (rHourTo c warm ls greens h).1.length = c.lots.length
  | 0 => by simp [rHourTo]
  | h + 1 => by rw [rHourTo, rHour]; simp only [zEx, zGl c warm ls greens h]
theorem zIc (c : Cargo) (warm : Int) (ls greens : List Int) : ∀ h, (rHourTo c warm ls greens h).2.length = greens.length
  | 0 => rfl
  | h + 1 => by rw [rHourTo, rHour]; simp only [zFh, zIc c warm ls greens h]
theorem zIb (c : Cargo) (ls : List Int) (warm : Int) (greens : List Int) : (rTimes c ls warm greens).length = c.lots.length := by unfold rTimes; rw [zEx, zGl]
theorem zEh {l : List Int} {i : Nat} {z : Int} (h : i < l.length) : (l.set i z).getD i 0 = z := by simp [List.getD, h]
theorem getD_set_ne {l : List Int} {i j : Nat} {z : Int} (h : ¬ j = i) : (l.set j z).getD i 0 = l.getD i 0 := by simp [List.getD, List.getElem?_set, h]
structure Lis (c : Cargo) (ls : List Int) : Prop where
  nd : ls.Nodup
  ix : ∀ z ∈ ls, ∃ i : Nat, z = (i : Int) ∧ i < c.lots.length
theorem zFf {l : List Int} {k : Nat} (hk : k < l.length) : l.getD k 0 = l[k] := by simp [List.getD, hk]
theorem zEn {l : List Int} {k : Nat} (hk : k < l.length) {z : Int} : z ∈ l.take (k + 1) ↔ z ∈ l.take k ∨ z = l[k] := by
  rw [List.take_succ_eq_append_getElem hk, List.mem_append, List.mem_singleton]
theorem not_in_take {l : List Int} (h : l.Nodup) {k : Nat} (hk : k < l.length) : l[k] ∉ l.take k := by
  intro hm
  have h2 : (l.take k ++ l.drop k).Nodup := by rw [List.take_append_drop]; exact h
  have h3 := (List.nodup_append.1 h2).2.2 _ hm l[k] (by rw [List.drop_eq_getElem_cons hk]; exact .head _)
  exact h3 rfl
theorem mark_at {c : Cargo} {ls : List Int} (hl : Lis c ls) {h : Nat} (hh : h ≤ c.heat.length) {left out : List Int} (ho : out.length = c.lots.length) {i : Nat} (hi : i < c.lots.length) :
    ∀ k, k ≤ ls.length → (rMark c h left ls out k).getD i 0 = if (i : Int) ∈ ls.take k ∧ out.getD i 0 = never c ∧ (lotAt c i).frm ≤ (h : Int) ∧ left.getD i 0 ≤ 0 then (h : Int) else out.getD i 0
  | 0, _ => by simp [rMark]
  | k + 1, hk => by
    have hk2 : k < ls.length := by omega
    have ih := mark_at hl hh (left := left) ho hi k (by omega)
    obtain ⟨j, hj, hjl⟩ := hl.ix _ (List.getElem_mem hk2)
    have hnt := not_in_take hl.nd hk2
    rw [rMark, rMarkS, zFf hk2, hj, show ((j : Int)).toNat = j from rfl]
    have hlen := zEx c h left ls out k
    by_cases e : j = i
    · subst e
      rw [hj] at hnt
      rw [if_neg (fun x => hnt x.1)] at ih
      have hm : (j : Int) ∈ ls.take (k + 1) := (zEn hk2).2 (.inr hj.symm)
      rw [ih]
      by_cases hc : out.getD j 0 = never c ∧ (lotAt c j).frm ≤ (h : Int) ∧ left.getD j 0 ≤ 0
      · rw [if_pos hc, if_pos ⟨hm, hc⟩, zEh (by omega)]
      · rw [if_neg hc, if_neg (fun x => hc x.2), ih]
    · have hm : (i : Int) ∈ ls.take (k + 1) ↔ (i : Int) ∈ ls.take k := by
        rw [zEn hk2, hj]
        constructor
        · rintro (x | x)
          · exact x
          · exact absurd (by omega) e
        · exact .inl
      have hr : ∀ x : List Int, (if x.getD j 0 = never c ∧ (lotAt c j).frm ≤ (h : Int) ∧ left.getD j 0 ≤ 0 then x.set j (h : Int) else x).getD i 0 = x.getD i 0 := by
        intro x; split
        · exact getD_set_ne e
        · rfl
      rw [hr, ih]
      simp only [hm]
theorem gas_at {h : Nat} {out ls : List Int} : ∀ k, k ≤ ls.length → rGas h out ls k = (ls.take k).any fun z => decide (out.getD z.toNat 0 ≤ (h : Int))
  | 0, _ => by simp [rGas]
  | k + 1, hk => by
    have hk2 : k < ls.length := by omega
    rw [rGas, gas_at k (by omega), List.take_succ_eq_append_getElem hk2, List.any_append, zFf (l := ls) hk2]; simp
theorem dec_at {c : Cargo} {ls : List Int} (hl : Lis c ls) {h : Nat} {warm : Int} {left out : List Int} (ho : left.length = c.lots.length) {i : Nat} (hi : i < c.lots.length) :
    ∀ k, k ≤ ls.length → (rDec c h warm out ls left k).getD i 0 = if (i : Int) ∈ ls.take k ∧ out.getD i 0 = never c ∧ (lotAt c i).frm ≤ (h : Int) then left.getD i 0 - rTake c h warm (rGas h out ls ls.length) else left.getD i 0
  | 0, _ => by simp [rDec]
  | k + 1, hk => by
    have hk2 : k < ls.length := by omega
    have ih := dec_at hl (h := h) (warm := warm) (out := out) ho hi k (by omega)
    obtain ⟨j, hj, hjl⟩ := hl.ix _ (List.getElem_mem hk2)
    have hnt := not_in_take hl.nd hk2
    rw [rDec, rDecS, zFf hk2, hj, show ((j : Int)).toNat = j from rfl]
    have hlen := zFh c h warm out ls left k
    by_cases e : j = i
    · subst e
      rw [hj] at hnt
      rw [if_neg (fun x => hnt x.1)] at ih
      have hm : (j : Int) ∈ ls.take (k + 1) := (zEn hk2).2 (.inr hj.symm)
      rw [ih]
      by_cases hc : out.getD j 0 = never c ∧ (lotAt c j).frm ≤ (h : Int)
      · rw [if_neg (by intro x; rcases x with x | x; exact x hc.1; omega), if_pos ⟨hm, hc⟩, zEh (by omega)]
      · rw [if_pos (by by_cases x : out.getD j 0 = never c; exact .inr (by have : ¬ (lotAt c j).frm ≤ (h : Int) := fun y => hc ⟨x, y⟩; omega); exact .inl x), if_neg (fun x => hc x.2), ih]
    · have hm : (i : Int) ∈ ls.take (k + 1) ↔ (i : Int) ∈ ls.take k := by
        rw [zEn hk2, hj]
        constructor
        · rintro (x | x)
          · exact x
          · exact absurd (by omega) e
        · exact .inl
      have hr : ∀ (x : List Int) (y : Int), (if out.getD j 0 ≠ never c ∨ (h : Int) < (lotAt c j).frm then x else x.set j y).getD i 0 = x.getD i 0 := by
        intro x y; split
        · rfl
        · exact getD_set_ne e
      rw [hr, ih]
      simp only [hm]
theorem turn_at {c : Cargo} {s : List Int} {h : Nat} {left t0 : List Int} {i : Nat} (ht : i < t0.length) : ∀ n, n ≤ t0.length → (turnTo c s h left t0 n).1.getD i 0 = if i < n ∧ on c s h left i = true then min (t0.getD i 0) h else t0.getD i 0
  | 0, _ => by simp [turnTo]
  | n + 1, hn => by
    have ih := turn_at (c := c) (s := s) (h := h) (left := left) ht n (by omega)
    have hlen := zCz c s h left t0 n
    rw [turnTo, turnStep]
    by_cases e : n = i
    · subst e
      rw [if_neg (by omega)] at ih
      cases ho : on c s h left n with
      | true => rw [if_pos rfl, if_pos ⟨by omega, rfl⟩, zEh (by omega), ih]
      | false => rw [if_neg (by simp), if_neg (by simp), ih]
    · have hr : (if on c s h left n = true then ((turnTo c s h left t0 n).1.set n (min ((turnTo c s h left t0 n).1.getD n 0) h), c.gas) else turnTo c s h left t0 n).1.getD i 0 = (turnTo c s h left t0 n).1.getD i 0 := by
        split
        · exact getD_set_ne e
        · rfl
      rw [hr, ih]
      by_cases e2 : i < n
      · simp only [e2, show i < n + 1 by omega]
      · rw [if_neg (by omega), if_neg (by omega)]
theorem turn_gas_at {c : Cargo} {s : List Int} {h : Nat} {left t0 : List Int} : ∀ n, (turnTo c s h left t0 n).2 = if (List.range n).any (on c s h left) then c.gas else 0
  | 0 => by simp [turnTo]
  | n + 1 => by
    rw [turnTo, turnStep, List.range_succ, List.any_append]
    cases ho : on c s h left n with
    | true => rw [if_pos rfl]; simp [ho]
    | false => rw [if_neg (by simp), turn_gas_at n]; simp [ho]
theorem left_at {c : Cargo} {s : List Int} {h : Nat} {g : Int} {l0 : List Int} {i : Nat} (hl : i < l0.length) : ∀ n, n ≤ l0.length → (leftTo c s h g l0 n).getD i 0 = if i < n ∧ lessAt c h i l0 = true then l0.getD i 0 - takes c s h g else l0.getD i 0
  | 0, _ => by simp [leftTo]
  | n + 1, hn => by
    have ih := left_at (c := c) (s := s) (h := h) (g := g) hl n (by omega)
    have hlen : (leftTo c s h g l0 n).length = l0.length := by
      clear ih
      have key : ∀ k, (leftTo c s h g l0 k).length = l0.length := by
        intro k
        induction k with
        | zero => rfl
        | succ k ih2 => rw [leftTo, leftStep]; split
                        · rw [List.length_set, ih2]
                        · exact ih2
      exact key n
    rw [leftTo, leftStep]
    by_cases e : n = i
    · subst e
      rw [if_neg (by omega)] at ih
      have hla : lessAt c h n (leftTo c s h g l0 n) = lessAt c h n l0 := by unfold lessAt; rw [ih]
      rw [hla]
      cases ho : lessAt c h n l0 with
      | true => rw [if_pos rfl, if_pos ⟨by omega, rfl⟩, zEh (by omega), ih]
      | false => rw [if_neg (by simp), if_neg (by simp), ih]
    · have hr : (if lessAt c h n (leftTo c s h g l0 n) = true then (leftTo c s h g l0 n).set n ((leftTo c s h g l0 n).getD n 0 - takes c s h g) else leftTo c s h g l0 n).getD i 0 = (leftTo c s h g l0 n).getD i 0 := by
        split
        · exact getD_set_ne e
        · rfl
      rw [hr, ih]
      by_cases e2 : i < n
      · simp only [e2, show i < n + 1 by omega]
      · rw [if_neg (by omega), if_neg (by omega)]
structure Same (c : Cargo) (ls : List Int) (s greens : List Int) : Prop where
  lis : Lis c ls
  ll : c.lots.length ≤ 5
  len : s.length = 8
  gl : greens.length = c.lots.length
  bits : ∀ i, i < c.lots.length → (¬ bit (tt s) i = 0 ↔ (i : Int) ∈ ls)
  gr : ∀ i, i < c.lots.length → greens.getD i 0 = s.getD (2 + i) 0
theorem on_is {c : Cargo} {ls s greens : List Int} (hs : Same c ls s greens) {h i : Nat} (hi : i < c.lots.length) {left : List Int} : on c s h left i = true ↔ (i : Int) ∈ ls ∧ (lotAt c i).frm ≤ (h : Int) ∧ left.getD i 0 ≤ 0 := by
  rw [← hs.bits i hi]
  unfold on
  simp only [Bool.not_eq_true', Bool.or_eq_false_iff, decide_eq_false_iff_not]
  constructor
  · rintro ⟨⟨h1, h2⟩, h3⟩; exact ⟨h1, by omega, by omega⟩
  · rintro ⟨h1, h2, h3⟩; exact ⟨⟨h1, by omega⟩, by omega⟩
def Eq1 (c : Cargo) (h : Nat) (o t l l2 frm : Int) : Prop := o = t ∧ l = l2 ∧ (o = never c ∨ (o < (h : Int) ∧ frm ≤ o ∧ l ≤ 0))
theorem mark_eq {c : Cargo} {ls s greens : List Int} (hs : Same c ls s greens) {h : Nat} (hh : h ≤ c.heat.length) {out left t l2 : List Int} (ho : out.length = c.lots.length) (htl : t.length = 5)
    {i : Nat} (hi : i < c.lots.length) (hm : (i : Int) ∈ ls) (e : Eq1 c h (out.getD i 0) (t.getD i 0) (left.getD i 0) (l2.getD i 0) (lotAt c i).frm) :
    (rMark c h left ls out ls.length).getD i 0 = (turnTo c s h l2 t c.lots.length).1.getD i 0 ∧
    ((rMark c h left ls out ls.length).getD i 0 = never c ∧ ¬ ((lotAt c i).frm ≤ (h : Int) ∧ left.getD i 0 ≤ 0) ∨ ((rMark c h left ls out ls.length).getD i 0 ≤ (h : Int) ∧ (lotAt c i).frm ≤ (rMark c h left ls out ls.length).getD i 0 ∧ left.getD i 0 ≤ 0)) := by
  obtain ⟨e1, e2, e3⟩ := e
  have hll := hs.ll
  rw [mark_at hs.lis hh ho hi _ (Nat.le_refl _), turn_at (by omega) _ (by omega), List.take_length]
  have hon := on_is hs (h := h) hi (left := l2)
  have hnv : never c = (c.heat.length : Int) + 1 := rfl
  rw [← e2] at hon
  by_cases hc : (lotAt c i).frm ≤ (h : Int) ∧ left.getD i 0 ≤ 0
  · have h1 : on c s h l2 i = true := hon.2 ⟨hm, hc⟩
    rw [if_pos (show i < c.lots.length ∧ on c s h l2 i = true from ⟨hi, h1⟩), ← e1]
    by_cases hn : out.getD i 0 = never c
    · rw [if_pos ⟨hm, hn, hc⟩, hn]
      refine ⟨by omega, .inr ⟨by omega, by omega, hc.2⟩⟩
    · rw [if_neg (fun x => hn x.2.1)]
      rcases e3 with e3 | e3
      · exact absurd e3 hn
      · refine ⟨by omega, .inr ⟨by omega, e3.2.1, hc.2⟩⟩
  · have h1 : ¬ on c s h l2 i = true := fun x => hc (hon.1 x).2
    rw [if_neg (show ¬ (i < c.lots.length ∧ on c s h l2 i = true) from fun x => h1 x.2), if_neg (fun x => hc x.2.2)]
    refine ⟨e1, ?_⟩
    rcases e3 with e3 | e3
    · exact .inl ⟨e3, hc⟩
    · exact absurd ⟨by omega, e3.2.2⟩ hc
theorem hour_eq {c : Cargo} {ls s greens : List Int} (hs : Same c ls s greens) {warm : Int} (hw : s.getD 1 0 = warm) : ∀ h, h ≤ c.heat.length → ∀ i, i < c.lots.length → (i : Int) ∈ ls →
    Eq1 c h ((rHourTo c warm ls greens h).1.getD i 0) ((hourTo c s h).1.getD i 0) ((rHourTo c warm ls greens h).2.getD i 0) ((hourTo c s h).2.getD i 0) (lotAt c i).frm
  | 0, _, i, hi, hm => by
    have hll := hs.ll
    have e1 : (List.replicate c.lots.length (never c)).getD i 0 = never c := by simp [List.getD, hi]
    have e2 : (List.replicate 5 (never c)).getD i 0 = never c := by rw [List.getD, List.getElem?_replicate, if_pos (by omega)]; rfl
    have e3 : ((s.drop 2).take 5).getD i 0 = s.getD (2 + i) 0 := by simp [List.getD, List.getElem?_take, show i < 5 by omega]
    show Eq1 c 0 ((List.replicate c.lots.length (never c)).getD i 0) ((List.replicate 5 (never c)).getD i 0) (greens.getD i 0) (((s.drop 2).take 5).getD i 0) (lotAt c i).frm
    rw [e1, e2, e3, hs.gr i hi]
    exact ⟨rfl, rfl, .inl rfl⟩
  | h + 1, hh, i, hi, hm => by
    have ih := hour_eq hs hw h (by omega)
    have hll := hs.ll
    have hl5 : (hourTo c s h).1.length = 5 := zC0 s h
    have hlo := zGl c warm ls greens h
    have hlg := zIc c warm ls greens h
    have hl2 : (hourTo c s h).2.length = 5 := by
      have key : ∀ k, (hourTo c s k).2.length = 5 := by
        intro k
        induction k with
        | zero => simp [hourTo, hs.len]
        | succ k ih2 =>
          rw [hourTo, hourStep]
          have key2 : ∀ (g : Int) (l0 : List Int) n, (leftTo c s k g l0 n).length = l0.length := by
            intro g l0 n
            induction n with
            | zero => rfl
            | succ n ih3 => rw [leftTo, leftStep]; split
                            · rw [List.length_set, ih3]
                            · exact ih3
          rw [key2, ih2]
      exact key h
    have hme := fun j hj hjm => mark_eq hs (by omega : h ≤ c.heat.length) hlo hl5 hj hjm (ih j hj hjm)
    rw [rHourTo, rHour, hourTo, hourStep]
    dsimp only
    generalize hO : (rMark c h (rHourTo c warm ls greens h).2 ls (rHourTo c warm ls greens h).1 ls.length) = O at hme ⊢
    have hg : (turnTo c s h (hourTo c s h).2 (hourTo c s h).1 c.lots.length).2 = if rGas h O ls ls.length then c.gas else 0 := by
      rw [turn_gas_at, gas_at _ (Nat.le_refl _), List.take_length]
      have : (List.range c.lots.length).any (on c s h (hourTo c s h).2) = ls.any fun z => decide (O.getD z.toNat 0 ≤ (h : Int)) := by
        rw [Bool.eq_iff_iff, List.any_eq_true, List.any_eq_true]
        constructor
        · rintro ⟨j, hj, ho⟩
          rw [List.mem_range] at hj
          have h1 := (on_is hs hj).1 ho
          have h2 := (hme j hj h1.1).2
          rw [(ih j hj h1.1).2.1] at h2
          refine ⟨(j : Int), h1.1, ?_⟩
          rw [decide_eq_true_eq, show ((j : Int)).toNat = j from rfl]
          rcases h2 with h2 | h2
          · exact absurd h1.2 h2.2
          · exact h2.1
        · rintro ⟨z, hz, hd⟩
          obtain ⟨j, rfl, hj⟩ := hs.lis.ix z hz
          rw [decide_eq_true_eq, show ((j : Int)).toNat = j from rfl] at hd
          have h2 := (hme j hj hz).2
          have hnv : never c = (c.heat.length : Int) + 1 := rfl
          rw [(ih j hj hz).2.1] at h2
          refine ⟨j, List.mem_range.2 hj, (on_is hs hj).2 ⟨hz, ?_⟩⟩
          rcases h2 with h2 | h2
          · rw [h2.1] at hd; omega
          · exact ⟨by omega, h2.2.2⟩
      rw [this]
    obtain ⟨m1, m2⟩ := hme i hi hm
    obtain ⟨e1, e2, e3⟩ := ih i hi hm
    have hdl : (rHourTo c warm ls greens h).2.length = c.lots.length := by rw [hlg, hs.gl]
    rw [dec_at hs.lis hdl hi _ (Nat.le_refl _), left_at (by omega) _ (by omega), List.take_length, hg]
    have htk : takes c s h (if rGas h O ls ls.length then c.gas else 0) = rTake c h warm (rGas h O ls ls.length) := by unfold takes rTake; rw [hw]
    rw [htk]
    have hla : lessAt c h i (hourTo c s h).2 = true ↔ (lotAt c i).frm ≤ (h : Int) ∧ 0 < (rHourTo c warm ls greens h).2.getD i 0 := by
      unfold lessAt; rw [Bool.and_eq_true, decide_eq_true_eq, decide_eq_true_eq, e2]
    refine ⟨m1, ?_, ?_⟩
    · by_cases hc : O.getD i 0 = never c ∧ (lotAt c i).frm ≤ (h : Int)
      · have hpos : 0 < (rHourTo c warm ls greens h).2.getD i 0 := by
          rcases m2 with m2 | m2
          · have := fun x => m2.2 ⟨hc.2, x⟩; omega
          · have hnv : never c = (c.heat.length : Int) + 1 := rfl
            rw [hc.1] at m2; omega
        rw [if_pos ⟨hm, hc⟩, if_pos ⟨hi, hla.2 ⟨hc.2, hpos⟩⟩, e2]
      · rw [if_neg (fun x => hc x.2), if_neg, e2]
        rintro ⟨_, x⟩
        have x2 := hla.1 x
        rcases m2 with m2 | m2
        · exact hc ⟨m2.1, x2.1⟩
        · omega
    · by_cases hc : O.getD i 0 = never c
      · exact .inl hc
      · rcases m2 with m2 | m2
        · exact absurd m2.1 hc
        · rw [if_neg (fun x => hc x.2.1)]
          exact .inr ⟨by omega, m2.2.1, m2.2.2⟩
theorem times_ref {c : Cargo} {ls s greens : List Int} (hs : Same c ls s greens) {i : Nat} (hi : i < c.lots.length) (hm : (i : Int) ∈ ls) : (times c s).getD i 0 = (rTimes c ls (s.getD 1 0) greens).getD i 0 := by
  have h := hour_eq hs rfl c.heat.length (Nat.le_refl _) i hi hm
  unfold times rTimes
  exact (mark_eq hs (Nat.le_refl _) (zGl ..) (zC0 ..) hi hm h).1.symm
end Go.Rt.Tu
