/- Own texts of this claim, joined. No conditions. -/
import Derived.Test.YtfodoljacfiehaaGreatHTopNumbera
import Derived.Test.YtfodoljacfiehaaGreatHTopNumberb
import Derived.Test.YtfodoljacfiehaaGreatHTopNumberc
/- The walking engine, part 25: bits of a number that may be -1. No conditions. -/
set_option linter.unusedSimpArgs false
set_option linter.unusedVariables false
namespace Go.Rt
variable {P : Program} {n : Nat} {ρ : Nat → Value} {ds : List Deferred} {w : World} {d : Option Nat} {ty : TypeId} {p : String} {e : Array Edge} {g : Option (Nat × Bool)}
end Go.Rt
/- The walking engine, part 26: an operation of a drawn region that is passed over, whatever stays. No conditions. -/
namespace Go.Rt
open Go.RowKit
variable {r : Option Nat} {P : Program} {ops : Array Oper} {K : Act → World → Prop} {n : Nat} {ρ : Nat → Value} {ds : List Deferred} {w : World}
end Go.Rt
/- The walking engine, part 27: arrays of pairs of integers, compared. No conditions. -/
namespace Go.Rt
open Go.RowKit
variable {r : Option Nat} {P : Program} {ops : Array Oper} {Q : Exit → Act → World → Prop} {rest : List Oper} {n : Nat} {ρ : Nat → Value} {ds : List Deferred} {w w0 : World} {L : List (Nat × Obj)} {d : Option Tmp} {ty : TypeId} {p : String} {e : Array Edge} {g : Option (Nat × Bool)}
theorem iv_two {l : List Int} {o : Nat} (ho : o + 1 < l.length) : List.take 2 (List.drop o (iv l)) = [Value.int .i64 (l[o]?.getD 0), Value.int .i64 (l[o + 1]?.getD 0)] := by
  apply List.ext_getElem
  · simp [iv]; omega
  · intro j h1 h2
    have hj : j < 2 := by simpa using h2
    match j, hj with
    | 0, _ => simp [iv, show o < l.length by omega]
    | 1, _ => simp [iv, ho]
theorem zGh {t : TypeId} {fs : Array Field} (h : P.underlying t = some (.struct fs)) (hc : ∀ w, (sizeOf t).run P w = .ok 2 w) {l : List Int} {o : Nat} (ho : o + 1 < l.length) : (part t (iv l).toArray o).run P w = .ok (ia [l.getD o 0, l.getD (o + 1) 0]) w := by
  simp [part, isAgg, Sem.run_bind, run_underlying h, hc, Result.andThen, ia, iv_two ho, iv]
theorem zGt {t : TypeId} {fs : Array Field} (dd : Nat) (h : P.underlying t = some (.struct fs)) (hc : ∀ w, (sizeOf t).run P w = .ok 2 w) (hf : flatInts P t 2 = true) (l m : List Int) : ∀ is : List Nat, (∀ i ∈ is, i * 2 + 1 < l.length ∧ i * 2 + 1 < m.length) →
    (Op.eqItems (dd + 2) t 2 (iv l).toArray (iv m).toArray is).run P w = .ok (is.all fun i => decide (l.getD (i * 2) 0 = m.getD (i * 2) 0 ∧ l.getD (i * 2 + 1) 0 = m.getD (i * 2 + 1) 0)) w
  | [], _ => by simp [Op.eqItems]
  | i :: is, hh => by
    obtain ⟨h1, h2⟩ := hh i (.head _)
    have ih := zGt dd h hc hf l m is fun j hj => hh j (.tail _ hj)
    have e3 := zDt (P := P) (w := w) (l := [l.getD (i * 2) 0, l.getD (i * 2 + 1) 0]) (m := [m.getD (i * 2) 0, m.getD (i * 2 + 1) 0]) dd hf rfl
    simp only [Op.eqItems, Sem.run_bind, zGh h hc h1, zGh h hc h2, Result.andThen_ok, e3]
    simp only [List.all_cons]
    by_cases hv : l.getD (i * 2) 0 = m.getD (i * 2) 0 ∧ l.getD (i * 2 + 1) 0 = m.getD (i * 2 + 1) 0
    · have hv2 : [l.getD (i * 2) 0, l.getD (i * 2 + 1) 0] = [m.getD (i * 2) 0, m.getD (i * 2 + 1) 0] := by rw [hv.1, hv.2]
      rw [decide_eq_true hv2, decide_eq_true hv]
      simp only [Bool.not_true, Bool.false_eq_true, if_false, Bool.true_and]
      exact ih
    · have hv2 : ¬ [l.getD (i * 2) 0, l.getD (i * 2 + 1) 0] = [m.getD (i * 2) 0, m.getD (i * 2 + 1) 0] := fun x => hv (by injection x with a b; injection b with b _; exact ⟨a, b⟩)
      rw [decide_eq_false hv2, decide_eq_false hv]
      simp only [Bool.not_false, if_true, Sem.run_pure, Bool.false_and]
theorem all_pairs {l m : List Int} {k : Nat} (hl : l.length = 2 * k) (hm : m.length = 2 * k) : ((List.range k).all fun i => decide (l.getD (i * 2) 0 = m.getD (i * 2) 0 ∧ l.getD (i * 2 + 1) 0 = m.getD (i * 2 + 1) 0)) = decide (l = m) := by
  rw [Bool.eq_iff_iff]
  simp only [List.all_eq_true, List.mem_range, decide_eq_true_eq]
  constructor
  · intro h
    apply List.ext_getElem (by omega)
    intro i h1 h2
    have h3 := h (i / 2) (by omega)
    have e1 : l[i] = l.getD i 0 := by simp [List.getD, h1]
    have e2 : m[i] = m.getD i 0 := by simp [List.getD, h2]
    rw [e1, e2]
    by_cases hp : i % 2 = 0
    · have e : i = i / 2 * 2 := by omega
      rw [e]; exact h3.1
    · have e : i = i / 2 * 2 + 1 := by omega
      rw [e]; exact h3.2
  · rintro rfl i _; exact ⟨rfl, rfl⟩
theorem y_nePairs {t t2 el : TypeId} {fs : Array Field} {x y : Operand} {l m : List Int} {a b : Value} {k : Nat} (hg : P.eqGuardType P.depth t = false) (hu : P.underlying t = some (.array k el)) (he : P.underlying el = some (.struct fs)) (hc : ∀ w, (sizeOf el).run P w = .ok 2 w) (hcc : P.cellsOf el = 2) (hf : flatInts P el 2 = true) (hl : l.length = 2 * k) (hm : m.length = 2 * k)
    (ho : okO n x = true) (ho1 : okO n y = true) (hx : ev ρ x = a) (hy : ev ρ y = b) (ha : a = ia l) (hb : b = ia m) : Yd P (A n ρ ds) ⟨d, .binOp .neq t x y t2, ty, p, e, g⟩ w (.bool (!decide (l = m))) := by
  subst ha hb
  obtain ⟨i, hi⟩ := info_of_underlying he
  have h1 : (Op.equalIn (9997 + 3) t (ia l) (ia m)).run P w = .ok (decide (l = m)) w := by
    unfold ia
    rw [run_equalIn_array w (9997 + 2) _ _ hu hi, hcc, zGt 9997 he hc hf l m _ ?_, all_pairs hl hm]
    intro i hi
    rw [List.mem_range] at hi
    omega
  have h2 := zEj (P := P) (w := w) (op := .neq) (x := x) (y := y) (a := (iv l).toArray) (b := (iv m).toArray) hg
  unfold Yd
  simp only [execOp, zB6 ho, zB6 ho1, hx, hy, Sem.run_bind]
  have h2' : (eqGuard .neq t x y (ia l) (ia m)).run P w = .ok () w := h2
  have h3 : (binOp .neq t (ia l) (ia m)).run P w = .ok (.bool (!decide (l = m))) w := by
    unfold ia at h1 ⊢
    rw [run_neq_struct, h1]
    rfl
  rw [h2']
  simp only [Result.andThen_ok]
  rw [h3]
  rfl
end Go.Rt
set_option maxRecDepth 20000
namespace Go.Proofs.Ro
open Go.Proofs.Tryz
open Go.Rt Go.Rt.Ro
open Go.Rt.Ha (bit listL)
attribute [local irreducible] WL WC Con Yd At Ats Sl Agree DW
theorem zDg : flatInts Tryz.prog 28 2 = true := by kernel_rfl
theorem Try_QD_fb2 (x0 : Int) (x1 : Int) (x2 : Int) (x3 : Option Addr) (l3 c3 : Nat) (x4 : Int) (x5 : Option Addr) (l5 c5 : Nat) (x6 : Option Addr) (l6 c6 : Nat) (x7 : Option Nat) (w : World) : (Instr.build 103 [(0, .agg #[.int .i64 x0, .int .i64 x1, .int .i64 x2, .slice x3 l3 c3, .int .i64 x4, .slice x5 l5 c5, .slice x6 l6 c6]),(2, .map x7)].toArray).run Tryz.prog w = .ok (.agg #[.int .i64 x0, .int .i64 x1, .int .i64 x2, .slice x3 l3 c3, .int .i64 x4, .slice x5 l5 c5, .slice x6 l6 c6, .int .i64 0, .int .i64 0, .int .i64 0, .int .i64 0, .int .i64 0, .int .i64 0, .int .i64 0, .int .i64 0, .int .i64 0, .int .i64 0, .int .i64 0, .int .i64 0, .int .i64 0, .int .i64 0, .map x7]) w := by kernel_rfl
theorem Try_QD_fb3  (w : World) : (Instr.build 100 [].toArray).run Tryz.prog w = .ok (.agg #[.int .i64 0, .int .i64 0, .int .i64 0, .int .i64 0, .int .i64 0, .int .i64 0, .int .i64 0, .int .i64 0, .int .i64 0, .int .i64 0, .int .i64 0, .int .i64 0, .int .i64 0, .int .i64 0]) w := by kernel_rfl
theorem Try_QD_fb4 (x0 : Int) (x1 : Int) (w : World) : (Instr.build 28 [(0, .int .i64 x0),(1, .int .i64 x1)].toArray).run Tryz.prog w = .ok (.agg #[.int .i64 x0, .int .i64 x1]) w := by kernel_rfl
def RC (r : Room) (p : AtR) (P : List Int) (mm : Nat) : List Value := r.cells p ++ (iv P ++ [.map (some mm)])
theorem rc_get {r : Room} {p : AtR} {P : List Int} {mm d : Nat} (hP : P.length = 14) (hd : d < 7) : ((RC r p P mm).drop (0 + 7 + d * 2)).take [Value.int .i64 (at2 P d).1, .int .i64 (at2 P d).2].length = [.int .i64 (at2 P d).1, .int .i64 (at2 P d).2] := by
  match P, hP with
  | [a0, a1, a2, a3, a4, a5, a6, a7, a8, a9, b0, b1, b2, b3], _ =>
    match d, hd with
    | 0, _ => rfl
    | 1, _ => rfl
    | 2, _ => rfl
    | 3, _ => rfl
    | 4, _ => rfl
    | 5, _ => rfl
    | 6, _ => rfl
theorem rc_put {r : Room} {p : AtR} {P : List Int} {mm d : Nat} {x y : Int} (hP : P.length = 14) (hd : d < 7) : setMany (RC r p P mm) (0 + 7 + d * 2) [.int .i64 x, .int .i64 y] = RC r p (put2 P d (x, y)) mm := by
  match P, hP with
  | [a0, a1, a2, a3, a4, a5, a6, a7, a8, a9, b0, b1, b2, b3], _ =>
    match d, hd with
    | 0, _ => rfl
    | 1, _ => rfl
    | 2, _ => rfl
    | 3, _ => rfl
    | 4, _ => rfl
    | 5, _ => rfl
    | 6, _ => rfl
theorem rc_all {r : Room} {p : AtR} {P : List Int} {mm : Nat} : ((RC r p P mm).drop (0 + 7)).take (iv P).length = iv P := by
  show (iv P ++ [Value.map (some mm)]).take (iv P).length = iv P
  rw [List.take_left]
theorem rc_le {r : Room} {p : AtR} {P : List Int} {mm d : Nat} {vs : List Value} (hP : P.length = 14) (hd : d < 7 ∧ vs.length = 2) : 0 + 7 + d * 2 + vs.length ≤ (RC r p P mm).length := by
  have h : (RC r p P mm).length = 22 := by simp [RC, Room.cells, iv, hP]
  omega
theorem rc_at {w0 w : World} {L : List (Nat × Obj)} {i rb t : Nat} {r : Room} {p : AtR} {P : List Int} {mm d : Nat} {s : Int × Int} (hs : St w0 w L) (hi : L[i]? = some (rb, blk t (RC r p P mm))) (hP : P.length = 14) (hd : d < 7) (e : at2 P d = s) : Ats w0 L rb (0 + 7 + d * 2) [.int .i64 s.1, .int .i64 s.2] := by subst e; exact zBm hi (rc_get hP hd)
theorem rc_pts {w0 w : World} {L : List (Nat × Obj)} {i rb t : Nat} {r : Room} {p : AtR} {P : List Int} {mm : Nat} (hs : St w0 w L) (hi : L[i]? = some (rb, blk t (RC r p P mm))) : Ats w0 L rb (0 + 7) (iv P) := zBm hi rc_all
theorem zGg {a b : Int × Int} (h : [b.1, b.2] = [a.1, a.2]) : b = a := by injection h with h1 h2; injection h2 with h2 _; exact Prod.ext h1 h2
theorem c63 {w0 w : World} {F : List (Nat × Obj)} (r : Room) (p : AtR) (hm : RIn w0 F r p) (hr : r.Ok) (but : Nat) (hb : but < 16) (hs : St w0 w F) :
  Con Tryz.prog 63 [.agg (r.cells p).toArray, .int .i64 (but : Int)] w fun v w' => (lookB r but = false ∧ (∃ x, v = .tuple #[.pointer x, .bool false]) ∧ St w0 w' F) ∨ (lookB r but = true ∧ ∃ rb mm, v = .tuple #[.pointer (some ⟨rb, 0, none⟩), .bool true] ∧ St w0 w' ((rb, blk 103 (RC r p (pts r but) mm)) :: (mm, .map #[] 0) :: F)) := by
  refine zAo (n := 163) func63 rfl rfl (zNl rfl) ?_
  have hdy := hr.days
  have hlr := hr.lr
  have hll := hr.ll
  have hn6 : r.ran.length ≤ 6 := by omega
  refine zAf (fun K2 hY => (zAa (zCd (v := .agg #[.int _ _, .int _ _, .int _ _, .slice _ _ _, .int _ _, .slice _ _ _, .slice _ _ _]) (cs := [_,_,_,_,_,_,_]) zAc rfl rfl rfl hs (fun b3 w4 gF => ?_))))
  refine zA9 rfl rfl (zA9 rfl rfl (zAe (zAb (hY _ _ (zAf (fun K7 j0 => (zAa (w_p (zAs (vs := [_,_,_,_,_,_,_]) isAgg33 sizeOf33 gF rfl rfl (aow 0 [_,_,_,_,_,_,_])) rfl ?_))))))))
  refine w_makeMap zAc gF (fun b8 w9 j1 => ?_)
  refine w_p (zCh (ps := [(0, _),(2, _)]) (pv := [(0, .agg #[.int _ _, .int _ _, .int _ _, .slice _ _ _, .int _ _, .slice _ _ _, .slice _ _ _]),(2, .map _)]) rfl rfl (fun w => Try_QD_fb2 _ _ _ _ _ _ _ _ _ _ _ _ _ _ w)) rfl (zCd (v := .agg #[.int _ _, .int _ _, .int _ _, .slice _ _ _, .int _ _, .slice _ _ _, .slice _ _ _, .int _ _, .int _ _, .int _ _, .int _ _, .int _ _, .int _ _, .int _ _, .int _ _, .int _ _, .int _ _, .int _ _, .int _ _, .int _ _, .int _ _, .map _]) (cs := [_,_,_,_,_,_,_,_,_,_,_,_,_,_,_,_,_,_,_,_,_,_]) zAc rfl rfl rfl j1 (fun g3 jT gG => ?_))
  refine w_p (zBu rfl rfl) rfl (zAe (zAb (j0 _ _ (zAf (fun jU j3 => (zAa (w_p (zAd (o := 5) (i := 4) underlying33 rfl sizeOf30 rfl rfl rfl) rfl (w_p (zAi isAgg30 gG rfl rfl (aow 2 [_])) rfl ?_))))))))
  refine w_p (zBd underlying30 rfl rfl) rfl (zBg rfl rfl (zAe (zAb (j3 _ _ (zAf (fun jV j4 => (zAf (fun jW j5 => (zAa (zA2 rfl rfl (w_p (zCt (z' := ((r.ran.length + 1 : Nat) : Int)) (by omega) (zBe rfl rfl rfl rfl (by omega) (by omega))) rfl ?_)))))))))))
  refine w_p (zBo (v := _) rfl rfl) rfl (zAe (zAb (j5 _ _ (zAw ?_))))
  refine zB2 [4,5,8,9,10,11,26,27,28,29,30,31,32,33,34,35,36,37,38,39,40,41,42,43,44,45,46,47,48,49,50,51,52,53,54,55,56,57,58,59,60,61,62,63,64,65,66,67,68,69,70,71,72,73,74,75,76,77,78,79,80,81,82,83,84,85,86,87,88,89] [26] (fun kk vs w => ∃ d : Nat, vs = [.int .i64 (d : Int)] ∧ d ≤ r.ran.length + 1 ∧ kk = r.ran.length + 1 - d ∧ fwd r but d = true ∧ St w0 w ((g3, blk 103 (RC r p (fwdP r but d) b8)) :: (b8, .map #[] 0) :: (b3, blk 33 (r.cells p)) :: F)) (r.ran.length + 1) ?_ ?_
  ·
   exact ⟨0, rfl, by omega, by omega, rfl, gG⟩
  intro k vs μ jX hI jY j6
  clear hs
  obtain ⟨d, rfl, hda, rfl, hfw, hs⟩ := hI
  have hPl := zDv r but d
  refine zAf (fun jZ j7 => (zAa (w_p (zCb rfl rfl rfl rfl) rfl (zAe (zAb (j7 _ _ (zAf (fun k4 j9 => (zAv rfl rfl (fun gf => ?_) (fun gf => ?_))))))))))
  ·
   try simp only [zS] at gf
   refine zAr (zAb (j9 _ _ (zAf (fun k5 ja => (zAw ?_)))))
   refine zAf (fun k6 jb => (zAa (zA2 rfl rfl (zBg rfl rfl (zAe (zAb (jb _ _ (zAf (fun k7 jc => (zAa (w_p (zAd (o := 1) (i := 1) underlying33 rfl sizeOf28 rfl rfl rfl) rfl ?_)))))))))))
   refine w_p (zAs (vs := [_,_]) isAgg28 sizeOf28 hs rfl rfl (aow 2 [_,_])) rfl ?_
   refine zA5 (cs := [_,_]) zAc zeroValue28 rfl hs (fun gH k8 jd => ?_)
   refine zBt 0 (.agg #[.int _ _, .int _ _]) [_,_] sizeOf28 jd (fun k9 g6 => ?_)
   refine zAe (zAb (jc _ _ (zAf (fun ka je => (w_cut [31,32,33,34,35,36,37,38,39,40,41,42,43,44,45,46,47,48,49,50,51] [] (fun vs w => vs = [] ∧ St w0 w ((gH, blk 28 [.int .i64 (baseS r but d).1, .int .i64 (baseS r but d).2]) :: (g3, blk 103 (RC r p (fwdP r but d) b8)) :: (b8, .map #[] 0) :: (b3, blk 33 (r.cells p)) :: F)) (fun kb gI => ?_) ?_)))))
   ·
    refine zAf (fun kc jf => (zAa (zA2 rfl rfl (w_p (zD5 rfl rfl rfl rfl) rfl (zAe (zAb (jf _ _ (zAv rfl rfl (fun gg => ?_) (fun gg => ?_)))))))))
    ·
     try simp only [zS] at gg
     obtain ⟨d1, hd1⟩ : ∃ d1, d = d1 + 1 := ⟨d - 1, by omega⟩
     have hPd := rc_at (i := 1) g6 rfl hPl (show d1 < 7 by omega) (fwdP_at r but (by omega) (show d1 < d by omega))
     have hsb : fwd r but (d1 + 1) = true := hd1 ▸ hfw
     have hsi := sp_in hr hsb
     obtain ⟨bn, on, hbn, hn⟩ := zCy hm.n (show d1 < r.ran.length by omega)
     obtain ⟨z0, hz0, hz1⟩ : ∃ z0 : Nat, r.ran[d1] = (z0 : Int) ∧ z0 < r.sets.length := by
       have h9 := hr.ran _ (List.getElem_mem (show d1 < r.ran.length by omega))
       exact ⟨r.ran[d1].toNat, by omega, by omega⟩
     obtain ⟨bs, os_, hbs, gh⟩ := sl_trows hm.s hz1
     have hgz := gain_at (show d1 < r.ran.length by omega) hz0 hz1
     have hgi := gain_in hr d1
     rw [hgz] at hgi
     dsimp only at hgi
     refine zCc [19] [(0,0),(1,0),(2,0),(3,0),(4,0),(5,0),(6,1),(7,0),(8,1),(9,0),(10,1),(11,0),(12,0),(13,0),(14,1),(15,0),(16,0),(17,1),(18,2),(19,3)] zB7 (zBs (by kernel_rfl)) g6 (fun kd g4 => ?_)
     refine d_w rfl (fun _ => zBi rfl rfl) rfl (d_w rfl (fun _ => zAu rfl rfl) rfl (d_w rfl (fun _ => zCt (z' := ((d1 : Nat) : Int)) (by omega) (zDk rfl rfl rfl rfl (by omega) (by omega))) rfl (d_w rfl (fun _ => zBl rfl rfl) rfl ?_)))
     refine d_w rfl (fun _ => zAd (o := 7) (i := 1) underlying103 rfl sizeOf100 rfl rfl rfl) rfl (d_w rfl (fun _ => zBn underlying100 sizeOf28 rfl rfl rfl rfl (i := _) rfl (by omega)) rfl ?_)
     refine zA3 rfl zAc rfl g4 (fun _ hq => (zAs (vs := [_,_]) isAgg28 sizeOf28 hq rfl rfl hPd)) ?_
     refine d_w rfl (fun _ => zAd (o := 3) (i := 2) underlying33 rfl sizeOf29 rfl rfl rfl) rfl ?_
     refine zA3 rfl zAc rfl g4 (fun _ hq => (zCq hbs (zAi isAgg29 hq rfl rfl (aow 3 [_])))) ?_
     refine d_w rfl (fun _ => zAd (o := 5) (i := 4) underlying33 rfl sizeOf30 rfl rfl rfl) rfl ?_
     refine zA3 rfl zAc rfl g4 (fun _ hq => (zCq hbn (zAi isAgg30 hq rfl rfl (aow 3 [_])))) ?_
     refine d_w rfl (fun _ => zAu rfl rfl) rfl (d_w rfl (fun _ => zCt (z' := ((d1 : Nat) : Int)) (by omega) (zDk rfl rfl rfl rfl (by omega) (by omega))) rfl (d_w rfl (fun _ => zA7 underlying30 sizeOf3 rfl rfl rfl rfl (i := d1) rfl (by omega)) rfl ?_))
     refine zA3 rfl zAc rfl g4 (fun _ hq => (zAi isAgg3 hq.tail.tail.tail.tail rfl rfl hn)) ?_
     refine d_w rfl (fun _ => zA7 underlying29 sizeOf61 rfl rfl rfl rfl (i := z0) hz0 hz1) rfl (d_w rfl (fun _ => zAd (o := 1) (i := 1) underlying61 rfl sizeOf28 rfl rfl rfl) rfl ?_)
     refine zA3 rfl zAc rfl g4 (fun _ hq => (zAs (vs := [_,_]) isAgg28 sizeOf28 hq.tail.tail.tail.tail rfl rfl (show Ats _ _ _ _ [_,_] from Ats.part gh 1 2))) ?_
     refine zB0 rfl ?_
     refine zCi zAc call52 rfl rfl rfl rfl (c52 _ _ _ _ (by omega) (by omega) (by omega) (by omega) g4) (fun ke gJ => ?_)
     refine zAe (qn ⟨gJ, ?_⟩)
     refine zCa rfl ?_
     refine zBt 0 (.agg #[.int _ _, .int _ _]) [_,_] sizeOf28 gJ (fun kf gi => ?_)
     refine zAe (qn ?_)
     refine zB5 ?_
     refine zAb (gI _ _ (mdI ?_))
     first
       | exact ⟨rfl, by rw [show baseS r but d = plus (sp r but d1) (gain r d1) from by rw [hd1]; rfl, hgz]; exact gi⟩
       | exact ⟨rfl, by rw [show d = 0 by omega]; rw [show d = 0 by omega] at gi; exact gi⟩
    try simp only [zS] at gg
    refine zAr (zAb (gI _ _ (mdI ?_)))
    first
      | exact ⟨rfl, by rw [show baseS r but d = plus (sp r but d1) (gain r d1) from by rw [hd1]; rfl, hgz]; exact g6⟩
      | exact ⟨rfl, by rw [show d = 0 by omega]; rw [show d = 0 by omega] at g6; exact g6⟩
   intro vs μ kg hM
   clear hs
   obtain ⟨rfl, hs⟩ := hM
   refine zAb (je _ _ (zAf (fun kh jg => (zAf (fun ki jh => (zAa (w_p (zAd (o := 6) (i := 5) underlying33 rfl sizeOf31 rfl rfl rfl) rfl (w_p (zAi isAgg31 hs rfl rfl (aow 3 [_])) rfl ?_))))))))
   refine w_p (zBd underlying31 rfl rfl) rfl (w_p (zBo (v := _) rfl rfl) rfl (zAe (zAb (jh _ _ (zAw ?_)))))
   refine zB2 [10,11,55,56,57,58,59,60,61,62,63,64,65,66,67,68,69,70,71,72,73,74,75,76] [55] (fun kk vs w => ∃ i : Nat, vs = [.int .i64 (i : Int)] ∧ i ≤ r.looks.length ∧ kk = r.looks.length - i ∧ St w0 w ((gH, blk 28 [.int .i64 (seeTo r but d (baseS r but d) i).1, .int .i64 (seeTo r but d (baseS r but d) i).2]) :: (g3, blk 103 (RC r p (fwdP r but d) b8)) :: (b8, .map #[] 0) :: (b3, blk 33 (r.cells p)) :: F)) (r.looks.length) ?_ ?_
   ·
    exact ⟨0, rfl, by omega, by omega, hs⟩
   intro k vs μ kj hI km gj
   clear hs
   obtain ⟨i, rfl, hia, rfl, hs⟩ := hI
   have hsh : but >>> i < 64 := shr_16 (by omega)
   refine zAf (fun kn ji => (zAa (w_p (zCb rfl rfl rfl rfl) rfl (zAe (zAb (ji _ _ (zAf (fun ko jj => (zAv rfl rfl (fun gk => ?_) (fun gk => ?_))))))))))
   ·
    try simp only [zS] at gk
    refine zAr (zAb (jj _ _ (zAf (fun kp gm => (zAw ?_)))))
    refine zAf (fun kr jk => ?_)
    have hi2 : i < r.looks.length := by omega
    obtain ⟨bl, ol, hbl, hlx⟩ := sl_lrows hm.l hi2
    have hlo := hr.looks _ (List.getElem_mem hi2)
    refine zAa (zA2 rfl rfl (w_p (zA7 underlying31 sizeOf64 rfl rfl (congrArg (fun a => Value.slice a _ _) hbl) rfl (i := i) rfl hi2) rfl (w_p (zAs (vs := [_,_]) isAgg64 sizeOf64 hs.tail.tail.tail.tail rfl rfl hlx) rfl (zA5 (cs := [_,_]) zAc zeroValue64 rfl hs (fun ku kw jl => ?_)))))
    refine zBg rfl rfl (zBt 0 (.agg #[.int _ _, .int _ _]) [_,_] sizeOf64 jl (fun kx g9 => ?_))
    refine zAe (zAb (jk _ _ (zAf (fun ky gK => (zAa (w_p (zAd (o := 0) (i := 0) underlying64 rfl sizeOf3 rfl rfl rfl) rfl (w_p (zAi isAgg3 g9 rfl rfl (aow 0 [_])) rfl ?_)))))))
    refine zA2 rfl rfl (w_p (zCk rfl rfl rfl rfl) rfl (w_p (zAn rfl rfl) rfl (zBk (fun gn => ?_) (fun gn => ?_))))
    ·
     try simp only [zS] at gn
     refine w_y rfl rfl rfl (zAu rfl rfl) rfl ?_
     refine w_y rfl rfl rfl (zAu rfl rfl) rfl ?_
     refine w_y rfl rfl rfl (y_shr (x := but) (y := i) rfl rfl rfl rfl (by first | rfl | omega) (by first | rfl | omega) (by first | omega | exact zCs (by omega))) rfl ?_
     refine w_y rfl rfl rfl (y_and (x := but >>> i) (y := 1) rfl rfl rfl rfl (by first | rfl | omega) rfl (by first | omega | exact zCs (by omega)) (by first | omega | exact zCs (by omega))) rfl ?_
     refine w_y rfl rfl rfl (zCk rfl rfl rfl rfl) rfl ?_
     refine w_p (zAt (v := .bool _) rfl rfl rfl rfl) rfl (zAe (zAb (gK _ _ (zAv rfl rfl (fun gq => ?_) (fun gq => ?_)))))
     ·
      try simp only [zS] at gq
      refine zCc [5] [(0,1),(1,0),(2,1),(3,2),(4,2),(5,3)] zB7 (zBs (by kernel_rfl)) g9 (fun kz gr => ?_)
      refine zA3 rfl zAc rfl gr (fun _ hq => (zAs (vs := [_,_]) isAgg28 sizeOf28 hq rfl rfl (aow 1 [_,_]))) ?_
      refine d_w rfl (fun _ => zAd (o := 1) (i := 1) underlying64 rfl sizeOf3 rfl rfl rfl) rfl ?_
      refine zA3 rfl zAc rfl gr (fun _ hq => (zAi isAgg3 hq rfl rfl (aow 0 [_]))) ?_
      refine zB0 rfl ?_
      refine zCi zAc call98 rfl rfl rfl rfl (c98 _ (by omega) gr) (fun kA gL => ?_)
      refine zAe (qn ⟨gL, ?_⟩)
      refine zB0 rfl ?_
      refine zCi zAc call97 rfl rfl rfl rfl (c97 _ _ _ _ gL) (fun kB gM => ?_)
      refine zAe (qn ⟨gM, ?_⟩)
      refine zCa rfl ?_
      refine zBt 1 (.agg #[.int _ _, .int _ _]) [_,_] sizeOf28 gM (fun kC jm => ?_)
      refine zAe (qn ?_)
      refine zB5 ?_
      refine zAk (zAb (gm _ _ (zAa (w_p (zBe rfl rfl rfl rfl (by omega) (by omega)) rfl (zA2 rfl rfl (zAe (zAb (gj _ _ (nxI (r.looks.length - (i + 1)) (by omega) ?_)))))))))
      have gt := (show St _ _ (_ :: _ :: _ :: _ :: F) from jm.tail)
      first
        | exact ⟨i + 1, rfl, by omega, rfl, by rw [see_y hi2 (by assumption) (by assumption)]; exact gt⟩
        | exact ⟨i + 1, rfl, by omega, rfl, by rw [see_n1 hi2 (by assumption)]; exact gt⟩
        | exact ⟨i + 1, rfl, by omega, rfl, by rw [see_n2 hi2 (by assumption)]; exact gt⟩
     try simp only [zS] at gq
     refine zAr (zAk (zAb (gm _ _ (zAa (w_p (zBe rfl rfl rfl rfl (by omega) (by omega)) rfl (zA2 rfl rfl (zAe (zAb (gj _ _ (nxI (r.looks.length - (i + 1)) (by omega) ?_))))))))))
     have gu := (show St _ _ (_ :: _ :: _ :: _ :: F) from g9.tail)
     first
       | exact ⟨i + 1, rfl, by omega, rfl, by rw [see_y hi2 (by assumption) (by assumption)]; exact gu⟩
       | exact ⟨i + 1, rfl, by omega, rfl, by rw [see_n1 hi2 (by assumption)]; exact gu⟩
       | exact ⟨i + 1, rfl, by omega, rfl, by rw [see_n2 hi2 (by assumption)]; exact gu⟩
    try simp only [zS] at gn
    refine zAg rfl rfl rfl ?_
    refine zAg rfl rfl rfl ?_
    refine zAg rfl rfl rfl ?_
    refine zAg rfl rfl rfl ?_
    refine zAg rfl rfl rfl ?_
    refine w_p (zBb (v := _) rfl rfl rfl rfl) rfl (zAe (zAb (gK _ _ (zBj rfl rfl ?_))))
    refine zAr (zAk (zAb (gm _ _ (zAa (w_p (zBe rfl rfl rfl rfl (by omega) (by omega)) rfl (zA2 rfl rfl (zAe (zAb (gj _ _ (nxI (r.looks.length - (i + 1)) (by omega) ?_))))))))))
    have gw := (show St _ _ (_ :: _ :: _ :: _ :: F) from g9.tail)
    first
      | exact ⟨i + 1, rfl, by omega, rfl, by rw [see_y hi2 (by assumption) (by assumption)]; exact gw⟩
      | exact ⟨i + 1, rfl, by omega, rfl, by rw [see_n1 hi2 (by assumption)]; exact gw⟩
      | exact ⟨i + 1, rfl, by omega, rfl, by rw [see_n2 hi2 (by assumption)]; exact gw⟩
   try simp only [zS] at gk
   refine zBr (zAj (zAj (zAy (zAb (jg _ _ (zAf (fun kD jo => (zAf (fun kE jp => ?_)))))))))
   have hil : i = r.looks.length := by omega
   subst hil
   have hse := sp_base r but d
   unfold see at hse
   rw [← hse] at hs
   refine zAa (w_p (zAd (o := 0) (i := 0) underlying28 rfl sizeOf3 rfl rfl rfl) rfl (w_p (zAi isAgg3 hs rfl rfl (aow 0 [_])) rfl (w_p (zAd (o := 1) (i := 1) underlying28 rfl sizeOf3 rfl rfl rfl) rfl (w_p (zAi isAgg3 hs rfl rfl (aow 0 [_])) rfl ?_))))
   refine w_p (zD5 rfl rfl rfl rfl) rfl (zAe (zAb (jp _ _ (zAv rfl rfl (fun gx => ?_) (fun gx => ?_)))))
   ·
    try simp only [zS] at gx
    refine zAf (fun kF jq => (zAa (w_p (zBi rfl rfl) rfl (w_p (zBu rfl rfl) rfl (zA9 rfl rfl (zAe (zAb (jq _ _ (zA0 (zAh (zAz (zAh (zAh (zAz (zAh (zA1 (l := [.tmp 4, .tmp 5]) (vs := [_,_]) rfl ⟨⟨rfl, show _ = (.pointer _ : Value) from rfl⟩, ⟨rfl, (rfl : _ = Value.bool _)⟩, trivial⟩ ?_))))))))))))))))
    have jr := (show St _ _ (_ :: _ :: _ :: F) from hs.tail)
    exact .inl ⟨fwd_no (d := d) (by omega) _ (by omega), ⟨_, rfl⟩, jr.tail.tail.tail⟩
   try simp only [zS] at gx
   refine zAr (zAb (jo _ _ (zCc [6] [(0,0),(1,0),(2,1),(3,0),(4,0),(5,0),(6,3)] zB7 (zBs (by kernel_rfl)) hs (fun kG gN => ?_))))
   refine d_w rfl (fun _ => zBi rfl rfl) rfl (d_w rfl (fun _ => zAu rfl rfl) rfl ?_)
   refine zA3 rfl zAc rfl gN (fun _ hq => (zAs (vs := [_,_]) isAgg28 sizeOf28 hq rfl rfl (aow 0 [_,_]))) ?_
   refine d_w rfl (fun _ => zBl rfl rfl) rfl (d_w rfl (fun _ => zAd (o := 7) (i := 1) underlying103 rfl sizeOf100 rfl rfl rfl) rfl (d_w rfl (fun _ => zBn underlying100 sizeOf28 rfl rfl rfl rfl (i := _) rfl (by omega)) rfl ?_))
   refine zCa rfl ?_
   refine zD9 (i := 1) (v := .agg #[.int _ _, .int _ _]) (vs := [_,_]) zAc sizeOf28 rfl rfl rfl rfl rfl (by simp [Value.oneCell']) gN rfl (rc_le hPl ⟨by omega, rfl⟩) (fun kH gy => ?_)
   replace gy := (show St _ _ (_ :: (g3, blk 103 (RC r p (fwdP r but (d + 1)) b8)) :: _ :: _ :: F) from (by have h6 := (show St _ _ (_ :: (g3, blk 103 (setMany (RC r p (fwdP r but d) b8) (0 + 7 + d * 2) [.int .i64 _, .int .i64 _])) :: _ :: _ :: F) from gy); rw [rc_put hPl (by omega)] at h6; exact h6))
   refine zAe (qn ?_)
   refine zB5 ?_
   refine zAk (zAb (ja _ _ (zAa (w_p (zBe rfl rfl rfl rfl (by omega) (by omega)) rfl (zA2 rfl rfl (zAe (zAb (j6 _ _ (nxI (r.ran.length + 1 - (d + 1)) (by omega) ?_)))))))))
   have js := (show St _ _ (_ :: _ :: _ :: F) from gy.tail)
   exact ⟨d + 1, rfl, by omega, by omega, fwd_step hfw (by omega), js⟩
  try simp only [zS] at gf
  refine zBr (zAj (zAj (zAy (zAb (j4 _ _ (zAf (fun kI jt => (zAf (fun kJ ju => ?_)))))))))
  have hdn : d = r.ran.length + 1 := by omega
  subst hdn
  have hlb : lookB r but = true := hfw
  refine zAa (w_p (zCh (ps := []) (pv := []) rfl rfl (fun w => Try_QD_fb3  w)) rfl (zA5 (cs := iv [0,0,0,0,0,0,0,0,0,0,0,0,0,0]) zAc zeroValue100 rfl hs (fun kK kL jv => ?_)))
  refine zDu (i := 0) (l := zeros) zAc sizeOf100 rfl rfl rfl rfl rfl rfl jv rfl rfl (fun kM jw => ?_)
  refine zAe (zAb (ju _ _ (zAw ?_)))
  refine zB2 [12,13,14,15,16,91,92,93,94,95,96,97,98,99,100,101,102,103,104,105,106,107,108,109,110,111,112,113,114,115,116,117,118,119,120,121,122,123,124,125,126,127,128,129,130,131,132,133,134,135,136,137,138,139,140,141,142,143,144,145,146,147,148,149,150,151,152,153,154,155,156,157,158,159,160,161] [12] (fun kk vs w => ∃ (kq : Nat) (was : List Int) (bw : Nat), vs = [.pointer (some ⟨bw, 0, none⟩)] ∧ kq ≤ r.ran.length + 1 ∧ kk = r.ran.length + 2 - kq ∧ was.length = 14 ∧ (kq = 0 ∧ was = zeros ∨ ∃ j, kq = j + 1 ∧ was = backN r (pts0 r but) j ∧ ¬ zeros = pts0 r but) ∧ St w0 w ((bw, blk 100 (iv was)) :: (g3, blk 103 (RC r p (backN r (pts0 r but) kq) b8)) :: (b8, .map #[] 0) :: (b3, blk 33 (r.cells p)) :: F)) (r.ran.length + 2) ?_ ?_
  ·
   exact ⟨0, zeros, _, rfl, by omega, by omega, rfl, .inl ⟨rfl, rfl⟩, jw⟩
  intro k vs μ kN hI kO jx
  clear hs hPl
  obtain ⟨kq, was, bw, rfl, hka, rfl, hwl, hww, hs⟩ := hI
  have hPl := zDo r (zDv r but (r.ran.length + 1)) kq
  have hq0 : (fwdP r but (r.ran.length + 1)) = pts0 r but := rfl
  rw [hq0] at hPl
  have hql := hPl
  refine zAf (fun kP jy => (zAf (fun kQ jz => ?_)))
  have hPa := rc_pts (i := 1) hs rfl
  refine zCc [] [(0,1),(1,0),(2,0),(3,0),(4,1),(5,0)] zB7 (zBs (by kernel_rfl)) hs (fun kR g5 => ?_)
  refine zA3 rfl zAc rfl g5 (fun _ hq => (zC2 (i := 0) isAgg100 sizeOf100 (by first | omega | rfl | (simp only [hwl, hPl, hql, zL] <;> omega)) hq rfl rfl rfl)) ?_
  refine d_w rfl (fun _ => zBi rfl rfl) rfl (d_w rfl (fun _ => zBl rfl rfl) rfl (d_w rfl (fun _ => zAd (o := 7) (i := 1) underlying103 rfl sizeOf100 rfl rfl rfl) rfl ?_))
  refine zA3 rfl zAc rfl g5 (fun _ hq => (zAs (vs := iv _) isAgg100 (fun w => by rw [show (iv _).length = 14 from (by first | omega | rfl | (simp only [hwl, hPl, hql, zL] <;> omega))]; exact sizeOf100 w) hq rfl rfl hPa)) ?_
  refine d_w rfl (fun _ => y_nePairs (l := _) (m := _) eqGuardType100 underlying100 underlying28 sizeOf28 (by kernel_rfl) zDg (by first | exact hwl | exact hPl) (by first | exact hwl | exact hPl) rfl rfl rfl rfl rfl rfl) rfl ?_
  refine zB5 ?_
  refine zAb (jz _ _ (zAv rfl rfl (fun gz => ?_) (fun gz => ?_)))
  ·
   try simp only [zS] at gz
   refine zAr (zAb (jy _ _ (zAf (fun kS jA => (zAw ?_)))))
   refine zAf (fun kT jB => ?_)
   have hgo := pts_go (by omega) hka hww (by assumption)
   have hPb := rc_pts (i := 1) g5 rfl
   refine zAa (w_p (zBi rfl rfl) rfl (w_p (zBl rfl rfl) rfl (w_p (zAd (o := 7) (i := 1) underlying103 rfl sizeOf100 rfl rfl rfl) rfl (w_p (zAs (vs := iv _) isAgg100 (fun w => by rw [show (iv _).length = 14 from (by first | omega | rfl | (simp only [hwl, hPl, hql, zL] <;> omega))]; exact sizeOf100 w) g5 rfl rfl hPb) rfl ?_))))
   refine zDu (i := 0) (l := _) zAc sizeOf100 (by first | omega | rfl | (simp only [hwl, hPl, hql, zL] <;> omega)) rfl rfl rfl rfl rfl g5 rfl (by first | omega | rfl | (simp only [hwl, hPl, hql, zL] <;> omega)) (fun kU jC => ?_)
   refine zAe (zAb (jB _ _ (zAf (fun kV jD => (zAa (zA2 rfl rfl (w_p (zBo (v := _) rfl rfl) rfl (zAe (zAb (jD _ _ (zAw ?_)))))))))))
   refine zB2 [13,14,15,16,102,103,104,105,106,107,108,109,110,111,112,113,114,115,116,117,118,119,120,121,122,123,124,125,126,127,128,129,130,131,132,133,134,135,136,137,138,139,140,141,142,143,144,145,146,147,148,149,150,151,152,153,154,155,156,157,158,159,160] [102] (fun kk vs w => ∃ e : Nat, vs = [.int .i64 (e : Int)] ∧ e ≤ r.ran.length ∧ kk = r.ran.length - e ∧ St w0 w ((bw, blk 100 (iv (backN r (pts0 r but) kq))) :: (g3, blk 103 (RC r p (backTo r (backN r (pts0 r but) kq) e) b8)) :: (b8, .map #[] 0) :: (b3, blk 33 (r.cells p)) :: F)) (r.ran.length) ?_ ?_
   ·
    exact ⟨0, rfl, by omega, by omega, jC⟩
   intro k vs μ kW hI kX ga
   clear hs hPl
   obtain ⟨e, rfl, hea, rfl, hs⟩ := hI
   have hPl := zE1 r (zDo r (show (pts0 r but).length = 14 from zDv _ _ _) kq) e
   have hbk := back_bk hr hlb hka (show e ≤ 6 by omega)
   have hbk0 := hbk e
   have hbk1 := hbk (e + 1)
   refine zAf (fun kY jE => (zAa (w_p (zCb rfl rfl rfl rfl) rfl (zAe (zAb (jE _ _ (zAf (fun kZ jF => (zAv rfl rfl (fun gA => ?_) (fun gA => ?_))))))))))
   ·
    try simp only [zS] at gA
    refine zAr (zAb (jF _ _ (zAf (fun m0 gb => (zAw ?_)))))
    refine zAf (fun m5 jG => (zAa (zA2 rfl rfl (zBg rfl rfl (zAe (zAb (jG _ _ (zAf (fun m6 jH => ?_)))))))))
    obtain ⟨bn, on, hbn, hn⟩ := zCy hm.n (show e < r.ran.length by omega)
    obtain ⟨z0, hz0, hz1⟩ : ∃ z0 : Nat, r.ran[e] = (z0 : Int) ∧ z0 < r.sets.length := by
      have h9 := hr.ran _ (List.getElem_mem (show e < r.ran.length by omega))
      exact ⟨r.ran[e].toNat, by omega, by omega⟩
    obtain ⟨bs, os_, hbs, gh⟩ := sl_trows hm.s hz1
    have hgz := gain_at (show e < r.ran.length by omega) hz0 hz1
    have hgi := gain_in hr e
    rw [hgz] at hgi
    dsimp only at hgi
    have hbS : backS r (backTo r (backN r (pts0 r but) kq) e) e = ((at2 (backTo r (backN r (pts0 r but) kq) e) (e + 1)).1 - r.sets[z0].hi, (at2 (backTo r (backN r (pts0 r but) kq) e) (e + 1)).2 - r.sets[z0].lo) := by unfold backS; rw [hgz]
    refine zCc [11] [(0,0),(1,1),(2,0),(3,1),(4,0),(5,0),(6,1),(7,0),(8,0),(9,1),(10,2),(11,3)] zB7 (zBs (by kernel_rfl)) hs (fun m7 g7 => ?_)
    refine d_w rfl (fun _ => zAd (o := 3) (i := 2) underlying33 rfl sizeOf29 rfl rfl rfl) rfl ?_
    refine zA3 rfl zAc rfl g7 (fun _ hq => (zCq hbs (zAi isAgg29 hq rfl rfl (aow 3 [_])))) ?_
    refine d_w rfl (fun _ => zAd (o := 5) (i := 4) underlying33 rfl sizeOf30 rfl rfl rfl) rfl ?_
    refine zA3 rfl zAc rfl g7 (fun _ hq => (zCq hbn (zAi isAgg30 hq rfl rfl (aow 3 [_])))) ?_
    refine d_w rfl (fun _ => zAu rfl rfl) rfl (d_w rfl (fun _ => zA7 underlying30 sizeOf3 rfl rfl rfl rfl (i := e) rfl (by omega)) rfl ?_)
    refine zA3 rfl zAc rfl g7 (fun _ hq => (zAi isAgg3 hq.tail.tail.tail.tail rfl rfl hn)) ?_
    refine d_w rfl (fun _ => zA7 underlying29 sizeOf61 rfl rfl rfl rfl (i := z0) hz0 hz1) rfl (d_w rfl (fun _ => zAd (o := 1) (i := 1) underlying61 rfl sizeOf28 rfl rfl rfl) rfl ?_)
    refine zA3 rfl zAc rfl g7 (fun _ hq => (zAs (vs := [_,_]) isAgg28 sizeOf28 hq.tail.tail.tail.tail rfl rfl (show Ats _ _ _ _ [_,_] from Ats.part gh 1 2))) ?_
    refine zB0 rfl ?_
    refine zA5 (cs := [_,_]) zAc zeroValue28 rfl g7 (fun m8 m9 gO => ?_)
    refine zAe (qn ⟨gO.tail, ?_⟩)
    refine zCa rfl ?_
    refine zBt 0 (.agg #[.int _ _, .int _ _]) [_,_] sizeOf28 gO (fun ma gP => ?_)
    refine zAe (qn ?_)
    refine zB5 ?_
    refine zAb (jH _ _ (zAf (fun mc jI => ?_)))
    have hP1 := rc_at (i := 2) gP rfl hPl (show e + 1 < 7 by omega) rfl
    refine zCc [24] [(0,0),(1,0),(2,0),(3,0),(4,0),(5,0),(6,0),(7,1),(8,0),(9,1),(10,0),(11,0),(12,0),(13,0),(14,0),(15,0),(16,0),(17,0),(18,1),(19,0),(20,1),(21,0),(22,0),(23,2),(24,3)] zB7 (zBs (by kernel_rfl)) gP (fun md g8 => ?_)
    refine d_w rfl (fun _ => zBi rfl rfl) rfl (d_w rfl (fun _ => zAu rfl rfl) rfl (d_w rfl (fun _ => zCt (z' := ((e + 1 : Nat) : Int)) (by omega) (zBe rfl rfl rfl rfl (by omega) (by omega))) rfl (d_w rfl (fun _ => zBl rfl rfl) rfl ?_)))
    refine d_w rfl (fun _ => zAd (o := 7) (i := 1) underlying103 rfl sizeOf100 rfl rfl rfl) rfl (d_w rfl (fun _ => zBn underlying100 sizeOf28 rfl rfl rfl rfl (i := _) rfl (by omega)) rfl (d_w rfl (fun _ => zAd (o := 0) (i := 0) underlying28 rfl sizeOf3 rfl rfl rfl) rfl ?_))
    refine zA3 rfl zAc rfl g8 (fun _ hq => (zAi isAgg3 hq rfl rfl (show Ats _ _ _ _ [_] from Ats.part hP1 0 1))) ?_
    refine d_w rfl (fun _ => zAd (o := 1) (i := 1) underlying28 rfl sizeOf3 rfl rfl rfl) rfl ?_
    refine zA3 rfl zAc rfl g8 (fun _ hq => (zAi isAgg3 hq rfl rfl (aow 0 [_]))) ?_
    refine d_w rfl (fun _ => zDk rfl rfl rfl rfl (by omega) (by omega)) rfl (d_w rfl (fun _ => zBi rfl rfl) rfl (d_w rfl (fun _ => zAu rfl rfl) rfl (d_w rfl (fun _ => zCt (z' := ((e + 1 : Nat) : Int)) (by omega) (zBe rfl rfl rfl rfl (by omega) (by omega))) rfl ?_)))
    refine d_w rfl (fun _ => zBl rfl rfl) rfl (d_w rfl (fun _ => zAd (o := 7) (i := 1) underlying103 rfl sizeOf100 rfl rfl rfl) rfl (d_w rfl (fun _ => zBn underlying100 sizeOf28 rfl rfl rfl rfl (i := _) rfl (by omega)) rfl (d_w rfl (fun _ => zAd (o := 1) (i := 1) underlying28 rfl sizeOf3 rfl rfl rfl) rfl ?_)))
    refine zA3 rfl zAc rfl g8 (fun _ hq => (zAi isAgg3 hq rfl rfl (show Ats _ _ _ _ [_] from Ats.part hP1 1 1))) ?_
    refine d_w rfl (fun _ => zAd (o := 0) (i := 0) underlying28 rfl sizeOf3 rfl rfl rfl) rfl ?_
    refine zA3 rfl zAc rfl g8 (fun _ hq => (zAi isAgg3 hq rfl rfl (aow 0 [_]))) ?_
    refine d_w rfl (fun _ => zDk rfl rfl rfl rfl (by omega) (by omega)) rfl (d_w rfl (fun _ => zCh (ps := [(0, _),(1, _)]) (pv := [(0, .int _ _),(1, .int _ _)]) rfl rfl (fun w => Try_QD_fb4 _ _ w)) rfl ?_)
    refine zB0 rfl ?_
    refine zA5 (cs := [_,_]) zAc zeroValue28 rfl g8 (fun me mf gQ => ?_)
    refine zAe (qn ⟨gQ.tail, ?_⟩)
    refine zCa rfl ?_
    refine zBt 0 (.agg #[.int _ _, .int _ _]) [_,_] sizeOf28 gQ (fun mg gR => ?_)
    refine zAe (qn ?_)
    refine zB5 ?_
    refine zAb (jI _ _ (zAf (fun mh gS => ?_)))
    have hP0 := rc_at (i := 3) gR rfl hPl (show e < 7 by omega) rfl
    refine w_drawT (C := fun w => St w0 w _) [9] (.two [(0,0),(1,0),(2,0),(3,0),(4,0),(5,1),(6,1)] 7 8 (.done [(8,2),(9,3)]) (.done [(7,2),(9,3)])) zB7 (by kernel_rfl) gR (fun _ h => h.drew) (fun mi gc => ?_)
    refine zEu ?_
    refine d_w rfl (fun _ => zBi rfl rfl) rfl (d_w rfl (fun _ => zAu rfl rfl) rfl (d_w rfl (fun _ => zBl rfl rfl) rfl (d_w rfl (fun _ => zAd (o := 7) (i := 1) underlying103 rfl sizeOf100 rfl rfl rfl) rfl (d_w rfl (fun _ => zBn underlying100 sizeOf28 rfl rfl rfl rfl (i := _) rfl (by omega)) rfl ?_))))
    refine zA3 rfl zAc rfl gc (fun _ hq => (zAs (vs := [_,_]) isAgg28 sizeOf28 hq rfl rfl hP0)) ?_
    refine zA3 rfl zAc rfl gc (fun _ hq => (zAs (vs := [_,_]) isAgg28 sizeOf28 hq rfl rfl (aow 0 [_,_]))) ?_
    refine zGy rfl rfl ?_ ?_
    ·
     refine zCi zAc call97 rfl rfl rfl rfl (c97 _ _ _ _ gc) (fun mj gT => ?_)
     refine zAe (qn ⟨gT, ?_⟩)
     refine zC8 ?_
     refine zB0 rfl ?_
     refine zA5 (cs := [_,_]) zAc zeroValue28 rfl gT (fun ml mn gU => ?_)
     refine zAe (qn ⟨gU.tail, ?_⟩)
     refine zCa rfl ?_
     refine zBt 0 (.agg #[.int _ _, .int _ _]) [_,_] sizeOf28 gU (fun mo jJ => ?_)
     refine zAe (qn ?_)
     refine zB5 ?_
     refine zAb (gS _ _ (zAf (fun mp jK => (zCc [] [(0,1),(1,0),(2,0),(3,0),(4,0),(5,0),(6,1),(7,0)] zB7 (zBs (by kernel_rfl)) jJ (fun mq gd => ?_)))))
     refine zA3 rfl zAc rfl gd (fun _ hq => (zAs (vs := [_,_]) isAgg28 sizeOf28 hq rfl rfl (aow 0 [_,_]))) ?_
     refine d_w rfl (fun _ => zBi rfl rfl) rfl (d_w rfl (fun _ => zAu rfl rfl) rfl (d_w rfl (fun _ => zBl rfl rfl) rfl (d_w rfl (fun _ => zAd (o := 7) (i := 1) underlying103 rfl sizeOf100 rfl rfl rfl) rfl (d_w rfl (fun _ => zBn underlying100 sizeOf28 rfl rfl rfl rfl (i := _) rfl (by omega)) rfl ?_))))
     refine zA3 rfl zAc rfl gd (fun _ hq => (zAs (vs := [_,_]) isAgg28 sizeOf28 hq.tail rfl rfl hP0)) ?_
     refine d_w rfl (fun _ => y_neFlat (l := [_,_]) (m := [_,_]) eqGuardType28 zDg (by first | omega | rfl | (simp only [hwl, hPl, hql, zL] <;> omega)) (by first | omega | rfl | (simp only [hwl, hPl, hql, zL] <;> omega)) rfl rfl rfl rfl rfl rfl) rfl ?_
     refine zB5 ?_
     refine zAb (jK _ _ (zAv rfl rfl (fun gB => ?_) (fun gB => ?_)))
     ·
      try simp only [zS] at gB
      refine zCc [6] [(0,0),(1,0),(2,1),(3,0),(4,0),(5,0),(6,3)] zB7 (zBs (by kernel_rfl)) gd (fun mr gV => ?_)
      refine d_w rfl (fun _ => zBi rfl rfl) rfl (d_w rfl (fun _ => zAu rfl rfl) rfl ?_)
      refine zA3 rfl zAc rfl gV (fun _ hq => (zAs (vs := [_,_]) isAgg28 sizeOf28 hq rfl rfl (aow 0 [_,_]))) ?_
      refine d_w rfl (fun _ => zBl rfl rfl) rfl (d_w rfl (fun _ => zAd (o := 7) (i := 1) underlying103 rfl sizeOf100 rfl rfl rfl) rfl (d_w rfl (fun _ => zBn underlying100 sizeOf28 rfl rfl rfl rfl (i := _) rfl (by omega)) rfl ?_))
      refine zCa rfl ?_
      refine zD9 (i := 4) (v := .agg #[.int _ _, .int _ _]) (vs := [_,_]) zAc sizeOf28 rfl rfl rfl rfl rfl (by simp [Value.oneCell']) gV rfl (rc_le hPl ⟨by omega, rfl⟩) (fun ms gC => ?_)
      replace gC := (show St _ _ (_ :: _ :: _ :: _ :: (g3, blk 103 (RC r p (backTo r (backN r (pts0 r but) kq) (e + 1)) b8)) :: _ :: _ :: F) from (by have h6 := (show St _ _ (_ :: _ :: _ :: _ :: (g3, blk 103 (setMany (RC r p (backTo r (backN r (pts0 r but) kq) e) b8) (0 + 7 + e * 2) [.int .i64 _, .int .i64 _])) :: _ :: _ :: F) from gC); rw [rc_put hPl (by omega)] at h6; rw [backTo, hbS]; exact h6))
      refine zAe (qn ?_)
      refine zB5 ?_
      refine zAk (zAb (gb _ _ (zAa (w_p (zBe rfl rfl rfl rfl (by omega) (by omega)) rfl (zA2 rfl rfl (zAe (zAb (ga _ _ (nxI (r.ran.length - (e + 1)) (by omega) ?_)))))))))
      have gW := (show St _ _ (_ :: _ :: _ :: _ :: F) from gC.tail.tail.tail)
      first
        | exact ⟨e + 1, rfl, by omega, rfl, gW⟩
        | exact ⟨e + 1, rfl, by omega, rfl, by rw [show backTo r (backN r (pts0 r but) kq) (e + 1) = backTo r (backN r (pts0 r but) kq) e from (by rw [backTo, hbS]; exact (congrArg _ (zGg (by assumption))).trans (zGm hPl (by omega)))]; exact gW⟩
     try simp only [zS] at gB
     refine zAr (zAk (zAb (gb _ _ (zAa (w_p (zBe rfl rfl rfl rfl (by omega) (by omega)) rfl (zA2 rfl rfl (zAe (zAb (ga _ _ (nxI (r.ran.length - (e + 1)) (by omega) ?_))))))))))
     have gX := (show St _ _ (_ :: _ :: _ :: _ :: F) from gd.tail.tail.tail)
     first
       | exact ⟨e + 1, rfl, by omega, rfl, gX⟩
       | exact ⟨e + 1, rfl, by omega, rfl, by rw [show backTo r (backN r (pts0 r but) kq) (e + 1) = backTo r (backN r (pts0 r but) kq) e from (by rw [backTo, hbS]; exact (congrArg _ (zGg (by assumption))).trans (zGm hPl (by omega)))]; exact gX⟩
    refine zA5 (cs := [_,_]) zAc zeroValue28 rfl gc (fun mu mv gY => ?_)
    refine zAe (qn ⟨gY.tail, ?_⟩)
    refine zC8 ?_
    refine zB0 rfl ?_
    refine zCi zAc call97 rfl rfl rfl rfl (c97 _ _ _ _ gY) (fun mw gZ => ?_)
    refine zAe (qn ⟨gZ.tail, ?_⟩)
    refine zCa rfl ?_
    refine zBt 0 (.agg #[.int _ _, .int _ _]) [_,_] sizeOf28 gZ (fun mx jL => ?_)
    refine zAe (qn ?_)
    refine zB5 ?_
    refine zAb (gS _ _ (zAf (fun my jM => (zCc [] [(0,1),(1,0),(2,0),(3,0),(4,0),(5,0),(6,1),(7,0)] zB7 (zBs (by kernel_rfl)) jL (fun mz ge => ?_)))))
    refine zA3 rfl zAc rfl ge (fun _ hq => (zAs (vs := [_,_]) isAgg28 sizeOf28 hq rfl rfl (aow 0 [_,_]))) ?_
    refine d_w rfl (fun _ => zBi rfl rfl) rfl (d_w rfl (fun _ => zAu rfl rfl) rfl (d_w rfl (fun _ => zBl rfl rfl) rfl (d_w rfl (fun _ => zAd (o := 7) (i := 1) underlying103 rfl sizeOf100 rfl rfl rfl) rfl (d_w rfl (fun _ => zBn underlying100 sizeOf28 rfl rfl rfl rfl (i := _) rfl (by omega)) rfl ?_))))
    refine zA3 rfl zAc rfl ge (fun _ hq => (zAs (vs := [_,_]) isAgg28 sizeOf28 hq.tail rfl rfl hP0)) ?_
    refine d_w rfl (fun _ => y_neFlat (l := [_,_]) (m := [_,_]) eqGuardType28 zDg (by first | omega | rfl | (simp only [hwl, hPl, hql, zL] <;> omega)) (by first | omega | rfl | (simp only [hwl, hPl, hql, zL] <;> omega)) rfl rfl rfl rfl rfl rfl) rfl ?_
    refine zB5 ?_
    refine zAb (jM _ _ (zAv rfl rfl (fun gD => ?_) (fun gD => ?_)))
    ·
     try simp only [zS] at gD
     refine zCc [6] [(0,0),(1,0),(2,1),(3,0),(4,0),(5,0),(6,3)] zB7 (zBs (by kernel_rfl)) ge (fun mA hG => ?_)
     refine d_w rfl (fun _ => zBi rfl rfl) rfl (d_w rfl (fun _ => zAu rfl rfl) rfl ?_)
     refine zA3 rfl zAc rfl hG (fun _ hq => (zAs (vs := [_,_]) isAgg28 sizeOf28 hq rfl rfl (aow 0 [_,_]))) ?_
     refine d_w rfl (fun _ => zBl rfl rfl) rfl (d_w rfl (fun _ => zAd (o := 7) (i := 1) underlying103 rfl sizeOf100 rfl rfl rfl) rfl (d_w rfl (fun _ => zBn underlying100 sizeOf28 rfl rfl rfl rfl (i := _) rfl (by omega)) rfl ?_))
     refine zCa rfl ?_
     refine zD9 (i := 4) (v := .agg #[.int _ _, .int _ _]) (vs := [_,_]) zAc sizeOf28 rfl rfl rfl rfl rfl (by simp [Value.oneCell']) hG rfl (rc_le hPl ⟨by omega, rfl⟩) (fun mB gE => ?_)
     replace gE := (show St _ _ (_ :: _ :: _ :: _ :: (g3, blk 103 (RC r p (backTo r (backN r (pts0 r but) kq) (e + 1)) b8)) :: _ :: _ :: F) from (by have h6 := (show St _ _ (_ :: _ :: _ :: _ :: (g3, blk 103 (setMany (RC r p (backTo r (backN r (pts0 r but) kq) e) b8) (0 + 7 + e * 2) [.int .i64 _, .int .i64 _])) :: _ :: _ :: F) from gE); rw [rc_put hPl (by omega)] at h6; rw [backTo, hbS]; exact h6))
     refine zAe (qn ?_)
     refine zB5 ?_
     refine zAk (zAb (gb _ _ (zAa (w_p (zBe rfl rfl rfl rfl (by omega) (by omega)) rfl (zA2 rfl rfl (zAe (zAb (ga _ _ (nxI (r.ran.length - (e + 1)) (by omega) ?_)))))))))
     have hH := (show St _ _ (_ :: _ :: _ :: _ :: F) from gE.tail.tail.tail)
     first
       | exact ⟨e + 1, rfl, by omega, rfl, hH⟩
       | exact ⟨e + 1, rfl, by omega, rfl, by rw [show backTo r (backN r (pts0 r but) kq) (e + 1) = backTo r (backN r (pts0 r but) kq) e from (by rw [backTo, hbS]; exact (congrArg _ (zGg (by assumption))).trans (zGm hPl (by omega)))]; exact hH⟩
    try simp only [zS] at gD
    refine zAr (zAk (zAb (gb _ _ (zAa (w_p (zBe rfl rfl rfl rfl (by omega) (by omega)) rfl (zA2 rfl rfl (zAe (zAb (ga _ _ (nxI (r.ran.length - (e + 1)) (by omega) ?_))))))))))
    have hO := (show St _ _ (_ :: _ :: _ :: _ :: F) from ge.tail.tail.tail)
    first
      | exact ⟨e + 1, rfl, by omega, rfl, hO⟩
      | exact ⟨e + 1, rfl, by omega, rfl, by rw [show backTo r (backN r (pts0 r but) kq) (e + 1) = backTo r (backN r (pts0 r but) kq) e from (by rw [backTo, hbS]; exact (congrArg _ (zGg (by assumption))).trans (zGm hPl (by omega)))]; exact hO⟩
   try simp only [zS] at gA
   refine zBr (zAj (zAj (zAy (zAk (zAb (jA _ _ (zAf (fun mC jN => ?_))))))))
   have hen : e = r.ran.length := by omega
   subst hen
   refine zAa (w_p (zC2 (i := 0) isAgg100 sizeOf100 (by first | omega | rfl | (simp only [hwl, hPl, hql, zL] <;> omega)) hs rfl rfl rfl) rfl ?_)
   refine zAe (zAb (jN _ _ (zAa (zA5 (cs := iv [0,0,0,0,0,0,0,0,0,0,0,0,0,0]) zAc zeroValue100 rfl hs (fun mD mE jO => ?_)))))
   refine zDu (i := 0) (l := _) zAc sizeOf100 (by first | omega | rfl | (simp only [hwl, hPl, hql, zL] <;> omega)) rfl rfl rfl rfl rfl jO rfl (by first | omega | rfl | (simp only [hwl, hPl, hql, zL] <;> omega)) (fun mF jP => ?_)
   refine zAe (zAb (jx _ _ (nxI (r.ran.length + 2 - (kq + 1)) (by omega) ?_)))
   have jQ := (show St _ _ (_ :: _ :: _ :: _ :: F) from St.pk [[_], [_], [_], [_], [_]] [0,2,3,4] jP)
   exact ⟨kq + 1, _,_, rfl, by omega, by omega, zDo r (show (pts0 r but).length = 14 from zDv _ _ _) kq, .inr ⟨kq, rfl, rfl, hgo.2⟩, jQ⟩
  try simp only [zS] at gz
  refine zBr (zAj (zAj (zAy (zAb (jt _ _ (zAf (fun mG jR => (zAa (w_p (zBi rfl rfl) rfl (w_p (zBu rfl rfl) rfl ?_))))))))))
  refine zA9 rfl rfl (zAe (zAb (jR _ _ (zA0 (zA1 (l := [.tmp 4, .tmp 5]) (vs := [_,_]) rfl ⟨⟨rfl, show _ = (.pointer _ : Value) from rfl⟩, ⟨rfl, (rfl : _ = Value.bool _)⟩, trivial⟩ ?_)))))
  have jS := (show St _ _ (_ :: _ :: _ :: F) from g5.tail)
  exact .inr ⟨hlb, _,_, rfl, (by have h7 := jS; rw [pts_end (by omega) hka hww (by assumption)] at h7; exact St.pk [[_], [_], [_]] [0,1] h7)⟩

end Go.Proofs.Ro
set_option maxRecDepth 20000
namespace Go.Proofs.Ro
open Go.Proofs.Tryz
open Go.Rt Go.Rt.Ro
open Go.Rt.Ha (bit listL)
attribute [local irreducible] WL WC Con Yd At Ats Sl Agree DW
theorem Try_QE_fb2 (x0 : Int) (w : World) : (Instr.buildSlice 30 1 [(0, .int .i64 x0)].toArray).run Tryz.prog w = .ok (.slice (some ⟨w.heap.size, 0, none⟩) 1 1) (w.alloc (Go.Rt.blk 3 [.int .i64 x0])) := by kernel_rfl
theorem Try_QE_fb3 (x0 : Int) (x1 : Int) (x2 : Int) (w : World) : (Instr.buildSlice 30 3 [(0, .int .i64 x0),(1, .int .i64 x1),(2, .int .i64 x2)].toArray).run Tryz.prog w = .ok (.slice (some ⟨w.heap.size, 0, none⟩) 3 3) (w.alloc (Go.Rt.blk 3 [.int .i64 x0, .int .i64 x1, .int .i64 x2])) := by kernel_rfl
theorem c43 {w0 w : World} {F : List (Nat × Obj)} (r : Room) (p : AtR) (rb : Nat) (hrb : Ats w0 F rb 0 (r.cells p))  (hs : St w0 w F) :
  Con Tryz.prog 43 [.pointer (some ⟨rb, 0, none⟩)] w fun v w' => v = .int .i64 (r.ran.length : Int) ∧ St w0 w' F := by
  refine zAo (n := 9) func43 rfl rfl (zNl rfl) ?_
  refine zAf (fun K2 g3 => (zAa (zA9 rfl rfl (zAe (zAb (g3 _ _ (zAf (fun K4 g4 => (zAa (w_p (zBi rfl rfl) rfl (w_p (zBl rfl rfl) rfl ?_)))))))))))
  refine w_p (zAd (o := 0) (i := 0) underlying103 rfl sizeOf33 rfl rfl rfl) rfl (w_p (zAd (o := 5) (i := 4) underlying33 rfl sizeOf30 rfl rfl rfl) rfl (w_p (zAi isAgg30 hs rfl rfl (show Ats _ _ _ _ [_] from Ats.part hrb 5 1)) rfl (w_p (zBd underlying30 rfl rfl) rfl ?_)))
  refine zBg rfl rfl (zAe (zAb (g4 _ _ (zA0 (zA1 (l := [.tmp 2]) (vs := [_]) rfl ⟨⟨rfl, (rfl : _ = Value.int _ _)⟩, trivial⟩ ?_)))))
  exact ⟨rfl, hs⟩

theorem c44 {w0 w : World} {F : List (Nat × Obj)} (r : Room) (p : AtR) (hm : RIn w0 F r p) (hr : r.Ok) (rb : Nat) (hrb : Ats w0 F rb 0 (r.cells p))  (hs : St w0 w F) :
  Con Tryz.prog 44 [.pointer (some ⟨rb, 0, none⟩)] w fun v w' => v = .int .i64 (beforeR r) ∧ St w0 w' F := by
  refine zAo (n := 16) func44 rfl rfl (zNl rfl) ?_
  have hdy := hr.days
  have hlr := hr.lr
  have hll := hr.ll
  have hn6 : r.ran.length ≤ 6 := by omega
  have hls := hr.ls
  have hst := hr.start
  refine zAf (fun K2 g7 => (zAa (zA9 rfl rfl (zAe (zAb (g7 _ _ (zAf (fun K4 g8 => (zAf (fun K6 g9 => (zAa (w_p (zBi rfl rfl) rfl ?_))))))))))))
  refine zCi zAc call43 rfl rfl rfl rfl (c43 r p rb hrb hs) (fun w8 g4 => ?_)
  refine w_p (zCk rfl rfl rfl rfl) rfl (zAe (zAb (g9 _ _ (zAv rfl rfl (fun g5 => ?_) (fun g5 => ?_)))))
  ·
   try simp only [zS] at g5
   refine zAf (fun gc ga => (zAa (zA9 rfl rfl (zAe (zAb (ga _ _ (zA0 (zAh (zA1 (l := [.tmp 2]) (vs := [_]) rfl ⟨⟨rfl, (rfl : _ = Value.int _ _)⟩, trivial⟩ ?_)))))))))
   first
     | exact ⟨by unfold beforeR; rw [if_pos (by omega)]; rfl, g4⟩
     | exact ⟨by unfold beforeR; rw [if_neg (by omega), ran_at hz]; rfl, g4⟩
  try simp only [zS] at g5
  refine zAr (zAb (g8 _ _ (zAf (fun gd gb => ?_))))
  have hz : r.ran.length - 1 < r.ran.length := by omega
  obtain ⟨bn, on, hbn, hn⟩ := zCy hm.n hz
  refine zCc [] [(0,0),(1,0),(2,0),(3,0),(4,1),(5,0),(6,2),(7,0),(8,0),(9,1),(10,0)] zB7 (zBs (by kernel_rfl)) g4 (fun ge g6 => ?_)
  refine d_w rfl (fun _ => zBi rfl rfl) rfl (d_w rfl (fun _ => zBl rfl rfl) rfl (d_w rfl (fun _ => zAd (o := 0) (i := 0) underlying103 rfl sizeOf33 rfl rfl rfl) rfl (d_w rfl (fun _ => zAd (o := 5) (i := 4) underlying33 rfl sizeOf30 rfl rfl rfl) rfl ?_)))
  refine zA3 rfl zAc rfl g6 (fun _ hq => (zCq hbn (zAi isAgg30 hq rfl rfl (show Ats _ _ _ _ [_] from Ats.part hrb 5 1)))) ?_
  refine d_w rfl (fun _ => zBi rfl rfl) rfl ?_
  refine zB0 rfl ?_
  refine zCi zAc call43 rfl rfl rfl rfl (c43 r p rb hrb g6) (fun gf g3 => ?_)
  refine zAe (qn ⟨g3, ?_⟩)
  refine d_w rfl (fun _ => zCt (z' := ((r.ran.length - 1 : Nat) : Int)) (by omega) (zDk rfl rfl rfl rfl (by omega) (by omega))) rfl (d_w rfl (fun _ => zA7 underlying30 sizeOf3 rfl rfl rfl rfl (i := r.ran.length - 1) rfl hz) rfl ?_)
  refine zA3 rfl zAc rfl g3 (fun _ hq => (zAi isAgg3 hq rfl rfl hn)) ?_
  refine d_w rfl (fun _ => zC3 rfl rfl) rfl ?_
  refine zB5 ?_
  refine zAb (gb _ _ (zA0 (zA1 (l := [.tmp 2]) (vs := [_]) rfl ⟨⟨rfl, (rfl : _ = Value.int _ _)⟩, trivial⟩ ?_)))
  first
    | exact ⟨by unfold beforeR; rw [if_pos (by omega)]; rfl, g3⟩
    | exact ⟨by unfold beforeR; rw [if_neg (by omega), ran_at hz]; rfl, g3⟩

theorem c73 {w0 w : World} {F : List (Nat × Obj)} (b1 : Nat) (a : Option Addr) (c : Nat) (l : List Int) (hq : ∀ q, 3 * q + 2 < l.length → l.getD (3 * q + 1) 0 ≤ l.getD (3 * q) 0 ∧ l.getD (3 * q) 0 ≤ l.getD (3 * q + 2) 0) (hl : l.length ≤ 1000) (h1 : Ats w0 F b1 0 [.slice a l.length c]) (ha : Sl w0 F a 1 (l.map fun x => [Value.int .i64 x])) (hs : St w0 w F) :
  Con Tryz.prog 73 [.pointer (some ⟨b1,0, none⟩)] w fun v w' => v = .int .i64 0 ∧ St w0 w' F := by
  refine zAo (n := 26) func73 rfl rfl (zNl rfl) ?_
  refine zAf (fun K2 g8 => (zAa (zA9 rfl rfl (zAe (zAb (g8 _ _ (zAf (fun K4 g9 => (zAf (fun K6 ga => (zAa (zA9 rfl rfl (zAe (zAb (ga _ _ (zAw ?_))))))))))))))))
  refine zB2 [1,2,3,4,5,6,7,8,9,10,11,12,13,14,15,16,17,18,19,20,21,22,23,24,25] [2] (fun kk vs w => ∃ q : Nat, vs = [.int .i64 ((3 * q : Nat) : Int)] ∧ 3 * q ≤ l.length + 2 ∧ kk = l.length + 3 - 3 * q ∧ St w0 w F) (l.length + 3) ?_ ?_
  ·
   exact ⟨0, rfl, by omega, by omega, hs⟩
  intro k vs μ w9 hI K8 gb
  clear hs
  obtain ⟨q, rfl, hqa, rfl, hs⟩ := hI
  refine zAf (fun gh gc => (zAf (fun gi gd => (zAa (zA2 rfl rfl (w_p (zBe rfl rfl rfl rfl (by omega) (by omega)) rfl (w_p (zAi isAgg30 hs rfl rfl h1) rfl (w_p (zBd underlying30 rfl rfl) rfl ?_))))))))
  refine w_p (zCb rfl rfl rfl rfl) rfl (zAe (zAb (gd _ _ (zAv rfl rfl (fun g5 => ?_) (fun g5 => ?_)))))
  ·
   try simp only [zS] at g5
   refine zAr (zAb (gc _ _ (zAf (fun gj ge => (zAw ?_)))))
   refine zAf (fun gk gf => ?_)
   have hi1 : 3 * q + 2 < l.length := by omega
   have hqq := hq q hi1
   obtain ⟨bx, ox, rfl, hx⟩ := zCy ha (show 3 * q < l.length by omega)
   obtain ⟨by_, oy, hby, hy⟩ := zCy ha (show 3 * q + 1 < l.length by omega)
   cases hby
   obtain ⟨bz, oz, hbz, hz⟩ := zCy ha hi1
   cases hbz
   simp only [List.getD, List.getElem?_eq_getElem (show 3 * q < l.length by omega), List.getElem?_eq_getElem (show 3 * q + 1 < l.length by omega), List.getElem?_eq_getElem hi1, Option.getD_some] at hqq
   refine zCc [] [(0,1),(1,0),(2,0),(3,0),(4,1),(5,1),(6,0),(7,0),(8,0),(9,1),(10,1),(11,0),(12,0),(13,1),(14,2),(15,2)] zB7 (zBs (by kernel_rfl)) hs (fun gm g3 => ?_)
   refine zA3 rfl zAc rfl g3 (fun _ hq => (zAi isAgg30 hq rfl rfl h1)) ?_
   refine d_w rfl (fun _ => zAu rfl rfl) rfl (d_w rfl (fun _ => zCt (z' := ((3 * q + 1 : Nat) : Int)) (by omega) (zBe rfl rfl rfl rfl (by omega) (by omega))) rfl (d_w rfl (fun _ => zA7 underlying30 sizeOf3 rfl rfl rfl rfl (i := 3 * q + 1) rfl (by omega)) rfl ?_))
   refine zA3 rfl zAc rfl g3 (fun _ hq => (zAi isAgg3 hq rfl rfl hy)) ?_
   refine zA3 rfl zAc rfl g3 (fun _ hq => (zAi isAgg30 hq rfl rfl h1)) ?_
   refine d_w rfl (fun _ => zAu rfl rfl) rfl (d_w rfl (fun _ => zCt (z' := ((3 * q + 2 : Nat) : Int)) (by omega) (zBe rfl rfl rfl rfl (by omega) (by omega))) rfl (d_w rfl (fun _ => zA7 underlying30 sizeOf3 rfl rfl rfl rfl (i := 3 * q + 2) rfl hi1) rfl ?_))
   refine zA3 rfl zAc rfl g3 (fun _ hq => (zAi isAgg3 hq rfl rfl hz)) ?_
   refine zA3 rfl zAc rfl g3 (fun _ hq => (zAi isAgg30 hq rfl rfl h1)) ?_
   refine d_w rfl (fun _ => zAu rfl rfl) rfl (d_w rfl (fun _ => zA7 underlying30 sizeOf3 rfl rfl rfl rfl (i := 3 * q) rfl (by omega)) rfl ?_)
   refine zA3 rfl zAc rfl g3 (fun _ hq => (zAi isAgg3 hq rfl rfl hx)) ?_
   refine zB0 rfl ?_
   refine zBc (ps := [(0, _)]) (pv := [(0, .int _ _)]) (cs := [_]) zAc rfl rfl (fun w => Try_QE_fb2 _ w) g3 (fun gn gq g6 => ?_)
   refine zAe (qn ⟨g6.tail, ?_⟩)
   refine zB0 rfl ?_
   refine zCi zAc call51 rfl rfl rfl rfl (c51 _ _ _ [_] _ (by simp) (zBx (i := 0) (rows := [[_]]) rfl (by simp) rfl) g6) (fun gr g7 => ?_)
   refine zAe (qn ⟨g7.tail, ?_⟩)
   refine zB5 ?_
   refine zAb (gf _ _ (zAv rfl rfl (fun g4 => ?_) (fun g4 => ?_)))
   ·
    exfalso
    try simp only [zS] at g4
    simp [out] at g4; omega
   try simp only [zS] at g4
   refine zAr (zAk (zAb (ge _ _ (zAa (zA2 rfl rfl (w_p (zCt (z' := ((3 * (q + 1) : Nat) : Int)) (by omega) (zBe rfl rfl rfl rfl (by omega) (by omega))) rfl ?_))))))
   refine zBg rfl rfl (zAe (zAb (gb _ _ (nxI (l.length + 3 - 3 * (q + 1)) (by omega) ?_))))
   exact ⟨q + 1, rfl, by omega, rfl, g7.tail⟩
  try simp only [zS] at g5
  refine zBr (zAj (zAj (zAy (zAb (g9 _ _ (zAf (fun gt gg => (zAa (zA9 rfl rfl (zAe (zAb (gg _ _ (zA0 (zA1 (l := [.tmp 1]) (vs := [_]) rfl ⟨⟨rfl, (rfl : _ = Value.int _ _)⟩, trivial⟩ ?_))))))))))))))
  exact ⟨rfl, hs⟩

theorem c41 {w0 w : World} {F : List (Nat × Obj)} (a : Option Addr) (n c : Nat) (hs : St w0 w F) :
  Con Tryz.prog 41 [.slice a n c] w fun v w' => ∃ b, v = .func (.func 73) #[] #[.pointer (some ⟨b, 0, none⟩)] ∧ St w0 w' ((b, blk 30 [.slice a n c]) :: F) := by
  refine zAo (n := 4) func41 rfl rfl (zNl rfl) ?_
  refine zAf (fun K2 g3 => (zAa (zCd (v := .slice _ _ _) (cs := [_]) zAc rfl rfl rfl hs (fun b3 w4 g4 => ?_))))
  refine zA9 rfl rfl (zAe (zAb (g3 _ _ (zAf (fun K7 g5 => (zAa (w_p (zCl (fv := []) (cv := [_]) rfl rfl rfl rfl) rfl (w_p (zB9 (v := .func _ _ _) rfl rfl) rfl ?_))))))))
  refine zAe (zAb (g5 _ _ (zA0 (zA1 (l := [.tmp 2]) (vs := [_]) rfl ⟨⟨rfl, show _ = (.func _ _ _ : Value) from rfl⟩, trivial⟩ ?_))))
  exact ⟨_, rfl, g4⟩

theorem c40y {w0 w : World} {F : List (Nat × Obj)} (r : Room) (p : AtR) (hm : RIn w0 F r p) (hr : r.Ok) (fv : Value) (hfv : ∀ (X : List (Nat × Obj)) (w : World), St w0 w (X ++ F) → FCon Tryz.prog fv [] w fun v w' => v = .int .i64 0 ∧ St w0 w' (X ++ F)) (hlb : lookB r 0 = true)  (hs : St w0 w F) :
  Con Tryz.prog 40 [.agg (r.cells p).toArray, fv] w fun v w' => ∃ rb mm, v = .tuple #[.pointer (some ⟨rb, 0, none⟩), .int .i64 0] ∧ St w0 w' ((rb, blk 103 (RC r p (pts r 0) mm)) :: (mm, .map #[] 0) :: F) := by
  refine zAo (n := 34) func40 rfl rfl (zNl rfl) ?_
  have hdy := hr.days
  have hlr := hr.lr
  have hll := hr.ll
  have hn6 : r.ran.length ≤ 6 := by omega
  have hls := hr.ls
  have hst := hr.start
  refine zAf (fun K2 g7 => (zAa (zCd (v := .agg #[.int _ _, .int _ _, .int _ _, .slice _ _ _, .int _ _, .slice _ _ _, .slice _ _ _]) (cs := [_,_,_,_,_,_,_]) zAc rfl rfl rfl hs (fun b3 w4 g5 => ?_))))
  refine zA9 rfl rfl (zA9 rfl rfl (zAe (zAb (g7 _ _ (zAf (fun K7 g8 => (zAf (fun K9 g9 => (zAa (w_p (zAs (vs := [_,_,_,_,_,_,_]) isAgg33 sizeOf33 g5 rfl rfl (aow 0 [_,_,_,_,_,_,_])) rfl ?_))))))))))
  refine zCi zAc call62 rfl rfl rfl rfl (c62 r p hm.cons hr g5) (fun gk ga => ?_)
  refine w_p (zA6 rfl rfl) rfl (w_p (zAq rfl rfl rfl) rfl (w_p (zAq rfl rfl rfl) rfl (w_p (zAq rfl rfl rfl) rfl (zBg rfl rfl (zBg rfl rfl (zBg rfl rfl (zAe (zAb (g9 _ _ (zAf (fun gm gb => (zAa (zA2 rfl rfl ?_)))))))))))))
  refine w_p (zCj rfl rfl rfl rfl) rfl (zAe (zAb (gb _ _ (zBj rfl rfl ?_))))
  refine zAr (zAb (g8 _ _ (zAf (fun gn gc => (zAf (fun gq gd => (zAa (w_p (zBo (v := fv) rfl rfl) rfl (zEa zAc rfl rfl rfl rfl (hfv [_] _ ga) ?_)))))))))
  rintro _ gr ⟨rfl, g6⟩
  refine zBg rfl rfl (zAe (zAb (gd _ _ (zAf (fun gt ge => (zAa (zA2 rfl rfl (w_p (zCj rfl rfl rfl rfl) rfl (zAe (zAb (ge _ _ (zBj rfl rfl ?_))))))))))))
  refine zAr (zAb (gc _ _ (zAf (fun gu gf => (zAa (w_p (zAs (vs := [_,_,_,_,_,_,_]) isAgg33 sizeOf33 g6 rfl rfl (aow 0 [_,_,_,_,_,_,_])) rfl ?_))))))
  refine zA4 zAc call63 rfl rfl rfl rfl ((c63 r p hm.cons hr 0 (by omega) g6).mono (fun v w' h => (h.resolve_left (fun x => by rw [hlb] at x; cases x.1)).2)) ?_
  rintro _ gw ⟨rb, mm, rfl, g3⟩
  replace g3 := (show St _ _ (_ :: _ :: _ :: F) from g3)
  refine w_p (zA6 rfl rfl) rfl (w_p (zBy rfl rfl rfl) rfl (w_p (zBf rfl rfl rfl) rfl (w_p (zBu rfl rfl) rfl (w_p (zAl rfl rfl) rfl (zAe (zAb (gf _ _ (zAf (fun gx gg => (zAf (fun gy gh => (zAa (w_p (zAn rfl rfl) rfl ?_)))))))))))))
  refine w_p (zC0 rfl rfl) rfl (zAe (zAb (gh _ _ (zAv rfl rfl (fun g4 => ?_) (fun g4 => ?_)))))
  ·
   exfalso; simp at g4
  try simp only [zS] at g4
  refine zAr (zAb (gg _ _ (zAf (fun gz gi => (zAa (w_p (zBi rfl rfl) rfl (w_p (zBu rfl rfl) rfl (zA9 rfl rfl (zAe (zAb (gi _ _ (zA0 (zA1 (l := [.tmp 4, .tmp 5]) (vs := [_,_]) rfl ⟨⟨rfl, show _ = (.pointer _ : Value) from rfl⟩, ⟨rfl, (rfl : _ = Value.int _ _)⟩, trivial⟩ ?_)))))))))))))
  have gj := (show St _ _ (_ :: _ :: F) from St.pk [[_], [_], [_]] [0,1] g3)
  exact ⟨rb, mm, rfl, gj⟩

theorem c40z {w0 w : World} {F : List (Nat × Obj)} (r : Room) (p : AtR) (hm : RIn w0 F r p) (hr : r.Ok) (fv : Value) (hfv : ∀ (X : List (Nat × Obj)) (w : World), St w0 w (X ++ F) → FCon Tryz.prog fv [] w fun v w' => v = .int .i64 0 ∧ St w0 w' (X ++ F)) (hlb : lookB r 0 = false)  (hs : St w0 w F) :
  Con Tryz.prog 40 [.agg (r.cells p).toArray, fv] w fun v w' => v = .tuple #[.pointer none, .int .i64 8] ∧ St w0 w' F := by
  refine zAo (n := 34) func40 rfl rfl (zNl rfl) ?_
  have hdy := hr.days
  have hlr := hr.lr
  have hll := hr.ll
  have hn6 : r.ran.length ≤ 6 := by omega
  have hls := hr.ls
  have hst := hr.start
  refine zAf (fun K2 g6 => (zAa (zCd (v := .agg #[.int _ _, .int _ _, .int _ _, .slice _ _ _, .int _ _, .slice _ _ _, .slice _ _ _]) (cs := [_,_,_,_,_,_,_]) zAc rfl rfl rfl hs (fun b3 w4 g4 => ?_))))
  refine zA9 rfl rfl (zA9 rfl rfl (zAe (zAb (g6 _ _ (zAf (fun K7 g7 => (zAf (fun K9 g8 => (zAa (w_p (zAs (vs := [_,_,_,_,_,_,_]) isAgg33 sizeOf33 g4 rfl rfl (aow 0 [_,_,_,_,_,_,_])) rfl ?_))))))))))
  refine zCi zAc call62 rfl rfl rfl rfl (c62 r p hm.cons hr g4) (fun gi g9 => ?_)
  refine w_p (zA6 rfl rfl) rfl (w_p (zAq rfl rfl rfl) rfl (w_p (zAq rfl rfl rfl) rfl (w_p (zAq rfl rfl rfl) rfl (zBg rfl rfl (zBg rfl rfl (zBg rfl rfl (zAe (zAb (g8 _ _ (zAf (fun gj ga => (zAa (zA2 rfl rfl ?_)))))))))))))
  refine w_p (zCj rfl rfl rfl rfl) rfl (zAe (zAb (ga _ _ (zBj rfl rfl ?_))))
  refine zAr (zAb (g7 _ _ (zAf (fun gk gb => (zAf (fun gm gc => (zAa (w_p (zBo (v := fv) rfl rfl) rfl (zEa zAc rfl rfl rfl rfl (hfv [_] _ g9) ?_)))))))))
  rintro _ gn ⟨rfl, g5⟩
  refine zBg rfl rfl (zAe (zAb (gc _ _ (zAf (fun gq gd => (zAa (zA2 rfl rfl (w_p (zCj rfl rfl rfl rfl) rfl (zAe (zAb (gd _ _ (zBj rfl rfl ?_))))))))))))
  refine zAr (zAb (gb _ _ (zAf (fun gr ge => (zAa (w_p (zAs (vs := [_,_,_,_,_,_,_]) isAgg33 sizeOf33 g5 rfl rfl (aow 0 [_,_,_,_,_,_,_])) rfl ?_))))))
  refine zA4 zAc call63 rfl rfl rfl rfl ((c63 r p hm.cons hr 0 (by omega) g5).mono (fun v w' h => (h.resolve_right (fun x => by rw [hlb] at x; cases x.1)).2)) ?_
  rintro _ gt ⟨⟨x, rfl⟩, gf⟩
  refine w_p (zA6 rfl rfl) rfl (w_p (zBy rfl rfl rfl) rfl (w_p (zBf rfl rfl rfl) rfl (w_p (zBu rfl rfl) rfl (w_p (zAl rfl rfl) rfl (zAe (zAb (ge _ _ (zAf (fun gu gw => (zAf (fun gx gg => (zAa (w_p (zAn rfl rfl) rfl ?_)))))))))))))
  refine w_p (zC0 rfl rfl) rfl (zAe (zAb (gg _ _ (zAv rfl rfl (fun g3 => ?_) (fun g3 => ?_)))))
  ·
   try simp only [zS] at g3
   refine zAf (fun gy gh => (zAa (zA9 rfl rfl (zA9 rfl rfl (zAe (zAb (gh _ _ (zA0 (zAh (zA1 (l := [.tmp 4, .tmp 5]) (vs := [_,_]) rfl ⟨⟨rfl, show _ = (.pointer _ : Value) from rfl⟩, ⟨rfl, (rfl : _ = Value.int _ _)⟩, trivial⟩ ?_))))))))))
   exact ⟨rfl, gf.tail⟩
  exfalso; simp at g3

theorem c26 {w0 w : World} {F : List (Nat × Obj)} (r : Room) (p : AtR) (hm : RIn w0 F r p) (hr : r.Ok) (hlb : lookB r 0 = true) (day : Nat) (hd : day ≤ r.ran.length) (hs : St w0 w F) :
  Con Tryz.prog 26 [.agg (r.cells p).toArray, .int .i64 (day : Int)] w fun v w' => v = .tuple #[.agg #[.int .i64 (at2 (pts r 0) day).1, .int .i64 (at2 (pts r 0) day).2], .int .i64 0] ∧ St w0 w' F := by
  refine zAo (n := 29) func26 rfl rfl (zNl rfl) ?_
  have hdy := hr.days
  have hlr := hr.lr
  have hll := hr.ll
  have hn6 : r.ran.length ≤ 6 := by omega
  have hls := hr.ls
  have hst := hr.start
  refine zAf (fun K2 g8 => (zAa (zCd (v := .agg #[.int _ _, .int _ _, .int _ _, .slice _ _ _, .int _ _, .slice _ _ _, .slice _ _ _]) (cs := [_,_,_,_,_,_,_]) zAc rfl rfl rfl hs (fun b3 w4 g9 => ?_))))
  refine zA5 (cs := [_,_]) zAc zeroValue28 rfl g9 (fun b6 w7 ga => ?_)
  refine zA9 rfl rfl (zAe (zAb (g8 _ _ (zAf (fun gf gb => (zCc [] [(0,1),(1,0),(2,0),(3,1),(4,0),(5,2),(6,2),(7,2),(8,0),(9,0),(10,0),(11,0),(12,0)] zB7 (zBs (by kernel_rfl)) ga (fun gg g5 => ?_)))))))
  refine zA3 rfl zAc rfl g5 (fun _ hq => (zAs (vs := [_,_,_,_,_,_,_]) isAgg33 sizeOf33 hq rfl rfl (aow 1 [_,_,_,_,_,_,_]))) ?_
  refine d_w rfl (fun _ => zAu rfl rfl) rfl (d_w rfl (fun _ => zAd (o := 5) (i := 4) underlying33 rfl sizeOf30 rfl rfl rfl) rfl ?_)
  refine zA3 rfl zAc rfl g5 (fun _ hq => (zAi isAgg30 hq rfl rfl (aow 1 [_]))) ?_
  refine d_w rfl (fun _ => zBd underlying30 rfl rfl) rfl ?_
  refine zB0 rfl ?_
  refine zBc (ps := [(0, _),(1, _),(2, _)]) (pv := [(0, .int _ _),(1, .int _ _),(2, .int _ _)]) (cs := [_,_,_]) zAc rfl rfl (fun w => Try_QE_fb3 _ _ _ w) g5 (fun gh gi g6 => ?_)
  refine zAe (qn ⟨g6.tail, ?_⟩)
  refine zB0 rfl ?_
  refine zA4 zAc call41 rfl rfl rfl rfl (c41 _ _ _ g6) ?_
  rintro _ gj ⟨bwi, rfl, g4⟩
  replace g4 := (show St _ _ (_ :: _ :: _ :: _ :: F) from g4)
  refine zAe (qn ⟨g4.tail.tail, ?_⟩)
  refine zB0 rfl ?_
  refine zA4 zAc call40 rfl rfl rfl rfl (c40y r p hm.cons.cons.cons.cons hr (.func (.func 73) #[] #[.pointer (some ⟨bwi, 0, none⟩)]) (fun X w hs => zDs call73 (c73 bwi _ _ [_,_,_] (fun q hq => by have : q = 0 := (by simp at hq; omega); subst this; show (0 : Int) ≤ (day : Int) ∧ (day : Int) ≤ (r.ran.length : Int); omega) (by simp) (Ats.app (aow 0 [_])) (Sl.app (zBx (i := 1) (rows := [[_], [_], [_]]) rfl (by simp) rfl)) hs)) hlb g4) ?_
  rintro _ gk ⟨rb, mm, rfl, g3⟩
  replace g3 := (show St _ _ (_ :: _ :: _ :: _ :: _ :: _ :: F) from g3)
  refine zAe (qn ⟨g3.tail.tail.tail.tail, ?_⟩)
  refine d_w rfl (fun _ => zA6 rfl rfl) rfl (d_w rfl (fun _ => zBy rfl rfl rfl) rfl (d_w rfl (fun _ => zAq rfl rfl rfl) rfl (d_w rfl (fun _ => zBu rfl rfl) rfl (d_w rfl (fun _ => zC3 rfl rfl) rfl ?_))))
  refine zB5 ?_
  refine zAb (gb _ _ (zAf (fun gm gc => (zAf (fun gn gd => (zAa (zA2 rfl rfl (w_p (zCj rfl rfl rfl rfl) rfl (zAe (zAb (gd _ _ (zBj rfl rfl ?_))))))))))))
  refine zAr (zAb (gc _ _ (zAf (fun gq ge => ?_))))
  have hPd := rc_at (i := 0) g3 rfl (zHa 0) (show day < 7 by omega) rfl
  refine zAa (w_p (zBi rfl rfl) rfl (zA2 rfl rfl (w_p (zBl rfl rfl) rfl (w_p (zAd (o := 7) (i := 1) underlying103 rfl sizeOf100 rfl rfl rfl) rfl (w_p (zBn underlying100 sizeOf28 rfl rfl rfl rfl (i := _) rfl (by omega)) rfl ?_)))))
  refine w_p (zAs (vs := [_,_]) isAgg28 sizeOf28 g3 rfl rfl hPd) rfl (zBt 4 (.agg #[.int _ _, .int _ _]) [_,_] sizeOf28 g3 (fun gr g7 => ?_))
  refine zA9 rfl rfl (zAe (zAb (ge _ _ (zA0 (zA1 (l := [.cell 4 28, .tmp 5]) (vs := [_,_]) rfl ⟨⟨rfl, _, rfl, zBv (vs := [_,_]) isAgg28 sizeOf28 g7 (aow 4 [_,_])⟩, ⟨rfl, (rfl : _ = Value.int _ _)⟩, trivial⟩ ?_)))))
  exact ⟨rfl, g7.tail.tail.tail.tail.tail.tail⟩

theorem c27 {w0 w : World} {F : List (Nat × Obj)} (r : Room) (p : AtR) (hm : RIn w0 F r p) (hr : r.Ok) (hlb : lookB r 0 = true) (day : Nat) (hd : day ≤ r.ran.length) (hnn : (0 ≤ (at2 (pts r 0) day).1 ∧ (at2 (pts r 0) day).1 ≤ 1000) ∧ 0 ≤ (at2 (pts r 0) day).2 ∧ (at2 (pts r 0) day).2 ≤ 1000) (hs : St w0 w F) :
  Con Tryz.prog 27 [.agg (r.cells p).toArray, .int .i64 (day : Int)] w fun v w' => v = .tuple #[.agg #[.int .i64 (colour (at2 (pts r 0) day).1), .int .i64 (colour (at2 (pts r 0) day).2)], .int .i64 0] ∧ St w0 w' F := by
  refine zAo (n := 20) func27 rfl rfl (zNl rfl) ?_
  have hdy := hr.days
  have hlr := hr.lr
  have hll := hr.ll
  have hn6 : r.ran.length ≤ 6 := by omega
  have hls := hr.ls
  have hst := hr.start
  refine zAf (fun K2 g6 => (zAa (zCd (v := .agg #[.int _ _, .int _ _, .int _ _, .slice _ _ _, .int _ _, .slice _ _ _, .slice _ _ _]) (cs := [_,_,_,_,_,_,_]) zAc rfl rfl rfl hs (fun b3 w4 g7 => ?_))))
  refine zA5 (cs := [_,_]) zAc zeroValue28 rfl g7 (fun b6 w7 g3 => ?_)
  refine zA9 rfl rfl (zAe (zAb (g6 _ _ (zAf (fun gf g8 => (zAa (w_p (zAs (vs := [_,_,_,_,_,_,_]) isAgg33 sizeOf33 g3 rfl rfl (aow 1 [_,_,_,_,_,_,_])) rfl (zA2 rfl rfl ?_))))))))
  refine zCi zAc call26 rfl rfl rfl rfl (c26 r p hm.cons.cons hr hlb day hd g3) (fun gg g9 => ?_)
  refine w_p (zA6 rfl rfl) rfl (w_p (zBp (v := .agg _) rfl rfl rfl) rfl (w_p (zAq rfl rfl rfl) rfl (zA5 (cs := [_,_]) zAc zeroValue28 rfl g9 (fun gh gi ga => ?_))))
  refine zBt 0 (.agg #[.int _ _, .int _ _]) [_,_] sizeOf28 ga (fun gj g4 => ?_)
  refine zBg rfl rfl (zAe (zAb (g8 _ _ (zAf (fun gk gb => (zAf (fun gm gc => (zAa (zA2 rfl rfl (w_p (zCj rfl rfl rfl rfl) rfl (zAe (zAb (gc _ _ (zBj rfl rfl ?_))))))))))))))
  refine zAr (zAb (gb _ _ (zAf (fun gn gd => (zAa (w_p (zAs (vs := [_,_]) isAgg28 sizeOf28 g4 rfl rfl (aow 0 [_,_])) rfl ?_))))))
  refine zCi zAc call53 rfl rfl rfl rfl (c53 _ _ (by omega) (by omega) g4) (fun gq ge => ?_)
  refine zBt 1 (.agg #[.int _ _, .int _ _]) [_,_] sizeOf28 ge (fun gr g5 => ?_)
  refine zA9 rfl rfl (zAe (zAb (gd _ _ (zA0 (zA1 (l := [.cell 4 28, .tmp 5]) (vs := [_,_]) rfl ⟨⟨rfl, _, rfl, zBv (vs := [_,_]) isAgg28 sizeOf28 g5 (aow 1 [_,_])⟩, ⟨rfl, (rfl : _ = Value.int _ _)⟩, trivial⟩ ?_)))))
  exact ⟨rfl, g5.tail.tail.tail⟩

theorem c28 {w0 w : World} {F : List (Nat × Obj)} (r : Room) (p : AtR) (hm : RIn w0 F r p) (hr : r.Ok) (hlb : lookB r 0 = true)  (hs : St w0 w F) :
  Con Tryz.prog 28 [.agg (r.cells p).toArray] w fun v w' => v = .tuple #[.agg #[.int .i64 (at2 (pts r 0) 0).1, .int .i64 (at2 (pts r 0) 0).2], .int .i64 0] ∧ St w0 w' F := by
  refine zAo (n := 8) func28 rfl rfl (zNl rfl) ?_
  have hdy := hr.days
  have hlr := hr.lr
  have hll := hr.ll
  have hn6 : r.ran.length ≤ 6 := by omega
  have hls := hr.ls
  have hst := hr.start
  refine zAf (fun K2 g5 => (zAa (zCd (v := .agg #[.int _ _, .int _ _, .int _ _, .slice _ _ _, .int _ _, .slice _ _ _, .slice _ _ _]) (cs := [_,_,_,_,_,_,_]) zAc rfl rfl rfl hs (fun b3 w4 g6 => ?_))))
  refine zA5 (cs := [_,_]) zAc zeroValue28 rfl g6 (fun b6 w7 g3 => ?_)
  refine zA9 rfl rfl (zAe (zAb (g5 _ _ (zAf (fun g9 g7 => (zAa (w_p (zAs (vs := [_,_,_,_,_,_,_]) isAgg33 sizeOf33 g3 rfl rfl (aow 1 [_,_,_,_,_,_,_])) rfl ?_)))))))
  refine zCi zAc call26 rfl rfl rfl rfl (c26 r p hm.cons.cons hr hlb 0 (by omega) g3) (fun ga g8 => ?_)
  refine w_p (zBp (v := .agg _) rfl rfl rfl) rfl (w_p (zAq rfl rfl rfl) rfl (zBt 0 (.agg #[.int _ _, .int _ _]) [_,_] sizeOf28 g8 (fun gb g4 => ?_)))
  refine zBg rfl rfl (zAe (zAb (g7 _ _ (zA0 (zA1 (l := [.cell 2 28, .tmp 3]) (vs := [_,_]) rfl ⟨⟨rfl, _, rfl, zBv (vs := [_,_]) isAgg28 sizeOf28 g4 (aow 0 [_,_])⟩, ⟨rfl, (rfl : _ = Value.int _ _)⟩, trivial⟩ ?_)))))
  exact ⟨rfl, g4.tail.tail⟩

end Go.Proofs.Ro
set_option maxRecDepth 20000
namespace Go.Proofs.Ro
open Go.Proofs.Tryz
open Go.Rt Go.Rt.Ro
open Go.Rt.Ha (bit listL)
attribute [local irreducible] WL WC Con Yd At Ats Sl Agree DW

theorem rc_room {w0 w : World} {L : List (Nat × Obj)} {i rb t : Nat} {r : Room} {p : AtR} {P : List Int} {mm : Nat} (hs : St w0 w L) (hi : L[i]? = some (rb, blk t (RC r p P mm))) : Ats w0 L rb 0 (r.cells p) := zBm hi rfl
theorem c50 {w0 w : World} {F : List (Nat × Obj)} (r : Room) (p : AtR) (hm : RIn w0 F r p) (hr : r.Ok) (al : Option Addr) (cl : Nat) (l : List Int) (hl : Sl w0 F al 1 (l.map fun x => [Value.int .i64 x])) (hlen : (l.length : Int) ≤ r.days - r.ran.length) (hin : ∀ z ∈ l, 0 ≤ z ∧ z < r.sets.length) (bx b2 : Nat) (hx : Ats w0 F bx 0 [.slice al l.length cl]) (hb2 : Ats w0 F b2 0 (r.cells p)) (hs : St w0 w F) :
  Con Tryz.prog 50 [.pointer (some ⟨bx, 0, none⟩), .pointer (some ⟨b2,0, none⟩)] w fun v w' => v = .int .i64 0 ∧ St w0 w' F := by
  refine zAo (n := 20) func50 rfl rfl (zNl rfl) ?_
  have hdy := hr.days
  have hlr := hr.lr
  have hll := hr.ll
  have hn6 : r.ran.length ≤ 6 := by omega
  have hls := hr.ls
  have hst := hr.start
  refine zAf (fun K2 g4 => (zAa (zA9 rfl rfl (zAe (zAb (g4 _ _ (zAf (fun K4 g5 => (zAw ?_)))))))))
  refine zAf (fun K6 g6 => (zAa (w_p (zAi isAgg30 hs rfl rfl hx) rfl (w_p (zBd underlying30 rfl rfl) rfl (w_p (zAd (o := 0) (i := 0) underlying33 rfl sizeOf3 rfl rfl rfl) rfl (w_p (zAi isAgg3 hs rfl rfl (show Ats _ _ _ _ [_] from Ats.part hb2 0 1)) rfl ?_))))))
  refine w_p (zAd (o := 5) (i := 4) underlying33 rfl sizeOf30 rfl rfl rfl) rfl (w_p (zAi isAgg30 hs rfl rfl (show Ats _ _ _ _ [_] from Ats.part hb2 5 1)) rfl (w_p (zBd underlying30 rfl rfl) rfl (w_p (zDk rfl rfl rfl rfl (by omega) (by omega)) rfl ?_)))
  refine w_p (zD5 rfl rfl rfl rfl) rfl (w_p (zAl rfl rfl) rfl (zAe (zAb (g6 _ _ (zAv rfl rfl (fun h7 => ?_) (fun h7 => ?_))))))
  ·
   exfalso
   try simp only [zS] at h7
   omega
  try simp only [zS] at h7
  refine zAf (fun K9 g7 => (zAa (w_p (zAd (o := 3) (i := 2) underlying33 rfl sizeOf29 rfl rfl rfl) rfl (w_p (zAi isAgg29 hs rfl rfl (show Ats _ _ _ _ [_] from Ats.part hb2 3 1)) rfl (w_p (zBd underlying29 rfl rfl) rfl (w_p (zDk rfl rfl rfl rfl (by omega) (by omega)) rfl ?_))))))
  refine w_p (zAi isAgg30 hs rfl rfl hx) rfl (zCi zAc call51 rfl rfl rfl rfl (c51 _ _ al l cl (by omega) hl hs) (fun ga g8 => ?_))
  refine w_p (zAl rfl rfl) rfl (zAe (zAb (g7 _ _ (zAv rfl rfl (fun g3 => ?_) (fun g3 => ?_)))))
  ·
   exfalso
   try simp only [zS] at g3
   rw [List.any_eq_true] at g3; obtain ⟨z, hz, hzo⟩ := g3; have := hin z hz; simp [out] at hzo; omega
  try simp only [zS] at g3
  refine zAr (zAk (zAb (g5 _ _ (zAf (fun gb g9 => (zAa (zA9 rfl rfl (zAe (zAb (g9 _ _ (zA0 (zA1 (l := [.tmp 2]) (vs := [_]) rfl ⟨⟨rfl, (rfl : _ = Value.int _ _)⟩, trivial⟩ ?_))))))))))))
  exact ⟨rfl, g8⟩

theorem c12 {w0 w : World} {F : List (Nat × Obj)} (r : Room) (p : AtR) (hm : RIn w0 F r p) (hr : r.Ok) (hlb : lookB r 0 = true) (al : Option Addr) (cl : Nat) (l : List Int) (hl : Sl w0 F al 1 (l.map fun x => [Value.int .i64 x])) (hlen : (l.length : Int) ≤ r.days - r.ran.length) (hin : ∀ z ∈ l, 0 ≤ z ∧ z < r.sets.length)  (hs : St w0 w F) :
  Con Tryz.prog 12 [.agg (r.cells p).toArray, .slice al l.length cl] w fun v w' => v = .tuple #[.agg #[.int .i64 (become r l).1, .int .i64 (become r l).2], .int .i64 0] ∧ St w0 w' F := by
  refine zAo (n := 52) func12 rfl rfl (zNl rfl) ?_
  have hdy := hr.days
  have hlr := hr.lr
  have hll := hr.ll
  have hn6 : r.ran.length ≤ 6 := by omega
  have hls := hr.ls
  have hst := hr.start
  refine zAf (fun K2 gq => (zAa (zCd (v := .agg #[.int _ _, .int _ _, .int _ _, .slice _ _ _, .int _ _, .slice _ _ _, .slice _ _ _]) (cs := [_,_,_,_,_,_,_]) zAc rfl rfl rfl hs (fun b3 w4 gr => ?_))))
  refine zCd (v := .slice _ _ _) (cs := [_]) zAc rfl rfl rfl gr (fun b6 w7 gt => ?_)
  refine zA5 (cs := [_,_]) zAc zeroValue28 rfl gt (fun b9 hG gc => ?_)
  refine zA9 rfl rfl (zAe (zAb (gq _ _ (zAf (fun hH gu => (zAa (w_p (zAs (vs := [_,_,_,_,_,_,_]) isAgg33 sizeOf33 gc rfl rfl (aow 2 [_,_,_,_,_,_,_])) rfl (w_p (zCl (fv := []) (cv := [_,_]) rfl rfl rfl rfl) rfl ?_))))))))
  refine zA4 zAc call40 rfl rfl rfl rfl (c40y r p hm.cons.cons.cons hr (.func (.func 50) #[] #[.pointer (some ⟨b6,0, none⟩), .pointer (some ⟨b3,0, none⟩)]) (fun X w hs => zDs call50 (c50 (F := X ++ _) r p (RIn.app (hm.cons.cons.cons)) hr al cl l (Sl.app (hl.cons.cons.cons)) hlen hin _ _ (Ats.app (aow 1 [_])) (Ats.app (zBm (i := 2) (vs := r.cells p) rfl rfl)) hs)) hlb gc) ?_
  rintro _ hO ⟨rb, mm, rfl, g3⟩
  replace g3 := (show St _ _ (_ :: _ :: _ :: _ :: _ :: F) from g3)
  refine w_p (zA6 rfl rfl) rfl (w_p (zBy rfl rfl rfl) rfl (w_p (zAq rfl rfl rfl) rfl (w_p (zBu rfl rfl) rfl (zBg rfl rfl (zAe (zAb (gu _ _ (zAf (fun hY gw => (zAf (fun j0 gx => (zAa (zA2 rfl rfl ?_)))))))))))))
  refine w_p (zCj rfl rfl rfl rfl) rfl (zAe (zAb (gx _ _ (zBj rfl rfl ?_))))
  refine zAr (zAb (gw _ _ (zAf (fun j1 gy => (zAa (w_p (zAi isAgg30 g3 rfl rfl (aow 3 [_])) rfl (w_p (zBd underlying30 rfl rfl) rfl ?_)))))))
  refine zG4 (k := l.length) zAc underlying30 zDf rfl rfl (by omega) rfl rfl rfl rfl rfl g3 (fun gd j3 ge => ?_)
  refine w_p (zBh rfl rfl) rfl (zAe (zAb (gy _ _ (zAf (fun j4 gz => (zAa (w_p (zAx rfl rfl) rfl (w_p (zAi isAgg30 ge rfl rfl (aow 4 [_])) rfl ?_))))))))
  refine w_copyI (i := 0) zAc underlying30 sizeOf3 rfl rfl rfl rfl ge rfl hl.cons.cons.cons.cons.cons.cons (by first | omega | rfl | (simp only [zL] <;> omega)) (by first | omega | rfl | (simp only [zL] <;> omega)) (fun j5 g4 => ?_)
  refine zAe (zAb (gz _ _ (zAf (fun j6 gf => ?_))))
  have hcp : List.take l.length l ++ List.drop l.length (List.replicate l.length (0 : Int)) = l := by simp
  rw [hcp] at g4
  have hPd := rc_at (i := 1) g4 rfl (zHa 0) (show r.ran.length < 7 by omega) rfl
  have htd := today_in hr hlb
  have hrb := rc_room (i := 1) g4 rfl
  refine w_drawT (C := fun w => St w0 w _) [8] (.two [(0,0),(1,0),(3,0),(4,0)] 2 7 (.done [(5,0),(6,1),(7,2),(8,3)]) (.done [(2,2),(5,0),(6,1),(8,3)])) zB7 (by kernel_rfl) g4 (fun _ h => h.drew) (fun j7 gg => ?_)
  refine zEu ?_
  refine d_w rfl (fun _ => zBi rfl rfl) rfl (d_w rfl (fun _ => zBi rfl rfl) rfl (d_w rfl (fun _ => zBl rfl rfl) rfl (d_w rfl (fun _ => zAd (o := 7) (i := 1) underlying103 rfl sizeOf100 rfl rfl rfl) rfl ?_)))
  refine zGy rfl rfl ?_ ?_
  ·
   refine zCi zAc call43 rfl rfl rfl rfl (c43 r p rb hrb gg) (fun j9 g7 => ?_)
   refine zAe (qn ⟨g7, ?_⟩)
   refine zC8 ?_
   refine d_w rfl (fun _ => zBn underlying100 sizeOf28 rfl rfl rfl rfl (i := _) rfl (by omega)) rfl ?_
   refine zA3 rfl zAc rfl g7 (fun _ hq => (zAs (vs := [_,_]) isAgg28 sizeOf28 hq rfl rfl hPd)) ?_
   refine zB0 rfl ?_
   refine zA5 (cs := [_,_]) zAc zeroValue28 rfl g7 (fun gA ja gh => ?_)
   refine zAe (qn ⟨gh.tail, ?_⟩)
   refine zCa rfl ?_
   refine zBt 0 (.agg #[.int _ _, .int _ _]) [_,_] sizeOf28 gh (fun jb gB => ?_)
   refine zAe (qn ?_)
   refine zB5 ?_
   refine zAb (gf _ _ (zAf (fun jc gC => (zAf (fun jd gD => (zAa (w_p (zAx rfl rfl) rfl (w_p (zBd underlying30 rfl rfl) rfl (w_p (zBo (v := _) rfl rfl) rfl ?_)))))))))
   refine zAe (zAb (gD _ _ (zAw ?_)))
   have gE := (show St _ _ (_ :: _ :: _ :: _ :: F) from St.pk [[_], [_], [_], [_], [_], [_], [_]] [0,1,6,4] gB)
   refine zB2 [11,37,38,39,40,41,42,43,44,45,46,47,48,49] [37] (fun kk vs w => ∃ i : Nat, vs = [.int .i64 (i : Int)] ∧ i ≤ l.length ∧ kk = l.length - i ∧ St w0 w ((gA, blk 28 [.int .i64 (goTo r (today r) l i).1, .int .i64 (goTo r (today r) l i).2]) :: (gd, blk 3 (iv l)) :: (b3, blk 33 (r.cells p)) :: (b9, blk 28 [.int .i64 0, .int .i64 0]) :: F)) (l.length) ?_ ?_
   ·
    exact ⟨0, rfl, by omega, by omega, gE⟩
   intro k vs μ je hI jf gF
   clear hs
   obtain ⟨i, rfl, hia, rfl, hs⟩ := hI
   refine zAf (fun jg gG => (zAa (w_p (zCb rfl rfl rfl rfl) rfl (zAe (zAb (gG _ _ (zAf (fun jh gH => (zAv rfl rfl (fun g8 => ?_) (fun g8 => ?_))))))))))
   ·
    try simp only [zS] at g8
    refine zAr (zAb (gH _ _ (zAf (fun ji gI => (zAw ?_)))))
    refine zAf (fun jj gJ => ?_)
    have hi2 : i < l.length := by omega
    refine zAa (w_p (zA7 underlying30 sizeOf3 rfl rfl rfl rfl (i := i) (by first | rfl | omega) (by omega)) rfl ?_)
    refine w_p (zAi isAgg3 hs rfl rfl (zDr (i := 1) (j := i) rfl (by first | omega | rfl | (simp only [zL] <;> omega)))) rfl ?_
    refine zBg rfl rfl (zAe (zAb (gJ _ _ ?_)))
    obtain ⟨z0, hz0, hz1⟩ : ∃ z0 : Nat, l.getD i 0 = (z0 : Int) ∧ z0 < r.sets.length := by
      have h9 := hin _ (List.getElem_mem hi2)
      have e9 : l.getD i 0 = l[i] := by simp [List.getD, hi2]
      rw [e9]
      exact ⟨l[i].toNat, by omega, by omega⟩
    obtain ⟨bs, os_, hbs, g9⟩ := sl_trows hm.s hz1
    have hgz := gainN_at (r := r) hz0 hz1
    have hgi := zH0 hr (l.getD i 0)
    rw [hgz] at hgi
    dsimp only at hgi
    have hgb := goTo_bd hr (s := today r) (by omega) l i
    refine zCc [8] [(0,1),(1,0),(2,1),(3,0),(4,0),(5,0),(6,1),(7,2),(8,3)] zB7 (zBs (by kernel_rfl)) hs (fun jk g5 => ?_)
    refine zA3 rfl zAc rfl g5 (fun _ hq => (zAs (vs := [_,_]) isAgg28 sizeOf28 hq rfl rfl (aow 0 [_,_]))) ?_
    refine d_w rfl (fun _ => zAd (o := 3) (i := 2) underlying33 rfl sizeOf29 rfl rfl rfl) rfl ?_
    refine zA3 rfl zAc rfl g5 (fun _ hq => (zCq hbs (zAi isAgg29 hq rfl rfl (aow 2 [_])))) ?_
    refine d_w rfl (fun _ => zAu rfl rfl) rfl (d_w rfl (fun _ => zA7 underlying29 sizeOf61 rfl rfl rfl rfl (i := z0) hz0 hz1) rfl (d_w rfl (fun _ => zAd (o := 1) (i := 1) underlying61 rfl sizeOf28 rfl rfl rfl) rfl ?_))
    refine zA3 rfl zAc rfl g5 (fun _ hq => (zAs (vs := [_,_]) isAgg28 sizeOf28 hq.tail.tail.tail.tail rfl rfl (show Ats _ _ _ _ [_,_] from Ats.part g9 1 2))) ?_
    refine zB0 rfl ?_
    refine zCi zAc call52 rfl rfl rfl rfl (c52 _ _ _ _ (by omega) (by omega) (by omega) (by omega) g5) (fun jl gi => ?_)
    refine zAe (qn ⟨gi, ?_⟩)
    refine zCa rfl ?_
    refine zBt 0 (.agg #[.int _ _, .int _ _]) [_,_] sizeOf28 gi (fun jm gK => ?_)
    refine zAe (qn ?_)
    refine zB5 ?_
    refine zAk (zAb (gI _ _ (zAa (w_p (zBe rfl rfl rfl rfl (by omega) (by omega)) rfl (zA2 rfl rfl (zAe (zAb (gF _ _ (nxI (l.length - (i + 1)) (by omega) ?_)))))))))
    exact ⟨i + 1, rfl, by omega, rfl, by rw [goTo, hgz]; exact gK⟩
   try simp only [zS] at g8
   refine zBr (zAj (zAj (zAy (zAb (gC _ _ (zAf (fun jo gL => ?_)))))))
   have hil : i = l.length := by omega
   subst hil
   have hgb := goTo_bd hr (s := today r) (by omega) l l.length
   refine zAa (w_p (zAs (vs := [_,_]) isAgg28 sizeOf28 hs rfl rfl (aow 0 [_,_])) rfl ?_)
   refine zCi zAc call53 rfl rfl rfl rfl (c53 _ _ (by omega) (by omega) hs) (fun jp gM => ?_)
   refine zBt 3 (.agg #[.int _ _, .int _ _]) [_,_] sizeOf28 gM (fun jq gj => ?_)
   refine zA9 rfl rfl (zAe (zAb (gL _ _ (zA0 (zA1 (l := [.cell 4 28, .tmp 5]) (vs := [_,_]) rfl ⟨⟨rfl, _, rfl, zBv (vs := [_,_]) isAgg28 sizeOf28 gj (aow 3 [_,_])⟩, ⟨rfl, (rfl : _ = Value.int _ _)⟩, trivial⟩ ?_)))))
   exact ⟨rfl, gj.tail.tail.tail.tail⟩
  refine zA5 (cs := [_,_]) zAc zeroValue28 rfl gg (fun gN jr gk => ?_)
  refine zAe (qn ⟨gk.tail, ?_⟩)
  refine zC8 ?_
  refine zB0 rfl ?_
  refine zCi zAc call43 rfl rfl rfl rfl (c43 r p rb hrb.cons gk) (fun js ga => ?_)
  refine zAe (qn ⟨ga.tail, ?_⟩)
  refine d_w rfl (fun _ => zBn underlying100 sizeOf28 rfl rfl rfl rfl (i := _) rfl (by omega)) rfl ?_
  refine zA3 rfl zAc rfl ga.tail (fun _ hq => (zAs (vs := [_,_]) isAgg28 sizeOf28 hq rfl rfl hPd)) ?_
  refine zCa rfl ?_
  refine zBt 0 (.agg #[.int _ _, .int _ _]) [_,_] sizeOf28 ga (fun jt gO => ?_)
  refine zAe (qn ?_)
  refine zB5 ?_
  refine zAb (gf _ _ (zAf (fun ju gP => (zAf (fun jv gQ => (zAa (w_p (zAx rfl rfl) rfl (w_p (zBd underlying30 rfl rfl) rfl (w_p (zBo (v := _) rfl rfl) rfl ?_)))))))))
  refine zAe (zAb (gQ _ _ (zAw ?_)))
  have gR := (show St _ _ (_ :: _ :: _ :: _ :: F) from St.pk [[_], [_], [_], [_], [_], [_], [_]] [0,1,6,4] gO)
  refine zB2 [11,37,38,39,40,41,42,43,44,45,46,47,48,49] [37] (fun kk vs w => ∃ i : Nat, vs = [.int .i64 (i : Int)] ∧ i ≤ l.length ∧ kk = l.length - i ∧ St w0 w ((gN, blk 28 [.int .i64 (goTo r (today r) l i).1, .int .i64 (goTo r (today r) l i).2]) :: (gd, blk 3 (iv l)) :: (b3, blk 33 (r.cells p)) :: (b9, blk 28 [.int .i64 0, .int .i64 0]) :: F)) (l.length) ?_ ?_
  ·
   exact ⟨0, rfl, by omega, by omega, gR⟩
  intro k vs μ jw hI jx gS
  clear hs
  obtain ⟨i, rfl, hia, rfl, hs⟩ := hI
  refine zAf (fun jy gT => (zAa (w_p (zCb rfl rfl rfl rfl) rfl (zAe (zAb (gT _ _ (zAf (fun jz gU => (zAv rfl rfl (fun gb => ?_) (fun gb => ?_))))))))))
  ·
   try simp only [zS] at gb
   refine zAr (zAb (gU _ _ (zAf (fun jA gV => (zAw ?_)))))
   refine zAf (fun jB gW => ?_)
   have hi2 : i < l.length := by omega
   refine zAa (w_p (zA7 underlying30 sizeOf3 rfl rfl rfl rfl (i := i) (by first | rfl | omega) (by omega)) rfl ?_)
   refine w_p (zAi isAgg3 hs rfl rfl (zDr (i := 1) (j := i) rfl (by first | omega | rfl | (simp only [zL] <;> omega)))) rfl ?_
   refine zBg rfl rfl (zAe (zAb (gW _ _ ?_)))
   obtain ⟨z0, hz0, hz1⟩ : ∃ z0 : Nat, l.getD i 0 = (z0 : Int) ∧ z0 < r.sets.length := by
     have h9 := hin _ (List.getElem_mem hi2)
     have e9 : l.getD i 0 = l[i] := by simp [List.getD, hi2]
     rw [e9]
     exact ⟨l[i].toNat, by omega, by omega⟩
   obtain ⟨bs, os_, hbs, g9⟩ := sl_trows hm.s hz1
   have hgz := gainN_at (r := r) hz0 hz1
   have hgi := zH0 hr (l.getD i 0)
   rw [hgz] at hgi
   dsimp only at hgi
   have hgb := goTo_bd hr (s := today r) (by omega) l i
   refine zCc [8] [(0,1),(1,0),(2,1),(3,0),(4,0),(5,0),(6,1),(7,2),(8,3)] zB7 (zBs (by kernel_rfl)) hs (fun jC g6 => ?_)
   refine zA3 rfl zAc rfl g6 (fun _ hq => (zAs (vs := [_,_]) isAgg28 sizeOf28 hq rfl rfl (aow 0 [_,_]))) ?_
   refine d_w rfl (fun _ => zAd (o := 3) (i := 2) underlying33 rfl sizeOf29 rfl rfl rfl) rfl ?_
   refine zA3 rfl zAc rfl g6 (fun _ hq => (zCq hbs (zAi isAgg29 hq rfl rfl (aow 2 [_])))) ?_
   refine d_w rfl (fun _ => zAu rfl rfl) rfl (d_w rfl (fun _ => zA7 underlying29 sizeOf61 rfl rfl rfl rfl (i := z0) hz0 hz1) rfl (d_w rfl (fun _ => zAd (o := 1) (i := 1) underlying61 rfl sizeOf28 rfl rfl rfl) rfl ?_))
   refine zA3 rfl zAc rfl g6 (fun _ hq => (zAs (vs := [_,_]) isAgg28 sizeOf28 hq.tail.tail.tail.tail rfl rfl (show Ats _ _ _ _ [_,_] from Ats.part g9 1 2))) ?_
   refine zB0 rfl ?_
   refine zCi zAc call52 rfl rfl rfl rfl (c52 _ _ _ _ (by omega) (by omega) (by omega) (by omega) g6) (fun jD gm => ?_)
   refine zAe (qn ⟨gm, ?_⟩)
   refine zCa rfl ?_
   refine zBt 0 (.agg #[.int _ _, .int _ _]) [_,_] sizeOf28 gm (fun jE gX => ?_)
   refine zAe (qn ?_)
   refine zB5 ?_
   refine zAk (zAb (gV _ _ (zAa (w_p (zBe rfl rfl rfl rfl (by omega) (by omega)) rfl (zA2 rfl rfl (zAe (zAb (gS _ _ (nxI (l.length - (i + 1)) (by omega) ?_)))))))))
   exact ⟨i + 1, rfl, by omega, rfl, by rw [goTo, hgz]; exact gX⟩
  try simp only [zS] at gb
  refine zBr (zAj (zAj (zAy (zAb (gP _ _ (zAf (fun jF gY => ?_)))))))
  have hil : i = l.length := by omega
  subst hil
  have hgb := goTo_bd hr (s := today r) (by omega) l l.length
  refine zAa (w_p (zAs (vs := [_,_]) isAgg28 sizeOf28 hs rfl rfl (aow 0 [_,_])) rfl ?_)
  refine zCi zAc call53 rfl rfl rfl rfl (c53 _ _ (by omega) (by omega) hs) (fun jG gZ => ?_)
  refine zBt 3 (.agg #[.int _ _, .int _ _]) [_,_] sizeOf28 gZ (fun jH gn => ?_)
  refine zA9 rfl rfl (zAe (zAb (gY _ _ (zA0 (zA1 (l := [.cell 4 28, .tmp 5]) (vs := [_,_]) rfl ⟨⟨rfl, _, rfl, zBv (vs := [_,_]) isAgg28 sizeOf28 gn (aow 3 [_,_])⟩, ⟨rfl, (rfl : _ = Value.int _ _)⟩, trivial⟩ ?_)))))
  exact ⟨rfl, gn.tail.tail.tail.tail⟩

end Go.Proofs.Ro
set_option maxRecDepth 20000
namespace Go.Proofs.Ro
open Go.Proofs.Tryz
open Go.Rt Go.Rt.Ro
open Go.Rt.Ha (bit listL)
attribute [local irreducible] WL WC Con Yd At Ats Sl Agree DW
theorem Try_QG_fb2 (x0 : Int) (x1 : Int) (w : World) : (Instr.build 28 [(0, .int .i64 x0),(1, .int .i64 x1)].toArray).run Tryz.prog w = .ok (.agg #[.int .i64 x0, .int .i64 x1]) w := by kernel_rfl
structure RK (w0 : World) (F : List (Nat × Obj)) (r : Room) (p : AtR) (rb mm : Nat) : Prop where
  i : RIn w0 F r p
  c : Ats w0 F rb 0 (r.cells p)
  g : Ats w0 F rb (0 + 21) [.map (some mm)]
  ok : r.Ok
  lb : lookB r 0 = true
  t : ∀ d, d < 7 → Ats w0 F rb (0 + 7 + d * 2) [.int .i64 (at2 (pts r 0) d).1, .int .i64 (at2 (pts r 0) d).2]
theorem RK.mono {w0 : World} {F F' : List (Nat × Obj)} {r : Room} {p : AtR} {rb mm : Nat} (h : RK w0 F r p rb mm) (hs : ∀ w, St w0 w F' → St w0 w F) : RK w0 F' r p rb mm := ⟨h.i.mono hs, h.c.mono hs, h.g.mono hs, h.ok, h.lb, fun d hd => (h.t d hd).mono hs⟩
theorem RK.cons {w0 : World} {F : List (Nat × Obj)} {x : Nat × Obj} {r : Room} {p : AtR} {rb mm : Nat} (h : RK w0 F r p rb mm) : RK w0 (x :: F) r p rb mm := h.mono fun _ h => h.tail
theorem RK.app {w0 : World} {F B : List (Nat × Obj)} {r : Room} {p : AtR} {rb mm : Nat} (h : RK w0 F r p rb mm) : RK w0 (B ++ F) r p rb mm := h.mono fun _ h => h.drop
theorem rc_map {r : Room} {p : AtR} {P : List Int} {mm : Nat} (hP : P.length = 14) : ((RC r p P mm).drop (0 + 21)).take [Value.map (some mm)].length = [.map (some mm)] := by
  match P, hP with
  | [a0, a1, a2, a3, a4, a5, a6, a7, a8, a9, b0, b1, b2, b3], _ => rfl
theorem rk_new {w0 : World} {L : List (Nat × Obj)} {r : Room} {p : AtR} {rb mm t : Nat} (hm : RIn w0 L r p) (hr : r.Ok) (hlb : lookB r 0 = true) : RK w0 ((rb, blk t (RC r p (pts r 0) mm)) :: L) r p rb mm :=
  ⟨hm.cons, zBm (i := 0) rfl rfl, zBm (i := 0) rfl (rc_map (zHa 0)), hr, hlb, fun d hd => zBm (i := 0) rfl (rc_get (zHa 0) hd)⟩
theorem keyW : KeyTy Tryz.prog 94 4 := keyTy_array underlying94 underlying3 sizeOf3 (by kernel_rfl)
def Memo (r : Room) (mm : Nat) (M : List (Nat × Obj)) : Prop :=
  ∃ (es : List (List Int × Value × Nat)) (ck : Nat), M = [(mm, .map (ents (fun l : List Int => ia l) es).toArray ck)] ∧ MOk es ck ∧ (∀ q ∈ es, q.1.length = 4) ∧ ∀ q ∈ es, q.2.1 = ia [(sum r q.1).1, (sum r q.1).2]
theorem zEl (r : Room) (mm : Nat) : Memo r mm [(mm, .map #[] 0)] := ⟨[], 0, rfl, mok_nil, by simp, by simp⟩
theorem c75f {w0 w : World} {F : List (Nat × Obj)} (r : Room) (p : AtR) (rb mm : Nat) (hk : RK w0 F r p rb mm) (x : List Int) (hx : Wok x) (es : List (List Int × Value × Nat)) (ck : Nat) (hes : ∀ q ∈ es, q.1.length = 4) (hf : getA x es = some (ia [(sum r x).1, (sum r x).2])) (hs : St w0 w ((mm, .map (ents (fun l : List Int => ia l) es).toArray ck) :: F)) :
  Con Tryz.prog 75 [.pointer (some ⟨rb, 0, none⟩), ia x] w fun v w' => v = ia [(sum r x).1, (sum r x).2] ∧ St w0 w' ((mm, .map (ents (fun l : List Int => ia l) es).toArray ck) :: F) := by
  refine zAo (n := 57) func75 rfl rfl (zNl rfl) ?_
  have hls := hk.ok.ls
  have hx4 := hx.len
  refine zAf (fun K2 g7 => (zAa (zHo (l := _) zAc rfl rfl rfl hs (fun b3 w4 g8 => ?_))))
  refine zA5 (cs := [_,_]) zAc zeroValue28 rfl g8 (fun b6 w7 g9 => ?_)
  refine zAe (zAb (g7 _ _ (zAf (fun gd ge => (zAf (fun gf ga => (zCc [10] [(0,0),(1,0),(2,0),(3,1),(4,1),(5,1),(6,0),(7,0),(8,0),(9,2),(10,3),(11,0)] zB7 (zBs (by kernel_rfl)) g9 (fun gg g3 => ?_))))))))
  refine d_w rfl (fun _ => zBi rfl rfl) rfl (d_w rfl (fun _ => zBl rfl rfl) rfl (d_w rfl (fun _ => zAd (o := 21) (i := 2) underlying103 rfl sizeOf101 rfl rfl rfl) rfl ?_))
  refine zA3 rfl zAc rfl g3 (fun _ hq => (zAi isAgg101 hq.tail.tail.tail rfl rfl hk.g)) ?_
  refine zA3 rfl zAc rfl g3 (fun _ hq => (zC2 (i := 1) isAgg94 sizeOf94 (by first | omega | rfl | (simp only [hx4, zL] <;> omega)) hq rfl rfl rfl)) ?_
  refine zA3 rfl zAc rfl g3 (fun _ hq => (G_look2S (i := 2) (a := x) underlying101 (keyG_ia keyW) hx.len hes hq rfl rfl rfl rfl rfl hf)) ?_
  refine d_w rfl (fun _ => zA6 rfl rfl) rfl (d_w rfl (fun _ => zBp (v := .agg _) rfl rfl rfl) rfl (d_w rfl (fun _ => zBf rfl rfl rfl) rfl ?_))
  refine zB0 rfl ?_
  refine zA5 (cs := [_,_]) zAc zeroValue28 rfl g3 (fun gh gi g4 => ?_)
  refine zAe (qn ⟨g4.tail, ?_⟩)
  refine zCa rfl ?_
  refine zBt 0 (.agg #[.int _ _, .int _ _]) [_,_] sizeOf28 g4 (fun gj g5 => ?_)
  refine zAe (qn ?_)
  refine d_w rfl (fun _ => zAl rfl rfl) rfl ?_
  refine zB5 ?_
  refine zAb (ga _ _ (zAf (fun gk gb => (zAa (w_p (zAn rfl rfl) rfl (zAe (zAb (gb _ _ (zBz rfl rfl ?_)))))))))
  refine zAf (fun gm gc => (zAa (w_p (zAs (vs := [_,_]) isAgg28 sizeOf28 g5 rfl rfl (aow 0 [_,_])) rfl ?_)))
  refine zBt 1 (.agg #[.int _ _, .int _ _]) [_,_] sizeOf28 g5 (fun gn g6 => ?_)
  refine zAe (zAb (gc _ _ (zA0 (zAh (zA1 (l := [.cell 4 28]) (vs := [_]) rfl ⟨⟨rfl, _, rfl, zBv (vs := [_,_]) isAgg28 sizeOf28 g6 (aow 1 [_,_])⟩, trivial⟩ ?_)))))
  exact ⟨rfl, g6.tail.tail.tail⟩

theorem c75n {w0 w : World} {F : List (Nat × Obj)} (r : Room) (p : AtR) (rb mm : Nat) (hk : RK w0 F r p rb mm) (x : List Int) (hx : Wok x) (es : List (List Int × Value × Nat)) (ck : Nat) (hes : ∀ q ∈ es, q.1.length = 4) (hf : getA x es = none) (hs : St w0 w ((mm, .map (ents (fun l : List Int => ia l) es).toArray ck) :: F)) :
  Con Tryz.prog 75 [.pointer (some ⟨rb, 0, none⟩), ia x] w fun v w' => v = ia [(sum r x).1, (sum r x).2] ∧ St w0 w' ((mm, .map (ents (fun l : List Int => ia l) (putA x v ck es)).toArray (if idxA x es 0 = none then ck + 1 else ck)) :: F) := by
  refine zAo (n := 57) func75 rfl rfl (zNl rfl) ?_
  have hls := hk.ok.ls
  have hx4 := hx.len
  refine zAf (fun K2 gc => (zAa (zHo (l := _) zAc rfl rfl rfl hs (fun b3 w4 gd => ?_))))
  refine zA5 (cs := [_,_]) zAc zeroValue28 rfl gd (fun b6 w7 ge => ?_)
  refine zAe (zAb (gc _ _ (zAf (fun gE gf => (zAf (fun gF gg => (zCc [10] [(0,0),(1,0),(2,0),(3,1),(4,1),(5,1),(6,0),(7,0),(8,0),(9,2),(10,3),(11,0)] zB7 (zBs (by kernel_rfl)) ge (fun gG g4 => ?_))))))))
  refine d_w rfl (fun _ => zBi rfl rfl) rfl (d_w rfl (fun _ => zBl rfl rfl) rfl (d_w rfl (fun _ => zAd (o := 21) (i := 2) underlying103 rfl sizeOf101 rfl rfl rfl) rfl ?_))
  refine zA3 rfl zAc rfl g4 (fun _ hq => (zAi isAgg101 hq.tail.tail.tail rfl rfl hk.g)) ?_
  refine zA3 rfl zAc rfl g4 (fun _ hq => (zC2 (i := 1) isAgg94 sizeOf94 (by first | omega | rfl | (simp only [hx4, zL] <;> omega)) hq rfl rfl rfl)) ?_
  refine zA3 rfl zAc rfl g4 (fun _ hq => (G_look2N (i := 2) (a := x) underlying101 (keyG_ia keyW) hx.len hes (show ∀ w, (zeroValue 28).run Tryz.prog w = .ok (ia [0,0]) w from zeroValue28) hq rfl rfl rfl rfl rfl hf)) ?_
  refine d_w rfl (fun _ => zA6 rfl rfl) rfl (d_w rfl (fun _ => zBp (v := .agg _) rfl rfl rfl) rfl (d_w rfl (fun _ => zBf rfl rfl rfl) rfl ?_))
  refine zB0 rfl ?_
  refine zA5 (cs := [_,_]) zAc zeroValue28 rfl g4 (fun gh gH g7 => ?_)
  refine zAe (qn ⟨g7.tail, ?_⟩)
  refine zCa rfl ?_
  refine zBt 0 (.agg #[.int _ _, .int _ _]) [_,_] sizeOf28 g7 (fun gI gi => ?_)
  refine zAe (qn ?_)
  refine d_w rfl (fun _ => zAl rfl rfl) rfl ?_
  refine zB5 ?_
  refine zAb (gg _ _ (zAf (fun gJ gj => (zAa (w_p (zAn rfl rfl) rfl (zAe (zAb (gj _ _ (zBj rfl rfl ?_)))))))))
  refine zAr (zAb (gf _ _ (zAf (fun gK gk => (zAa (zA5 (cs := [_,_]) zAc zeroValue28 rfl gi (fun gm gL g8 => ?_)))))))
  refine zAe (zAb (gk _ _ (zAf (fun gM gn => (zAf (fun gN gq => (zAa (w_p (zBi rfl rfl) rfl (w_p (zBl rfl rfl) rfl (w_p (zAd (o := 0) (i := 0) underlying103 rfl sizeOf33 rfl rfl rfl) rfl ?_))))))))))
  refine w_p (zAd (o := 3) (i := 2) underlying33 rfl sizeOf29 rfl rfl rfl) rfl (w_p (zAi isAgg29 g8.tail.tail.tail.tail.tail rfl rfl (show Ats _ _ _ _ [_] from Ats.part hk.c 3 1)) rfl (w_p (zBd underlying29 rfl rfl) rfl (w_p (zBo (v := _) rfl rfl) rfl (zAe (zAb (gq _ _ (zAw ?_)))))))
  refine zB2 [8,9,27,28,29,30,31,32,33,34,35,36,37,38,39,40,41,42,43,44,45,46,47,48,49] [27] (fun kk vs w => ∃ i : Nat, vs = [.int .i64 (i : Int)] ∧ i ≤ r.sets.length ∧ kk = r.sets.length - i ∧ St w0 w ((gm, blk 28 [.int .i64 (sumTo r x i).1, .int .i64 (sumTo r x i).2]) :: (gh, blk 28 [.int .i64 0, .int .i64 0]) :: (b6, blk 28 [.int .i64 0, .int .i64 0]) :: (b3, blk 94 (iv x)) :: (mm, .map (ents (fun l : List Int => ia l) es).toArray ck) :: F)) (r.sets.length) ?_ ?_
  ·
   exact ⟨0, rfl, by omega, by omega, g8⟩
  intro k vs μ gO hI gP gr
  clear hs
  obtain ⟨i, rfl, hia, rfl, hs⟩ := hI
  refine zAf (fun gQ gt => (zAa (w_p (zCb rfl rfl rfl rfl) rfl (zAe (zAb (gt _ _ (zAf (fun gR gu => (zAv rfl rfl (fun g6 => ?_) (fun g6 => ?_))))))))))
  ·
   try simp only [zS] at g6
   refine zAr (zAb (gu _ _ (zAf (fun gS gw => (zAw ?_)))))
   refine zAf (fun gT gx => ?_)
   have hi2 : i < r.sets.length := by omega
   obtain ⟨bs, os_, hbs, hxs⟩ := sl_trows hk.i.s hi2
   have hso := hk.ok.sets _ (List.getElem_mem hi2)
   have hm1 := mul_in (hx.nn i) (b := r.sets[i].lo) (by omega)
   have hm2 := mul_in (hx.nn i) (b := r.sets[i].hi) (by omega)
   have hsb := sum_bd hk.ok hx i
   refine zAa (zA2 rfl rfl (w_p (zA7 underlying29 sizeOf61 rfl rfl (congrArg (fun a => Value.slice a _ _) hbs) rfl (i := i) rfl hi2) rfl (w_p (zAs (vs := [_,_,_]) isAgg61 sizeOf61 hs.tail.tail.tail.tail.tail rfl rfl hxs) rfl (zA5 (cs := [_,_,_]) zAc zeroValue61 rfl hs (fun gU gV gy => ?_)))))
   refine zBg rfl rfl (zBt 0 (.agg #[.string _, .int _ _, .int _ _]) [_,_,_] sizeOf61 gy (fun gW gz => ?_))
   refine zAe (zAb (gx _ _ (zCc [17] [(0,1),(1,0),(2,0),(3,1),(4,0),(5,0),(6,1),(7,0),(8,0),(9,0),(10,1),(11,0),(12,0),(13,1),(14,0),(15,0),(16,2),(17,3)] zB7 (zBs (by kernel_rfl)) gz (fun gX g3 => ?_))))
   refine zA3 rfl zAc rfl g3 (fun _ hq => (zAs (vs := [_,_]) isAgg28 sizeOf28 hq rfl rfl (aow 1 [_,_]))) ?_
   refine d_w rfl (fun _ => zAu rfl rfl) rfl (d_w rfl (fun _ => zBn underlying94 sizeOf3 rfl rfl rfl rfl (i := i) (by first | rfl | omega) (by omega)) rfl ?_)
   refine zA3 rfl zAc rfl g3 (fun _ hq => (zAi isAgg3 hq rfl rfl (zDr (i := 4) (j := i) rfl (by first | omega | rfl | (simp only [hx4, zL] <;> omega))))) ?_
   refine d_w rfl (fun _ => zAd (o := 1) (i := 1) underlying61 rfl sizeOf28 rfl rfl rfl) rfl (d_w rfl (fun _ => zAd (o := 0) (i := 0) underlying28 rfl sizeOf3 rfl rfl rfl) rfl ?_)
   refine zA3 rfl zAc rfl g3 (fun _ hq => (zAi isAgg3 hq rfl rfl (aow 0 [_]))) ?_
   refine d_w rfl (fun _ => y_mul rfl rfl rfl rfl (by omega) (by omega)) rfl (d_w rfl (fun _ => zAu rfl rfl) rfl (d_w rfl (fun _ => zBn underlying94 sizeOf3 rfl rfl rfl rfl (i := i) (by first | rfl | omega) (by omega)) rfl ?_))
   refine zA3 rfl zAc rfl g3 (fun _ hq => (zAi isAgg3 hq rfl rfl (zDr (i := 4) (j := i) rfl (by first | omega | rfl | (simp only [hx4, zL] <;> omega))))) ?_
   refine d_w rfl (fun _ => zAd (o := 1) (i := 1) underlying61 rfl sizeOf28 rfl rfl rfl) rfl (d_w rfl (fun _ => zAd (o := 1) (i := 1) underlying28 rfl sizeOf3 rfl rfl rfl) rfl ?_)
   refine zA3 rfl zAc rfl g3 (fun _ hq => (zAi isAgg3 hq rfl rfl (aow 0 [_]))) ?_
   refine d_w rfl (fun _ => y_mul rfl rfl rfl rfl (by omega) (by omega)) rfl (d_w rfl (fun _ => zCh (ps := [(0, _),(1, _)]) (pv := [(0, .int _ _),(1, .int _ _)]) rfl rfl (fun w => Try_QG_fb2 _ _ w)) rfl ?_)
   refine zB0 rfl ?_
   refine zCi zAc call52 rfl rfl rfl rfl (c52 _ _ _ _ (by omega) (by omega) (by omega) (by omega) g3) (fun gY g9 => ?_)
   refine zAe (qn ⟨g9, ?_⟩)
   refine zCa rfl ?_
   refine zBt 1 (.agg #[.int _ _, .int _ _]) [_,_] sizeOf28 g9 (fun gZ gA => ?_)
   refine zAe (qn ?_)
   refine zB5 ?_
   refine zAk (zAb (gw _ _ (zAa (w_p (zBe rfl rfl rfl rfl (by omega) (by omega)) rfl (zA2 rfl rfl (zAe (zAb (gr _ _ (nxI (r.sets.length - (i + 1)) (by omega) ?_)))))))))
   have gB := (show St _ _ (_ :: _ :: _ :: _ :: _ :: F) from gA.tail)
   exact ⟨i + 1, rfl, by omega, rfl, by rw [sumTo, set_at hi2]; exact gB⟩
  try simp only [zS] at g6
  refine zBr (zAj (zAj (zAy (zAb (gn _ _ (zAf (fun hG gC => ?_)))))))
  have hil : i = r.sets.length := by omega
  subst hil
  refine zCc [6] [(0,0),(1,0),(2,0),(3,1),(4,1),(5,1),(6,3)] zB7 (zBs (by kernel_rfl)) hs (fun hH g5 => ?_)
  refine d_w rfl (fun _ => zBi rfl rfl) rfl (d_w rfl (fun _ => zBl rfl rfl) rfl (d_w rfl (fun _ => zAd (o := 21) (i := 2) underlying103 rfl sizeOf101 rfl rfl rfl) rfl ?_))
  refine zA3 rfl zAc rfl g5 (fun _ hq => (zAi isAgg101 hq.tail.tail.tail.tail.tail rfl rfl hk.g)) ?_
  refine zA3 rfl zAc rfl g5 (fun _ hq => (zC2 (i := 3) isAgg94 sizeOf94 (by first | omega | rfl | (simp only [hx4, zL] <;> omega)) hq rfl rfl rfl)) ?_
  refine zA3 rfl zAc rfl g5 (fun _ hq => (zAs (vs := [_,_]) isAgg28 sizeOf28 hq rfl rfl (aow 0 [_,_]))) ?_
  refine zCa rfl ?_
  refine G_put (i := 4) (a := x) zAc underlying101 (keyG_ia keyW) hx.len hes rfl rfl rfl rfl rfl rfl g5 rfl (fun hO ga => ?_)
  refine zAe (qn ?_)
  refine zB5 ?_
  refine zAb (gC _ _ (zAf (fun hY gD => (zAa (w_p (zAs (vs := [_,_]) isAgg28 sizeOf28 ga rfl rfl (aow 0 [_,_])) rfl ?_)))))
  refine zBt 2 (.agg #[.int _ _, .int _ _]) [_,_] sizeOf28 ga (fun j0 gb => ?_)
  refine zAe (zAb (gD _ _ (zA0 (zA1 (l := [.cell 4 28]) (vs := [_]) rfl ⟨⟨rfl, _, rfl, zBv (vs := [_,_]) isAgg28 sizeOf28 gb (aow 2 [_,_])⟩, trivial⟩ ?_))))
  exact ⟨rfl, gb.tail.tail.tail.tail⟩

theorem getA_mem {α : Type} [DecidableEq α] {a : α} {u : Value} : ∀ {l : List (α × Value × Nat)}, getA a l = some u → ∃ q ∈ l, q.1 = a ∧ q.2.1 = u
  | [], h => by simp [getA] at h
  | q :: l, h => by
    by_cases e : q.1 = a
    · simp only [getA, if_pos e] at h
      exact ⟨q, .head _, e, by simpa using h⟩
    · simp only [getA, if_neg e] at h
      obtain ⟨x, hx, h1, h2⟩ := getA_mem h
      exact ⟨x, .tail _ hx, h1, h2⟩
theorem sum_con {w0 w : World} {X M F : List (Nat × Obj)} (r : Room) (p : AtR) (rb mm : Nat) (hk : RK w0 F r p rb mm) (x : List Int) (hx : Wok x) (hM : Memo r mm M) (hs : St w0 w (X ++ (M ++ F))) :
    Con Tryz.prog 75 [.pointer (some ⟨rb, 0, none⟩), ia x] w fun v w' => v = ia [(sum r x).1, (sum r x).2] ∧ ∃ M', Memo r mm M' ∧ St w0 w' (X ++ (M' ++ F)) := by
  obtain ⟨es, ck, rfl, hok, hlen, hes⟩ := hM
  have g4 : St w0 w ((mm, .map (ents (fun l : List Int => ia l) es).toArray ck) :: (X ++ F)) := hs.perm (zB3 X [_] F)
  cases hf : getA x es with
  | none =>
    refine (c75n r p rb mm hk.app x hx es ck hlen hf g4).mono ?_
    rintro v w' ⟨rfl, g3⟩
    refine ⟨rfl, [_], ⟨_, _, rfl, hok.put _ _, fun q hq => ?_, fun q hq => ?_⟩, g3.perm (zB3 [_] X F)⟩
    · rcases zHz hq with ⟨h1, _⟩ | h
      · rw [h1]; exact hx.len
      · exact hlen q h
    · rcases zHz hq with ⟨h1, h2⟩ | h
      · rw [h1, h2]
      · exact hes q h
  | some u =>
    obtain ⟨q, hq, h1, h2⟩ := getA_mem hf
    have h3 := hes q hq
    rw [h1, h2] at h3
    subst h3
    refine (c75f r p rb mm hk.app x hx es ck hlen hf g4).mono ?_
    rintro v w' ⟨rfl, g3⟩
    exact ⟨rfl, [_], ⟨es, ck, rfl, hok, hlen, hes⟩, g3.perm (zB3 [_] X F)⟩
end Go.Proofs.Ro
/- The walking engine, part 28: ranges over functions that yield what lies in memory of their own. No conditions. -/
namespace Go.Rt
open Go.RowKit
variable {r : Option Nat} {P : Program} {ops : Array Oper} {Q : Exit → Act → World → Prop} {rest : List Oper} {n : Nat} {ρ : Nat → Value} {ds : List Deferred} {w w0 : World} {L : List (Nat × Obj)}
def IterV {α : Type} (P : Program) (k : FuncId) (first captured : List Value) (xs : List α) (V : α → Value → List (Nat × Obj) → Prop) (w0 : World) (F : List (Nat × Obj)) : Prop :=
  ∀ (J : Nat → List (Nat × Obj) → Prop) (Js : Nat → Value → List (Nat × Obj) → Prop) (yv : Value) (B X : List (Nat × Obj)) (w : World), (∃ f a b, yv = .func f a b) →
    (∀ i (hi : i < xs.length) v B X w, V xs[i] v X → J i B → St w0 w (X ++ (B ++ F)) → FCon P yv [v] w fun u w' => ∃ B', St w0 w' (X ++ (B' ++ F)) ∧ (u = .bool true ∧ J (i + 1) B' ∨ u = .bool false ∧ Js i v B')) →
    J 0 B → St w0 w (X ++ (B ++ F)) →
    Con P k (first ++ ([yv] ++ captured)) w fun _ w' => (∃ B', St w0 w' (X ++ (B' ++ F)) ∧ J xs.length B') ∨ ∃ i, ∃ hi : i < xs.length, ∃ v Y B', V xs[i] v Y ∧ Js i v B' ∧ St w0 w' (X ++ (Y ++ (B' ++ F)))
theorem w_rangeV {α : Type} {V : α → Value → List (Nat × Obj) → Prop} (hVm : ∀ x v b Y, V x v Y → V x v (b :: Y)) {g : Operand} {pt : Nat} {assign body : Code} {k : FuncId} {first captured : Array Value} {xs : List α} {F : List (Nat × Obj)} (B : List (Nat × Obj)) (J : Nat → List (Nat × Obj) → Prop) (Js : Nat → Value → Code → List (Nat × Obj) → Prop)
    (hog : okO n g = true) (hg : ev ρ g = .func (.func k) first captured) (hpt : Nat.blt pt n = true) (hC : CF P k) (hit : IterV P k first.toList captured.toList xs V w0 F) (hst : St w0 w L) (hperm : L.Perm (B ++ F)) (h0 : J 0 B)
    (round : ∀ l i (hi : i < xs.length) v B X X' w, V xs[i] v X → V xs[i] v X' → J i B → St w0 w (B ++ (X ++ F)) → ∀ K : Act → World → Prop,
      (∀ a w Y, St w0 w (Y ++ (X ++ F)) → (∀ w', St w0 w' (Y ++ (X' ++ F)) → WC (some l) P body (Rd w0 J (Js i v) i (X' ++ F)) a w') → K a w) →
      WC (some l) P assign (Exit.then K fun _ _ _ => False) (A n (upd ρ pt v) []) w)
    (hend : ∀ bd B w, J xs.length B → St w0 w ((bd, .deferred (some [])) :: (B ++ F)) → Q .normal (A n ρ (mk bd :: ds)) w)
    (hjump : ∀ bd c i (hi : i < xs.length) v Y B w, V xs[i] v Y → Js i v c B → St w0 w ((bd, .deferred (some [])) :: (Y ++ (B ++ F))) → WC none P c Q (A n ρ (mk bd :: ds)) w) :
    WC none P (.rangeFunc g #[pt] assign body) Q (A n ρ ds) w := by
  refine wpIn_rangeFunc (F := FW none) fun fn _ => ?_
  have henter := run_enterLoop_outer (P := P) (w := w) fn (A n ρ ds).tmps #[pt] assign body
  let bd := w.heap.size
  let l := w.heap.size + 1
  let rc (s : LoopState) (pend : Option Code) : Obj := .loop { state := s, pending := pend, fn := fn, tmps := fa n ρ, params := #[pt], assign := assign, body := body, defers := bd }
  let w1 : World := (w.alloc (.deferred (some []))).alloc (rc .ready none)
  have hst1 : St w0 w1 ((l, rc .ready none) :: (bd, .deferred (some [])) :: L) := by
    have h1 := (hst.alloc (.deferred (some []))).alloc (rc .ready none)
    rw [World.size_alloc] at h1
    exact h1
  refine ⟨l, [mk bd], w1, { target := .fn (.func k) captured, args := first ++ #[.func (.yield l) #[] #[]] }, w1, k, first ++ #[.func (.yield l) #[] #[]] ++ captured, w1, henter, ?_, fun _ _ => trivial, ?_, fun h => (by simp at h), ?_⟩
  · have e1 : (#[Operand.const (Value.func (Fn.yield l) #[] #[])].map (A n ρ ds).eval) = #[Value.func (Fn.yield l) #[] #[]] := by simp [Act.eval]
    simp only [resolve, rangeCall, zB6 hog, hg, Deferred.ofValue, e1]
    rfl
  · exact hC (first ++ #[Value.func (Fn.yield l) #[] #[]] ++ captured) w1
  · have hperm1 : ((l, rc .ready none) :: (bd, .deferred (some [])) :: L).Perm ([] ++ (((l, rc .ready none) :: (bd, .deferred (some [])) :: B) ++ F)) := (List.Perm.cons _ (List.Perm.cons _ hperm))
    have hI := hit (fun i Bx => ∃ B, Bx = (l, rc .ready none) :: (bd, .deferred (some [])) :: B ∧ J i B) (fun i v Bx => ∃ B c, Bx = (l, rc .done (some c)) :: (bd, .deferred (some [])) :: B ∧ Js i v c B) (.func (.yield l) #[] #[])
      ((l, rc .ready none) :: (bd, .deferred (some [])) :: B) [] w1 ⟨_, _,_, rfl⟩ ?_ ⟨B, rfl, h0⟩ (hst1.perm hperm1)
    · have hargs : (first ++ #[Value.func (Fn.yield l) #[] #[]] ++ captured) = (first.toList ++ ([Value.func (Fn.yield l) #[] #[]] ++ captured.toList)).toArray := by
        apply Array.ext'; simp
      rw [hargs]
      refine CallsIn.mono hI ?_
      rintro e w' ⟨v, rfl, hres⟩
      rcases hres with ⟨B', hst', B, rfl, hB⟩ | ⟨i, hi, v, Y, B', hV, ⟨B, c, rfl, hB⟩, hst'⟩
      · have hg' := hst'.get (i := 0) rfl
        refine ⟨none, _, run_endLoop hg' (by simp), ?_⟩
        exact hend bd B _ hB (hst'.putObj (i := 0) rfl _).tail
      · have hst9 : St w0 w' ((l, rc .done (some c)) :: (bd, .deferred (some [])) :: (Y ++ (B ++ F))) := hst'.perm (zB3 Y [(l, rc .done (some c)), (bd, .deferred (some []))] (B ++ F))
        have hg' := hst9.get (i := 0) rfl
        refine ⟨some c, _, run_endLoop hg' (by simp), ?_⟩
        exact hjump bd c i hi v Y B _ hV hB (hst9.putObj (i := 0) rfl _).tail
    · rintro i hi v Bx X w2 hV ⟨B, rfl, hB⟩ hst2
      have hp : (X ++ (((l, rc .ready none) :: (bd, .deferred (some [])) :: B) ++ F)).Perm ((l, rc .ready none) :: (bd, .deferred (some [])) :: (X ++ (B ++ F))) := zB3 X [(l, rc .ready none), (bd, .deferred (some []))] (B ++ F)
      have hst3 := hst2.perm hp
      have hg' := hst3.get (i := 0) rfl
      refine .inr ⟨l, fn, fa n (upd ρ pt v), assign, body, rfl, ?_, ?_⟩
      · rw [run_yield hg' rfl]
        simp [rc, fa_put]
      · refine roundIn_of_wpIn (F := FW none) trivial ?_
        have hp2 : ((l, rc .ready none) :: (bd, .deferred (some [])) :: (X ++ (B ++ F))).Perm (B ++ (((l, rc .ready none) :: (bd, .deferred (some [])) :: X) ++ F)) :=
          zB3 ((l, rc .ready none) :: (bd, .deferred (some [])) :: X) B F
        refine round l i hi v B ((l, rc .ready none) :: (bd, .deferred (some [])) :: X) ((l, rc .busy none) :: (bd, .deferred (some [])) :: X) w2 (hVm _ _ _ _ (hVm _ _ _ _ hV)) (hVm _ _ _ _ (hVm _ _ _ _ hV)) hB (hst3.perm hp2) _ ?_
        intro a w3 Y hst4 hbody
        have hp3 : (Y ++ (((l, rc .ready none) :: (bd, .deferred (some [])) :: X) ++ F)).Perm ((l, rc .ready none) :: (Y ++ (((bd, .deferred (some [])) :: X) ++ F))) := zB3 Y [(l, rc .ready none)] _
        have hst5 := hst4.perm hp3
        have hg5 := hst5.get (i := 0) rfl
        refine ⟨_, run_beginRound hg5 rfl, ?_⟩
        have hst6 := hst5.putObj (i := 0) rfl (rc .busy none)
        have hp4 : ((l, rc .busy none) :: (Y ++ (((bd, .deferred (some [])) :: X) ++ F))).Perm (Y ++ (((l, rc .busy none) :: (bd, .deferred (some [])) :: X) ++ F)) := (zB3 Y [(l, rc .busy none)] _).symm
        refine w_mono (hbody _ (hst6.perm hp4)) ?_
        have back : ∀ (B' : List (Nat × Obj)) (w : World) (s : LoopState) (pend : Option Code), St w0 w (B' ++ (((l, rc .busy none) :: (bd, .deferred (some [])) :: X) ++ F)) → w.heap[l]? = some (rc .busy none) ∧
            St w0 (w.putObj l (rc s pend)) (X ++ (((l, rc s pend) :: (bd, .deferred (some [])) :: B') ++ F)) := by
          intro B' w s pend h
          have h1 := h.perm (zB3 B' [(l, rc .busy none)] (((bd, .deferred (some [])) :: X) ++ F))
          refine ⟨h1.get (i := 0) rfl, ?_⟩
          have h2 := h1.putObj (i := 0) rfl (rc s pend)
          refine h2.perm ?_
          show ((l, rc s pend) :: (B' ++ (((bd, .deferred (some [])) :: X) ++ F))).Perm _
          refine (List.Perm.cons _ (zB3 B' [(bd, .deferred (some []))] (X ++ F))).trans ?_
          refine (List.Perm.cons _ (List.Perm.cons _ (zB3 B' X F))).trans ?_
          exact (zB3 X [(l, rc s pend), (bd, .deferred (some []))] (B' ++ F)).symm
        intro e a' w' hq
        cases e with
        | normal =>
          obtain ⟨B', hs, hJ⟩ := hq
          obtain ⟨hb1, hb2⟩ := back B' w' .ready none hs
          exact ⟨_, _, run_endRound none hb1, _, rfl, _, hb2, .inl ⟨rfl, B', rfl, hJ⟩⟩
        | ret =>
          obtain ⟨B', hs, hJ⟩ := hq
          obtain ⟨hb1, hb2⟩ := back B' w' .done (some .ret) hs
          exact ⟨_, _, run_endRound (some .ret) hb1, _, rfl, _, hb2, .inr ⟨rfl, B', _, rfl, hJ⟩⟩
        | exit id =>
          obtain ⟨B', hs, hJ⟩ := hq
          obtain ⟨hb1, hb2⟩ := back B' w' .done (some (.exit id)) hs
          exact ⟨_, _, run_endRound (some (.exit id)) hb1, _, rfl, _, hb2, .inr ⟨rfl, B', _, rfl, hJ⟩⟩
        | goto t => exact hq.elim
        | panic c => exact hq.elim
        | outgrown => exact hq.elim

end Go.Rt
/- The walking engine, part 29: a slice without room, appended to; slices with three bounds. No conditions. -/
namespace Go.Rt
open Go.RowKit
variable {P : Program} {w w0 : World} {L : List (Nat × Obj)}
theorem run_appendF {t ty el : TypeId} {i : TypeInfo} {z : Value} {sz bytes : Nat} (ht : P.underlying t = some (.slice el)) (hi : P.info? el = some i) (hz : i.zero = some z) (hsize : i.size = sz) (hby : i.bytes = bytes) (hzs : z.cells.size = sz) (hsz : 0 < sz)
    {n m c : Nat} {av : Option Addr} {olds : List (List Value)} (hst : St w0 w L) (hold : Sl w0 L av sz olds) (hn : olds.length = n) {ax : Option Addr} {rows : List (List Value)} (hsl : Sl w0 L ax sz rows) (hm : rows.length = m)
    (hm0 : 0 < m) (hax : ax ≠ none) (h63 : n + m ≤ maxLen) (hbytes : (n + m) * bytes ≤ 140737488355328) :
    ∃ v' w' B', (Builtin.append_ #[t, t] ty #[.slice av n n, .slice ax m c]).run P w = .ok v' w' ∧ Own v' el sz (n + m) (olds.flatten ++ rows.flatten) B' ∧ St w0 w' (B' ++ L) := by
  subst hsize hby
  have hsmall : n + m ≤ 9223372036854775807 := by simp only [maxLen] at h63; omega
  have hrl : ∀ row ∈ rows, row.length = i.size := by
    intro row hr
    obtain ⟨j, hj⟩ := List.mem_iff_getElem?.1 hr
    obtain ⟨_, _,_, h, _⟩ := hsl.at hj
    exact h
  have flen : ∀ (rows : List (List Value)), (∀ row ∈ rows, row.length = i.size) → rows.flatten.length = rows.length * i.size := by
    intro rows
    induction rows with
    | nil => intro _; simp
    | cons x rows ih =>
      intro hr
      rw [List.flatten_cons, List.length_append, ih (fun y hy => hr y (.tail _ hy)), hr x (.head _), List.length_cons, Nat.succ_mul, Nat.add_comm]
  have hl : rows.flatten.length = m * i.size := by rw [flen rows hrl, hm]
  have hol : ∀ row ∈ olds, row.length = i.size := by
    intro row hr
    obtain ⟨j, hj⟩ := List.mem_iff_getElem?.1 hr
    obtain ⟨_, _,_, h, _⟩ := hold.at hj
    exact h
  have hxl : olds.flatten.length = n * i.size := by rw [flen olds hol, hn]
  have key : ∀ (rows : List (List Value)) (j : Nat) (u : Value), (∀ row ∈ rows, row.length = i.size) → rows.flatten[j]? = some u → ∃ k row q, rows[k]? = some row ∧ row[q]? = some u ∧ j = k * i.size + q := by
    intro rows
    induction rows with
    | nil => intro j u _ h; simp at h
    | cons x rows ih =>
      intro j u hr h
      have hx := hr x (.head _)
      rw [List.flatten_cons, List.getElem?_append] at h
      split at h
      · exact ⟨0, x, j, rfl, h, by simp⟩
      · rename_i hge
        obtain ⟨k, row, q, a1, a2, a3⟩ := ih _ u (fun y hy => hr y (.tail _ hy)) h
        exact ⟨k + 1, row, q, a1, a2, by rw [Nat.succ_mul]; omega⟩
  have cellsAt : ∀ (rs : List (List Value)) (ad : Addr), (∀ row ∈ rs, row.length = i.size) → Sl w0 L (some ad) i.size rs → ∀ j u, rs.flatten[j]? = some u → w.cell? (ad.add j) = some u := by
    intro rs ad hrs hs
    rcases hs with h | ⟨b, off, h, hat⟩
    · subst h; intro j u hu; simp at hu
    · cases h
      intro j u hu
      rw [Addr.add_lit]
      obtain ⟨k, row, q, a1, a2, rfl⟩ := key rs j u hrs hu
      have := (hat k row a1).2 q u a2 w hst
      rwa [Nat.add_assoc] at this
  have hlen : (olds.flatten ++ rows.flatten).length = (n + m) * i.size := by rw [List.length_append, hxl, hl, Nat.add_mul]
  cases ax with
  | none => exact absurd rfl hax
  | some ad =>
    have hnews := cellsAt rows ad hrl hsl
    have grown : ∀ (old : Nat), old < n + m →
        Own (.slice (some ⟨w.heap.size, 0, none⟩) (n + m) (grownCap w (n + m) old el)) el i.size (n + m) (olds.flatten ++ rows.flatten)
          [(w.heap.size, .cells (olds.flatten.toArray ++ rows.flatten.toArray ++ Builtin.zeroCells z.cells (grownCap w (n + m) old el - (n + m))) el (0,0))] ∧
        St w0 (w.drew.alloc (.cells (olds.flatten.toArray ++ rows.flatten.toArray ++ Builtin.zeroCells z.cells (grownCap w (n + m) old el - (n + m))) el))
          ([(w.heap.size, .cells (olds.flatten.toArray ++ rows.flatten.toArray ++ Builtin.zeroCells z.cells (grownCap w (n + m) old el - (n + m))) el (0,0))] ++ L) := by
      intro old ho
      have hge := grownCap_ge w (n + m) old el
      have hcm : grownCap w (n + m) old el ≤ maxLen := grownCap_le_maxLen w (n + m) old el h63
      refine ⟨⟨hlen, .inr ⟨w.heap.size, _, olds.flatten ++ rows.flatten ++ (Builtin.zeroCells z.cells (grownCap w (n + m) old el - (n + m))).toList, rfl, ?_, hge, hcm, ?_, ?_⟩⟩, ?_⟩
      · simp [blk]
      · simp only [List.length_append, Array.length_toList, size_zeroCells, hzs, hxl, hl, ← Nat.add_mul]
        congr 1
        omega
      · rw [← hlen]
        exact List.take_left
      · have hL : St w0 w L := hst
        exact hL.push w.heap.size _ (Nat.le_refl _) (heap_alloc_new w.drew _) (by simp) (fun k hk => by have := Below.heap_alloc w.drew (.cells (olds.flatten.toArray ++ rows.flatten.toArray ++ Builtin.zeroCells z.cells (grownCap w (n + m) old el - (n + m))) el) k hk; exact this) rfl rfl rfl
    cases av with
    | none =>
      have hr0 : olds = [] := by
        rcases hold with h | ⟨_, _, h, _⟩
        · exact h
        · cases h
      subst hr0
      simp only [List.length_nil] at hn
      subst hn
      have hr := run_append_nil (P := P) w t ty el i z ht hi hz ad m c rows.flatten hl hnews (by omega) (by omega) (by have hb := hbytes; simp only [Nat.zero_add] at hb; omega)
      have hgr := grown 0 (by omega)
      simp only [Nat.zero_add, List.flatten_nil, List.nil_append, Array.empty_append] at hgr ⊢
      exact ⟨_, _,_, hr, hgr.1, hgr.2⟩
    | some ag =>
      have holds := cellsAt olds ag hol hold
      have hr := run_append_grow (P := P) w t ty el i z ht hi hz ag n n olds.flatten hxl holds ad m c rows.flatten hl hnews (by omega) (by omega) (growslice_fits (by omega) hbytes)
      have hgr := grown n (by omega)
      exact ⟨_, _,_, hr, hgr.1, hgr.2⟩
variable {r : Option Nat} {ops : Array Oper} {Q : Exit → Act → World → Prop} {rest : List Oper} {n : Nat} {ρ : Nat → Value} {ds : List Deferred} {d' : Option Tmp} {ty : TypeId} {p : String} {e : Array Edge} {g : Option (Nat × Bool)}

theorem w_appendF {d : Nat} {t el : TypeId} {i : TypeInfo} {z : Value} {sz bytes : Nat} {s x : Operand} {k m c : Nat} {av ax : Option Addr} {olds rows : List (List Value)}
    (hw : Want ops (A n ρ ds) ⟨some d, .call ⟨.builtin .append, #[s, x], #[t, t]⟩, ty, p, e, g⟩)
    (ht : P.underlying t = some (.slice el)) (hi : P.info? el = some i) (hz : i.zero = some z) (hsize : i.size = sz) (hby : i.bytes = bytes) (hzs : z.cells.size = sz) (hsz : Nat.blt 0 sz = true)
    (ho : okO n s = true) (ho1 : okO n x = true) (hs : ev ρ s = .slice av k k) (hx : ev ρ x = .slice ax m c)
    (hst : St w0 w L) (hold : Sl w0 L av sz olds) (hn : olds.length = k) (hsl : Sl w0 L ax sz rows) (hm : rows.length = m) (hm0 : 0 < m) (hax : ax ≠ none)
    (h63 : k + m ≤ maxLen) (hbytes : (k + m) * bytes ≤ 140737488355328)
    (hk : ∀ v' w' B', Own v' el sz (k + m) (olds.flatten ++ rows.flatten) B' → St w0 w' (B' ++ L) → WL r P ops Q rest (A n (upd ρ d v') ds) w') :
    WL r P ops Q (⟨some d, .call ⟨.builtin .append, #[s, x], #[t, t]⟩, ty, p, e, g⟩ :: rest) (A n ρ ds) w := by
  obtain ⟨v', w', B', hr, hown', hst'⟩ := run_appendF (P := P) (ty := ty) ht hi hz hsize hby hzs (Nat.le_of_ble_eq_true hsz) hst hold hn hsl hm hm0 hax h63 hbytes
  refine w_val (v := v') (w' := w') hw ?_ rfl (hk v' w' B' hown' hst')
  have e1 : execOp (A n ρ ds).eval ⟨some d, .call ⟨.builtin .append, #[s, x], #[t, t]⟩, ty, p, e, g⟩ = (do pure (.value (← Builtin.append_ #[t, t] ty #[.slice av k k, .slice ax m c]))) := by
    simp only [execOp, resolve]
    have : (#[s, x].map (A n ρ ds).eval) = #[.slice av k k, .slice ax m c] := by simp [zB6 ho, zB6 ho1, hs, hx]
    rw [this]
    rfl
  rw [e1, Sem.run_bind, hr]
  rfl
theorem y_slice3 {t el sz : Nat} {x y u : Operand} {a : Option Addr} {l c h' m' : Nat} {k k2 : IntKind} {z z2 : Int} (hU : P.underlying t = some (.slice el)) (hsz : ∀ w, (sizeOf el).run P w = .ok sz w) (ho : okO n x = true) (ho1 : okO n y = true) (ho2 : okO n u = true) (hx : ev ρ x = .slice a l c)
    (hy : ev ρ y = .int k z) (hz : z = (h' : Int)) (hu : ev ρ u = .int k2 z2) (hz2 : z2 = (m' : Int)) (h1 : h' ≤ m') (h2 : m' ≤ c) :
    Yd P (A n ρ ds) ⟨d', .slice t x none (some y) (some u), ty, p, e, g⟩ w (.slice (if m' = 0 then a else a.map (·.add (0 * sz))) h' m') := by
  have e1 : execOp (A n ρ ds).eval ⟨d', .slice t x none (some y) (some u), ty, p, e, g⟩ = (do pure (.value (← Instr.sliceAt t (.slice a l c) none (some (.int k z)) (some (.int k2 z2))))) := by
    simp only [execOp, zB6 ho, hx, Option.map_some, Option.map_none, zB6 ho1, zB6 ho2, hy, hu]
  unfold Yd
  rw [e1, Sem.run_bind]
  have b1 : ∀ (z : Int) (k : IntKind) (m y : Nat) (code : BoundsCode), z = (m : Int) → m ≤ y → (Instr.sliceBound (.int k z) y code).run P w = .ok m w := by
    intro z k m y code hz hm
    subst hz
    have : (0 : Int) ≤ (m : Int) ∧ (m : Int) ≤ (y : Int) := ⟨by omega, by omega⟩
    simp [Instr.sliceBound, asIntOf, Sem.run_bind, Result.andThen, hm]
  have key : (Instr.sliceBounds true l c none (some (.int k z)) (some (.int k2 z2))).run P w = .ok (0, h', m') w := by
    unfold Instr.sliceBounds
    have t1 := b1 z2 k2 m' c .slice3Acap hz2 h2
    have t2 := b1 z k h' m' .slice3B hz h1
    simp [Sem.run_bind, Result.andThen, t1, t2]
  have : (Instr.sliceAt t (.slice a l c) none (some (.int k z)) (some (.int k2 z2))).run P w = .ok (.slice (if m' = 0 then a else a.map (·.add (0 * sz))) h' m') w := by
    unfold Instr.sliceAt
    rw [Sem.run_bind, run_underlying hU]
    simp only [Result.andThen]
    unfold Instr.slice
    rw [Sem.run_bind, run_underlying hU]
    simp only [Result.andThen]
    rw [Sem.run_bind, key]
    simp only [Result.andThen]
    rw [Sem.run_bind, hsz]
    rfl
  rw [this]
  rfl
theorem addr_add0 (a : Option Addr) (n sz : Nat) : (if n = 0 then a else a.map (·.add (0 * sz))) = a := by
  split
  · rfl
  · cases a with
    | none => rfl
    | some x => simp [Addr.add]
end Go.Rt
set_option maxRecDepth 20000
namespace Go.Proofs.Ro
open Go.Proofs.Tryz
open Go.Rt Go.Rt.Ro
open Go.Rt.Ha (bit listL)
attribute [local irreducible] WL WC Con Yd At Ats Sl Agree DW
theorem Try_QH_fb2 (x0 : Int) (w : World) : (Instr.buildSlice 30 1 [(0, .int .i64 x0)].toArray).run Tryz.prog w = .ok (.slice (some ⟨w.heap.size, 0, none⟩) 1 1) (w.alloc (Go.Rt.blk 3 [.int .i64 x0])) := by kernel_rfl
theorem c103 {w0 w : World} {F : List (Nat × Obj)} (a : Option Addr) (n c : Nat) (hn : n ≤ c) (hs : St w0 w F) :
  Con Tryz.prog 103 [.slice a n c] w fun v w' => v = .slice a n n ∧ St w0 w' F := by
  refine zAo (n := 9) func103 rfl rfl (zNl rfl) ?_
  refine zAf (fun K2 g3 => (zAa (zA9 rfl rfl (zAe (zAb (g3 _ _ (zAf (fun K4 g4 => (zAa (w_p (zAx rfl rfl) rfl (w_p (zAx rfl rfl) rfl ?_)))))))))))
  refine w_p (zBd underlying30 rfl rfl) rfl (w_p (zAx rfl rfl) rfl (w_p (zBd underlying30 rfl rfl) rfl (w_p (zCq (addr_add0 _ _ _) (y_slice3 underlying30 sizeOf3 rfl rfl rfl rfl rfl rfl rfl rfl (Nat.le_refl _) hn)) rfl (w_p (zBh rfl rfl) rfl ?_))))
  refine zAe (zAb (g4 _ _ (zA0 (zA1 (l := [.tmp 2]) (vs := [_]) rfl ⟨⟨rfl, show _ = (.slice _ _ _ : Value) from rfl⟩, trivial⟩ ?_))))
  exact ⟨rfl, hs⟩

def VP (w0 : World) (q : Plan) (v : Value) (Y : List (Nat × Obj)) : Prop := ∃ a c, v = .agg (q.cells a c).toArray ∧ Sl w0 Y a 1 (q.l.map fun x => [Value.int .i64 x]) ∧ (a = none → c = 0) ∧ q.l.length ≤ c
theorem VP.cons {w0 : World} {q : Plan} {v : Value} {Y : List (Nat × Obj)} (x : Nat × Obj) (h : VP w0 q v Y) : VP w0 q v (x :: Y) := by obtain ⟨a, c, h1, h2, h3, h4⟩ := h; exact ⟨a, c, h1, h2.cons, h3, h4⟩
theorem VP.app {w0 : World} {q : Plan} {v : Value} {Y X : List (Nat × Obj)} (h : VP w0 q v Y) : VP w0 q v (X ++ Y) := by obtain ⟨a, c, h1, h2, h3, h4⟩ := h; exact ⟨a, c, h1, h2.app, h3, h4⟩
theorem VP.top {w0 : World} {q : Plan} {v : Value} {Y X : List (Nat × Obj)} (h : VP w0 q v Y) : VP w0 q v (Y ++ X) := by obtain ⟨a, c, h1, h2, h3, h4⟩ := h; exact ⟨a, c, h1, h2.mono fun _ h => h.front, h3, h4⟩
def NextP (r : Room) (many : Nat) (changes : Int) (bp bM bC bY bR bn : Nat) (Ls : List Plan) (J : Nat → List (Nat × Obj) → Prop) (Js : Nat → Value → List (Nat × Obj) → Prop) (w0 : World) (F : List (Nat × Obj)) (rem : Nat) : Prop :=
  ∀ (before : Int) (q : Plan) (a : Option Addr) (c i : Nat) (R : List Plan) (Y B X : List (Nat × Obj)) (w : World), -1 ≤ before ∧ before ≤ 3 → q.l.length + rem = many → Pok r q → Sl w0 Y a 1 (q.l.map fun x => [Value.int .i64 x]) → (a = none → c = 0) → q.l.length ≤ c → i ≤ Ls.length → Ls.drop i = plansF r.sets.length changes rem before q ++ R → J i B → St w0 w ((bp, blk 96 (q.cells a c)) :: (X ++ (Y ++ (B ++ F)))) →
    Con Tryz.prog 102 [.int .i64 before, .pointer (some ⟨bp, 0, none⟩), .pointer (some ⟨bM, 0, none⟩), .pointer (some ⟨bC, 0, none⟩), .pointer (some ⟨bY, 0, none⟩), .pointer (some ⟨bR, 0, none⟩), .pointer (some ⟨bn, 0, none⟩)] w fun v w' => (v = .bool true ∧ ∃ B' i' cs, i' ≤ Ls.length ∧ Ls.drop i' = R ∧ J i' B' ∧ cs.length = 6 ∧ St w0 w' ((bp, blk 96 cs) :: (X ++ (Y ++ (B' ++ F))))) ∨
      (v = .bool false ∧ ∃ j, ∃ hj : j < Ls.length, ∃ u Z B' cs, VP w0 Ls[j] u Z ∧ Js j u B' ∧ St w0 w' ((bp, blk 96 cs) :: (X ++ (Z ++ (B' ++ F)))))
theorem sl_top {w0 : World} {B F : List (Nat × Obj)} {a : Option Addr} {sz : Nat} {rows : List (List Value)} (h : Sl w0 B a sz rows) : Sl w0 (B ++ F) a sz rows := h.mono fun _ h => h.front
theorem asc1 {w0 w : World} {x : Nat × Obj} {X Y Z : List (Nat × Obj)} : St w0 w (x :: (X ++ (Y ++ Z))) ↔ St w0 w ((x :: (X ++ Y)) ++ Z) := by rw [List.cons_append, List.append_assoc]
theorem asc2 {w0 w : World} {x y : Nat × Obj} {X Y Z : List (Nat × Obj)} : St w0 w (x :: y :: (X ++ (Y ++ Z))) ↔ St w0 w (x :: ((y :: (X ++ Y)) ++ Z)) := by rw [List.cons_append, List.append_assoc]
theorem ways4 {l : List Int} (h : l.length = 4) : ∃ a b c d, l = [a, b, c, d] := by
  match l, h with
  | [a, b, c, d], _ => exact ⟨a, b, c, d, rfl⟩
theorem pw_at {w0 w : World} {L : List (Nat × Obj)} {i b t n : Nat} {s z : Value} {x1 x2 x3 x4 : Int} (_hs : St w0 w L) (hi : L[i]? = some (b, blk t [s, .int .i64 x1, .int .i64 x2, .int .i64 x3, .int .i64 x4, z])) (hn : n < 4) : Ats w0 L b (0 + 1 + n * 1) [.int .i64 ([x1, x2, x3, x4].getD n 0)] := by
  match n, hn with
  | 0, _ => exact zBm hi rfl
  | 1, _ => exact zBm hi rfl
  | 2, _ => exact zBm hi rfl
  | 3, _ => exact zBm hi rfl
theorem pw_put {n : Nat} {s z : Value} {x1 x2 x3 x4 x : Int} (hn : n < 4) : setMany [s, .int .i64 x1, .int .i64 x2, .int .i64 x3, .int .i64 x4, z] (0 + 1 + n * 1) [.int .i64 x] = s :: (iv ([x1, x2, x3, x4].set n x) ++ [z]) := by
  match n, hn with
  | 0, _ => rfl
  | 1, _ => rfl
  | 2, _ => rfl
  | 3, _ => rfl
theorem set6 {cs : List Value} {a b c d e f : Value} (h : cs.length = 6) : setMany cs 0 [a, b, c, d, e, f] = [a, b, c, d, e, f] := by
  match cs, h with
  | [_,_,_,_,_,_], _ => rfl
theorem own_more {w0 : World} {v : Value} {t : TypeId} {l : List Int} {z : Int} {B : List (Nat × Obj)} (h : Rt.Own v t 1 (l.length + 1) ((l.map fun x => [Value.int .i64 x]).flatten ++ [[Value.int .i64 z]].flatten) B) : ∃ a c, v = .slice a (l ++ [z]).length c ∧ Sl w0 B a 1 ((l ++ [z]).map fun x => [Value.int .i64 x]) ∧ (a = none → c = 0) ∧ (l ++ [z]).length ≤ c := by
  have e : (l.map fun x => [Value.int .i64 x]).flatten = iv l := by clear h; induction l <;> simp_all [iv]
  rw [e] at h
  have h2 := zEi h
  obtain ⟨a, c, h3, h4, h5⟩ := zHx (w0 := w0) h2
  refine ⟨a, c, h3, h4, h5, ?_⟩
  rcases h2.2 with ⟨h6, h7, _⟩ | ⟨b, cap, cs, h6, _, h8, _⟩
  · simp at h7
  · rw [h6] at h3; injection h3 with _ _ h9; omega
theorem c102 {w0 : World} {F : List (Nat × Obj)} {yv : Value} (r : Room) (p : AtR) (rb mm : Nat) (hk : RK w0 F r p rb mm) (many : Nat) (hmany : many ≤ 6) (changes : Int) (hch : 0 ≤ changes ∧ changes ≤ 6) (bp bM bC bY bR bn : Nat) (h2 : Ats w0 F bM 0 [.int .i64 (many : Int)]) (h3 : Ats w0 F bC 0 [.int .i64 changes]) (h4 : Ats w0 F bY 0 [yv]) (h5 : Ats w0 F bR 0 [.pointer (some ⟨rb, 0, none⟩)]) (h6 : Ats w0 F bn 0 [.func (.func 102) #[] #[.pointer (some ⟨bp, 0, none⟩), .pointer (some ⟨bM, 0, none⟩), .pointer (some ⟨bC, 0, none⟩), .pointer (some ⟨bY, 0, none⟩), .pointer (some ⟨bR, 0, none⟩), .pointer (some ⟨bn, 0, none⟩)]]) (Ls : List Plan) (J : Nat → List (Nat × Obj) → Prop) (Js : Nat → Value → List (Nat × Obj) → Prop) (hy : ∀ (i : Nat) (hi : i < Ls.length) (v : Value) (B X : List (Nat × Obj)) (w : World), VP w0 Ls[i] v X → J i B → St w0 w (X ++ (B ++ F)) → FCon Tryz.prog yv [v] w fun u w' => ∃ B', St w0 w' (X ++ (B' ++ F)) ∧ (u = .bool true ∧ J (i + 1) B' ∨ u = .bool false ∧ Js i v B')) (rem : Nat) (ih : ∀ k, rem = k + 1 → NextP r many changes bp bM bC bY bR bn Ls J Js w0 F k) : NextP r many changes bp bM bC bY bR bn Ls J Js w0 F rem := by
  intro before q a c i R Y B X w hbf hql hq hsl hnil hcl hi hpos hJ hs
  refine zAo (n := 70) func102 rfl rfl (zNl rfl) ?_
  obtain ⟨x1, x2, x3, x4, hw4⟩ := ways4 hq.wl
  obtain ⟨ql, qw, qc⟩ := q
  have hw5 : qw = [x1, x2, x3, x4] := hw4
  subst hw5
  have hqc := hq.ch
  dsimp only at hql hqc hcl hsl
  have hls := hk.ok.ls
  replace hs := (show St _ _ ((bp, blk 96 [.slice a ql.length c, .int .i64 x1, .int .i64 x2, .int .i64 x3, .int .i64 x4, .int .i64 qc]) :: (X ++ (Y ++ (B ++ F)))) from hs)
  refine zAf (fun K2 gn => (zAa (zA9 rfl rfl (zAe (zAb (gn _ _ (w_scope ?_)))))))
  refine zAf (fun K4 gq => (zAf (fun K6 gr => (zAa (w_p (zAd (o := 0) (i := 0) underlying96 rfl sizeOf30 rfl rfl rfl) rfl (w_p (zAi isAgg30 hs rfl rfl (aow 0 [_])) rfl (w_p (zBd underlying30 rfl rfl) rfl ?_)))))))
  refine w_p (zAi isAgg3 hs.tail.drop.drop.drop rfl rfl h2) rfl (w_p (zCk rfl rfl rfl rfl) rfl (zAe (zAb (gr _ _ (zAv rfl rfl (fun h7 => ?_) (fun h7 => ?_))))))
  ·
   try simp only [zS] at h7
   refine zAf (fun K9 g8 => ?_)
   have hr0 : rem = 0 := by omega
   subst hr0
   refine zAa (w_p (zAd (o := 5) (i := 2) underlying96 rfl sizeOf3 rfl rfl rfl) rfl (w_p (zAi isAgg3 hs rfl rfl (aow 0 [_])) rfl (w_p (zAi isAgg3 hs.tail.drop.drop.drop rfl rfl h3) rfl (w_p (zCj rfl rfl rfl rfl) rfl (w_p (zAn rfl rfl) rfl ?_)))))
   refine zBk (fun g9 => ?_) (fun g9 => ?_)
   ·
    try simp only [zS] at g9
    refine zAg rfl rfl rfl ?_
    refine zAg rfl rfl rfl ?_
    refine zAg rfl rfl rfl ?_
    refine w_p (zAt (v := _) rfl rfl rfl rfl) rfl (w_p (zAl rfl rfl) rfl (zAe (zAb (g8 _ _ (zA0 (zAh (zGl ?_)))))))
    refine zA1 (l := [.tmp 8]) (vs := [_]) rfl ⟨⟨rfl, (rfl : _ = Value.bool _)⟩, trivial⟩ ?_
    first
      | exact .inl ⟨rfl, B, i, _, hi, by rw [hpos]; unfold plansF; rw [if_neg (by assumption)]; rfl, hJ, rfl, hs⟩
      | exact .inl ⟨rfl, B1, i + 1, _, by have h9 := congrArg List.length hpos; simp at h9; omega, by have h9 := congrArg List.tail hpos; rw [List.tail_drop] at h9; exact h9, hJ1, rfl, hs⟩
      | exact .inr ⟨rfl, i, hil, _, Y, B1, _, hVy, hJ1, hs⟩
      | exact .inl ⟨rfl, B, i, _, hi, by rw [zFr (by omega), List.nil_append] at hpos; exact hpos, hJ, rfl, hs⟩
   try simp only [zS] at g9
   have hpos0 : Ls.drop i = (⟨ql, [x1, x2, x3, x4], qc⟩ : Plan) :: R := by rw [hpos]; unfold plansF; rw [if_pos (by assumption)]; rfl
   have hil : i < Ls.length := by have h9 := congrArg List.length hpos0; simp at h9; omega
   have hgi : Ls[i] = (⟨ql, [x1, x2, x3, x4], qc⟩ : Plan) := by have h9 := List.drop_eq_getElem_cons hil; rw [hpos0] at h9; exact (List.cons.inj h9).1.symm
   have hVy : VP w0 Ls[i] (.agg #[.slice a ql.length c, .int .i64 x1, .int .i64 x2, .int .i64 x3, .int .i64 x4, .int .i64 qc]) Y := by rw [hgi]; exact ⟨a, c, rfl, hsl, hnil, hcl⟩
   have hVq : VP w0 Ls[i] (.agg #[.slice a ql.length c, .int .i64 x1, .int .i64 x2, .int .i64 x3, .int .i64 x4, .int .i64 qc]) ((bp, blk 96 [.slice a ql.length c, .int .i64 x1, .int .i64 x2, .int .i64 x3, .int .i64 x4, .int .i64 qc]) :: (X ++ Y)) := VP.cons _ (VP.app hVy)
   clear hpos
   have hpos := hpos0
   refine w_y rfl rfl rfl (zAi isAgg140 hs.tail.drop.drop.drop rfl rfl h4) rfl ?_
   refine w_y rfl rfl rfl (zAs (vs := [_,_,_,_,_,_]) isAgg96 sizeOf96 hs rfl rfl (aow 0 [_,_,_,_,_,_])) rfl ?_
   refine zEa (zAm rfl rfl rfl) rfl rfl rfl rfl (hy i (by have h9 := congrArg List.length hpos; simp at h9; omega) _ B (_ :: (X ++ Y)) _ hVq hJ (asc1.1 hs)) ?_
   rintro _ gS ⟨B1, g3, (⟨rfl, hJ1⟩ | ⟨rfl, hJ1⟩)⟩
   ·
    replace g3 := asc1.2 g3
    replace g3 := (show St _ _ (_ :: X ++ (Y ++ (B1 ++ (F)))) from g3)
    refine w_p (zBb (v := .bool _) rfl rfl rfl rfl) rfl (w_p (zAl rfl rfl) rfl (zAe (zAb (g8 _ _ (zA0 (zAh (zGl ?_)))))))
    refine zA1 (l := [.tmp 8]) (vs := [_]) rfl ⟨⟨rfl, (rfl : _ = Value.bool _)⟩, trivial⟩ ?_
    first
      | exact .inl ⟨rfl, B, i, _, hi, by rw [hpos]; unfold plansF; rw [if_neg (by assumption)]; rfl, hJ, rfl, g3⟩
      | exact .inl ⟨rfl, B1, i + 1, _, by have h9 := congrArg List.length hpos; simp at h9; omega, by have h9 := congrArg List.tail hpos; rw [List.tail_drop] at h9; exact h9, hJ1, rfl, g3⟩
      | exact .inr ⟨rfl, i, hil, _, Y, B1, _, hVy, hJ1, g3⟩
      | exact .inl ⟨rfl, B, i, _, hi, by rw [zFr (by omega), List.nil_append] at hpos; exact hpos, hJ, rfl, g3⟩
   replace g3 := asc1.2 g3
   replace g3 := (show St _ _ (_ :: X ++ (Y ++ (B1 ++ (F)))) from g3)
   refine w_p (zBb (v := .bool _) rfl rfl rfl rfl) rfl (w_p (zAl rfl rfl) rfl (zAe (zAb (g8 _ _ (zA0 (zAh (zGl ?_)))))))
   refine zA1 (l := [.tmp 8]) (vs := [_]) rfl ⟨⟨rfl, (rfl : _ = Value.bool _)⟩, trivial⟩ ?_
   first
     | exact .inl ⟨rfl, B, i, _, hi, by rw [hpos]; unfold plansF; rw [if_neg (by assumption)]; rfl, hJ, rfl, g3⟩
     | exact .inl ⟨rfl, B1, i + 1, _, by have h9 := congrArg List.length hpos; simp at h9; omega, by have h9 := congrArg List.tail hpos; rw [List.tail_drop] at h9; exact h9, hJ1, rfl, g3⟩
     | exact .inr ⟨rfl, i, hil, _, Y, B1, _, hVy, hJ1, g3⟩
     | exact .inl ⟨rfl, B, i, _, hi, by rw [zFr (by omega), List.nil_append] at hpos; exact hpos, hJ, rfl, g3⟩
  try simp only [zS] at h7
  refine zAr (zAb (gq _ _ (zAf (fun gT gt => (w_label ?_)))))
  refine zAb (gt _ _ (zAf (fun gU gu => (zAf (fun gV gw => ?_)))))
  obtain ⟨k, rfl⟩ : ∃ k, rem = k + 1 := ⟨rem - 1, by omega⟩
  have ih2 := ih k rfl
  rw [plans_zero] at hpos
  refine zAa (w_p (zAi isAgg88 hs.tail.drop.drop.drop rfl rfl h5) rfl (w_p (zBl rfl rfl) rfl (w_p (zAd (o := 0) (i := 0) underlying103 rfl sizeOf33 rfl rfl rfl) rfl (w_p (zAd (o := 3) (i := 2) underlying33 rfl sizeOf29 rfl rfl rfl) rfl ?_))))
  refine w_p (zAi isAgg29 hs.tail.drop.drop.drop rfl rfl (show Ats _ _ _ _ [_] from Ats.part hk.c 3 1)) rfl (w_p (zBd underlying29 rfl rfl) rfl (w_p (zBo (v := _) rfl rfl) rfl (zAe (zAb (gw _ _ (zAw ?_))))))
  refine zB2 [8,9,10,31,32,33,34,35,36,37,38,39,40,41,42,43,44,45,46,47,48,49,50,51,52,53,54,55,56,57,58,59,60,61,62,63,64,65,66,67,68,69] [31] (fun kk vs w => ∃ (n i : Nat) (B : List (Nat × Obj)), vs = [.int .i64 (n : Int)] ∧ n ≤ r.sets.length ∧ kk = r.sets.length - n ∧ i ≤ Ls.length ∧ Ls.drop i = plansN r.sets.length changes k before (⟨ql, [x1, x2, x3, x4], qc⟩ : Plan) n ++ R ∧ J i B ∧ St w0 w ((bp, blk 96 [.slice a ql.length c, .int .i64 x1, .int .i64 x2, .int .i64 x3, .int .i64 x4, .int .i64 qc]) :: (X ++ (Y ++ (B ++ F))))) (r.sets.length) ?_ ?_
  ·
   exact ⟨0, i, B, rfl, by omega, by omega, hi, hpos, hJ, hs⟩
  intro k vs μ gW hI gX gh
  clear hs hJ hpos hi
  obtain ⟨n, i, B, rfl, hna, rfl, hi, hpos, hJ, hs⟩ := hI
  refine zAf (fun gY gx => (zAa (w_p (zCb rfl rfl rfl rfl) rfl (zAe (zAb (gx _ _ (zAf (fun gZ gy => (zAv rfl rfl (fun ga => ?_) (fun ga => ?_))))))))))
  ·
   try simp only [zS] at ga
   refine zAr (zAb (gy _ _ (zAf (fun hG gi => (zAw ?_)))))
   refine zAf (fun hH gz => (zAa (zA2 rfl rfl (zBg rfl rfl (zAe (zAb (gz _ _ (zAf (fun hO gA => (zAa (w_p (zAs (vs := [_,_,_,_,_,_]) isAgg96 sizeOf96 hs rfl rfl (aow 0 [_,_,_,_,_,_])) rfl ?_)))))))))))
   refine zA5 (cs := [_,_,_,_,_,_]) zAc zeroValue96 rfl hs (fun gB hY gC => ?_)
   refine zBt 0 (.agg #[.slice _ _ _, .int _ _, .int _ _, .int _ _, .int _ _, .int _ _]) [_,_,_,_,_,_] sizeOf96 gC (fun j0 g4 => ?_)
   refine zAe (zAb (gA _ _ (zAf (fun j1 gD => (w_cut [35,36,37,38,39,40,41,42,43,44,45,46,47,48,49] [] (fun vs w => vs = [] ∧ ¬ (0 ≤ before ∧ (n : Int) ≠ before ∧ qc = changes) ∧ St w0 w ((gB, blk 96 [.slice a ql.length c, .int .i64 x1, .int .i64 x2, .int .i64 x3, .int .i64 x4, .int .i64 qc]) :: (bp, blk 96 [.slice a ql.length c, .int .i64 x1, .int .i64 x2, .int .i64 x3, .int .i64 x4, .int .i64 (if 0 ≤ before ∧ (n : Int) ≠ before then qc + 1 else qc)]) :: (X ++ (Y ++ (B ++ F))))) (fun j3 gb => ?_) ?_)))))
   ·
    refine zAf (fun j4 gj => (zAa (zA2 rfl rfl (w_p (zHv rfl rfl rfl rfl) rfl (w_p (zAn rfl rfl) rfl (zBk (fun gc => ?_) (fun gc => ?_)))))))
    ·
     try simp only [zS] at gc
     refine w_y rfl rfl rfl (zAu rfl rfl) rfl ?_
     refine w_y rfl rfl rfl (zAu rfl rfl) rfl ?_
     refine w_y rfl rfl rfl (zCj rfl rfl rfl rfl) rfl ?_
     refine w_p (zAt (v := .bool _) rfl rfl rfl rfl) rfl (zAe (zAb (gj _ _ (zAv rfl rfl (fun gd => ?_) (fun gd => ?_)))))
     ·
      try simp only [zS] at gd
      refine zAf (fun j5 gE => (zAf (fun j6 gF => (zAa (w_p (zAd (o := 5) (i := 2) underlying96 rfl sizeOf3 rfl rfl rfl) rfl (w_p (zAi isAgg3 g4 rfl rfl (aow 1 [_])) rfl (w_p (zAi isAgg3 g4.tail.tail.drop.drop.drop rfl rfl h3) rfl ?_)))))))
      refine w_p (zCk rfl rfl rfl rfl) rfl (zAe (zAb (gF _ _ (zAv rfl rfl (fun ge => ?_) (fun ge => ?_)))))
      ·
       try simp only [zS] at ge
       refine zBr (zAj (zAj (zAj (zAy (zAb (gi _ _ (zAa (w_p (zBe rfl rfl rfl rfl (by omega) (by omega)) rfl (zA2 rfl rfl (zAe (zAb (gh _ _ (nxI (r.sets.length - (n + 1)) (by omega) ?_)))))))))))))
       have gG := (show St _ _ (_ :: (X ++ ((Y ++ ((B ++ (F))))))) from g4.tail)
       exact ⟨n + 1, i, B, rfl, by omega, rfl, hi, by rw [plans_next (by omega), if_pos ⟨by omega, by omega, by assumption⟩, List.nil_append] at hpos; exact hpos, hJ, gG⟩
      try simp only [zS] at ge
      refine zAr (zAb (gE _ _ (zAa (w_p (zAd (o := 5) (i := 2) underlying96 rfl sizeOf3 rfl rfl rfl) rfl (w_p (zAi isAgg3 g4 rfl rfl (aow 1 [_])) rfl (w_p (zBe rfl rfl rfl rfl (by omega) (by omega)) rfl ?_))))))
      refine w_p (zAd (o := 5) (i := 2) underlying96 rfl sizeOf3 rfl rfl rfl) rfl (zBt 1 (.int _ _) [_] sizeOf3 g4 (fun j7 g6 => ?_))
      refine zAe (zAb (gb _ _ (mdI ?_)))
      first
        | exact ⟨rfl, fun h => absurd h.1 (by assumption), by rw [if_neg (fun h => absurd h.1 (by assumption))]; exact g6⟩
        | exact ⟨rfl, fun h => absurd h.1 (by omega), by rw [if_neg (fun h => absurd h.1 (by omega))]; exact g6⟩
        | exact ⟨rfl, fun h => h.2.1 (by assumption), by rw [if_neg (fun h => h.2 (by assumption))]; exact g6⟩
        | exact ⟨rfl, fun h => absurd h.2.2 (by assumption), by rw [if_pos ⟨by omega, by omega⟩]; exact g6⟩
     try simp only [zS] at gd
     refine zAr (zAb (gb _ _ (mdI ?_)))
     first
       | exact ⟨rfl, fun h => absurd h.1 (by assumption), by rw [if_neg (fun h => absurd h.1 (by assumption))]; exact g4⟩
       | exact ⟨rfl, fun h => absurd h.1 (by omega), by rw [if_neg (fun h => absurd h.1 (by omega))]; exact g4⟩
       | exact ⟨rfl, fun h => h.2.1 (by assumption), by rw [if_neg (fun h => h.2 (by assumption))]; exact g4⟩
       | exact ⟨rfl, fun h => absurd h.2.2 (by assumption), by rw [if_pos ⟨by omega, by omega⟩]; exact g4⟩
    try simp only [zS] at gc
    refine zAg rfl rfl rfl ?_
    refine zAg rfl rfl rfl ?_
    refine zAg rfl rfl rfl ?_
    refine w_p (zBb (v := _) rfl rfl rfl rfl) rfl (zAe (zAb (gj _ _ (zBj rfl rfl ?_))))
    refine zAr (zAb (gb _ _ (mdI ?_)))
    first
      | exact ⟨rfl, fun h => absurd h.1 (by assumption), by rw [if_neg (fun h => absurd h.1 (by assumption))]; exact g4⟩
      | exact ⟨rfl, fun h => absurd h.1 (by omega), by rw [if_neg (fun h => absurd h.1 (by omega))]; exact g4⟩
      | exact ⟨rfl, fun h => h.2.1 (by assumption), by rw [if_neg (fun h => h.2 (by assumption))]; exact g4⟩
      | exact ⟨rfl, fun h => absurd h.2.2 (by assumption), by rw [if_pos ⟨by omega, by omega⟩]; exact g4⟩
   intro vs μ j9 hM
   clear hs
   obtain ⟨rfl, hnc, hs⟩ := hM
   refine zAb (gD _ _ (zAf (fun ja gH => ?_)))
   have hn4 : n < 4 := by omega
   have hn2 : n < r.sets.length := by omega
   have hwn := pw_at (i := 1) (n := n) hs rfl hn4
   have hpw := pok_ways hq (by show ql.length ≤ 6; omega)
   have hpn := hpw.nn n
   have hqm := pok_more hq before hn2 (by omega)
   dsimp only at hpn
   refine zAa (zA2 rfl rfl (w_p (zAd (o := 1) (i := 1) underlying96 rfl sizeOf94 rfl rfl rfl) rfl (w_p (zBn underlying94 sizeOf3 rfl rfl rfl rfl (i := n) (by first | rfl | omega) (by omega)) rfl ?_)))
   refine w_p (zAi isAgg3 hs rfl rfl hwn) rfl (w_p (zBe rfl rfl rfl rfl (by omega) (by omega)) rfl (w_p (zAd (o := 1) (i := 1) underlying96 rfl sizeOf94 rfl rfl rfl) rfl (w_p (zBn underlying94 sizeOf3 rfl rfl rfl rfl (i := n) (by first | rfl | omega) (by omega)) rfl ?_)))
   refine zD9 (i := 1) (v := .int _ _) (vs := [_]) zAc sizeOf3 rfl rfl rfl rfl rfl (by simp [Value.oneCell']) hs rfl (by show 0 + 1 + n * 1 + 1 ≤ 6; omega) (fun jb g7 => ?_)
   replace g7 := (show St _ _ (_ :: (bp, blk 96 (.slice a ql.length c :: (iv ([x1, x2, x3, x4].set n ([x1, x2, x3, x4].getD n 0 + 1)) ++ [.int .i64 (if 0 ≤ before ∧ (n : Int) ≠ before then qc + 1 else qc)]))) :: (X ++ ((Y ++ ((B ++ (F))))))) from (by have h6 := (show St _ _ (_ :: (bp, blk 96 (setMany [.slice a ql.length c, .int .i64 x1, .int .i64 x2, .int .i64 x3, .int .i64 x4, .int .i64 (if 0 ≤ before ∧ (n : Int) ≠ before then qc + 1 else qc)] (0 + 1 + n * 1) [.int .i64 ([x1, x2, x3, x4].getD n 0 + 1)])) :: (X ++ ((Y ++ ((B ++ (F))))))) from g7); rw [pw_put hn4] at h6; exact h6))
   refine zAe (zAb (gH _ _ (zAf (fun jc gI => (zAa (w_p (zAd (o := 0) (i := 0) underlying96 rfl sizeOf30 rfl rfl rfl) rfl (w_p (zAi isAgg30 g7 rfl rfl (aow 1 [_])) rfl ?_)))))))
   refine zCi zAc call103 rfl rfl rfl rfl (c103 a _ _ hcl g7) (fun jd gJ => ?_)
   refine zA2 rfl rfl (zBc (ps := [(0, _)]) (pv := [(0, .int _ _)]) (cs := [_]) zAc rfl rfl (fun w => Try_QH_fb2 _ w) gJ (fun je jf gK => ?_))
   refine w_appendF (olds := (ql.map fun x => [Value.int .i64 x])) (rows := [[_]]) (sz := 1) (bytes := 8) zAc underlying30 zDf rfl rfl rfl rfl rfl rfl rfl rfl rfl gK ((sl_top hsl).app.cons.cons.cons) (by simp) (zBx (i := 0) rfl (by simp) rfl) rfl (by omega) (by simp) (by simp only [maxLen]; omega) (by omega) (fun jg jh NB gL gf => ?_)
   replace gf := (show St _ _ (NB ++ (_ :: _ :: _ :: X ++ (Y ++ (B ++ (F))))) from gf)
   obtain ⟨a2, c2, rfl, hsl2, hnil2, hcl2⟩ := own_more (w0 := w0) gL
   have gM := (show St _ _ (_ :: _ :: (X ++ ((Y ++ ((NB ++ ((B ++ (F))))))))) from St.pk [NB, [_], [_], [_], X, Y, B] [3,2,4,5,0,6] gf)
   refine w_p (zAd (o := 0) (i := 0) underlying96 rfl sizeOf30 rfl rfl rfl) rfl (zBt 0 (.slice _ _ _) [_] sizeOf30 gM (fun ji gk => ?_))
   refine zAe (zAb (gI _ _ (zAf (fun jj gN => (zAf (fun jk gm => (zAa (w_p (zAi isAgg66 gk.tail.tail.drop.drop.drop.drop rfl rfl h6) rfl (zA2 rfl rfl (zA4 zAc call102 rfl rfl rfl rfl (ih2 (n : Int) ((⟨ql, [x1, x2, x3, x4], qc⟩ : Plan).more before n) a2 c2 i (plansN r.sets.length changes k before (⟨ql, [x1, x2, x3, x4], qc⟩ : Plan) (n + 1) ++ R) NB B (_ :: (X ++ Y)) _ (by omega) (by show (ql ++ [(n : Int)]).length + k = many; simp; omega) hqm hsl2 hnil2 hcl2 hi (by rw [plans_next hn2, if_neg hnc, List.append_assoc] at hpos; exact hpos) hJ (asc2.1 gk)) ?_))))))))))
   rintro _ jl (⟨rfl, B2, i2, cs2, hi2, hp2, hJ2, hcs2, g5⟩ | ⟨rfl, j2, hj2, u2, Z2, B2, cs2, hV2, hJ2, g5⟩)
   ·
    replace g5 := asc2.2 g5
    replace g5 := (show St _ _ (_ :: _ :: X ++ (Y ++ (NB ++ (B2 ++ (F))))) from g5)
    refine w_p (zC0 rfl rfl) rfl (zAe (zAb (gm _ _ (zBj rfl rfl ?_))))
    refine zAr (zAb (gN _ _ (zAa (w_p (zAs (vs := [_,_,_,_,_,_]) isAgg96 sizeOf96 g5 rfl rfl (aow 1 [_,_,_,_,_,_])) rfl ?_))))
    refine zD9 (i := 0) (v := .agg #[_,_,_,_,_,_]) (vs := [_,_,_,_,_,_]) zAc sizeOf96 rfl rfl rfl rfl rfl (by simp [Value.oneCell']) g5 rfl (by show 0 + 6 ≤ cs2.length; omega) (fun jm gg => ?_)
    replace gg := (show St _ _ ((bp, blk 96 [.slice a ql.length c, .int .i64 x1, .int .i64 x2, .int .i64 x3, .int .i64 x4, .int .i64 qc]) :: _ :: (X ++ ((Y ++ ((NB ++ ((B2 ++ (F))))))))) from (by have h6 := (show St _ _ ((bp, blk 96 (setMany cs2 0 [_,_,_,_,_,_])) :: _ :: (X ++ ((Y ++ ((NB ++ ((B2 ++ (F))))))))) from gg); rw [set6 hcs2] at h6; exact h6))
    refine zAe (zAk (zAb (gi _ _ (zAa (w_p (zBe rfl rfl rfl rfl (by omega) (by omega)) rfl (zA2 rfl rfl (zAe (zAb (gh _ _ (nxI (r.sets.length - (n + 1)) (by omega) ?_))))))))))
    have gO := (show St _ _ (_ :: (X ++ ((Y ++ ((B2 ++ (F))))))) from St.pk [[_], [_], X, Y, NB, B2] [0,2,3,5] gg)
    exact ⟨n + 1, i2, B2, rfl, by omega, rfl, hi2, hp2, hJ2, gO⟩
   replace g5 := asc2.2 g5
   replace g5 := (show St _ _ (_ :: _ :: X ++ (Y ++ (Z2 ++ (B2 ++ (F))))) from g5)
   refine w_p (zC0 rfl rfl) rfl (zAe (zAb (gm _ _ (zBz rfl rfl ?_))))
   refine zAf (fun jo gP => (zAa (zA9 rfl rfl (zAe (zAb (gP _ _ (zA0 (zAh (zAz (zAh (zAh (zAz (zAh (zGl ?_))))))))))))))
   refine zA1 (l := [.tmp 8]) (vs := [_]) rfl ⟨⟨rfl, (rfl : _ = Value.bool _)⟩, trivial⟩ ?_
   have gQ := (show St _ _ (_ :: (X ++ ((Z2 ++ ((B2 ++ (F))))))) from St.pk [[_], [_], X, Y, Z2, B2] [0,2,4,5] g5)
   exact .inr ⟨rfl, j2, hj2, u2, Z2, B2, _, hV2, hJ2, gQ⟩
  try simp only [zS] at ga
  refine zBr (zAj (zAj (zAy (zAb (gu _ _ (zAf (fun jp gR => (zAa (zA9 rfl rfl (zAe (zAb (gR _ _ (zA0 (zGl ?_))))))))))))))
  refine zA1 (l := [.tmp 8]) (vs := [_]) rfl ⟨⟨rfl, (rfl : _ = Value.bool _)⟩, trivial⟩ ?_
  first
    | exact .inl ⟨rfl, B, i, _, hi, by rw [hpos]; unfold plansF; rw [if_neg (by assumption)]; rfl, hJ, rfl, hs⟩
    | exact .inl ⟨rfl, B1, i + 1, _, by have h9 := congrArg List.length hpos; simp at h9; omega, by have h9 := congrArg List.tail hpos; rw [List.tail_drop] at h9; exact h9, hJ1, rfl, hs⟩
    | exact .inr ⟨rfl, i, hil, _, Y, B1, _, hVy, hJ1, hs⟩
    | exact .inl ⟨rfl, B, i, _, hi, by rw [zFr (by omega), List.nil_append] at hpos; exact hpos, hJ, rfl, hs⟩

end Go.Proofs.Ro
