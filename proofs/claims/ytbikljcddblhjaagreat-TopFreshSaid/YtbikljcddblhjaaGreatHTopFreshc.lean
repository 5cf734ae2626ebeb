/- Own texts of this claim, joined. No conditions. -/
import Derived.Maps.RangeRun
import Derived.Test.YtbikljcddblhjaaGreatHTopFresha
import Derived.Test.YtbikljcddblhjaaGreatHTopFreshb
/- Plain words of the turn layer: cargos, their errors, the hours at which lots turn, truths, what the program's functions return. No conditions. -/
set_option linter.unusedSimpArgs false
set_option linter.unusedVariables false
namespace Go.Rt.Tu
open Go.Rt.Ha (firstE failE felt spanL upto bit listL fewest Bunch zDf)
structure Lot where
  hold : Int
  frm : Int
  lo : Int
  hi : Int
structure Look where
  lot : Int
  hour : Int
  turned : Bool
structure Cargo where
  heat : List Int
  gas : Int
  holds : List (Int × Int)
  lots : List Lot
  seen : List Look
structure AtT where
  ae : Option Addr
  ce : Nat
  ah : Option Addr
  ch : Nat
  al : Option Addr
  cl : Nat
  an : Option Addr
  cn : Nat
def scells (s : Int × Int) : List Value := [.int .i64 s.1, .int .i64 s.2]
def Lot.cells (l : Lot) : List Value := [.int .i64 l.hold, .int .i64 l.frm, .int .i64 l.lo, .int .i64 l.hi]
def Look.cells (s : Look) : List Value := [.int .i64 s.lot, .int .i64 s.hour, .bool s.turned]
def Cargo.cells (c : Cargo) (p : AtT) : List Value := [.slice p.ae c.heat.length p.ce, .int .i64 c.gas, .slice p.ah c.holds.length p.ch, .slice p.al c.lots.length p.cl, .slice p.an c.seen.length p.cn]
def srows (l : List (Int × Int)) : List (List Value) := l.map scells
def lrows (l : List Lot) : List (List Value) := l.map Lot.cells
def nrows (l : List Look) : List (List Value) := l.map Look.cells
def widthE (s : Int × Int) (most : Int) : Int := if out 0 most s.1 || out 0 most s.2 then 7 else if out 0 3 (s.2 - s.1) then 2 else 0
def heatE (_before : List Int) (n : Int) : Int := if out 0 3 n then 7 else 0
def holdE (_before : List (Int × Int)) (s : Int × Int) : Int := widthE s 6
def lotE (nh ne : Nat) (_before : List Lot) (l : Lot) : Int := if out 0 (nh - 1) l.hold then 4 else if out 0 ne l.frm then 7 else widthE (l.lo, l.hi) 40
def lotAt (c : Cargo) (i : Nat) : Lot := c.lots.getD i ⟨0,0,0,0⟩
def holdAt (c : Cargo) (i : Nat) : Int × Int := c.holds.getD i (0,0)
def seenAt (c : Cargo) (i : Nat) : Look := c.seen.getD i ⟨0,0, false⟩
def seenE (c : Cargo) (_before : List Look) (s : Look) : Int := if out 0 (c.lots.length - 1) s.lot then 4 else if out (lotAt c s.lot.toNat).frm c.heat.length s.hour then 7 else 0
def check (c : Cargo) : Int × Int × Int :=
  if (failE heatE 0 8 c.heat).2 ≠ 0 then (1, failE heatE 0 8 c.heat) else if out 0 3 c.gas then (2,0,7) else if (failE holdE 1 3 c.holds).2 ≠ 0 then (3, failE holdE 1 3 c.holds) else
    if (failE (lotE c.holds.length c.heat.length) 0 4 c.lots).2 ≠ 0 then (4, failE (lotE c.holds.length c.heat.length) 0 4 c.lots) else if (failE (seenE c) 0 4 c.seen).2 ≠ 0 then (5, failE (seenE c) 0 4 c.seen) else (0,0,0)
def tw (s : List Int) : Int := s.getD 1 0
def tt (s : List Int) : Nat := (s.getD 7 0).toNat
def never (c : Cargo) : Int := c.heat.length + 1
def on (c : Cargo) (s : List Int) (h : Nat) (left : List Int) (i : Nat) : Bool := !(decide (bit (tt s) i = 0) || decide ((h : Int) < (lotAt c i).frm) || decide (0 < left.getD i 0))
def turnStep (c : Cargo) (s : List Int) (h : Nat) (left : List Int) (i : Nat) (p : List Int × Int) : List Int × Int := if on c s h left i then (p.1.set i (min (p.1.getD i 0) h), c.gas) else p
def turnTo (c : Cargo) (s : List Int) (h : Nat) (left t0 : List Int) : Nat → List Int × Int
  | 0 => (t0,0)
  | i + 1 => turnStep c s h left i (turnTo c s h left t0 i)
def takes (c : Cargo) (s : List Int) (h : Nat) (gas : Int) : Int := c.heat.getD h 0 + s.getD 1 0 + gas
def lessAt (c : Cargo) (h : Nat) (i : Nat) (l : List Int) : Bool := decide ((lotAt c i).frm ≤ (h : Int)) && decide (0 < l.getD i 0)
def leftStep (c : Cargo) (s : List Int) (h : Nat) (gas : Int) (i : Nat) (l : List Int) : List Int := if lessAt c h i l then l.set i (l.getD i 0 - takes c s h gas) else l
def leftTo (c : Cargo) (s : List Int) (h : Nat) (gas : Int) (l0 : List Int) : Nat → List Int
  | 0 => l0
  | i + 1 => leftStep c s h gas i (leftTo c s h gas l0 i)
def hourStep (c : Cargo) (s : List Int) (h : Nat) (p : List Int × List Int) : List Int × List Int :=
  ((turnTo c s h p.2 p.1 c.lots.length).1, leftTo c s h (turnTo c s h p.2 p.1 c.lots.length).2 p.2 c.lots.length)
def hourTo (c : Cargo) (s : List Int) : Nat → List Int × List Int
  | 0 => (List.replicate 5 (never c), (s.drop 2).take 5)
  | h + 1 => hourStep c s h (hourTo c s h)
def times (c : Cargo) (s : List Int) : List Int := (turnTo c s c.heat.length (hourTo c s c.heat.length).2 (hourTo c s c.heat.length).1 c.lots.length).1
def okAt (c : Cargo) (but : Nat) (hold : Int) (t : List Int) (i : Nat) : Bool :=
  !((decide (bit but i = 0) && decide ((lotAt c (seenAt c i).lot.toNat).hold = hold)) && (decide (t.getD (seenAt c i).lot.toNat 0 ≤ (seenAt c i).hour) != (seenAt c i).turned))
def seenTo (c : Cargo) (but : Nat) (hold : Int) (t : List Int) : Nat → Bool
  | 0 => true
  | i + 1 => seenTo c but hold t i && okAt c but hold t i
def seenOk (c : Cargo) (but : Nat) (hold : Int) (t : List Int) : Bool := seenTo c but hold t c.seen.length
def ofTo (c : Cargo) (hold : Int) : Nat → Nat
  | 0 => 0
  | i + 1 => if (lotAt c i).hold = hold then ofTo c hold i ||| (1 <<< i) else ofTo c hold i
def ofH (c : Cargo) (hold : Int) : Nat := ofTo c hold c.lots.length
def bunAt (c : Cargo) (m i : Nat) : Bunch := ⟨(lotAt c i).lo, if bit m i = 0 then (lotAt c i).lo else (lotAt c i).hi, 0,0⟩
def bun (c : Cargo) (m : Nat) : List Bunch := (List.range c.lots.length).map (bunAt c m)
def pad5 (h : List Int) : List Int := h ++ List.replicate (5 - h.length) 0
def mkS (hold w : Int) (m : Nat) (h : List Int) : List Int := hold :: w :: (pad5 h ++ [(m : Int)])
def okS (c : Cargo) (but : Nat) (hold : Int) (s : List Int) : Bool := seenOk c but hold (times c s)
def allW (c : Cargo) (hold : Nat) (w : Int) : List (List Int) := (felt (bun c (ofH c hold))).map (mkS hold w (ofH c hold))
def truths (c : Cargo) (but hold : Nat) : List (List Int) := (spanL (holdAt c hold).1 (holdAt c hold).2).flatMap fun w => (allW c hold w).filter (okS c but hold)
def someTo (c : Cargo) (but : Nat) : Nat → Bool
  | 0 => true
  | k + 1 => someTo c but k && !(truths c but k).isEmpty
def someB (c : Cargo) (but : Nat) : Bool := someTo c but c.holds.length
def firstAsk : List (Bool × Int) → Int
  | [] => 0
  | x :: l => if x.1 then x.2 else firstAsk l
def anyAsk (l : List (Bool × Int)) : Bool := l.any (·.1)
def enterE (c : Cargo) (l : List (Bool × Int)) : Int := if (check c).2.2 ≠ 0 then (check c).2.2 else if anyAsk l then firstAsk l else if someB c 0 then 0 else 8
def askOf (n all : Nat) : Int := if n = all then 1 else if n = 0 then 2 else 0
def ask (c : Cargo) (hold : Nat) (q : List Int → Bool) : Int := askOf ((truths c 0 hold).filter q).length (truths c 0 hold).length
def noneA (n : Int) (l : List Int) : Bool × Int := (l.any (out 0 (n - 1)), 4)
def hoursA (c : Cargo) (l : List Int) : Bool × Int := (l.any (out 0 c.heat.length), 7)
def holdOf (c : Cargo) (i : Nat) : Nat := (lotAt c i).hold.toNat
def tOf (c : Cargo) (s : List Int) (i : Nat) : Int := (times c s).getD i 0
def turnsSt (c : Cargo) (lot : Nat) (a : (Int × Int) × Bool) (s : List Int) : (Int × Int) × Bool :=
  if tOf c s lot = never c then a else if a.2 then ((min (tOf c s lot) (tOf c s lot), max (tOf c s lot) (tOf c s lot)), false) else ((min a.1.1 (tOf c s lot), max a.1.2 (tOf c s lot)), false)
def turnsA (c : Cargo) (lot : Nat) (l : List (List Int)) : (Int × Int) × Bool := l.foldl (turnsSt c lot) ((0,0), true)
def turnsQ (c : Cargo) (lot : Nat) (s : List Int) : Bool := decide (tOf c s lot ≠ never c)
def turnsP (c : Cargo) (lot : Int) : (Int × Int) × Int × Int :=
  if enterE c [noneA c.lots.length [lot]] ≠ 0 then ((0,0), 0, enterE c [noneA c.lots.length [lot]]) else ((turnsA c lot.toNat (truths c 0 (holdOf c lot.toNat))).1, ask c (holdOf c lot.toNat) (turnsQ c lot.toNat), 0)
def safeQ (c : Cargo) (hour : Int) (i : Nat) (s : List Int) : Bool := decide (hour < tOf c s i)
def safeTo (c : Cargo) (hour : Int) : Nat → List Int
  | 0 => []
  | i + 1 => if (lotAt c i).frm ≤ hour ∧ ask c (holdOf c i) (safeQ c hour i) = 1 then safeTo c hour i ++ [(i : Int)] else safeTo c hour i
def safeP (c : Cargo) (hour : Int) : List Int × Int := if enterE c [hoursA c [hour]] ≠ 0 then ([], enterE c [hoursA c [hour]]) else (safeTo c hour c.lots.length, 0)
def minTo (l : List Int) : Nat → Int
  | 0 => l.getD 0 0
  | i + 1 => min (minTo l i) (l.getD (i + 1) 0)
def firstQ (c : Cargo) (i : Nat) (s : List Int) : Bool := decide (tOf c s i < never c) && decide (minTo (times c s) 4 = tOf c s i)
def firstTo (c : Cargo) (hold : Nat) : Nat → List Int
  | 0 => []
  | i + 1 => if (lotAt c i).hold = (hold : Int) ∧ ask c hold (firstQ c i) ≠ 2 then firstTo c hold i ++ [(i : Int)] else firstTo c hold i
def firstP (c : Cargo) (hold : Int) : List Int × Int := if enterE c [noneA c.holds.length [hold]] ≠ 0 then ([], enterE c [noneA c.holds.length [hold]]) else (firstTo c hold.toNat c.lots.length, 0)
def without (s : List Int) (m : Nat) : List Int := s.set 7 ((bitDiff (tt s) m : Nat) : Int)
def spoilsQ (c : Cargo) (by_ lot : Nat) (s : List Int) : Bool := decide (tOf c s lot < tOf c (without s (1 <<< by_)) lot)
def spoilsL (c : Cargo) (a b : Int) : List (Bool × Int) := [noneA c.lots.length [a, b], (decide (a = b), 2)]
def spoilsP (c : Cargo) (a b : Int) : Int × Int := if enterE c (spoilsL c a b) ≠ 0 then (0, enterE c (spoilsL c a b)) else (ask c (holdOf c b.toNat) (spoilsQ c a.toNat b.toNat), 0)
def withLot (c : Cargo) (l : Lot) : Cargo := { c with lots := c.lots ++ [l] }
def putS (n : Nat) (s : List Int) (g : Int) : List Int := (s.set 7 ((tt s ||| (1 <<< n) : Nat) : Int)).set (2 + n) g
def putAt (c2 : Cargo) (n : Nat) (until_ : Int) (t s : List Int) (g : Int) : Bool := decide (until_ < tOf c2 (putS n s g) n) && decide ((times c2 (putS n s g)).set n (t.getD n 0) = t)
def putQ (c c2 : Cargo) (g : Int × Int) (until_ : Int) (s : List Int) : Bool := (spanL g.1 g.2).all (putAt c2 c.lots.length until_ (times c s) s)
def putTo (c : Cargo) (g : Int × Int) (frm until_ : Int) : Nat → List Int
  | 0 => []
  | k + 1 => if ask c k (putQ c (withLot c ⟨k, frm, g.1, g.2⟩) g until_) = 1 then putTo c g frm until_ k ++ [(k : Int)] else putTo c g frm until_ k
def putL (c : Cargo) (g : Int × Int) (frm until_ : Int) : List (Bool × Int) := [hoursA c [frm, until_], (decide (widthE g 40 = 7), widthE g 40), (decide (until_ ≤ frm) || decide (widthE g 40 ≠ 0), 2)]
def putP (c : Cargo) (g : Int × Int) (frm until_ : Int) : List Int × Int := if enterE c (putL c g frm until_) ≠ 0 then ([], enterE c (putL c g frm until_)) else (putTo c g frm until_ c.holds.length, 0)
def outAll (c : Cargo) (until_ : Int) (t : List Int) (l : List Int) : Bool := l.all fun i => !(decide ((lotAt c i.toNat).frm ≤ until_) && decide (t.getD i.toNat 0 ≤ until_))
def outQ (c : Cargo) (set : Nat) (until_ : Int) (s : List Int) : Bool := outAll c until_ (times c (without s set)) (listL (tt (without s set)) c.lots.length)
def outS (c : Cargo) (hold : Nat) (until_ : Int) (set : Nat) : Bool := decide (bitDiff set (ofH c hold) = 0) && decide (ask c hold (outQ c set until_) = 1)
def outL (c : Cargo) (hold until_ : Int) : List (Bool × Int) := [noneA c.holds.length [hold], hoursA c [until_]]
def outP (c : Cargo) (hold until_ : Int) : List Int × Int := if enterE c (outL c hold until_) ≠ 0 then ([], enterE c (outL c hold until_)) else ((fewest (outS c hold.toNat until_) c.lots.length).1,0)
def wrongP (c : Cargo) : List Int × Int := if (check c).2.2 ≠ 0 then ([], (check c).2.2) else ((fewest (someB c) c.seen.length).1,0)
def cargoX (hour : Int) : Cargo := ⟨[0,0,0,1,0,0], 2, [(1,2),(1,1)], [⟨0,0,4,5⟩, ⟨0,0,10,10⟩, ⟨1,2,6,6⟩], if 0 ≤ hour then [⟨0, hour, false⟩] else []⟩
end Go.Rt.Tu
/- The walking engine, part 11: one number copied into a list at a place. No conditions. -/
namespace Go.Rt
open Go.RowKit
variable {r : Option Nat} {P : Program} {ops : Array Oper} {Q : Exit → Act → World → Prop} {rest : List Oper} {n : Nat} {ρ : Nat → Value} {ds : List Deferred} {ty : TypeId} {p : String} {e : Array Edge} {g : Option (Nat × Bool)} {w w0 : World} {L : List (Nat × Obj)}
theorem zDe {x y k : Nat} (h : x < k) : x >>> y < k := Nat.lt_of_le_of_lt (Nat.shiftRight_le _ _) h
end Go.Rt
/- The walking engine, part 12: ranges over functions that keep something of their own. No conditions. -/
namespace Go.Rt
open Go.RowKit
variable {r : Option Nat} {P : Program} {ops : Array Oper} {Q : Exit → Act → World → Prop} {rest : List Oper} {n : Nat} {ρ : Nat → Value} {ds : List Deferred} {w w0 : World} {L : List (Nat × Obj)}
def IterC (P : Program) (k : FuncId) (first captured : List Value) (xs : List Value) (w0 : World) (F : List (Nat × Obj)) (C : (Nat → List (Nat × Obj) → Prop) → (List (Nat × Obj) → Prop) → Prop) : Prop :=
  ∀ (J : Nat → List (Nat × Obj) → Prop) (Js : List (Nat × Obj) → Prop), C J Js → ∀ (yv : Value) (B X : List (Nat × Obj)) (w : World), (∃ f a b, yv = .func f a b) →
    (∀ i (hi : i < xs.length) B X w, J i B → St w0 w (X ++ (B ++ F)) → FCon P yv [xs[i]] w fun v w' => ∃ B', St w0 w' (X ++ (B' ++ F)) ∧ (v = .bool true ∧ J (i + 1) B' ∨ v = .bool false ∧ Js B')) →
    J 0 B → St w0 w (X ++ (B ++ F)) →
    Con P k (first ++ ([yv] ++ captured)) w fun _ w' => ∃ B', St w0 w' (X ++ (B' ++ F)) ∧ (J xs.length B' ∨ Js B')
def ClsM (K : List (Nat × Obj) → Prop) (J : Nat → List (Nat × Obj) → Prop) (Js : List (Nat × Obj) → Prop) : Prop :=
  ∃ (J0 : Nat → List (Nat × Obj) → Prop) (Js0 : List (Nat × Obj) → Prop), (∀ i Bx, J i Bx ↔ ∃ B M, Bx = B ++ M ∧ K M ∧ J0 i B) ∧ ∀ Bx, Js Bx ↔ ∃ B M, Bx = B ++ M ∧ K M ∧ Js0 B
theorem clsM_range {K : List (Nat × Obj) → Prop} {J : Nat → List (Nat × Obj) → Prop} {Js : Code → List (Nat × Obj) → Prop} (J0 : Nat → List (Nat × Obj) → Prop) (Js0 : Code → List (Nat × Obj) → Prop) (h1 : ∀ i Bx, J i Bx ↔ ∃ B M, Bx = B ++ M ∧ K M ∧ J0 i B) (h2 : ∀ c Bx, Js c Bx ↔ ∃ B M, Bx = B ++ M ∧ K M ∧ Js0 c B) (a b : Nat × Obj) (cc : Code → Nat × Obj) :
    ClsM K (fun i Bx => ∃ B, Bx = a :: b :: B ∧ J i B) (fun Bx => ∃ B c, Bx = cc c :: b :: B ∧ Js c B) := by
  refine ⟨fun i B => ∃ B0, B = a :: b :: B0 ∧ J0 i B0, fun B => ∃ B0 c, B = cc c :: b :: B0 ∧ Js0 c B0, fun i Bx => ⟨?_, ?_⟩, fun Bx => ⟨?_, ?_⟩⟩
  · rintro ⟨B, rfl, hJ⟩
    obtain ⟨B0, M, rfl, hK, h⟩ := (h1 i B).1 hJ
    exact ⟨a :: b :: B0, M, rfl, hK, B0, rfl, h⟩
  · rintro ⟨B, M, rfl, hK, B0, rfl, h⟩
    exact ⟨B0 ++ M, rfl, (h1 i _).2 ⟨B0, M, rfl, hK, h⟩⟩
  · rintro ⟨B, c, rfl, hJ⟩
    obtain ⟨B0, M, rfl, hK, h⟩ := (h2 c B).1 hJ
    exact ⟨cc c :: b :: B0, M, rfl, hK, B0, c, rfl, h⟩
  · rintro ⟨B, M, rfl, hK, B0, c, rfl, h⟩
    exact ⟨B0 ++ M, c, rfl, (h2 c _).2 ⟨B0, M, rfl, hK, h⟩⟩
theorem st_in {P X B R : List (Nat × Obj)} (h : St w0 w (P ++ (X ++ (B ++ R)))) : St w0 w ((P ++ (X ++ B)) ++ R) := by simpa only [List.append_assoc] using h
theorem st_out {P X B R : List (Nat × Obj)} (h : St w0 w ((P ++ (X ++ B)) ++ R)) : St w0 w (P ++ (X ++ (B ++ R))) := by simpa only [List.append_assoc] using h
theorem w_rangeC {C : (Nat → List (Nat × Obj) → Prop) → (List (Nat × Obj) → Prop) → Prop} {g : Operand} {pt : Nat} {assign body : Code} {k : FuncId} {first captured : Array Value} {xs : List Value} {F : List (Nat × Obj)} (B : List (Nat × Obj)) (J : Nat → List (Nat × Obj) → Prop) (Js : Code → List (Nat × Obj) → Prop)
    (hog : okO n g = true) (hg : ev ρ g = .func (.func k) first captured) (hpt : Nat.blt pt n = true) (hC : CF P k) (hit : IterC P k first.toList captured.toList xs w0 F C) (hcls : ∀ (a b : Nat × Obj) (cc : Code → Nat × Obj), C (fun i Bx => ∃ B, Bx = a :: b :: B ∧ J i B) (fun Bx => ∃ B c, Bx = cc c :: b :: B ∧ Js c B)) (hst : St w0 w L) (hperm : L.Perm (B ++ F)) (h0 : J 0 B)
    (round : ∀ l i (hi : i < xs.length) B X X' w, J i B → St w0 w (B ++ (X ++ F)) → ∀ K : Act → World → Prop,
      (∀ a w Y, St w0 w (Y ++ (X ++ F)) → (∀ w', St w0 w' (Y ++ (X' ++ F)) → WC (some l) P body (Rd w0 J Js i (X' ++ F)) a w') → K a w) →
      WC (some l) P assign (Exit.then K fun _ _ _ => False) (A n (upd ρ pt xs[i]) []) w)
    (hend : ∀ bd B w, J xs.length B → St w0 w ((bd, .deferred (some [])) :: (B ++ F)) → Q .normal (A n ρ (mk bd :: ds)) w)
    (hjump : ∀ bd c B w, Js c B → St w0 w ((bd, .deferred (some [])) :: (B ++ F)) → WC none P c Q (A n ρ (mk bd :: ds)) w) :
    WC none P (.rangeFunc g #[pt] assign body) Q (A n ρ ds) w := by
  refine wpIn_rangeFunc (F := FW none) fun fn _ => ?_
  have henter := run_enterLoop_outer (P := P) (w := w) fn (A n ρ ds).tmps #[pt] assign body
  let bd := w.heap.size
  let l := w.heap.size + 1
  let rc (s : LoopState) (pend : Option Code) : Obj := .loop { state := s, pending := pend, fn := fn, tmps := fa n ρ, params := #[pt], assign := assign, body := body, defers := bd }
  let w1 : World := (w.alloc (.deferred (some []))).alloc (rc .ready none)
  have hst1 : St w0 w1 ((l, rc .ready none) :: (bd, .deferred (some [])) :: L) := by
    have h1 := (hst.alloc (.deferred (some []))).alloc (rc .ready none)
    rw [World.size_alloc] at h1
    exact h1
  refine ⟨l, [mk bd], w1, { target := .fn (.func k) captured, args := first ++ #[.func (.yield l) #[] #[]] }, w1, k, first ++ #[.func (.yield l) #[] #[]] ++ captured, w1, henter, ?_, fun _ _ => trivial, ?_, fun h => (by simp at h), ?_⟩
  · have e1 : (#[Operand.const (Value.func (Fn.yield l) #[] #[])].map (A n ρ ds).eval) = #[Value.func (Fn.yield l) #[] #[]] := by simp [Act.eval]
    simp only [resolve, rangeCall, zB2 hog, hg, Deferred.ofValue, e1]
    rfl
  · exact hC (first ++ #[Value.func (Fn.yield l) #[] #[]] ++ captured) w1
  · have hperm1 : ((l, rc .ready none) :: (bd, .deferred (some [])) :: L).Perm ([] ++ (((l, rc .ready none) :: (bd, .deferred (some [])) :: B) ++ F)) := (List.Perm.cons _ (List.Perm.cons _ hperm))
    have hI := hit (fun i Bx => ∃ B, Bx = (l, rc .ready none) :: (bd, .deferred (some [])) :: B ∧ J i B) (fun Bx => ∃ B c, Bx = (l, rc .done (some c)) :: (bd, .deferred (some [])) :: B ∧ Js c B) (hcls (l, rc .ready none) (bd, .deferred (some [])) (fun c => (l, rc .done (some c)))) (.func (.yield l) #[] #[])
      ((l, rc .ready none) :: (bd, .deferred (some [])) :: B) [] w1 ⟨_, _,_, rfl⟩ ?_ ⟨B, rfl, h0⟩ (hst1.perm hperm1)
    · have hargs : (first ++ #[Value.func (Fn.yield l) #[] #[]] ++ captured) = (first.toList ++ ([Value.func (Fn.yield l) #[] #[]] ++ captured.toList)).toArray := by
        apply Array.ext'; simp
      rw [hargs]
      refine CallsIn.mono hI ?_
      rintro e w' ⟨v, rfl, B', hst', hB⟩
      rcases hB with ⟨B, rfl, hB⟩ | ⟨B, c, rfl, hB⟩
      · have hg' := hst'.get (i := 0) rfl
        refine ⟨none, _, run_endLoop hg' (by simp), ?_⟩
        exact hend bd B _ hB (hst'.putObj (i := 0) rfl _).tail
      · have hg' := hst'.get (i := 0) rfl
        refine ⟨some c, _, run_endLoop hg' (by simp), ?_⟩
        exact hjump bd c B _ hB (hst'.putObj (i := 0) rfl _).tail
    · rintro i hi Bx X w2 ⟨B, rfl, hB⟩ hst2
      have hp : (X ++ (((l, rc .ready none) :: (bd, .deferred (some [])) :: B) ++ F)).Perm ((l, rc .ready none) :: (bd, .deferred (some [])) :: (X ++ (B ++ F))) := zAa X [(l, rc .ready none), (bd, .deferred (some []))] (B ++ F)
      have hst3 := hst2.perm hp
      have hg' := hst3.get (i := 0) rfl
      refine .inr ⟨l, fn, fa n (upd ρ pt xs[i]), assign, body, rfl, ?_, ?_⟩
      · rw [run_yield hg' rfl]
        simp [rc, fa_put]
      · refine roundIn_of_wpIn (F := FW none) trivial ?_
        have hp2 : ((l, rc .ready none) :: (bd, .deferred (some [])) :: (X ++ (B ++ F))).Perm (B ++ (((l, rc .ready none) :: (bd, .deferred (some [])) :: X) ++ F)) :=
          zAa ((l, rc .ready none) :: (bd, .deferred (some [])) :: X) B F
        refine round l i hi B ((l, rc .ready none) :: (bd, .deferred (some [])) :: X) ((l, rc .busy none) :: (bd, .deferred (some [])) :: X) w2 hB (hst3.perm hp2) _ ?_
        intro a w3 Y hst4 hbody
        have hp3 : (Y ++ (((l, rc .ready none) :: (bd, .deferred (some [])) :: X) ++ F)).Perm ((l, rc .ready none) :: (Y ++ (((bd, .deferred (some [])) :: X) ++ F))) := zAa Y [(l, rc .ready none)] _
        have hst5 := hst4.perm hp3
        have hg5 := hst5.get (i := 0) rfl
        refine ⟨_, run_beginRound hg5 rfl, ?_⟩
        have hst6 := hst5.putObj (i := 0) rfl (rc .busy none)
        have hp4 : ((l, rc .busy none) :: (Y ++ (((bd, .deferred (some [])) :: X) ++ F))).Perm (Y ++ (((l, rc .busy none) :: (bd, .deferred (some [])) :: X) ++ F)) := (zAa Y [(l, rc .busy none)] _).symm
        refine w_mono (hbody _ (hst6.perm hp4)) ?_
        have back : ∀ (B' : List (Nat × Obj)) (w : World) (s : LoopState) (pend : Option Code), St w0 w (B' ++ (((l, rc .busy none) :: (bd, .deferred (some [])) :: X) ++ F)) → w.heap[l]? = some (rc .busy none) ∧
            St w0 (w.putObj l (rc s pend)) (X ++ (((l, rc s pend) :: (bd, .deferred (some [])) :: B') ++ F)) := by
          intro B' w s pend h
          have h1 := h.perm (zAa B' [(l, rc .busy none)] (((bd, .deferred (some [])) :: X) ++ F))
          refine ⟨h1.get (i := 0) rfl, ?_⟩
          have h2 := h1.putObj (i := 0) rfl (rc s pend)
          refine h2.perm ?_
          show ((l, rc s pend) :: (B' ++ (((bd, .deferred (some [])) :: X) ++ F))).Perm _
          refine (List.Perm.cons _ (zAa B' [(bd, .deferred (some []))] (X ++ F))).trans ?_
          refine (List.Perm.cons _ (List.Perm.cons _ (zAa B' X F))).trans ?_
          exact (zAa X [(l, rc s pend), (bd, .deferred (some []))] (B' ++ F)).symm
        intro e a' w' hq
        cases e with
        | normal =>
          obtain ⟨B', hs, hJ⟩ := hq
          obtain ⟨hb1, hb2⟩ := back B' w' .ready none hs
          exact ⟨_, _, run_endRound none hb1, _, rfl, _, hb2, .inl ⟨rfl, B', rfl, hJ⟩⟩
        | ret =>
          obtain ⟨B', hs, hJ⟩ := hq
          obtain ⟨hb1, hb2⟩ := back B' w' .done (some .ret) hs
          exact ⟨_, _, run_endRound (some .ret) hb1, _, rfl, _, hb2, .inr ⟨rfl, B', _, rfl, hJ⟩⟩
        | exit id =>
          obtain ⟨B', hs, hJ⟩ := hq
          obtain ⟨hb1, hb2⟩ := back B' w' .done (some (.exit id)) hs
          exact ⟨_, _, run_endRound (some (.exit id)) hb1, _, rfl, _, hb2, .inr ⟨rfl, B', _, rfl, hJ⟩⟩
        | goto t => exact hq.elim
        | panic c => exact hq.elim
        | outgrown => exact hq.elim

end Go.Rt
/- The walking engine, part 13: whole quotients. Plain theorems over the kit's fenced calculus. No conditions. -/
namespace Go.Rt
variable {r : Option Nat} {P : Program} {ops : Array Oper} {Q : Exit → Act → World → Prop} {rest : List Oper} {n : Nat} {ρ : Nat → Value} {ds : List Deferred} {w w0 : World} {d : Option Nat} {ty : TypeId} {p : String} {e : Array Edge} {g : Option (Nat × Bool)} {L : List (Nat × Obj)}
theorem y_neB {t t2 : TypeId} {x y : Operand} {a b : Bool} (ht : P.underlying t = some .bool) (ho : okO n x = true) (ho1 : okO n y = true) (hx : ev ρ x = .bool a) (hy : ev ρ y = .bool b) :
    Yd P (A n ρ ds) ⟨d, .binOp .neq t x y t2, ty, p, e, g⟩ w (.bool (!decide (a = b))) := by
  have : (a == b) = decide (a = b) := by cases a <;> cases b <;> rfl
  simp [Yd, execOp, zB2 ho, zB2 ho1, hx, hy, eqGuard_at_bool, Sem.run_bind, binOp, run_equal_bool w t a b ht, Result.andThen, this, bne]
theorem w_drawD {id : Nat} {l : List Oper} {Q : Exit → Act → World → Prop} {C0 C : World → Prop} (late : List Nat) (ord : List (Nat × Nat)) (hm : P.follows .mixedOrders = true) (hB : drawOK l.toArray late ord = true) (hC : C0 w) (h0 : ∀ w, C0 w → C w)
    (hdrew : ∀ w, C0 w → C0 { w with drawn := w.drawn + 1 }) (h : ∀ w', C0 w' → DW r P l.toArray (fun a w => Q .normal a w) C ord (A n ρ ds) w') : WC r P (.region id l.toArray true) Q (A n ρ ds) w := by
  unfold drawOK at hB
  simp only [Bool.and_eq_true] at hB
  obtain ⟨⟨⟨h1, h2⟩, h3⟩, h4⟩ := hB
  have hst' := hdrew _ hC
  have hsz : ord.length = l.toArray.size := Nat.eq_of_beq_eq_true h3
  have := zGx h1 h2 ord (Array.replicate l.toArray.size false) (A n ρ ds) _ (by simp) h4 (fun _ => h0 _ hst') (h _ hst')
  have hany := zD6 _ _ _ _ this
  rw [hsz] at hany
  refine wpIn_mono (wpIn_region_any hm hany) ?_
  intro e a w hq
  cases e <;> first | exact hq | exact hq.elim
end Go.Rt
/- The walking engine, part 14: lookups that ask for the value alone. No conditions. -/
namespace Go.Rt
open Go.RowKit
variable {r : Option Nat} {P : Program} {ops : Array Oper} {Q : Exit → Act → World → Prop} {rest : List Oper} {n : Nat} {ρ : Nat → Value} {ds : List Deferred} {d : Option Nat} {ty : TypeId} {p : String} {e : Array Edge} {g : Option (Nat × Bool)} {w w0 : World} {L : List (Nat × Obj)}
end Go.Rt
/- The walking engine, part 15: loops that hold ranges over functions: the marks pile up. No conditions. -/
namespace Go.Rt
open Go.RowKit
variable {r : Option Nat} {P : Program} {ops : Array Oper} {Q : Exit → Act → World → Prop} {rest : List Oper} {n : Nat} {ρ : Nat → Value} {ds : List Deferred} {w w0 : World} {L : List (Nat × Obj)}
def mks (bs : List Nat) : List Deferred := bs.map mk
def dfs (bs : List Nat) : List (Nat × Obj) := bs.map fun b => (b, .deferred (some []))
def NxD (n : Nat) (D S : List Nat) (ρ : Nat → Value) (I : Nat → List Value → List Nat → World → Prop) (k : Nat) (a : Act) (w : World) : Prop :=
  ∃ ρ' k' bs', a = A n ρ' (mks bs') ∧ Agree D ρ ρ' ∧ k' < k ∧ I k' (S.map ρ') bs' w
theorem NxD.intro {D S : List Nat} {I : Nat → List Value → List Nat → World → Prop} {k : Nat} {ρ' : Nat → Value} (bs' : List Nat) (k' : Nat) (hk : k' < k) (ha : Agree D ρ ρ') (hI : I k' (S.map ρ') bs' w) : NxD n D S ρ I k (A n ρ' (mks bs')) w :=
  ⟨ρ', k', bs', rfl, ha, hk, hI⟩
open Classical in
theorem w_loopD {c : Code} (D S : List Nat) (I : Nat → List Value → List Nat → World → Prop) (k0 : Nat) (bs0 : List Nat) (h0 : I k0 (S.map ρ) bs0 w)
    (round : ∀ k vs μ bs w, I k vs bs w → ∀ K : Act → World → Prop, (∀ a w, NxD n D S ρ I k a w → K a w) → WC r P c (Exit.then K Q) (A n (updL (mix D ρ μ) S vs) (mks bs)) w) :
    WC r P (.loop c) Q (A n ρ (mks bs0)) w := by
  let J : Nat → Act → World → Prop := fun k a w => ∃ vs μ bs, a = A n (updL (mix D ρ μ) S vs) (mks bs) ∧ I k vs bs w
  refine wpIn_loop (fun a w => ∃ k, J k a w) (fun a w => leastOf fun k => J k a w) ⟨k0, S.map ρ, ρ, bs0, by rw [zFv S zAz], h0⟩ ?_
  intro a w hI
  obtain ⟨vs, μ, bs, ha, hi⟩ := (leastOf_spec hI).1
  subst ha
  refine wpIn_mono (round _ vs μ bs w hi _ fun _ _ h => h) ?_
  intro e a' w' hq
  cases e with
  | normal =>
    obtain ⟨ρ', k', bs', rfl, hag, hlt, hI'⟩ := hq
    have hJ : J k' (A n ρ' (mks bs')) w' := ⟨S.map ρ', ρ', bs', by rw [zFv S hag], hI'⟩
    exact show (∃ k, J k (A n ρ' (mks bs')) w') ∧ leastOf (fun k => J k (A n ρ' (mks bs')) w') < leastOf (fun k => J k _ w) from ⟨⟨k', hJ⟩, Nat.lt_of_le_of_lt ((leastOf_spec ⟨k', hJ⟩).2 k' hJ) hlt⟩
  | exit id => exact hq
  | goto l => exact hq
  | ret => exact hq
  | panic ch => exact hq
  | outgrown => exact hq
theorem leavesMM {fn : Func} {l : List ResultVar} {vs : List Value} {R : Value → World → Prop} (hl : fn.results = l.toArray) : ∀ (bs : List Nat) (w : World), St w0 w (dfs bs ++ L) → (∀ w', St w0 w' L → RVs P ρ n w' l vs ∧ R (retV vs) w') →
    LeavesInM (FW none) 0 P fn (fa n ρ) (fun e w' => ∃ v, e = .returned v ∧ R v w') (mks bs) .returning w
  | [], w, hst, h => by
    obtain ⟨h1, h2⟩ := h _ hst
    exact ⟨_, zFt hl h1, _, rfl, h2⟩
  | bd :: bs, w, hst, h => by
    have hst1 : St w0 w ((bd, .deferred (some [])) :: (dfs bs ++ L)) := hst
    exact ⟨by simp, .inl ⟨bd, _, rfl, run_takeDeferred (hst1.get (i := 0) rfl), leavesMM hl bs _ (hst1.putObj (i := 0) rfl _).tail h⟩⟩
theorem q_retMM {fn : Func} {l : List ResultVar} {vs : List Value} {R : Value → World → Prop} {bs : List Nat} (hst : St w0 w (dfs bs ++ L)) (hl : fn.results = l.toArray)
    (h : ∀ w', St w0 w' L → RVs P ρ n w' l vs ∧ R (retV vs) w') :
    bodyPostM (FW none) 0 P fn (fun e w' => ∃ v, e = .returned v ∧ R v w') .ret (A n ρ (mks bs)) w := leavesMM hl bs w hst h
end Go.Rt
/- The walking engine, part 16: the check of one order of a region, over numbers as sets of bits. No conditions. -/
namespace Go.Rt
open Go.RowKit
variable {r : Option Nat} {P : Program} {ops : Array Oper} {Q : Exit → Act → World → Prop} {rest : List Oper} {n : Nat} {ρ : Nat → Value} {ds : List Deferred} {w w0 : World} {L : List (Nat × Obj)}
def tb (m i : Nat) : Bool := Nat.beq (Nat.land (Nat.shiftRight m i) 1) 1
theorem tb_eq (m i : Nat) : tb m i = m.testBit i := by
  have h : Nat.land (Nat.shiftRight m i) 1 = (m >>> i) % 2 := by
    show (m >>> i) &&& 1 = _
    exact Nat.and_one_is_mod _
  have h2 : m.testBit i = decide ((m >>> i) % 2 = 1) := by rw [Nat.testBit_eq_decide_div_mod_eq, Nat.shiftRight_eq_div_pow]
  unfold tb
  rw [h, h2, Bool.eq_iff_iff, Nat.beq_eq, decide_eq_true_eq]
def orB (m i : Nat) : Nat := Nat.lor m (Nat.shiftLeft 1 i)
theorem tb_orB (m i j : Nat) : tb (orB m i) j = (tb m j || decide (i = j)) := by
  rw [tb_eq, tb_eq]
  show (m ||| (1 <<< i)).testBit j = _
  rw [Nat.testBit_or, Nat.shiftLeft_eq, Nat.one_mul, Nat.testBit_two_pow]
def maskOf : List Nat → Nat
  | [] => 0
  | x :: l => orB (maskOf l) x
theorem zHj (j : Nat) : ∀ l : List Nat, tb (maskOf l) j = l.contains j
  | [] => by simp [maskOf, tb_eq]
  | x :: l => by
    simp only [maskOf, tb_orB, zHj j l, List.contains_cons]
    rw [Bool.or_comm]
    congr 1
    rw [Bool.eq_iff_iff]; simp only [decide_eq_true_eq, beq_iff_eq, Nat.beq_eq]; exact eq_comm
def subN (a m : Nat) : Bool := Nat.beq (Nat.land a m) a
theorem sub_iff (a m : Nat) : subN a m = true ↔ ∀ j, tb a j = true → tb m j = true := by
  unfold subN
  rw [Nat.beq_eq]
  constructor
  · intro h j hj
    have h1 : (a &&& m).testBit j = a.testBit j := by rw [show a &&& m = a from h]
    rw [Nat.testBit_and] at h1
    rw [tb_eq] at hj ⊢
    rw [hj] at h1; simpa using h1
  · intro h
    show a &&& m = a
    apply Nat.eq_of_testBit_eq
    intro j
    rw [Nat.testBit_and]
    have := h j
    rw [tb_eq, tb_eq] at this
    cases ha : a.testBit j with
    | false => rfl
    | true => rw [this ha]; rfl
structure OpS where
  nd : Nat
  dst : Option Nat
  lk : Nat
def opS (ops : Array Oper) (o : Oper) : OpS := ⟨maskOf ((o.after.toList.filter (Region.binds .any)).map (·.on)), o.dst, maskOf (o.looksAt ops)⟩
def sumS (ops : Array Oper) : List OpS := ops.toList.map (opS ops)
def readyN : List OpS → Nat → Nat → List Nat
  | [], _, _ => []
  | x :: s, i, m => bif (!tb m i) && subN x.nd m then i :: readyN s (i + 1) m else readyN s (i + 1) m
def apartN (x y : OpS) : Bool :=
  (match x.dst with | some d => !tb y.lk d && y.dst != some d | none => true) && (match y.dst with | some d => !tb x.lk d | none => true)
def freeN (xi : OpS) (i m : Nat) : List OpS → Nat → Bool
  | [], _ => true
  | y :: s, j => (Nat.beq j i || tb m j || tb y.nd i || apartN xi y) && freeN xi i m s (j + 1)
def closeN (s : List OpS) (i : Nat) : Nat → Nat → Nat
  | 0, m => m
  | k + 1, m => closeN s i k ((readyN s 0 m).foldl (fun m j => bif Nat.beq j i then m else orB m j) m)
def memN (i : Nat) : List Nat → Bool
  | [] => false
  | j :: l => Nat.beq j i || memN i l
def onlyN (i : Nat) : List Nat → Bool
  | [j] => Nat.beq j i
  | _ => false
def drawN (s : List OpS) (n : Nat) (late : List Nat) : List (Nat × Nat) → Nat → Bool
  | [], m => match readyN s 0 m with | [] => true | _ => false
  | (i, t) :: rest, m =>
    (match t with
     | 0 => memN i (readyN s 0 m) && (match s[i]? with | some x => freeN x i m s 0 | none => false) && !memN i late
     | 1 => memN i (readyN s 0 m) && (match s[i]? with | some x => freeN x i m s 0 | none => false) && !memN i late &&
        (let c := closeN s i n m; ((readyN s 0 c).all fun j => Nat.beq j i) && !(late.any fun q => tb c q) && !tb c i && subN m c)
     | 2 => onlyN i (readyN s 0 m) && !memN i late
     | _ => onlyN i (readyN s 0 m) && memN i late) && drawN s n late rest (orB m i)
def drawOKN (ops : Array Oper) (late : List Nat) (ord : List (Nat × Nat)) : Bool :=
  Region.noSelect ops && noDefer ops && Nat.beq ord.length ops.size && drawN (sumS ops) ops.size late ord 0
def Rep (ops : Array Oper) (l : Array Bool) (m : Nat) : Prop := l.size = ops.size ∧ ∀ j, l.getD j false = tb m j
theorem zHo (i : Nat) : ∀ l : List Nat, memN i l = l.contains i
  | [] => rfl
  | j :: l => by
    simp only [memN, zHo i l, List.contains_cons]
    congr 1
    rw [Bool.eq_iff_iff]; simp only [decide_eq_true_eq, beq_iff_eq, Nat.beq_eq]; exact eq_comm
theorem zIb {i : Nat} {l : List Nat} (h : onlyN i l = true) : l = [i] := by
  match l with
  | [] => cases h
  | [j] => simp only [onlyN, Nat.beq_eq] at h; rw [h]
  | _ :: _ :: _ => cases h
theorem zG2 {l : Array Bool} {m : Nat} (h : Rep ops l m) : Region.ready .any ops l = readyN (sumS ops) 0 m := by
  have key : ∀ (s : List Oper) (i : Nat), (∀ k (hk : k < s.length), ops[i + k]? = some s[k]) → (List.range' i s.length).filter (fun j => !l.getD j true && ((ops[j]?).map (·.after.all fun e => !Region.binds .any e || l.getD e.on false)).getD false) = readyN (s.map (opS ops)) i m := by
    intro s
    induction s with
    | nil => intro i _; rfl
    | cons x s ih =>
      intro i hk
      have hx : ops[i]? = some x := hk 0 (by simp)
      have hlt : i < ops.size := (Array.getElem?_eq_some_iff.1 hx).1
      have hih := ih (i + 1) (fun k hk2 => by have := hk (k + 1) (by simpa using hk2); rw [show i + 1 + k = i + (k + 1) by omega]; simpa using this)
      have hT : l.getD i true = tb m i := by
        rw [← h.2 i]
        have : i < l.size := by rw [h.1]; exact hlt
        simp [this]
      have hA : (x.after.all fun e => !Region.binds .any e || l.getD e.on false) = subN (opS ops x).nd m := by
        rw [Bool.eq_iff_iff, sub_iff, Array.all_eq_true_iff_forall_mem]
        unfold opS
        dsimp only
        constructor
        · intro hall j hj
          rw [zHj, List.contains_iff_mem] at hj
          obtain ⟨e, he, rfl⟩ := List.mem_map.1 hj
          obtain ⟨he1, he2⟩ := List.mem_filter.1 he
          have := hall e (by simpa using he1)
          rw [he2, h.2] at this
          simpa using this
        · intro hall e he
          rw [h.2]
          cases hb : Region.binds .any e with
          | false => rfl
          | true =>
            have := hall e.on (by rw [zHj, List.contains_iff_mem]; exact List.mem_map.2 ⟨e, List.mem_filter.2 ⟨by simpa using he, hb⟩, rfl⟩)
            simpa using this
      rw [List.length_cons, List.range'_succ, List.filter_cons, List.map_cons, readyN, ← hih]
      simp only [hx, hT, Option.map_some, Option.getD_some, hA]
      cases (!tb m i && subN (opS ops x).nd m) <;> rfl
  have := key ops.toList 0 (fun k hk => by rw [Nat.zero_add]; simp at hk ⊢)
  unfold Region.ready sumS
  rw [← this, List.range_eq_range', Array.length_toList]
theorem zG3 {i m : Nat} (h : memN i (readyN (sumS ops) 0 m) = true) : i < ops.size := by
  have key : ∀ (s : List OpS) (b : Nat), memN i (readyN s b m) = true → i < b + s.length := by
    intro s
    induction s with
    | nil => intro b h; simp [readyN, memN] at h
    | cons x s ih =>
      intro b h
      simp only [readyN] at h
      cases hc : (!tb m b && subN x.nd m) with
      | false => rw [hc] at h; have := ih (b + 1) h; simp only [List.length_cons]; omega
      | true =>
        rw [hc] at h
        simp only [cond_true, memN, Bool.or_eq_true, Nat.beq_eq] at h
        rcases h with h | h
        · simp only [List.length_cons]; omega
        · have := ih (b + 1) h; simp only [List.length_cons]; omega
  have := key _ _ h
  simpa [sumS] using this
theorem rep_set {l : Array Bool} {m i : Nat} (h : Rep ops l m) (hi : i < ops.size) : Rep ops (l.setIfInBounds i true) (orB m i) := by
  refine ⟨by simpa using h.1, fun j => ?_⟩
  rw [tb_orB, ← h.2 j]
  by_cases e : i = j
  · subst e
    have : i < l.size := by rw [h.1]; exact hi
    simp [this]
  · simp [e, Array.getElem?_setIfInBounds_ne e]
theorem apart_rep (x y : Oper) : apartN (opS ops x) (opS ops y) = x.apart ops y := by
  unfold apartN Oper.apart opS
  dsimp only
  congr 1
  · cases x.dst with
    | none => rfl
    | some d => dsimp only; rw [zHj]
  · cases y.dst with
    | none => rfl
    | some d => dsimp only; rw [zHj]
theorem free_rep {l : Array Bool} {m i : Nat} (h : Rep ops l m) (hf : (match (sumS ops)[i]? with | some x => freeN x i m (sumS ops) 0 | none => false) = true) : Region.free .any ops l i = true := by
  unfold Region.free
  have hsum : (sumS ops)[i]? = (ops[i]?).map (opS ops) := by simp [sumS]
  rw [hsum] at hf
  cases hoi : ops[i]? with
  | none => rw [hoi] at hf; cases hf
  | some oi =>
    rw [hoi] at hf
    dsimp only [Option.map_some] at hf ⊢
    rw [List.all_eq_true]
    intro j hj
    rw [List.mem_range] at hj
    have key : ∀ (s : List Oper) (b : Nat), freeN (opS ops oi) i m (s.map (opS ops)) b = true → ∀ k (hk : k < s.length), (Nat.beq (b + k) i || tb m (b + k) || tb (opS ops s[k]).nd i || apartN (opS ops oi) (opS ops s[k])) = true := by
      intro s
      induction s with
      | nil => intro b _ k hk; simp at hk
      | cons x s ih =>
        intro b hb k hk
        simp only [List.map_cons, freeN] at hb
        rw [Bool.and_eq_true] at hb
        match k with
        | 0 => simpa using hb.1
        | k + 1 =>
          have := ih (b + 1) hb.2 k (by simpa using hk)
          rw [show b + (k + 1) = b + 1 + k by omega]
          simpa using this
    have hk := key ops.toList 0 hf j (by simpa using hj)
    rw [Nat.zero_add] at hk
    have hoj : ops[j]? = some ops[j] := by simp [hj]
    rw [hoj]
    dsimp only
    have hT : l.getD j true = tb m j := by
      rw [← h.2 j]
      have : j < l.size := by rw [h.1]; exact hj
      simp [this]
    rw [hT, ← apart_rep]
    simp only [Bool.or_eq_true, Nat.beq_eq] at hk ⊢
    rcases hk with ((hk | hk) | hk) | hk
    · left; left; simpa using hk
    · left; right; exact hk
    · right; left
      rw [Array.any_eq_true']
      unfold opS at hk
      dsimp only at hk
      rw [zHj, List.contains_iff_mem] at hk
      obtain ⟨e, he, hei⟩ := List.mem_map.1 hk
      obtain ⟨he1, he2⟩ := List.mem_filter.1 he
      exact ⟨e, by simpa using he1, by simp [he2, hei]⟩
    · right; right
      simpa using hk
theorem close_rep (i : Nat) : ∀ (k : Nat) {l : Array Bool} {m : Nat}, Rep ops l m → Rep ops (closeB ops i k l) (closeN (sumS ops) i k m)
  | 0, _,_, h => h
  | k + 1, l, m, h => by
    unfold closeB closeN
    refine close_rep i k ?_
    rw [zG2 h]
    have key : ∀ (xs : List Nat) (l : Array Bool) (m : Nat), (∀ x ∈ xs, x < ops.size) → Rep ops l m → Rep ops (xs.foldl (fun l j => bif Nat.beq j i then l else l.setIfInBounds j true) l) (xs.foldl (fun m j => bif Nat.beq j i then m else orB m j) m) := by
      intro xs
      induction xs with
      | nil => intro l m _ h; exact h
      | cons x xs ih =>
        intro l m hx h
        rw [List.foldl_cons, List.foldl_cons]
        refine ih _ _ (fun y hy => hx y (.tail _ hy)) ?_
        cases Nat.beq x i
        · exact rep_set h (hx x (.head _))
        · exact h
    exact key _ _ _ (fun x hx => zG3 (by rw [zHo, List.contains_iff_mem]; exact hx)) h
theorem draw_rep {late : List Nat} : ∀ (ord : List (Nat × Nat)) {l : Array Bool} {m : Nat}, Rep ops l m → drawN (sumS ops) ops.size late ord m = true → drawB ops late ord l = true
  | [], l, m, h, hd => by
    simp only [drawN] at hd
    simp only [drawB, zG2 h]
    cases hr : readyN (sumS ops) 0 m with
    | nil => rfl
    | cons _ _ => rw [hr] at hd; cases hd
  | (i, t) :: rest, l, m, h, hd => by
    simp only [drawN, Bool.and_eq_true] at hd
    obtain ⟨h1, h2⟩ := hd
    simp only [drawB, Bool.and_eq_true]
    have hlt : i < ops.size := by
      match t, h1 with
      | 0, h1 => simp only [Bool.and_eq_true] at h1; exact zG3 h1.1.1
      | 1, h1 => simp only [Bool.and_eq_true] at h1; exact zG3 h1.1.1.1
      | 2, h1 => simp only [Bool.and_eq_true] at h1; exact zG3 (m := m) (by rw [zIb h1.1]; simp [memN])
      | t + 3, h1 => simp only [Bool.and_eq_true] at h1; exact zG3 (m := m) (by rw [zIb h1.1]; simp [memN])
    refine ⟨?_, draw_rep rest (rep_set h hlt) h2⟩
    rw [zG2 h]
    match t, h1 with
    | 0, h1 =>
      simp only [Bool.and_eq_true, zHo] at h1 ⊢
      exact ⟨⟨h1.1.1, free_rep h h1.1.2⟩, h1.2⟩
    | 1, h1 =>
      simp only [Bool.and_eq_true, zHo] at h1 ⊢
      obtain ⟨⟨⟨a1, a2⟩, a3⟩, ⟨⟨⟨a4, a5⟩, a6⟩, a7⟩⟩ := h1
      have hc := close_rep i ops.size h
      refine ⟨⟨⟨a1, free_rep h a2⟩, a3⟩, ⟨⟨⟨?_, ?_⟩, ?_⟩, ?_⟩⟩
      · rw [zG2 hc]; exact a4
      · rw [← a5]
        unfold badB
        congr 2
        funext q; exact hc.2 q
      · rw [hc.2]; exact a6
      · rw [List.all_eq_true]
        intro j _
        have := (sub_iff _ _).1 a7 j
        rw [h.2, hc.2]
        cases ht : tb m j with
        | false => rfl
        | true => rw [this ht]; rfl
    | 2, h1 =>
      simp only [Bool.and_eq_true, zHo] at h1 ⊢
      exact ⟨by rw [zIb h1.1]; simp, h1.2⟩
    | t + 3, h1 =>
      simp only [Bool.and_eq_true, zHo] at h1 ⊢
      exact ⟨by rw [zIb h1.1]; simp, h1.2⟩
theorem zB5 {late : List Nat} {ord : List (Nat × Nat)} (h : drawOKN ops late ord = true) : drawOK ops late ord = true := by
  unfold drawOKN at h
  unfold drawOK
  simp only [Bool.and_eq_true] at h ⊢
  exact ⟨h.1, draw_rep ord ⟨by simp, fun j => by
    have : tb 0 j = false := by rw [tb_eq]; exact Nat.zero_testBit j
    rw [this]
    by_cases hj : j < ops.size
    · simp [hj]
    · simp [hj]⟩ h.2⟩
end Go.Rt
/- The walking engine, part 17: a number of sixteen bits as an int. No conditions. -/
namespace Go.Rt
open Go.RowKit
variable {P : Program} {n : Nat} {ρ : Nat → Value} {ds : List Deferred} {w : World} {d : Option Tmp} {ty : TypeId} {p : String} {e : Array Edge} {g : Option (Nat × Bool)}
end Go.Rt
/- The walking engine, part 18: maps as lists of keys and values; ranges over maps. No conditions. -/
set_option linter.unusedSectionVars false
namespace Go.Rt
open Go.RowKit
section
variable {α : Type} [DecidableEq α]
def ents (kv : α → Value) (l : List (α × Value × Nat)) : List MapEntry := l.map fun q => { key := kv q.1, val := q.2.1, born := q.2.2 }
def idxA (a : α) : List (α × Value × Nat) → Nat → Option (Nat × Value)
  | [], _ => none
  | q :: l, i => if q.1 = a then some (i, q.2.1) else idxA a l (i + 1)
def getA (a : α) : List (α × Value × Nat) → Option Value
  | [] => none
  | q :: l => if q.1 = a then some q.2.1 else getA a l
def putA (a : α) (v : Value) (ck : Nat) : List (α × Value × Nat) → List (α × Value × Nat)
  | [] => [(a, v, ck)]
  | q :: l => if q.1 = a then (a, v, q.2.2) :: l else q :: putA a v ck l
structure KeyG (P : Program) (t : TypeId) (kv : α → Value) (ok : α → Prop) : Prop where
  chk : ∀ (em : Bool) (a : α) (w : World), ok a → (Instr.checkKey em 10000 t (kv a)).run P w = .ok () w
  find : ∀ (a : α) (l : List (α × Value × Nat)) (w : World), ok a → (∀ q ∈ l, ok q.1) → (Instr.findKey t (kv a) (ents kv l)).run P w = .ok (idxA a l 0) w
  stay : ∀ a : α, ok a → Instr.sameBits 10000 (kv a) (kv a) = true
theorem idxA_get {a : α} : ∀ (l : List (α × Value × Nat)) (i : Nat), (idxA a l i).map (·.2) = getA a l
  | [], _ => rfl
  | q :: l, i => by
    by_cases h : q.1 = a
    · simp [idxA, getA, h]
    · simp [idxA, getA, h, idxA_get l]
theorem zG7 {a : α} : ∀ (l : List (α × Value × Nat)) (i : Nat), idxA a l (i + 1) = (idxA a l i).map fun p => (p.1 + 1, p.2)
  | [], _ => rfl
  | q :: l, i => by
    by_cases h : q.1 = a
    · simp [idxA, h]
    · simp [idxA, h, zG7 l]
theorem putA_none {a : α} {v : Value} {ck : Nat} : ∀ {l : List (α × Value × Nat)}, idxA a l 0 = none → putA a v ck l = l ++ [(a, v, ck)]
  | [], _ => rfl
  | q :: l, h => by
    by_cases e : q.1 = a
    · simp [idxA, e] at h
    · simp only [idxA, if_neg e] at h
      rw [zG7] at h
      simp only [putA, if_neg e, List.cons_append]
      rw [putA_none (by simpa using h)]
theorem putA_some {kv : α → Value} {a : α} {v : Value} {ck : Nat} : ∀ {l : List (α × Value × Nat)} {i : Nat} {u : Value}, idxA a l 0 = some (i, u) → ents kv (putA a v ck l) = (ents kv l).modify i (fun e => { e with key := kv a, val := v })
  | [], _,_, h => by simp [idxA] at h
  | q :: l, i, u, h => by
    by_cases e : q.1 = a
    · simp only [idxA, if_pos e] at h
      injection h with h; injection h with h1 h2
      subst h1
      simp [putA, e, ents]
    · simp only [idxA, if_neg e] at h
      rw [zG7] at h
      cases hq : idxA a l 0 with
      | none => rw [hq] at h; cases h
      | some p =>
        rw [hq] at h
        injection h with h; injection h with h1 h2
        subst h1
        have ih := putA_some (kv := kv) (v := v) (ck := ck) (show idxA a l 0 = some (p.1, p.2) from hq)
        have e1 : ents kv (putA a v ck (q :: l)) = { key := kv q.1, val := q.2.1, born := q.2.2 } :: ents kv (putA a v ck l) := by simp [putA, e, ents]
        rw [e1, ih]
        show _ = (_ :: ents kv l).modify (p.1 + 1) _
        simp
theorem idxA_at {kv : α → Value} {a : α} : ∀ {l : List (α × Value × Nat)} {i : Nat} {u : Value}, idxA a l 0 = some (i, u) → ((ents kv l)[i]?).map (·.key) = some (kv a)
  | [], _,_, h => by simp [idxA] at h
  | q :: l, i, u, h => by
    by_cases e : q.1 = a
    · simp only [idxA, if_pos e] at h
      injection h with h; injection h with h1 h2
      subst h1
      simp [ents, e]
    · simp only [idxA, if_neg e] at h
      rw [zG7] at h
      cases hq : idxA a l 0 with
      | none => rw [hq] at h; cases h
      | some p =>
        rw [hq] at h
        injection h with h; injection h with h1 h2
        subst h1
        have ih := idxA_at (kv := kv) (show idxA a l 0 = some (p.1, p.2) from hq)
        show ((_ :: ents kv l)[p.1 + 1]?).map _ = _
        simpa using ih
theorem zIf {a : α} {v : Value} {ck : Nat} {q : α × Value × Nat} : ∀ {l : List (α × Value × Nat)}, q ∈ putA a v ck l → (q.1 = a ∧ q.2.1 = v) ∨ q ∈ l
  | [], h => by simp [putA] at h; subst h; exact .inl ⟨rfl, rfl⟩
  | x :: l, h => by
    by_cases e : x.1 = a
    · simp only [putA, if_pos e] at h
      cases h with
      | head => exact .inl ⟨rfl, rfl⟩
      | tail _ h => exact .inr (.tail _ h)
    · simp only [putA, if_neg e] at h
      cases h with
      | head => exact .inr (.head _)
      | tail _ h =>
        rcases zIf h with h | h
        · exact .inl h
        · exact .inr (.tail _ h)
structure MOk (l : List (α × Value × Nat)) (ck : Nat) : Prop where
  born : ∀ q ∈ l, q.2.2 < ck
  bnd : (l.map (·.2.2)).Nodup
  key : (l.map (·.1)).Nodup
theorem mok_nil : MOk ([] : List (α × Value × Nat)) 0 := ⟨by simp, by simp, by simp⟩
theorem borns_putA {a : α} {v : Value} {ck : Nat} : ∀ {l : List (α × Value × Nat)}, (idxA a l 0 ≠ none ∧ (putA a v ck l).map (·.2.2) = l.map (·.2.2) ∧ (putA a v ck l).map (·.1) = l.map (·.1)) ∨ (idxA a l 0 = none ∧ (putA a v ck l).map (·.2.2) = l.map (·.2.2) ++ [ck] ∧ (putA a v ck l).map (·.1) = l.map (·.1) ++ [a] ∧ a ∉ l.map (·.1))
  | [] => .inr ⟨rfl, rfl, rfl, by simp⟩
  | x :: l => by
    by_cases e : x.1 = a
    · left; simp [idxA, putA, e]
    · have hx : idxA a (x :: l) 0 = (idxA a l 0).map fun p => (p.1 + 1, p.2) := by simp only [idxA, if_neg e]; exact zG7 l 0
      rcases borns_putA (a := a) (v := v) (ck := ck) (l := l) with ⟨h1, h2, h3⟩ | ⟨h1, h2, h3, h4⟩
      · left
        refine ⟨by rw [hx]; intro h; simp at h; exact h1 h, by simp [putA, e, h2], by simp [putA, e, h3]⟩
      · right
        refine ⟨by rw [hx, h1]; rfl, by simp [putA, e, h2], by simp [putA, e, h3], ?_⟩
        rw [List.map_cons, List.mem_cons, not_or]
        exact ⟨fun h => e h.symm, h4⟩
theorem MOk.put {l : List (α × Value × Nat)} {ck : Nat} (h : MOk l ck) (a : α) (v : Value) : MOk (putA a v ck l) (if idxA a l 0 = none then ck + 1 else ck) := by
  have hb : ∀ z ∈ l.map (·.2.2), z < ck := by intro z hz; obtain ⟨q, hq, rfl⟩ := List.mem_map.1 hz; exact h.born q hq
  rcases borns_putA (a := a) (v := v) (ck := ck) (l := l) with ⟨h1, h2, h3⟩ | ⟨h1, h2, h3, h4⟩
  · rw [if_neg h1]
    exact ⟨fun q hq => hb _ (by rw [← h2]; exact List.mem_map_of_mem hq), by rw [h2]; exact h.bnd, by rw [h3]; exact h.key⟩
  · rw [if_pos h1]
    refine ⟨fun q hq => ?_, ?_, ?_⟩
    · have : q.2.2 ∈ (putA a v ck l).map (·.2.2) := List.mem_map_of_mem (f := fun q : α × Value × Nat => q.2.2) hq
      rw [h2, List.mem_append, List.mem_singleton] at this
      rcases this with h5 | h5
      · have := hb _ h5; omega
      · omega
    · rw [h2, List.nodup_append]
      refine ⟨h.bnd, by simp, fun x hx y hy => ?_⟩
      rw [List.mem_singleton] at hy
      subst hy
      have := hb _ hx; omega
    · rw [h3, List.nodup_append]
      refine ⟨h.key, by simp, fun x hx y hy e => ?_⟩
      rw [List.mem_singleton] at hy
      subst hy e
      exact h4 hx
end
section
variable {r : Option Nat} {P : Program} {ops : Array Oper} {Q : Exit → Act → World → Prop} {rest : List Oper} {n : Nat} {ρ : Nat → Value} {ds : List Deferred} {w w0 : World} {L : List (Nat × Obj)}
  {d : Option Tmp} {ty : TypeId} {p : String} {e : Array Edge} {g : Option (Nat × Bool)} {α : Type} [DecidableEq α] {kv : α → Value} {ok : α → Prop}
theorem G_lookS {mt kt el : TypeId} {x y : Operand} {a : α} {l : List (α × Value × Nat)} {m i ck : Nat} {v : Value} (hU : P.underlying mt = some (.map kt el)) (hK : KeyG P kt kv ok) (hok : ok a) (hall : ∀ q ∈ l, ok q.1)
    (hst : St w0 w L) (ho : okO n x = true) (ho1 : okO n y = true) (hx : ev ρ x = .map (some m)) (hy : ev ρ y = kv a) (hi : L[i]? = some (m, .map (ents kv l).toArray ck)) (hf : getA a l = some v) (both : Bool) :
    Yd P (A n ρ ds) ⟨d, .lookup mt x y both, ty, p, e, g⟩ w (if both then .tuple #[v, .bool true] else v) := by
  have hc := hK.chk (ents kv l).toArray.isEmpty a w hok
  have hg := hK.find a l w hok hall
  have hv := idxA_get (a := a) l 0
  rw [hf] at hv
  cases hq : idxA a l 0 with
  | none => rw [hq] at hv; cases hv
  | some q =>
    rw [hq] at hg hv
    obtain ⟨j, u⟩ := q
    have hu : u = v := by simpa using hv
    subst hu
    unfold Yd
    have : (Instr.lookup mt (.map (some m)) (kv a) both).run P w = .ok (if both then .tuple #[u, .bool true] else u) w := by
      simp only [Instr.lookup, Sem.run_bind, run_underlying hU, Result.andThen_ok, hst.obj hi, Sem.run_pure, hc, hg]
    simp only [execOp, zB2 ho, zB2 ho1, hx, hy, Sem.run_bind, this]
    rfl
theorem G_lookN {mt kt el : TypeId} {x y : Operand} {a : α} {l : List (α × Value × Nat)} {m i ck : Nat} {z : Value} (hU : P.underlying mt = some (.map kt el)) (hK : KeyG P kt kv ok) (hok : ok a) (hall : ∀ q ∈ l, ok q.1)
    (hz : ∀ w, (zeroValue el).run P w = .ok z w) (hst : St w0 w L) (ho : okO n x = true) (ho1 : okO n y = true) (hx : ev ρ x = .map (some m)) (hy : ev ρ y = kv a) (hi : L[i]? = some (m, .map (ents kv l).toArray ck)) (hf : getA a l = none) (both : Bool) :
    Yd P (A n ρ ds) ⟨d, .lookup mt x y both, ty, p, e, g⟩ w (if both then .tuple #[z, .bool false] else z) := by
  have hc := hK.chk (ents kv l).toArray.isEmpty a w hok
  have hg := hK.find a l w hok hall
  have hv := idxA_get (a := a) l 0
  rw [hf] at hv
  cases hq : idxA a l 0 with
  | some q => rw [hq] at hv; cases hv
  | none =>
    rw [hq] at hg
    unfold Yd
    have : (Instr.lookup mt (.map (some m)) (kv a) both).run P w = .ok (if both then .tuple #[z, .bool false] else z) w := by
      simp only [Instr.lookup, Sem.run_bind, run_underlying hU, Result.andThen_ok, hst.obj hi, Sem.run_pure, hc, hg, hz]
    simp only [execOp, zB2 ho, zB2 ho1, hx, hy, Sem.run_bind, this]
    rfl
theorem G_look2S {mt kt el : TypeId} {x y : Operand} {a : α} {l : List (α × Value × Nat)} {m i ck : Nat} {v : Value} (hU : P.underlying mt = some (.map kt el)) (hK : KeyG P kt kv ok) (hok : ok a) (hall : ∀ q ∈ l, ok q.1)
    (hst : St w0 w L) (ho : okO n x = true) (ho1 : okO n y = true) (hx : ev ρ x = .map (some m)) (hy : ev ρ y = kv a) (hi : L[i]? = some (m, .map (ents kv l).toArray ck)) (hf : getA a l = some v) :
    Yd P (A n ρ ds) ⟨d, .lookup mt x y true, ty, p, e, g⟩ w (.tuple #[v, .bool true]) := G_lookS hU hK hok hall hst ho ho1 hx hy hi hf true
theorem G_look2N {mt kt el : TypeId} {x y : Operand} {a : α} {l : List (α × Value × Nat)} {m i ck : Nat} {z : Value} (hU : P.underlying mt = some (.map kt el)) (hK : KeyG P kt kv ok) (hok : ok a) (hall : ∀ q ∈ l, ok q.1)
    (hz : ∀ w, (zeroValue el).run P w = .ok z w) (hst : St w0 w L) (ho : okO n x = true) (ho1 : okO n y = true) (hx : ev ρ x = .map (some m)) (hy : ev ρ y = kv a) (hi : L[i]? = some (m, .map (ents kv l).toArray ck)) (hf : getA a l = none) :
    Yd P (A n ρ ds) ⟨d, .lookup mt x y true, ty, p, e, g⟩ w (.tuple #[z, .bool false]) := G_lookN hU hK hok hall hz hst ho ho1 hx hy hi hf true
theorem G_put {mt kt el : TypeId} {x y z : Operand} {a : α} {v : Value} {l : List (α × Value × Nat)} {m i ck : Nat} (hw : Want ops (A n ρ ds) ⟨none, .mapUpdate mt x y z, ty, p, e, g⟩) (hU : P.underlying mt = some (.map kt el)) (hK : KeyG P kt kv ok) (hok : ok a) (hall : ∀ q ∈ l, ok q.1)
    (ho : okO n x = true) (ho1 : okO n y = true) (ho2 : okO n z = true) (hx : ev ρ x = .map (some m)) (hy : ev ρ y = kv a) (hz : ev ρ z = v) (hst : St w0 w L) (hi : L[i]? = some (m, .map (ents kv l).toArray ck))
    (hk2 : ∀ w', St w0 w' (L.set i (m, .map (ents kv (putA a v ck l)).toArray (if idxA a l 0 = none then ck + 1 else ck))) → WL r P ops Q rest (A n ρ ds) w') :
    WL r P ops Q (⟨none, .mapUpdate mt x y z, ty, p, e, g⟩ :: rest) (A n ρ ds) w := by
  refine w_unit hw (w' := w.putObj m (.map (ents kv (putA a v ck l)).toArray (if idxA a l 0 = none then ck + 1 else ck))) ?_ rfl (hk2 _ (hst.putObj hi _))
  have hc := hK.chk false a w hok
  have hg := hK.find a l w hok hall
  have hs : ∀ o, (setObj m o).run P w = .ok () (w.putObj m o) := by intro o; simp [setObj, Sem.run, hst.get hi, World.putObj]
  have : (Instr.mapUpdate mt (.map (some m)) (kv a) v).run P w = .ok () (w.putObj m (.map (ents kv (putA a v ck l)).toArray (if idxA a l 0 = none then ck + 1 else ck))) := by
    simp only [Instr.mapUpdate, Sem.run_bind, run_underlying hU, Result.andThen_ok, hst.obj hi, Sem.run_pure, hc, hg]
    cases hq : idxA a l 0 with
    | none =>
      simp only [hs, if_true]
      rw [putA_none hq]
      simp [ents]
    | some q =>
      obtain ⟨j, u⟩ := q
      have h1 := putA_some (kv := kv) (v := v) (ck := ck) hq
      have h2 := idxA_at (kv := kv) hq
      have h3 : (((ents kv l).toArray[j]?).map (·.key)).getD (kv a) = kv a := by rw [List.getElem?_toArray, h2]; rfl
      simp only [h3, Instr.keyThatStays, hK.stay a hok, if_true, Sem.run_bind, Sem.run_pure, Result.andThen_ok, hs]
      rw [h1, if_neg (by simp)]
      congr 3
      apply Array.toList_inj.1
      simp
  simp only [execOp, zB2 ho, zB2 ho1, zB2 ho2, hx, hy, hz, Sem.run_bind, this]
  rfl
end
theorem keyG_ia {P : Program} {t : TypeId} {k : Nat} (hK : KeyTy P t k) : KeyG P t (fun l : List Int => ia l) (fun l => l.length = k) where
  chk := fun em a w h => hK.chk em a w h
  find := fun a l w h hall => by
    obtain ⟨u, hu, hn, h0⟩ := hK.desc
    have key : ∀ (l : List (List Int × Value × Nat)) (i : Nat), (∀ q ∈ l, q.1.length = k) → (Instr.findAsking t (ia a) (ents (fun l : List Int => ia l) l) i).run P w = .ok (idxA a l i) w := by
      intro l
      induction l with
      | nil => intro i _; simp [Instr.findAsking, ents, idxA]
      | cons q l ih =>
        intro i hq
        have h1 := hK.eq a q.1 w h (hq q (.head _))
        show (Instr.findAsking t (ia a) (_ :: ents _ l) i).run P w = _
        by_cases e : q.1 = a
        · rw [decide_eq_true e.symm] at h1
          simp only [Instr.findAsking, Sem.run_bind, h1, Result.andThen_ok, idxA, if_pos e]
          rfl
        · rw [decide_eq_false (fun z => e z.symm)] at h1
          simp only [Instr.findAsking, Sem.run_bind, h1, Result.andThen_ok, idxA, if_neg e]
          exact ih (i + 1) fun x hx => hq x (.tail _ hx)
    cases l with
    | nil => exact h0 a w
    | cons q l =>
      have h1 := hn a { key := ia q.1, val := q.2.1, born := q.2.2 } (ents (fun l : List Int => ia l) l)
      have h2 := key (q :: l) 0 hall
      have h3 : ents (fun l : List Int => ia l) (q :: l) = { key := ia q.1, val := q.2.1, born := q.2.2 } :: ents (fun l : List Int => ia l) l := rfl
      rw [h3] at h2 ⊢
      simp only [Instr.findKey, Sem.run_bind, run_underlying hu, Result.andThen_ok, h1]
      exact h2
  stay := fun a _ => by
    show Instr.sameBits (9999 + 1) (.agg (iv a).toArray) (.agg (iv a).toArray) = true
    have : ∀ l : List Int, ((iv l).zip (iv l)).all (fun x => Instr.sameBits 9999 x.1 x.2) = true := by
      intro l
      induction l with
      | nil => rfl
      | cons z l ih => simp only [iv, List.map_cons, List.zip_cons_cons, List.all_cons]; rw [show Instr.sameBits 9999 (.int .i64 z) (.int .i64 z) = true by simp [Instr.sameBits]]; exact ih
    simp [Instr.sameBits]
    simpa using this a
end Go.Rt
/- The walking engine, part 19: structs of two ints and a bool compared; slices of bools that are made. No conditions. -/
namespace Go.Rt
open Go.RowKit
variable {r : Option Nat} {P : Program} {ops : Array Oper} {Q : Exit → Act → World → Prop} {rest : List Oper} {n : Nat} {ρ : Nat → Value} {ds : List Deferred} {w w0 : World} {L : List (Nat × Obj)}
  {d : Option Tmp} {ty : TypeId} {p : String} {e : Array Edge} {g : Option (Nat × Bool)}
structure IIB (P : Program) (t : TypeId) (f0 f1 f2 : Field) : Prop where
  u : P.underlying t = some (.struct #[f0, f1, f2])
  s : P.stoodInHeld t = false
  g : P.eqGuardType P.depth t = false
  n0 : f0.name ≠ "_" ∧ f0.offset = 0 ∧ P.underlying f0.type = some (.int .i64)
  n1 : f1.name ≠ "_" ∧ f1.offset = 1 ∧ P.underlying f1.type = some (.int .i64)
  n2 : f2.name ≠ "_" ∧ f2.offset = 2 ∧ P.underlying f2.type = some .bool
def bvs (l : List Bool) : List Value := l.map Value.bool
end Go.Rt
set_option maxRecDepth 20000
namespace Go.Proofs.Ut
open Go.Proofs.Tryz
open Go.Rt Go.Rt.Tu
open Go.Rt.Ha (firstE zCf zBu zB1 failE felt spanL upto zC1 listL fewest fewTo bit Bunch before fewStep zCm zDd zCc zCx zC6 zCw zB8)
attribute [local irreducible] WL WC Con Yd At Ats Sl Agree DW
theorem zDh (x0 : Int) (w : World) : (Instr.buildSlice 35 1 [(0, .int .i64 x0)].toArray).run Tryz.prog w = .ok (.slice (some ⟨w.heap.size, 0, none⟩) 1 1) (w.alloc (Go.Rt.blk 3 [.int .i64 x0])) := by kernel_rfl
theorem Try_UC_fb1 (x0 : Int) (x1 : Int) (w : World) : (Instr.buildSlice 35 2 [(0, .int .i64 x0),(1, .int .i64 x1)].toArray).run Tryz.prog w = .ok (.slice (some ⟨w.heap.size, 0, none⟩) 2 2) (w.alloc (Go.Rt.blk 3 [.int .i64 x0, .int .i64 x1])) := by kernel_rfl
theorem Try_UC_fb2 (x0 : Bool) (x1 : Int) (w : World) : (Instr.build 73 [(0, .bool x0),(1, .int .i64 x1)].toArray).run Tryz.prog w = .ok (.agg #[.bool x0, .int .i64 x1]) w := by kernel_rfl
theorem sl_srows {w0 : World} {F : List (Nat × Obj)} {a : Option Addr} {l : List (Int × Int)} {i : Nat} (h : Sl w0 F a 2 (srows l)) (hi : i < l.length) : ∃ b off, a = some ⟨b, off, none⟩ ∧ Ats w0 F b (off + i * 2) (scells l[i]) := by
  obtain ⟨b, off, ha, _, hat⟩ := h.at (i := i) (row := scells l[i]) (by simp [srows, hi])
  exact ⟨b, off, ha, hat⟩
theorem zDy {w0 : World} {F : List (Nat × Obj)} {a : Option Addr} {l : List (Tu.Lot)} {i : Nat} (h : Sl w0 F a 4 (lrows l)) (hi : i < l.length) : ∃ b off, a = some ⟨b, off, none⟩ ∧ Ats w0 F b (off + i * 4) (l[i].cells) := by
  obtain ⟨b, off, ha, _, hat⟩ := h.at (i := i) (row := l[i].cells) (by simp [lrows, hi])
  exact ⟨b, off, ha, hat⟩
theorem sl_nrows {w0 : World} {F : List (Nat × Obj)} {a : Option Addr} {l : List (Tu.Look)} {i : Nat} (h : Sl w0 F a 3 (nrows l)) (hi : i < l.length) : ∃ b off, a = some ⟨b, off, none⟩ ∧ Ats w0 F b (off + i * 3) (l[i].cells) := by
  obtain ⟨b, off, ha, _, hat⟩ := h.at (i := i) (row := l[i].cells) (by simp [nrows, hi])
  exact ⟨b, off, ha, hat⟩
structure TIn (w0 : World) (F : List (Nat × Obj)) (c : Cargo) (p : AtT) : Prop where
  e : Sl w0 F p.ae 1 (c.heat.map fun x => [Value.int .i64 x])
  h : Sl w0 F p.ah 2 (srows c.holds)
  l : Sl w0 F p.al 4 (lrows c.lots)
  n : Sl w0 F p.an 3 (nrows c.seen)
  le : c.heat.length ≤ 9223372036854775806
  lh : c.holds.length ≤ 9223372036854775806
  ll : c.lots.length ≤ 9223372036854775806
  ln : c.seen.length ≤ 9223372036854775806
theorem TIn.mono {w0 : World} {F F' : List (Nat × Obj)} {c : Cargo} {p : AtT} (h : TIn w0 F c p) (hs : ∀ w, St w0 w F' → St w0 w F) : TIn w0 F' c p := ⟨h.e.mono hs, h.h.mono hs, h.l.mono hs, h.n.mono hs, h.le, h.lh, h.ll, h.ln⟩
theorem TIn.cons {w0 : World} {F : List (Nat × Obj)} {x : Nat × Obj} {c : Cargo} {p : AtT} (h : TIn w0 F c p) : TIn w0 (x :: F) c p := h.mono fun _ h => h.tail
theorem TIn.app {w0 : World} {F B : List (Nat × Obj)} {c : Cargo} {p : AtT} (h : TIn w0 F c p) : TIn w0 (B ++ F) c p := h.mono fun _ h => h.drop
theorem TIn.top {w0 : World} {F B : List (Nat × Obj)} {c : Cargo} {p : AtT} (h : TIn w0 B c p) : TIn w0 (B ++ F) c p := h.mono fun _ h => h.front
theorem tup3 {x : Int × Int × Int} {a b c : Int} (h : x = (a, b, c)) : Value.tuple #[.int .i64 a, .int .i64 b, .int .i64 c] = .tuple #[.int .i64 x.1, .int .i64 x.2.1, .int .i64 x.2.2] := by subst h; rfl
theorem tup2 {x : Int × Int} {a b : Int} (h : x = (a, b)) : Value.tuple #[.int .i64 a, .int .i64 b] = .tuple #[.int .i64 x.1, .int .i64 x.2] := by subst h; rfl
theorem yd_cast {P : Program} {a : Act} {o : Oper} {w : World} {k : IntKind} {z z' : Int} (h : z = z') (hy : Yd P a o w (.int k z)) : Yd P a o w (.int k z') := h ▸ hy
theorem zFd {P : Program} {a : Act} {o : Oper} {w : World} {x y : Option Addr} {l c : Nat} (h : x = y) (hy : Yd P a o w (.slice x l c)) : Yd P a o w (.slice y l c) := h ▸ hy
theorem iv1 {a b : Int} (h : a = b) : [Value.int .i64 a] = [Value.int .i64 b] := by rw [h]
theorem iv2 {a b c d : Int} (h : a = b) (h2 : c = d) : [Value.int .i64 a, Value.int .i64 c] = [Value.int .i64 b, Value.int .i64 d] := by rw [h, h2]
theorem zC4 {α : Type} {err : List α → α → Int} {lo most : Int} {l : List α} (h : [(l.length : Int)].any (out lo most) = true) : failE err lo most l = (0,3) := by
  unfold failE; rw [if_pos (by simpa using h)]
theorem zB4 {α : Type} {err : List α → α → Int} {lo most : Int} {l : List α} (h : [(l.length : Int)].any (out lo most) = false) : failE err lo most l = firstE err [] 0 l := by
  unfold failE; rw [if_neg (by simpa using h)]
theorem seenE_a {c : Cargo} {bf : List Tu.Look} {s : Tu.Look} (h : [s.lot].any (out 0 ((c.lots.length : Int) - 1)) = true) : seenE c bf s = 4 := by unfold seenE; rw [if_pos (by simpa using h)]
theorem seenE_b {c : Cargo} {bf : List Tu.Look} {s : Tu.Look} {l : Tu.Lot} (hl : lotAt c s.lot.toNat = l) (h : [s.lot].any (out 0 ((c.lots.length : Int) - 1)) = false) (h2 : [s.hour].any (out l.frm c.heat.length) = true) : seenE c bf s = 7 := by subst hl; unfold seenE; rw [if_neg (by simpa using h), if_pos (by simpa using h2)]
theorem seenE_c {c : Cargo} {bf : List Tu.Look} {s : Tu.Look} {l : Tu.Lot} (hl : lotAt c s.lot.toNat = l) (h : [s.lot].any (out 0 ((c.lots.length : Int) - 1)) = false) (h2 : [s.hour].any (out l.frm c.heat.length) = false) : seenE c bf s = 0 := by subst hl; unfold seenE; rw [if_neg (by simpa using h), if_neg (by simpa using h2)]
theorem ats_of {w0 w : World} {L : List (Nat × Obj)} {i b : Nat} {t : TypeId} {cs vs : List Value} (hs : St w0 w L) (hi : L[i]? = some (b, blk t cs)) (h : (cs.drop 0).take vs.length = vs) : Ats w0 L b 0 vs := zAl hi h
theorem c82 {w0 w : World} {F : List (Nat × Obj)} (a : Option Addr) (c : Nat) (l : List (Int)) (hl : l.length ≤ 9223372036854775806) (lo most : Int) (ha : Sl w0 F a 1 (l.map fun x => [Value.int .i64 x])) (fv : Value) (err : List (Int) → (Int) → Int)
    (hp : ∀ (i : Nat) (hi : i < l.length) (X : List (Nat × Obj)) (w : World), St w0 w (X ++ F) → FCon Tryz.prog fv [.int .i64 l[i]] w fun v w' => v = .int .i64 (err (l.take i) l[i]) ∧ St w0 w' (X ++ F)) (hs : St w0 w F) :
  Con Tryz.prog 82 [.slice a l.length c, .int .i64 lo, .int .i64 most, fv] w fun v w' => v = .tuple #[.int .i64 (failE err lo most l).1, .int .i64 (failE err lo most l).2] ∧ St w0 w' F := by
  refine zAu (n := 34) func82 rfl rfl (zNl rfl) ?_
  refine zAg (fun K2 g7 => (zAc (zBj rfl rfl (zBj rfl rfl (zAe (zAd (g7 _ _ (zAg (fun K4 g8 => (zAg (fun K6 g9 => (zAc (zBe rfl rfl (zBe rfl rfl ?_))))))))))))))
  refine w_p (zAi (v := .slice _ _ _) rfl rfl) rfl (w_p (zBo underlying35 rfl rfl) rfl (zA3 (ps := [(0, _)]) (pv := [(0, .int _ _)]) (cs := [_]) zAb rfl rfl (fun w => zDh _ w) hs (fun b7 w8 ga => ?_)))
  refine zAr zAb call71 rfl rfl rfl rfl (c71 _ _ _ [_] _ (by simp) (zBd (i := 0) (rows := [[_]]) rfl (by simp) rfl) ga) ?_
  rintro _ gn ⟨rfl, g0⟩
  refine zAe (zAd (g9 _ _ (zA1 rfl rfl (fun g4 => ?_) (fun g4 => ?_))))
  ·
   try simp only [zS] at g4
   refine zAg (fun go gb => (zAc (zBj rfl rfl (zBj rfl rfl (zAe (zAd (gb _ _ (zA7 (zAm (zBa (l := [.tmp 8, .tmp 9]) (vs := [_,_]) rfl ⟨⟨rfl, (rfl : _ = Value.int _ _)⟩, ⟨rfl, (rfl : _ = Value.int _ _)⟩, trivial⟩ ?_))))))))))
   first
     | (rw [zC4 (by assumption)]
        exact ⟨rfl, g0.tail⟩)
     | (rw [zB4 (by assumption), hinv, zBu hi2 (by assumption)]
        exact ⟨rfl, g0.tail⟩)
     | (rw [zB4 (by assumption), hinv, zB1 (by omega)]
        exact ⟨rfl, g0.tail⟩)
  try simp only [zS] at g4
  refine zAx (zAd (g8 _ _ (zAg (fun gp gc => (zAg (fun gq gd => (zAc (w_p (zAi (v := .slice _ _ _) rfl rfl) rfl (w_p (zBo underlying35 rfl rfl) rfl ?_)))))))))
  refine w_p (zAi (v := _) rfl rfl) rfl (zAe (zAd (gd _ _ (zA8 ?_))))
  refine zCd [8,9,10,11,12,21,22,23,24,25,26,27,28,29,30,31,32,33] [21] (fun k vs w => ∃ (i : Nat), vs = [.int .i64 i] ∧ i ≤ l.length ∧ k = l.length - i ∧ firstE err [] 0 l = firstE err (l.take i) i (l.drop i) ∧ St w0 w F) (l.length) ?_ ?_
  ·
   exact ⟨0, rfl, by omega, by omega, by simp, g0.tail⟩
  intro k vs μ gr hI gt ge
  obtain ⟨i, rfl, hia, rfl, hinv, hs⟩ := hI
  refine zAg (fun gu gf => (zAc (w_p (zCl rfl rfl rfl rfl) rfl (zAe (zAd (gf _ _ (zAg (fun gv gg => (zA1 rfl rfl (fun g5 => ?_) (fun g5 => ?_))))))))))
  ·
   try simp only [zS] at g5
   refine zAx (zAd (gg _ _ (zAg (fun gw gh => (zA8 ?_)))))
   refine zAg (fun gx gi => ?_)
   have hi2 : i < l.length := by omega
   obtain ⟨bx, ox, rfl, hx⟩ := zDv ha hi2
   refine zAc (zBe rfl rfl (w_p (zBk underlying35 sizeOf3 rfl rfl rfl rfl (i := _) rfl (by omega)) rfl (w_p (zAk isAgg3 hs rfl rfl hx) rfl (zBs rfl rfl (zBs rfl rfl (zAe (zAd (gi _ _ (zAg (fun gy gj => (zAc (w_p (zAi (v := fv) rfl rfl) rfl ?_))))))))))))
   refine zBe rfl rfl (zEc zAb rfl rfl rfl rfl (hp i hi2 [] _ hs) ?_)
   rintro _ gz ⟨rfl, g3⟩
   refine zBs rfl rfl (zAe (zAd (gj _ _ (zAg (fun gA gk => (zAc (zBe rfl rfl (w_p (zCv rfl rfl rfl rfl) rfl (zAe (zAd (gk _ _ (zA1 rfl rfl (fun g6 => ?_) (fun g6 => ?_)))))))))))))
   ·
    try simp only [zS] at g6
    refine zAg (fun gB gl => (zAc (zBe rfl rfl (zBe rfl rfl (zBs rfl rfl (zBs rfl rfl (zAe (zAd (gl _ _ (zA7 (zAy (zAm (zAm (zAy (zAm (zBa (l := [.tmp 8, .tmp 9]) (vs := [_,_]) rfl ⟨⟨rfl, (rfl : _ = Value.int _ _)⟩, ⟨rfl, (rfl : _ = Value.int _ _)⟩, trivial⟩ ?_))))))))))))))))
    first
      | (rw [zC4 (by assumption)]
         exact ⟨rfl, g3⟩)
      | (rw [zB4 (by assumption), hinv, zBu hi2 (by assumption)]
         exact ⟨rfl, g3⟩)
      | (rw [zB4 (by assumption), hinv, zB1 (by omega)]
         exact ⟨rfl, g3⟩)
   try simp only [zS] at g6
   refine zAx (zAn (zAd (gh _ _ (zAc (w_p (zBq rfl rfl rfl rfl (by omega) (by omega)) rfl (zBe rfl rfl (zAe (zAd (ge _ _ (nxI (l.length - (i + 1)) (by omega) ?_))))))))))
   exact ⟨i + 1, rfl, by omega, rfl, hinv.trans (zCf hi2 (by assumption)), g3⟩
  try simp only [zS] at g5
  refine zBy (zAq (zAq (zBc (zAd (gc _ _ (zAg (fun gC gm => (zAc (zBj rfl rfl (zBj rfl rfl (zAe (zAd (gm _ _ (zA7 (zBa (l := [.tmp 8, .tmp 9]) (vs := [_,_]) rfl ⟨⟨rfl, (rfl : _ = Value.int _ _)⟩, ⟨rfl, (rfl : _ = Value.int _ _)⟩, trivial⟩ ?_)))))))))))))))
  first
    | (rw [zC4 (by assumption)]
       exact ⟨rfl, hs⟩)
    | (rw [zB4 (by assumption), hinv, zBu hi2 (by assumption)]
       exact ⟨rfl, hs⟩)
    | (rw [zB4 (by assumption), hinv, zB1 (by omega)]
       exact ⟨rfl, hs⟩)

theorem c84 {w0 w : World} {F : List (Nat × Obj)} (a : Option Addr) (c : Nat) (l : List (Int × Int)) (hl : l.length ≤ 9223372036854775806) (lo most : Int) (ha : Sl w0 F a 2 (srows l)) (fv : Value) (err : List (Int × Int) → (Int × Int) → Int)
    (hp : ∀ (i : Nat) (hi : i < l.length) (X : List (Nat × Obj)) (w : World), St w0 w (X ++ F) → FCon Tryz.prog fv [.agg (scells l[i]).toArray] w fun v w' => v = .int .i64 (err (l.take i) l[i]) ∧ St w0 w' (X ++ F)) (hs : St w0 w F) :
  Con Tryz.prog 84 [.slice a l.length c, .int .i64 lo, .int .i64 most, fv] w fun v w' => v = .tuple #[.int .i64 (failE err lo most l).1, .int .i64 (failE err lo most l).2] ∧ St w0 w' F := by
  refine zAu (n := 34) func84 rfl rfl (zNl rfl) ?_
  refine zAg (fun K2 g8 => (zAc (zBj rfl rfl (zBj rfl rfl (zAe (zAd (g8 _ _ (zAg (fun K4 g9 => (zAg (fun K6 ga => (zAc (zBe rfl rfl (zBe rfl rfl ?_))))))))))))))
  refine w_p (zAi (v := .slice _ _ _) rfl rfl) rfl (w_p (zBo underlying36 rfl rfl) rfl (zA3 (ps := [(0, _)]) (pv := [(0, .int _ _)]) (cs := [_]) zAb rfl rfl (fun w => zDh _ w) hs (fun b7 w8 gb => ?_)))
  refine zAr zAb call71 rfl rfl rfl rfl (c71 _ _ _ [_] _ (by simp) (zBd (i := 0) (rows := [[_]]) rfl (by simp) rfl) gb) ?_
  rintro _ gp ⟨rfl, g0⟩
  refine zAe (zAd (ga _ _ (zA1 rfl rfl (fun g4 => ?_) (fun g4 => ?_))))
  ·
   try simp only [zS] at g4
   refine zAg (fun gq gc => (zAc (zBj rfl rfl (zBj rfl rfl (zAe (zAd (gc _ _ (zA7 (zAm (zBa (l := [.tmp 8, .tmp 9]) (vs := [_,_]) rfl ⟨⟨rfl, (rfl : _ = Value.int _ _)⟩, ⟨rfl, (rfl : _ = Value.int _ _)⟩, trivial⟩ ?_))))))))))
   first
     | (rw [zC4 (by assumption)]
        exact ⟨rfl, g0.tail⟩)
     | (rw [zB4 (by assumption), hinv, zBu hi2 (by assumption)]
        exact ⟨rfl, g0.tail⟩)
     | (rw [zB4 (by assumption), hinv, zB1 (by omega)]
        exact ⟨rfl, g0.tail⟩)
  try simp only [zS] at g4
  refine zAx (zAd (g9 _ _ (zAg (fun gr gd => (zAg (fun gt ge => (zAc (w_p (zAi (v := .slice _ _ _) rfl rfl) rfl (w_p (zBo underlying36 rfl rfl) rfl ?_)))))))))
  refine w_p (zAi (v := _) rfl rfl) rfl (zAe (zAd (ge _ _ (zA8 ?_))))
  refine zCd [8,9,10,11,12,21,22,23,24,25,26,27,28,29,30,31,32,33] [21] (fun k vs w => ∃ (i : Nat), vs = [.int .i64 i] ∧ i ≤ l.length ∧ k = l.length - i ∧ firstE err [] 0 l = firstE err (l.take i) i (l.drop i) ∧ St w0 w F) (l.length) ?_ ?_
  ·
   exact ⟨0, rfl, by omega, by omega, by simp, g0.tail⟩
  intro k vs μ gu hI gv gf
  obtain ⟨i, rfl, hia, rfl, hinv, hs⟩ := hI
  refine zAg (fun gw gg => (zAc (w_p (zCl rfl rfl rfl rfl) rfl (zAe (zAd (gg _ _ (zAg (fun gx gh => (zA1 rfl rfl (fun g5 => ?_) (fun g5 => ?_))))))))))
  ·
   try simp only [zS] at g5
   refine zAx (zAd (gh _ _ (zAg (fun gy gi => (zA8 ?_)))))
   refine zAg (fun gz gj => ?_)
   have hi2 : i < l.length := by omega
   obtain ⟨bx, ox, rfl, hx⟩ := sl_srows ha hi2
   refine zAc (zBe rfl rfl (w_p (zBk underlying36 sizeOf23 rfl rfl rfl rfl (i := _) rfl (by omega)) rfl (w_p (zA9 (vs := [_,_]) isAgg23 sizeOf23 hs rfl rfl hx) rfl (zA0 (cs := [_,_]) zAb zeroValue23 rfl hs (fun gA gB gk => ?_)))))
   refine zBs rfl rfl (zAs (i := 0) (v := .agg #[.int _ _, .int _ _]) (vs := [_,_]) zAb sizeOf23 rfl rfl rfl rfl rfl (by simp [Value.oneCell']) gk rfl (zNl rfl) (fun gC g7 => ?_))
   refine zAe (zAd (gj _ _ (zAg (fun gD gl => (zAc (w_p (zAi (v := fv) rfl rfl) rfl (w_p (zA9 (vs := [_,_]) isAgg23 sizeOf23 g7 rfl rfl (zAl (i := 0) (vs := [_,_]) rfl rfl)) rfl ?_)))))))
   refine zEc zAb rfl rfl rfl rfl (hp i hi2 [_] _ g7) ?_
   rintro _ gE ⟨rfl, g3⟩
   refine zBs rfl rfl (zAe (zAd (gl _ _ (zAg (fun gF gm => (zAc (zBe rfl rfl (w_p (zCv rfl rfl rfl rfl) rfl (zAe (zAd (gm _ _ (zA1 rfl rfl (fun g6 => ?_) (fun g6 => ?_)))))))))))))
   ·
    try simp only [zS] at g6
    refine zAg (fun gG gn => (zAc (zBe rfl rfl (zBe rfl rfl (zBs rfl rfl (zBs rfl rfl (zAe (zAd (gn _ _ (zA7 (zAy (zAm (zAm (zAy (zAm (zBa (l := [.tmp 8, .tmp 9]) (vs := [_,_]) rfl ⟨⟨rfl, (rfl : _ = Value.int _ _)⟩, ⟨rfl, (rfl : _ = Value.int _ _)⟩, trivial⟩ ?_))))))))))))))))
    first
      | (rw [zC4 (by assumption)]
         exact ⟨rfl, g3.tail⟩)
      | (rw [zB4 (by assumption), hinv, zBu hi2 (by assumption)]
         exact ⟨rfl, g3.tail⟩)
      | (rw [zB4 (by assumption), hinv, zB1 (by omega)]
         exact ⟨rfl, g3.tail⟩)
   try simp only [zS] at g6
   refine zAx (zAn (zAd (gi _ _ (zAc (w_p (zBq rfl rfl rfl rfl (by omega) (by omega)) rfl (zBe rfl rfl (zAe (zAd (gf _ _ (nxI (l.length - (i + 1)) (by omega) ?_))))))))))
   exact ⟨i + 1, rfl, by omega, rfl, hinv.trans (zCf hi2 (by assumption)), g3.tail⟩
  try simp only [zS] at g5
  refine zBy (zAq (zAq (zBc (zAd (gd _ _ (zAg (fun gH go => (zAc (zBj rfl rfl (zBj rfl rfl (zAe (zAd (go _ _ (zA7 (zBa (l := [.tmp 8, .tmp 9]) (vs := [_,_]) rfl ⟨⟨rfl, (rfl : _ = Value.int _ _)⟩, ⟨rfl, (rfl : _ = Value.int _ _)⟩, trivial⟩ ?_)))))))))))))))
  first
    | (rw [zC4 (by assumption)]
       exact ⟨rfl, hs⟩)
    | (rw [zB4 (by assumption), hinv, zBu hi2 (by assumption)]
       exact ⟨rfl, hs⟩)
    | (rw [zB4 (by assumption), hinv, zB1 (by omega)]
       exact ⟨rfl, hs⟩)

theorem c86 {w0 w : World} {F : List (Nat × Obj)} (a : Option Addr) (c : Nat) (l : List (Tu.Lot)) (hl : l.length ≤ 9223372036854775806) (lo most : Int) (ha : Sl w0 F a 4 (lrows l)) (fv : Value) (err : List (Tu.Lot) → (Tu.Lot) → Int)
    (hp : ∀ (i : Nat) (hi : i < l.length) (X : List (Nat × Obj)) (w : World), St w0 w (X ++ F) → FCon Tryz.prog fv [.agg l[i].cells.toArray] w fun v w' => v = .int .i64 (err (l.take i) l[i]) ∧ St w0 w' (X ++ F)) (hs : St w0 w F) :
  Con Tryz.prog 86 [.slice a l.length c, .int .i64 lo, .int .i64 most, fv] w fun v w' => v = .tuple #[.int .i64 (failE err lo most l).1, .int .i64 (failE err lo most l).2] ∧ St w0 w' F := by
  refine zAu (n := 34) func86 rfl rfl (zNl rfl) ?_
  refine zAg (fun K2 g8 => (zAc (zBj rfl rfl (zBj rfl rfl (zAe (zAd (g8 _ _ (zAg (fun K4 g9 => (zAg (fun K6 ga => (zAc (zBe rfl rfl (zBe rfl rfl ?_))))))))))))))
  refine w_p (zAi (v := .slice _ _ _) rfl rfl) rfl (w_p (zBo underlying39 rfl rfl) rfl (zA3 (ps := [(0, _)]) (pv := [(0, .int _ _)]) (cs := [_]) zAb rfl rfl (fun w => zDh _ w) hs (fun b7 w8 gb => ?_)))
  refine zAr zAb call71 rfl rfl rfl rfl (c71 _ _ _ [_] _ (by simp) (zBd (i := 0) (rows := [[_]]) rfl (by simp) rfl) gb) ?_
  rintro _ gp ⟨rfl, g0⟩
  refine zAe (zAd (ga _ _ (zA1 rfl rfl (fun g4 => ?_) (fun g4 => ?_))))
  ·
   try simp only [zS] at g4
   refine zAg (fun gq gc => (zAc (zBj rfl rfl (zBj rfl rfl (zAe (zAd (gc _ _ (zA7 (zAm (zBa (l := [.tmp 8, .tmp 9]) (vs := [_,_]) rfl ⟨⟨rfl, (rfl : _ = Value.int _ _)⟩, ⟨rfl, (rfl : _ = Value.int _ _)⟩, trivial⟩ ?_))))))))))
   first
     | (rw [zC4 (by assumption)]
        exact ⟨rfl, g0.tail⟩)
     | (rw [zB4 (by assumption), hinv, zBu hi2 (by assumption)]
        exact ⟨rfl, g0.tail⟩)
     | (rw [zB4 (by assumption), hinv, zB1 (by omega)]
        exact ⟨rfl, g0.tail⟩)
  try simp only [zS] at g4
  refine zAx (zAd (g9 _ _ (zAg (fun gr gd => (zAg (fun gt ge => (zAc (w_p (zAi (v := .slice _ _ _) rfl rfl) rfl (w_p (zBo underlying39 rfl rfl) rfl ?_)))))))))
  refine w_p (zAi (v := _) rfl rfl) rfl (zAe (zAd (ge _ _ (zA8 ?_))))
  refine zCd [8,9,10,11,12,21,22,23,24,25,26,27,28,29,30,31,32,33] [21] (fun k vs w => ∃ (i : Nat), vs = [.int .i64 i] ∧ i ≤ l.length ∧ k = l.length - i ∧ firstE err [] 0 l = firstE err (l.take i) i (l.drop i) ∧ St w0 w F) (l.length) ?_ ?_
  ·
   exact ⟨0, rfl, by omega, by omega, by simp, g0.tail⟩
  intro k vs μ gu hI gv gf
  obtain ⟨i, rfl, hia, rfl, hinv, hs⟩ := hI
  refine zAg (fun gw gg => (zAc (w_p (zCl rfl rfl rfl rfl) rfl (zAe (zAd (gg _ _ (zAg (fun gx gh => (zA1 rfl rfl (fun g5 => ?_) (fun g5 => ?_))))))))))
  ·
   try simp only [zS] at g5
   refine zAx (zAd (gh _ _ (zAg (fun gy gi => (zA8 ?_)))))
   refine zAg (fun gz gj => ?_)
   have hi2 : i < l.length := by omega
   obtain ⟨bx, ox, rfl, hx⟩ := zDy ha hi2
   refine zAc (zBe rfl rfl (w_p (zBk underlying39 sizeOf38 rfl rfl rfl rfl (i := _) rfl (by omega)) rfl (w_p (zA9 (vs := [_,_,_,_]) isAgg38 sizeOf38 hs rfl rfl hx) rfl (zA0 (cs := [_,_,_,_]) zAb zeroValue38 rfl hs (fun gA gB gk => ?_)))))
   refine zBs rfl rfl (zAs (i := 0) (v := .agg #[.int _ _, .int _ _, .int _ _, .int _ _]) (vs := [_,_,_,_]) zAb sizeOf38 rfl rfl rfl rfl rfl (by simp [Value.oneCell']) gk rfl (zNl rfl) (fun gC g7 => ?_))
   refine zAe (zAd (gj _ _ (zAg (fun gD gl => (zAc (w_p (zAi (v := fv) rfl rfl) rfl (w_p (zA9 (vs := [_,_,_,_]) isAgg38 sizeOf38 g7 rfl rfl (zAl (i := 0) (vs := [_,_,_,_]) rfl rfl)) rfl ?_)))))))
   refine zEc zAb rfl rfl rfl rfl (hp i hi2 [_] _ g7) ?_
   rintro _ gE ⟨rfl, g3⟩
   refine zBs rfl rfl (zAe (zAd (gl _ _ (zAg (fun gF gm => (zAc (zBe rfl rfl (w_p (zCv rfl rfl rfl rfl) rfl (zAe (zAd (gm _ _ (zA1 rfl rfl (fun g6 => ?_) (fun g6 => ?_)))))))))))))
   ·
    try simp only [zS] at g6
    refine zAg (fun gG gn => (zAc (zBe rfl rfl (zBe rfl rfl (zBs rfl rfl (zBs rfl rfl (zAe (zAd (gn _ _ (zA7 (zAy (zAm (zAm (zAy (zAm (zBa (l := [.tmp 8, .tmp 9]) (vs := [_,_]) rfl ⟨⟨rfl, (rfl : _ = Value.int _ _)⟩, ⟨rfl, (rfl : _ = Value.int _ _)⟩, trivial⟩ ?_))))))))))))))))
    first
      | (rw [zC4 (by assumption)]
         exact ⟨rfl, g3.tail⟩)
      | (rw [zB4 (by assumption), hinv, zBu hi2 (by assumption)]
         exact ⟨rfl, g3.tail⟩)
      | (rw [zB4 (by assumption), hinv, zB1 (by omega)]
         exact ⟨rfl, g3.tail⟩)
   try simp only [zS] at g6
   refine zAx (zAn (zAd (gi _ _ (zAc (w_p (zBq rfl rfl rfl rfl (by omega) (by omega)) rfl (zBe rfl rfl (zAe (zAd (gf _ _ (nxI (l.length - (i + 1)) (by omega) ?_))))))))))
   exact ⟨i + 1, rfl, by omega, rfl, hinv.trans (zCf hi2 (by assumption)), g3.tail⟩
  try simp only [zS] at g5
  refine zBy (zAq (zAq (zBc (zAd (gd _ _ (zAg (fun gH go => (zAc (zBj rfl rfl (zBj rfl rfl (zAe (zAd (go _ _ (zA7 (zBa (l := [.tmp 8, .tmp 9]) (vs := [_,_]) rfl ⟨⟨rfl, (rfl : _ = Value.int _ _)⟩, ⟨rfl, (rfl : _ = Value.int _ _)⟩, trivial⟩ ?_)))))))))))))))
  first
    | (rw [zC4 (by assumption)]
       exact ⟨rfl, hs⟩)
    | (rw [zB4 (by assumption), hinv, zBu hi2 (by assumption)]
       exact ⟨rfl, hs⟩)
    | (rw [zB4 (by assumption), hinv, zB1 (by omega)]
       exact ⟨rfl, hs⟩)

theorem c88 {w0 w : World} {F : List (Nat × Obj)} (a : Option Addr) (c : Nat) (l : List (Tu.Look)) (hl : l.length ≤ 9223372036854775806) (lo most : Int) (ha : Sl w0 F a 3 (nrows l)) (fv : Value) (err : List (Tu.Look) → (Tu.Look) → Int)
    (hp : ∀ (i : Nat) (hi : i < l.length) (X : List (Nat × Obj)) (w : World), St w0 w (X ++ F) → FCon Tryz.prog fv [.agg l[i].cells.toArray] w fun v w' => v = .int .i64 (err (l.take i) l[i]) ∧ St w0 w' (X ++ F)) (hs : St w0 w F) :
  Con Tryz.prog 88 [.slice a l.length c, .int .i64 lo, .int .i64 most, fv] w fun v w' => v = .tuple #[.int .i64 (failE err lo most l).1, .int .i64 (failE err lo most l).2] ∧ St w0 w' F := by
  refine zAu (n := 34) func88 rfl rfl (zNl rfl) ?_
  refine zAg (fun K2 g8 => (zAc (zBj rfl rfl (zBj rfl rfl (zAe (zAd (g8 _ _ (zAg (fun K4 g9 => (zAg (fun K6 ga => (zAc (zBe rfl rfl (zBe rfl rfl ?_))))))))))))))
  refine w_p (zAi (v := .slice _ _ _) rfl rfl) rfl (w_p (zBo underlying40 rfl rfl) rfl (zA3 (ps := [(0, _)]) (pv := [(0, .int _ _)]) (cs := [_]) zAb rfl rfl (fun w => zDh _ w) hs (fun b7 w8 gb => ?_)))
  refine zAr zAb call71 rfl rfl rfl rfl (c71 _ _ _ [_] _ (by simp) (zBd (i := 0) (rows := [[_]]) rfl (by simp) rfl) gb) ?_
  rintro _ gp ⟨rfl, g0⟩
  refine zAe (zAd (ga _ _ (zA1 rfl rfl (fun g4 => ?_) (fun g4 => ?_))))
  ·
   try simp only [zS] at g4
   refine zAg (fun gq gc => (zAc (zBj rfl rfl (zBj rfl rfl (zAe (zAd (gc _ _ (zA7 (zAm (zBa (l := [.tmp 8, .tmp 9]) (vs := [_,_]) rfl ⟨⟨rfl, (rfl : _ = Value.int _ _)⟩, ⟨rfl, (rfl : _ = Value.int _ _)⟩, trivial⟩ ?_))))))))))
   first
     | (rw [zC4 (by assumption)]
        exact ⟨rfl, g0.tail⟩)
     | (rw [zB4 (by assumption), hinv, zBu hi2 (by assumption)]
        exact ⟨rfl, g0.tail⟩)
     | (rw [zB4 (by assumption), hinv, zB1 (by omega)]
        exact ⟨rfl, g0.tail⟩)
  try simp only [zS] at g4
  refine zAx (zAd (g9 _ _ (zAg (fun gr gd => (zAg (fun gt ge => (zAc (w_p (zAi (v := .slice _ _ _) rfl rfl) rfl (w_p (zBo underlying40 rfl rfl) rfl ?_)))))))))
  refine w_p (zAi (v := _) rfl rfl) rfl (zAe (zAd (ge _ _ (zA8 ?_))))
  refine zCd [8,9,10,11,12,21,22,23,24,25,26,27,28,29,30,31,32,33] [21] (fun k vs w => ∃ (i : Nat), vs = [.int .i64 i] ∧ i ≤ l.length ∧ k = l.length - i ∧ firstE err [] 0 l = firstE err (l.take i) i (l.drop i) ∧ St w0 w F) (l.length) ?_ ?_
  ·
   exact ⟨0, rfl, by omega, by omega, by simp, g0.tail⟩
  intro k vs μ gu hI gv gf
  obtain ⟨i, rfl, hia, rfl, hinv, hs⟩ := hI
  refine zAg (fun gw gg => (zAc (w_p (zCl rfl rfl rfl rfl) rfl (zAe (zAd (gg _ _ (zAg (fun gx gh => (zA1 rfl rfl (fun g5 => ?_) (fun g5 => ?_))))))))))
  ·
   try simp only [zS] at g5
   refine zAx (zAd (gh _ _ (zAg (fun gy gi => (zA8 ?_)))))
   refine zAg (fun gz gj => ?_)
   have hi2 : i < l.length := by omega
   obtain ⟨bx, ox, rfl, hx⟩ := sl_nrows ha hi2
   refine zAc (zBe rfl rfl (w_p (zBk underlying40 sizeOf111 rfl rfl rfl rfl (i := _) rfl (by omega)) rfl (w_p (zA9 (vs := [_,_,_]) isAgg111 sizeOf111 hs rfl rfl hx) rfl (zA0 (cs := [_,_,_]) zAb zeroValue111 rfl hs (fun gA gB gk => ?_)))))
   refine zBs rfl rfl (zAs (i := 0) (v := .agg #[.int _ _, .int _ _, .bool _]) (vs := [_,_,_]) zAb sizeOf111 rfl rfl rfl rfl rfl (by simp [Value.oneCell']) gk rfl (zNl rfl) (fun gC g7 => ?_))
   refine zAe (zAd (gj _ _ (zAg (fun gD gl => (zAc (w_p (zAi (v := fv) rfl rfl) rfl (w_p (zA9 (vs := [_,_,_]) isAgg111 sizeOf111 g7 rfl rfl (zAl (i := 0) (vs := [_,_,_]) rfl rfl)) rfl ?_)))))))
   refine zEc zAb rfl rfl rfl rfl (hp i hi2 [_] _ g7) ?_
   rintro _ gE ⟨rfl, g3⟩
   refine zBs rfl rfl (zAe (zAd (gl _ _ (zAg (fun gF gm => (zAc (zBe rfl rfl (w_p (zCv rfl rfl rfl rfl) rfl (zAe (zAd (gm _ _ (zA1 rfl rfl (fun g6 => ?_) (fun g6 => ?_)))))))))))))
   ·
    try simp only [zS] at g6
    refine zAg (fun gG gn => (zAc (zBe rfl rfl (zBe rfl rfl (zBs rfl rfl (zBs rfl rfl (zAe (zAd (gn _ _ (zA7 (zAy (zAm (zAm (zAy (zAm (zBa (l := [.tmp 8, .tmp 9]) (vs := [_,_]) rfl ⟨⟨rfl, (rfl : _ = Value.int _ _)⟩, ⟨rfl, (rfl : _ = Value.int _ _)⟩, trivial⟩ ?_))))))))))))))))
    first
      | (rw [zC4 (by assumption)]
         exact ⟨rfl, g3.tail⟩)
      | (rw [zB4 (by assumption), hinv, zBu hi2 (by assumption)]
         exact ⟨rfl, g3.tail⟩)
      | (rw [zB4 (by assumption), hinv, zB1 (by omega)]
         exact ⟨rfl, g3.tail⟩)
   try simp only [zS] at g6
   refine zAx (zAn (zAd (gi _ _ (zAc (w_p (zBq rfl rfl rfl rfl (by omega) (by omega)) rfl (zBe rfl rfl (zAe (zAd (gf _ _ (nxI (l.length - (i + 1)) (by omega) ?_))))))))))
   exact ⟨i + 1, rfl, by omega, rfl, hinv.trans (zCf hi2 (by assumption)), g3.tail⟩
  try simp only [zS] at g5
  refine zBy (zAq (zAq (zBc (zAd (gd _ _ (zAg (fun gH go => (zAc (zBj rfl rfl (zBj rfl rfl (zAe (zAd (go _ _ (zA7 (zBa (l := [.tmp 8, .tmp 9]) (vs := [_,_]) rfl ⟨⟨rfl, (rfl : _ = Value.int _ _)⟩, ⟨rfl, (rfl : _ = Value.int _ _)⟩, trivial⟩ ?_)))))))))))))))
  first
    | (rw [zC4 (by assumption)]
       exact ⟨rfl, hs⟩)
    | (rw [zB4 (by assumption), hinv, zBu hi2 (by assumption)]
       exact ⟨rfl, hs⟩)
    | (rw [zB4 (by assumption), hinv, zB1 (by omega)]
       exact ⟨rfl, hs⟩)

theorem c60 {w0 w : World} {F : List (Nat × Obj)} (s : Int × Int) (most : Int) (hmo : 0 ≤ most ∧ most ≤ 1000) (hs : St w0 w F) :
  Con Tryz.prog 60 [.agg (scells s).toArray, .int .i64 most] w fun v w' => v = .int .i64 (widthE s most) ∧ St w0 w' F := by
  refine zAu (n := 21) func60 rfl rfl (zNl rfl) ?_
  refine zAg (fun K2 g7 => (zAc (zCj (v := .agg #[.int _ _, .int _ _]) (cs := [_,_]) zAb rfl rfl rfl hs (fun b3 w4 g5 => ?_))))
  refine zBj rfl rfl (zAe (zAd (g7 _ _ (zAg (fun K7 g8 => (zA8 ?_))))))
  refine zAg (fun K9 g9 => (zAc (zBe rfl rfl (w_p (zAf (o := 0) (i := 0) underlying23 rfl sizeOf3 rfl rfl rfl) rfl (w_p (zAk isAgg3 g5 rfl rfl (zAl (i := 0) (vs := [_]) rfl rfl)) rfl ?_)))))
  refine w_p (zAf (o := 1) (i := 1) underlying23 rfl sizeOf3 rfl rfl rfl) rfl (w_p (zAk isAgg3 g5 rfl rfl (zAl (i := 0) (vs := [_]) rfl rfl)) rfl (zA3 (ps := [(0, _),(1, _)]) (pv := [(0, .int _ _),(1, .int _ _)]) (cs := [_,_]) zAb rfl rfl (fun w => Try_UC_fb1 _ _ w) g5 (fun gg gh ga => ?_)))
  refine zAr zAb call71 rfl rfl rfl rfl (c71 _ _ _ [_,_] _ (by simp) (zBd (i := 0) (rows := [[_], [_]]) rfl (by simp) rfl) ga) ?_
  rintro _ gi ⟨rfl, g4⟩
  refine w_p (zAo (v := .bool _) rfl rfl) rfl (zAe (zAd (g9 _ _ (zA1 rfl rfl (fun g0 => ?_) (fun g0 => ?_)))))
  ·
   try simp only [zS] at g0
   refine zAg (fun gj gb => (zAc (zBj rfl rfl (zAe (zAd (gb _ _ (zA7 (zAy (zAm (zBa (l := [.tmp 4]) (vs := [_]) rfl ⟨⟨rfl, (rfl : _ = Value.int _ _)⟩, trivial⟩ ?_))))))))))
   try simp only [List.any_cons, List.any_nil, Bool.or_false, Bool.or_eq_false_iff] at g0
   exact ⟨congrArg (Value.int .i64) (by simp [widthE, g0] <;> omega), g4.tail.tail⟩
  try simp only [zS] at g0
  refine zAg (fun gk gc => ?_)
  have hbb : 0 ≤ s.1 ∧ s.1 ≤ most ∧ 0 ≤ s.2 ∧ s.2 ≤ most := by
    have hq : [s.1, s.2].any (out 0 most) = false := by assumption
    simp [out] at hq; omega
  refine zAc (w_p (zAf (o := 1) (i := 1) underlying23 rfl sizeOf3 rfl rfl rfl) rfl (w_p (zAk isAgg3 g4 rfl rfl (zAl (i := 1) (vs := [_]) rfl rfl)) rfl (w_p (zAf (o := 0) (i := 0) underlying23 rfl sizeOf3 rfl rfl rfl) rfl ?_)))
  refine w_p (zAk isAgg3 g4 rfl rfl (zAl (i := 1) (vs := [_]) rfl rfl)) rfl (w_p (zHg rfl rfl rfl rfl (by omega) (by omega)) rfl (zA3 (ps := [(0, _)]) (pv := [(0, .int _ _)]) (cs := [_]) zAb rfl rfl (fun w => zDh _ w) g4 (fun gl gm gd => ?_)))
  refine zAr zAb call71 rfl rfl rfl rfl (c71 _ _ _ [_] _ (by simp) (zBd (i := 0) (rows := [[_]]) rfl (by simp) rfl) gd) ?_
  rintro _ gn ⟨rfl, g6⟩
  refine w_p (zAo (v := .bool _) rfl rfl) rfl (zAe (zAd (gc _ _ (zA1 rfl rfl (fun g3 => ?_) (fun g3 => ?_)))))
  ·
   try simp only [zS] at g3
   refine zAg (fun go ge => (zAc (zBj rfl rfl (zAe (zAd (ge _ _ (zA7 (zAy (zAm (zBa (l := [.tmp 4]) (vs := [_]) rfl ⟨⟨rfl, (rfl : _ = Value.int _ _)⟩, trivial⟩ ?_))))))))))
   try simp only [List.any_cons, List.any_nil, Bool.or_false, Bool.or_eq_false_iff] at g0 g3
   exact ⟨congrArg (Value.int .i64) (by simp [widthE, g0, g3] <;> omega), g6.tail.tail.tail⟩
  try simp only [zS] at g3
  refine zAx (zAn (zAd (g8 _ _ (zAg (fun gp gf => (zAc (zBj rfl rfl (zAe (zAd (gf _ _ (zA7 (zBa (l := [.tmp 4]) (vs := [_]) rfl ⟨⟨rfl, (rfl : _ = Value.int _ _)⟩, trivial⟩ ?_))))))))))))
  try simp only [List.any_cons, List.any_nil, Bool.or_false, Bool.or_eq_false_iff] at g0 g3
  exact ⟨congrArg (Value.int .i64) (by simp [widthE, g0, g3] <;> omega), g6.tail.tail.tail⟩

theorem c83 {w0 w : World} {F : List (Nat × Obj)} (n : Int) (bf : List Int) (hs : St w0 w F) :
  Con Tryz.prog 83 [.int .i64 n] w fun v w' => v = .int .i64 (heatE bf n) ∧ St w0 w' F := by
  refine zAu (n := 6) func83 rfl rfl (zNl rfl) ?_
  refine zAg (fun K2 g4 => (zAc (zBj rfl rfl (zAe (zAd (g4 _ _ (zAg (fun K4 g5 => (zAg (fun K6 g6 => (zAc (zBe rfl rfl (zA3 (ps := [(0, _)]) (pv := [(0, .int _ _)]) (cs := [_]) zAb rfl rfl (fun w => zDh _ w) hs (fun b7 w8 g7 => ?_))))))))))))))
  refine zAr zAb call71 rfl rfl rfl rfl (c71 _ _ _ [_] _ (by simp) (zBd (i := 0) (rows := [[_]]) rfl (by simp) rfl) g7) ?_
  rintro _ ga ⟨rfl, g3⟩
  refine zAe (zAd (g6 _ _ (zA1 rfl rfl (fun g0 => ?_) (fun g0 => ?_))))
  ·
   try simp only [zS] at g0
   refine zAg (fun gb g8 => (zAc (zBj rfl rfl (zAe (zAd (g8 _ _ (zA7 (zAm (zBa (l := [.tmp 2]) (vs := [_]) rfl ⟨⟨rfl, (rfl : _ = Value.int _ _)⟩, trivial⟩ ?_)))))))))
   try simp only [List.any_cons, List.any_nil, Bool.or_false, Bool.or_eq_false_iff] at g0
   exact ⟨congrArg (Value.int .i64) (by simp [heatE, g0] <;> omega), g3.tail⟩
  try simp only [zS] at g0
  refine zAx (zAd (g5 _ _ (zAg (fun gc g9 => (zAc (zBj rfl rfl (zAe (zAd (g9 _ _ (zA7 (zBa (l := [.tmp 2]) (vs := [_]) rfl ⟨⟨rfl, (rfl : _ = Value.int _ _)⟩, trivial⟩ ?_)))))))))))
  try simp only [List.any_cons, List.any_nil, Bool.or_false, Bool.or_eq_false_iff] at g0
  exact ⟨congrArg (Value.int .i64) (by simp [heatE, g0] <;> omega), g3.tail⟩

theorem c85 {w0 w : World} {F : List (Nat × Obj)} (s : Int × Int) (bf : List (Int × Int)) (hs : St w0 w F) :
  Con Tryz.prog 85 [.agg (scells s).toArray] w fun v w' => v = .int .i64 (holdE bf s) ∧ St w0 w' F := by
  refine zAu (n := 5) func85 rfl rfl (zNl rfl) ?_
  refine zAg (fun K2 g3 => (zAc (zCj (v := .agg #[.int _ _, .int _ _]) (cs := [_,_]) zAb rfl rfl rfl hs (fun b3 w4 g0 => ?_))))
  refine zBj rfl rfl (zAe (zAd (g3 _ _ (zAg (fun K7 g4 => (zAc (w_p (zA9 (vs := [_,_]) isAgg23 sizeOf23 g0 rfl rfl (zAl (i := 0) (vs := [_,_]) rfl rfl)) rfl ?_)))))))
  refine zAr zAb call60 rfl rfl rfl rfl (c60 s 6 (by omega) g0) ?_
  rintro _ w9 ⟨rfl, g5⟩
  refine zBs rfl rfl (zAe (zAd (g4 _ _ (zA7 (zBa (l := [.tmp 2]) (vs := [_]) rfl ⟨⟨rfl, (rfl : _ = Value.int _ _)⟩, trivial⟩ ?_)))))
  exact ⟨rfl, g5.tail⟩

theorem c87 {w0 w : World} {F : List (Nat × Obj)} (c : Cargo) (p : AtT) (hm : TIn w0 F c p) (l : Tu.Lot) (bf : List Tu.Lot) (bm : Nat) (hb : Ats w0 F bm 0 (c.cells p)) (hs : St w0 w F) :
  Con Tryz.prog 87 [.agg l.cells.toArray, .pointer (some ⟨bm, 0, none⟩)] w fun v w' => v = .int .i64 (lotE c.holds.length c.heat.length bf l) ∧ St w0 w' F := by
  refine zAu (n := 24) func87 rfl rfl (zNl rfl) ?_
  have hle := hm.le
  have hlh := hm.lh
  refine zAg (fun K2 g7 => (zAc (zCj (v := .agg #[.int _ _, .int _ _, .int _ _, .int _ _]) (cs := [_,_,_,_]) zAb rfl rfl rfl hs (fun b3 w4 g5 => ?_))))
  refine zBj rfl rfl (zAe (zAd (g7 _ _ (zAg (fun K7 g8 => (zA8 ?_))))))
  refine zAg (fun K9 g9 => (zAc (w_p (zAf (o := 2) (i := 2) underlying42 rfl sizeOf36 rfl rfl rfl) rfl (w_p (zAk isAgg36 g5.tail rfl rfl (show Ats _ _ _ _ [_] from Ats.part hb 2 1)) rfl (w_p (zBo underlying36 rfl rfl) rfl (w_p (zHg rfl rfl rfl rfl (by omega) (by omega)) rfl ?_))))))
  refine w_p (zAf (o := 0) (i := 0) underlying38 rfl sizeOf3 rfl rfl rfl) rfl (w_p (zAk isAgg3 g5 rfl rfl (zAl (i := 0) (vs := [_]) rfl rfl)) rfl (zA3 (ps := [(0, _)]) (pv := [(0, .int _ _)]) (cs := [_]) zAb rfl rfl (fun w => zDh _ w) g5 (fun gh gi ga => ?_)))
  refine zAr zAb call71 rfl rfl rfl rfl (c71 _ _ _ [_] _ (by simp) (zBd (i := 0) (rows := [[_]]) rfl (by simp) rfl) ga) ?_
  rintro _ gj ⟨rfl, g4⟩
  refine w_p (zAo (v := .bool _) rfl rfl) rfl (zAe (zAd (g9 _ _ (zA1 rfl rfl (fun g0 => ?_) (fun g0 => ?_)))))
  ·
   try simp only [zS] at g0
   refine zAg (fun gk gb => (zAc (zBj rfl rfl (zAe (zAd (gb _ _ (zA7 (zAy (zAm (zBa (l := [.tmp 3]) (vs := [_]) rfl ⟨⟨rfl, (rfl : _ = Value.int _ _)⟩, trivial⟩ ?_))))))))))
   try simp only [List.any_cons, List.any_nil, Bool.or_false, Bool.or_eq_false_iff] at g0
   exact ⟨congrArg (Value.int .i64) (by simp [lotE, g0] <;> omega), g4.tail.tail⟩
  try simp only [zS] at g0
  refine zAg (fun gl gc => (zAc (w_p (zAf (o := 0) (i := 0) underlying42 rfl sizeOf35 rfl rfl rfl) rfl (w_p (zAk isAgg35 g4.tail.tail rfl rfl (show Ats _ _ _ _ [_] from Ats.part hb 0 1)) rfl (w_p (zBo underlying35 rfl rfl) rfl (w_p (zAf (o := 1) (i := 1) underlying38 rfl sizeOf3 rfl rfl rfl) rfl ?_))))))
  refine w_p (zAk isAgg3 g4 rfl rfl (zAl (i := 1) (vs := [_]) rfl rfl)) rfl (zA3 (ps := [(0, _)]) (pv := [(0, .int _ _)]) (cs := [_]) zAb rfl rfl (fun w => zDh _ w) g4 (fun gm gn gd => ?_))
  refine zAr zAb call71 rfl rfl rfl rfl (c71 _ _ _ [_] _ (by simp) (zBd (i := 0) (rows := [[_]]) rfl (by simp) rfl) gd) ?_
  rintro _ go ⟨rfl, g6⟩
  refine w_p (zAo (v := .bool _) rfl rfl) rfl (zAe (zAd (gc _ _ (zA1 rfl rfl (fun g3 => ?_) (fun g3 => ?_)))))
  ·
   try simp only [zS] at g3
   refine zAg (fun gp ge => (zAc (zBj rfl rfl (zAe (zAd (ge _ _ (zA7 (zAy (zAm (zBa (l := [.tmp 3]) (vs := [_]) rfl ⟨⟨rfl, (rfl : _ = Value.int _ _)⟩, trivial⟩ ?_))))))))))
   try simp only [List.any_cons, List.any_nil, Bool.or_false, Bool.or_eq_false_iff] at g0 g3
   exact ⟨congrArg (Value.int .i64) (by simp [lotE, g0, g3] <;> omega), g6.tail.tail.tail⟩
  try simp only [zS] at g3
  refine zAx (zAn (zAd (g8 _ _ (zAg (fun gq gf => (zAc (w_p (zAf (o := 2) (i := 2) underlying38 rfl sizeOf23 rfl rfl rfl) rfl (w_p (zA9 (vs := [_,_]) isAgg23 sizeOf23 g6 rfl rfl (zAl (i := 2) (vs := [_,_]) rfl rfl)) rfl ?_))))))))
  refine zAr zAb call60 rfl rfl rfl rfl (c60 (l.lo, l.hi) 40 (by omega) g6) ?_
  rintro _ gr ⟨rfl, gg⟩
  refine zBs rfl rfl (zAe (zAd (gf _ _ (zA7 (zBa (l := [.tmp 3]) (vs := [_]) rfl ⟨⟨rfl, (rfl : _ = Value.int _ _)⟩, trivial⟩ ?_)))))
  try simp only [List.any_cons, List.any_nil, Bool.or_false, Bool.or_eq_false_iff] at g0 g3
  exact ⟨congrArg (Value.int .i64) (by simp [lotE, g0, g3] <;> omega), gg.tail.tail.tail⟩

theorem c89 {w0 w : World} {F : List (Nat × Obj)} (c : Cargo) (p : AtT) (hm : TIn w0 F c p) (s : Tu.Look) (bf : List Tu.Look) (bm : Nat) (hb : Ats w0 F bm 0 (c.cells p)) (hs : St w0 w F) :
  Con Tryz.prog 89 [.agg s.cells.toArray, .pointer (some ⟨bm, 0, none⟩)] w fun v w' => v = .int .i64 (seenE c bf s) ∧ St w0 w' F := by
  refine zAu (n := 28) func89 rfl rfl (zNl rfl) ?_
  have hle := hm.le
  have hll := hm.ll
  refine zAg (fun K2 g9 => (zAc (zCj (v := .agg #[.int _ _, .int _ _, .bool _]) (cs := [_,_,_]) zAb rfl rfl rfl hs (fun b3 w4 g5 => ?_))))
  refine zBj rfl rfl (zAe (zAd (g9 _ _ (zAg (fun K7 ga => (zA8 ?_))))))
  refine zAg (fun K9 gb => (zAc (w_p (zAf (o := 3) (i := 3) underlying42 rfl sizeOf39 rfl rfl rfl) rfl (w_p (zAk isAgg39 g5.tail rfl rfl (show Ats _ _ _ _ [_] from Ats.part hb 3 1)) rfl (w_p (zBo underlying39 rfl rfl) rfl (w_p (zHg rfl rfl rfl rfl (by omega) (by omega)) rfl ?_))))))
  refine w_p (zAf (o := 0) (i := 0) underlying111 rfl sizeOf3 rfl rfl rfl) rfl (w_p (zAk isAgg3 g5 rfl rfl (zAl (i := 0) (vs := [_]) rfl rfl)) rfl (zA3 (ps := [(0, _)]) (pv := [(0, .int _ _)]) (cs := [_]) zAb rfl rfl (fun w => zDh _ w) g5 (fun gh gi gc => ?_)))
  refine zAr zAb call71 rfl rfl rfl rfl (c71 _ _ _ [_] _ (by simp) (zBd (i := 0) (rows := [[_]]) rfl (by simp) rfl) gc) ?_
  rintro _ gj ⟨rfl, g4⟩
  refine w_p (zAo (v := .bool _) rfl rfl) rfl (zAe (zAd (gb _ _ (zA1 rfl rfl (fun g6 => ?_) (fun g6 => ?_)))))
  ·
   try simp only [zS] at g6
   refine zAg (fun gk gd => (zAc (zBj rfl rfl (zAe (zAd (gd _ _ (zA7 (zAy (zAm (zBa (l := [.tmp 3]) (vs := [_]) rfl ⟨⟨rfl, (rfl : _ = Value.int _ _)⟩, trivial⟩ ?_))))))))))
   first
     | exact ⟨congrArg (Value.int .i64) (seenE_a (by assumption)).symm, g4.tail.tail⟩
     | exact ⟨congrArg (Value.int .i64) (seenE_b hla (by assumption) (by assumption)).symm, g4.tail.tail⟩
     | exact ⟨congrArg (Value.int .i64) (seenE_c hla (by assumption) (by assumption)).symm, g4.tail.tail⟩
  try simp only [zS] at g6
  refine zAg (fun gl ge => ?_)
  have hbb : 0 ≤ s.lot ∧ s.lot < c.lots.length := by
    have hq : [s.lot].any (out 0 ((c.lots.length : Int) - 1)) = false := by assumption
    simp [out] at hq; omega
  have hi2 : s.lot.toNat < c.lots.length := by omega
  obtain ⟨bx, ox, hbx, hx⟩ := zDy hm.l hi2
  have hla : lotAt c s.lot.toNat = c.lots[s.lot.toNat] := by simp [lotAt, List.getD, hi2]
  refine zCe [] [(0,0),(1,1),(2,0),(3,1),(4,0),(5,0),(6,1),(7,0),(8,1),(9,0),(10,0),(11,1),(12,2),(13,2),(14,0)] zB0 (zB5 (by kernel_rfl)) g4 (fun gm g3 => ?_)
  refine d_w rfl (fun _ => zAf (o := 3) (i := 3) underlying42 rfl sizeOf39 rfl rfl rfl) rfl ?_
  refine zBb rfl zAb rfl g3 (fun _ hq => (zFd hbx (zAk isAgg39 hq.tail.tail rfl rfl (show Ats _ _ _ _ [_] from Ats.part hb 3 1)))) ?_
  refine d_w rfl (fun _ => zAf (o := 0) (i := 0) underlying111 rfl sizeOf3 rfl rfl rfl) rfl ?_
  refine zBb rfl zAb rfl g3 (fun _ hq => (zAk isAgg3 hq rfl rfl (zAl (i := 1) (vs := [_]) rfl rfl))) ?_
  refine d_w rfl (fun _ => zBk underlying39 sizeOf38 rfl rfl rfl rfl (i := s.lot.toNat) (Int.toNat_of_nonneg hbb.1).symm hi2) rfl ?_
  refine d_w rfl (fun _ => zAf (o := 1) (i := 1) underlying38 rfl sizeOf3 rfl rfl rfl) rfl ?_
  refine zBb rfl zAb rfl g3 (fun _ hq => (zAk isAgg3 hq.tail.tail rfl rfl (show Ats _ _ _ _ [_] from Ats.part hx 1 1))) ?_
  refine d_w rfl (fun _ => zAf (o := 0) (i := 0) underlying42 rfl sizeOf35 rfl rfl rfl) rfl ?_
  refine zBb rfl zAb rfl g3 (fun _ hq => (zAk isAgg35 hq.tail.tail rfl rfl (show Ats _ _ _ _ [_] from Ats.part hb 0 1))) ?_
  refine d_w rfl (fun _ => zBo underlying35 rfl rfl) rfl ?_
  refine d_w rfl (fun _ => zAf (o := 1) (i := 1) underlying111 rfl sizeOf3 rfl rfl rfl) rfl ?_
  refine zBb rfl zAb rfl g3 (fun _ hq => (zAk isAgg3 hq rfl rfl (zAl (i := 1) (vs := [_]) rfl rfl))) ?_
  refine zBl rfl ?_
  refine zA3 (ps := [(0, _)]) (pv := [(0, .int _ _)]) (cs := [_]) zAb rfl rfl (fun w => zDh _ w) g3 (fun gn go g8 => ?_)
  refine zAe (qn ⟨g8.tail, ?_⟩)
  refine zBl rfl ?_
  refine zAr zAb call71 rfl rfl rfl rfl (c71 _ _ _ [_] _ (by simp) (zBd (i := 0) (rows := [[_]]) rfl (by simp) rfl) g8) ?_
  rintro _ gp ⟨rfl, g0⟩
  refine zAe (qn ⟨g0.tail, ?_⟩)
  refine d_w rfl (fun _ => zAo (v := .bool _) rfl rfl) rfl ?_
  refine zBh ?_
  refine zAd (ge _ _ (zA1 rfl rfl (fun g7 => ?_) (fun g7 => ?_)))
  ·
   try simp only [zS] at g7
   refine zAg (fun gq gf => (zAc (zBj rfl rfl (zAe (zAd (gf _ _ (zA7 (zAy (zAm (zBa (l := [.tmp 3]) (vs := [_]) rfl ⟨⟨rfl, (rfl : _ = Value.int _ _)⟩, trivial⟩ ?_))))))))))
   first
     | exact ⟨congrArg (Value.int .i64) (seenE_a (by assumption)).symm, g0.tail.tail.tail⟩
     | exact ⟨congrArg (Value.int .i64) (seenE_b hla (by assumption) (by assumption)).symm, g0.tail.tail.tail⟩
     | exact ⟨congrArg (Value.int .i64) (seenE_c hla (by assumption) (by assumption)).symm, g0.tail.tail.tail⟩
  try simp only [zS] at g7
  refine zAx (zAn (zAd (ga _ _ (zAg (fun gr gg => (zAc (zBj rfl rfl (zAe (zAd (gg _ _ (zA7 (zBa (l := [.tmp 3]) (vs := [_]) rfl ⟨⟨rfl, (rfl : _ = Value.int _ _)⟩, trivial⟩ ?_))))))))))))
  first
    | exact ⟨congrArg (Value.int .i64) (seenE_a (by assumption)).symm, g0.tail.tail.tail⟩
    | exact ⟨congrArg (Value.int .i64) (seenE_b hla (by assumption) (by assumption)).symm, g0.tail.tail.tail⟩
    | exact ⟨congrArg (Value.int .i64) (seenE_c hla (by assumption) (by assumption)).symm, g0.tail.tail.tail⟩

theorem c68 {w0 w : World} {F : List (Nat × Obj)} (c : Cargo) (p : AtT) (hm : TIn w0 F c p)  (hs : St w0 w F) :
  Con Tryz.prog 68 [.agg (c.cells p).toArray] w fun v w' => v = .tuple #[.int .i64 (check c).1, .int .i64 (check c).2.1, .int .i64 (check c).2.2] ∧ St w0 w' F := by
  refine zAu (n := 53) func68 rfl rfl (zNl rfl) ?_
  have hle := hm.le
  have hlh := hm.lh
  have hll := hm.ll
  have hln := hm.ln
  refine zAg (fun K2 gd => (zAc (zCj (v := .agg #[.slice _ _ _, .int _ _, .slice _ _ _, .slice _ _ _, .slice _ _ _]) (cs := [_,_,_,_,_]) zAb rfl rfl rfl hs (fun b3 w4 gb => ?_))))
  refine zBj rfl rfl (zBj rfl rfl (zBj rfl rfl (zAe (zAd (gd _ _ (zAg (fun K7 ge => (zAc (w_p (zAf (o := 0) (i := 0) underlying42 rfl sizeOf35 rfl rfl rfl) rfl ?_)))))))))
  refine w_p (zAk isAgg35 gb rfl rfl (zAl (i := 0) (vs := [_]) rfl rfl)) rfl (zAr zAb call82 rfl rfl rfl rfl (c82 _ _ c.heat hle 0 8 hm.e.cons (.func (.func 83) #[] #[]) (heatE) (fun i hi X w hs => zDw call83 (c83 c.heat[i] _ hs)) gb) ?_)
  rintro _ w9 ⟨rfl, g8⟩
  refine w_p (zAi (v := .tuple _) rfl rfl) rfl (w_p (zAh (v := .int _ _) rfl rfl rfl) rfl (w_p (zAh (v := .int _ _) rfl rfl rfl) rfl (zBs rfl rfl (zBs rfl rfl (zAe (zAd (ge _ _ (zAg (fun gz gf => (zA8 ?_))))))))))
  refine zAg (fun gA gg => (zAc (zBe rfl rfl (w_p (zCv rfl rfl rfl rfl) rfl (w_p (zAo (v := .bool _) rfl rfl) rfl (zAe (zAd (gg _ _ (zA1 rfl rfl (fun g0 => ?_) (fun g0 => ?_))))))))))
  ·
   try simp only [zS] at g0
   refine zAg (fun gB gh => (zAc (zBe rfl rfl (zBe rfl rfl (zBj rfl rfl (zBs rfl rfl (zBs rfl rfl (zAe (zAd (gh _ _ (zA7 (zAy (zAm (zBa (l := [.tmp 2, .tmp 3, .tmp 4]) (vs := [_,_,_]) rfl ⟨⟨rfl, (rfl : _ = Value.int _ _)⟩, ⟨rfl, (rfl : _ = Value.int _ _)⟩, ⟨rfl, (rfl : _ = Value.int _ _)⟩, trivial⟩ ?_))))))))))))))
   try simp only [List.any_cons, List.any_nil, Bool.or_false, Bool.or_eq_false_iff] at g0
   exact ⟨tup3 (by unfold check; simp [g0]), g8.tail⟩
  try simp only [zS] at g0
  refine zAg (fun gC gi => (zAc (w_p (zAf (o := 1) (i := 1) underlying42 rfl sizeOf3 rfl rfl rfl) rfl (w_p (zAk isAgg3 g8 rfl rfl (zAl (i := 0) (vs := [_]) rfl rfl)) rfl (zA3 (ps := [(0, _)]) (pv := [(0, .int _ _)]) (cs := [_]) zAb rfl rfl (fun w => zDh _ w) g8 (fun gD gE gj => ?_))))))
  refine zAr zAb call71 rfl rfl rfl rfl (c71 _ _ _ [_] _ (by simp) (zBd (i := 0) (rows := [[_]]) rfl (by simp) rfl) gj) ?_
  rintro _ gF ⟨rfl, g9⟩
  refine w_p (zAo (v := .bool _) rfl rfl) rfl (zAe (zAd (gi _ _ (zA1 rfl rfl (fun g3 => ?_) (fun g3 => ?_)))))
  ·
   try simp only [zS] at g3
   refine zAg (fun gG gk => (zAc (zBj rfl rfl (zBj rfl rfl (zBj rfl rfl (zAe (zAd (gk _ _ (zA7 (zAy (zAm (zBa (l := [.tmp 2, .tmp 3, .tmp 4]) (vs := [_,_,_]) rfl ⟨⟨rfl, (rfl : _ = Value.int _ _)⟩, ⟨rfl, (rfl : _ = Value.int _ _)⟩, ⟨rfl, (rfl : _ = Value.int _ _)⟩, trivial⟩ ?_))))))))))))
   try simp only [List.any_cons, List.any_nil, Bool.or_false, Bool.or_eq_false_iff] at g0 g3
   exact ⟨tup3 (by unfold check; simp [g0, g3]), g9.tail.tail⟩
  try simp only [zS] at g3
  refine zAx (zAn (zAd (gf _ _ (zAg (fun gH gl => (zAc (w_p (zAf (o := 2) (i := 2) underlying42 rfl sizeOf36 rfl rfl rfl) rfl (w_p (zAk isAgg36 g9 rfl rfl (zAl (i := 1) (vs := [_]) rfl rfl)) rfl ?_))))))))
  refine zAr zAb call84 rfl rfl rfl rfl (c84 _ _ c.holds hlh 1 3 hm.h.cons.cons (.func (.func 85) #[] #[]) (holdE) (fun i hi X w hs => zDw call85 (c85 c.holds[i] _ hs)) g9) ?_
  rintro _ gI ⟨rfl, g7⟩
  refine w_p (zAi (v := .tuple _) rfl rfl) rfl (w_p (zAh (v := .int _ _) rfl rfl rfl) rfl (w_p (zAh (v := .int _ _) rfl rfl rfl) rfl (zBs rfl rfl (zBs rfl rfl (zAe (zAd (gl _ _ (zAg (fun gJ gm => (zAg (fun gK gn => (zAc (zBe rfl rfl ?_)))))))))))))
  refine w_p (zCv rfl rfl rfl rfl) rfl (zAe (zAd (gn _ _ (zA1 rfl rfl (fun g4 => ?_) (fun g4 => ?_)))))
  ·
   try simp only [zS] at g4
   refine zAg (fun gL go => (zAc (zBe rfl rfl (zBe rfl rfl (zBj rfl rfl (zBs rfl rfl (zBs rfl rfl (zAe (zAd (go _ _ (zA7 (zAm (zBa (l := [.tmp 2, .tmp 3, .tmp 4]) (vs := [_,_,_]) rfl ⟨⟨rfl, (rfl : _ = Value.int _ _)⟩, ⟨rfl, (rfl : _ = Value.int _ _)⟩, ⟨rfl, (rfl : _ = Value.int _ _)⟩, trivial⟩ ?_)))))))))))))
   try simp only [List.any_cons, List.any_nil, Bool.or_false, Bool.or_eq_false_iff] at g0 g3 g4
   exact ⟨tup3 (by unfold check; simp [g0, g3, g4]), g7.tail.tail⟩
  try simp only [zS] at g4
  refine zAx (zAd (gm _ _ (zAg (fun gM gp => ?_))))
  have hbx := ats_of (i := 1) (vs := c.cells p) g7 rfl rfl
  refine zAc (w_p (zAf (o := 3) (i := 3) underlying42 rfl sizeOf39 rfl rfl rfl) rfl (w_p (zAk isAgg39 g7 rfl rfl (show Ats _ _ _ _ [_] from Ats.part hbx 3 1)) rfl (w_p (zCa (fv := []) (cv := [_]) rfl rfl rfl rfl) rfl (zAr zAb call86 rfl rfl rfl rfl (c86 _ _ c.lots hll 0 4 hm.l.cons.cons (.func (.func 87) #[] #[.pointer (some ⟨b3,0, none⟩)]) (lotE c.holds.length c.heat.length) (fun i hi X w hs => zDw call87 (c87 c p (TIn.app hm.cons.cons) c.lots[i] _ _ (Ats.app hbx) hs)) g7) ?_))))
  rintro _ gN ⟨rfl, ga⟩
  refine w_p (zAi (v := .tuple _) rfl rfl) rfl (w_p (zAh (v := .int _ _) rfl rfl rfl) rfl (w_p (zAh (v := .int _ _) rfl rfl rfl) rfl (zBs rfl rfl (zBs rfl rfl (zAe (zAd (gp _ _ (zAg (fun gO gq => (zAg (fun gP gr => (zAc (zBe rfl rfl ?_)))))))))))))
  refine w_p (zCv rfl rfl rfl rfl) rfl (zAe (zAd (gr _ _ (zA1 rfl rfl (fun g5 => ?_) (fun g5 => ?_)))))
  ·
   try simp only [zS] at g5
   refine zAg (fun gQ gt => (zAc (zBe rfl rfl (zBe rfl rfl (zBj rfl rfl (zBs rfl rfl (zBs rfl rfl (zAe (zAd (gt _ _ (zA7 (zAm (zBa (l := [.tmp 2, .tmp 3, .tmp 4]) (vs := [_,_,_]) rfl ⟨⟨rfl, (rfl : _ = Value.int _ _)⟩, ⟨rfl, (rfl : _ = Value.int _ _)⟩, ⟨rfl, (rfl : _ = Value.int _ _)⟩, trivial⟩ ?_)))))))))))))
   try simp only [List.any_cons, List.any_nil, Bool.or_false, Bool.or_eq_false_iff] at g0 g3 g4 g5
   exact ⟨tup3 (by unfold check; simp [g0, g3, g4, g5]), ga.tail.tail⟩
  try simp only [zS] at g5
  refine zAx (zAd (gq _ _ (zAg (fun gR gu => (zAc (w_p (zAf (o := 4) (i := 4) underlying42 rfl sizeOf40 rfl rfl rfl) rfl (w_p (zAk isAgg40 ga rfl rfl (show Ats _ _ _ _ [_] from Ats.part hbx 4 1)) rfl ?_)))))))
  refine w_p (zCa (fv := []) (cv := [_]) rfl rfl rfl rfl) rfl (zAr zAb call88 rfl rfl rfl rfl (c88 _ _ c.seen hln 0 4 hm.n.cons.cons (.func (.func 89) #[] #[.pointer (some ⟨b3,0, none⟩)]) (seenE c) (fun i hi X w hs => zDw call89 (c89 c p (TIn.app hm.cons.cons) c.seen[i] _ _ (Ats.app hbx) hs)) ga) ?_)
  rintro _ gS ⟨rfl, gc⟩
  refine w_p (zAi (v := .tuple _) rfl rfl) rfl (w_p (zAh (v := .int _ _) rfl rfl rfl) rfl (w_p (zAh (v := .int _ _) rfl rfl rfl) rfl (zBs rfl rfl (zBs rfl rfl (zAe (zAd (gu _ _ (zAg (fun gT gv => (zAg (fun gU gw => (zAc (zBe rfl rfl ?_)))))))))))))
  refine w_p (zCv rfl rfl rfl rfl) rfl (zAe (zAd (gw _ _ (zA1 rfl rfl (fun g6 => ?_) (fun g6 => ?_)))))
  ·
   try simp only [zS] at g6
   refine zAg (fun gV gx => (zAc (zBe rfl rfl (zBe rfl rfl (zBj rfl rfl (zBs rfl rfl (zBs rfl rfl (zAe (zAd (gx _ _ (zA7 (zAm (zBa (l := [.tmp 2, .tmp 3, .tmp 4]) (vs := [_,_,_]) rfl ⟨⟨rfl, (rfl : _ = Value.int _ _)⟩, ⟨rfl, (rfl : _ = Value.int _ _)⟩, ⟨rfl, (rfl : _ = Value.int _ _)⟩, trivial⟩ ?_)))))))))))))
   try simp only [List.any_cons, List.any_nil, Bool.or_false, Bool.or_eq_false_iff] at g0 g3 g4 g5 g6
   exact ⟨tup3 (by unfold check; simp [g0, g3, g4, g5, g6]), gc.tail.tail⟩
  try simp only [zS] at g6
  refine zAx (zAd (gv _ _ (zAg (fun gW gy => (zAc (zBj rfl rfl (zBj rfl rfl (zBj rfl rfl (zAe (zAd (gy _ _ (zA7 (zBa (l := [.tmp 2, .tmp 3, .tmp 4]) (vs := [_,_,_]) rfl ⟨⟨rfl, (rfl : _ = Value.int _ _)⟩, ⟨rfl, (rfl : _ = Value.int _ _)⟩, ⟨rfl, (rfl : _ = Value.int _ _)⟩, trivial⟩ ?_)))))))))))))
  try simp only [List.any_cons, List.any_nil, Bool.or_false, Bool.or_eq_false_iff] at g0 g3 g4 g5 g6
  exact ⟨tup3 (by unfold check; simp [g0, g3, g4, g5, g6]), gc.tail.tail⟩

theorem c39 {w0 w : World} {F : List (Nat × Obj)} (n : Int) (hn : 0 ≤ n ∧ n ≤ 9223372036854775807) (al : Option Addr) (cl : Nat) (l : List Int) (hll : l.length ≤ 9223372036854775807) (hl : Sl w0 F al 1 (l.map fun x => [Value.int .i64 x])) (hs : St w0 w F) :
  Con Tryz.prog 39 [.int .i64 n, .slice al l.length cl] w fun v w' => v = .agg #[.bool (noneA n l).1, .int .i64 4] ∧ St w0 w' F := by
  refine zAu (n := 10) func39 rfl rfl (zNl rfl) ?_
  refine zAg (fun K2 g3 => (zAc (zA0 (cs := [_,_]) zAb zeroValue73 rfl hs (fun b3 w4 g4 => ?_))))
  refine zAe (zAd (g3 _ _ (zAg (fun K7 g5 => (zAc (zBe rfl rfl (w_p (zHg rfl rfl rfl rfl (by omega) (by omega)) rfl (w_p (zAi (v := .slice _ _ _) rfl rfl) rfl ?_))))))))
  refine zAr zAb call71 rfl rfl rfl rfl (c71 _ _ _ _ _ (by omega) hl.cons g4) ?_
  rintro _ w9 ⟨rfl, g6⟩
  refine w_p (zBx (ps := [(0, _),(1, _)]) (pv := [(0, .bool _),(1, .int _ _)]) rfl rfl (fun w => Try_UC_fb2 _ _ w)) rfl (zAs (i := 0) (v := .agg #[.bool _, .int _ _]) (vs := [_,_]) zAb sizeOf73 rfl rfl rfl rfl rfl (by simp [Value.oneCell']) g6 rfl (zNl rfl) (fun g7 g0 => ?_))
  refine zAe (zAd (g5 _ _ (zA7 (zBa (l := [.cell 4 73]) (vs := [_]) rfl ⟨⟨rfl, _, rfl, zCo (vs := [_,_]) isAgg73 sizeOf73 g0 (zAl (i := 0) (vs := [_,_]) rfl rfl)⟩, trivial⟩ ?_))))
  exact ⟨rfl, g0.tail⟩

theorem c33 {w0 w : World} {F : List (Nat × Obj)} (c : Cargo) (p : AtT) (hm : TIn w0 F c p) (al : Option Addr) (cl : Nat) (l : List Int) (hll : l.length ≤ 9223372036854775807) (hl : Sl w0 F al 1 (l.map fun x => [Value.int .i64 x])) (hs : St w0 w F) :
  Con Tryz.prog 33 [.agg (c.cells p).toArray, .slice al l.length cl] w fun v w' => v = .agg #[.bool (hoursA c l).1, .int .i64 7] ∧ St w0 w' F := by
  refine zAu (n := 11) func33 rfl rfl (zNl rfl) ?_
  have hle := hm.le
  refine zAg (fun K2 g4 => (zAc (zCj (v := .agg #[.slice _ _ _, .int _ _, .slice _ _ _, .slice _ _ _, .slice _ _ _]) (cs := [_,_,_,_,_]) zAb rfl rfl rfl hs (fun b3 w4 g5 => ?_))))
  refine zA0 (cs := [_,_]) zAb zeroValue73 rfl g5 (fun b6 w7 g0 => ?_)
  refine zAe (zAd (g4 _ _ (zAg (fun g8 g6 => (zAc (w_p (zAf (o := 0) (i := 0) underlying42 rfl sizeOf35 rfl rfl rfl) rfl (w_p (zAk isAgg35 g0 rfl rfl (zAl (i := 1) (vs := [_]) rfl rfl)) rfl ?_)))))))
  refine w_p (zBo underlying35 rfl rfl) rfl (w_p (zAi (v := .slice _ _ _) rfl rfl) rfl (zAr zAb call71 rfl rfl rfl rfl (c71 _ _ _ _ _ (by omega) hl.cons.cons g0) ?_))
  rintro _ g9 ⟨rfl, g7⟩
  refine w_p (zBx (ps := [(0, _),(1, _)]) (pv := [(0, .bool _),(1, .int _ _)]) rfl rfl (fun w => Try_UC_fb2 _ _ w)) rfl (zAs (i := 0) (v := .agg #[.bool _, .int _ _]) (vs := [_,_]) zAb sizeOf73 rfl rfl rfl rfl rfl (by simp [Value.oneCell']) g7 rfl (zNl rfl) (fun ga g3 => ?_))
  refine zAe (zAd (g6 _ _ (zA7 (zBa (l := [.cell 4 73]) (vs := [_]) rfl ⟨⟨rfl, _, rfl, zCo (vs := [_,_]) isAgg73 sizeOf73 g3 (zAl (i := 0) (vs := [_,_]) rfl rfl)⟩, trivial⟩ ?_))))
  exact ⟨rfl, g3.tail.tail⟩

end Go.Proofs.Ut
/- Plain facts of the turn layer: what a cargo without an error is like; the hours at which lots turn, step by step. No conditions. -/
namespace Go.Rt.Tu
open Go.Rt.Ha (firstE failE felt spanL upto bit listL fewest Bunch zDf)
structure Cargo.TOk (c : Cargo) : Prop where
  le : c.heat.length ≤ 8
  ll : c.lots.length ≤ 5
  heat : ∀ z ∈ c.heat, 0 ≤ z ∧ z ≤ 3
  gas : 0 ≤ c.gas ∧ c.gas ≤ 3
structure Lot.Ok (nh ne : Nat) (l : Lot) : Prop where
  hold : 0 ≤ l.hold ∧ l.hold < nh
  frm : 0 ≤ l.frm ∧ l.frm ≤ ne
  lo : 0 ≤ l.lo
  le : l.lo ≤ l.hi
  hi : l.hi ≤ 40
  w : l.hi - l.lo ≤ 3
structure Cargo.Ok (c : Cargo) : Prop where
  le : c.heat.length ≤ 8
  heat : ∀ z ∈ c.heat, 0 ≤ z ∧ z ≤ 3
  gas : 0 ≤ c.gas ∧ c.gas ≤ 3
  lh : 1 ≤ c.holds.length ∧ c.holds.length ≤ 3
  hold : ∀ s ∈ c.holds, 0 ≤ s.1 ∧ s.1 ≤ s.2 ∧ s.2 ≤ 6 ∧ s.2 - s.1 ≤ 3
  ll : c.lots.length ≤ 4
  lot : ∀ l ∈ c.lots, l.Ok c.holds.length c.heat.length
  ln : c.seen.length ≤ 4
  seen : ∀ s ∈ c.seen, (0 ≤ s.lot ∧ s.lot < c.lots.length) ∧ 0 ≤ s.hour ∧ s.hour ≤ c.heat.length
theorem Cargo.Ok.t {c : Cargo} (h : c.Ok) : c.TOk := ⟨h.le, by have := h.ll; omega, h.heat, h.gas⟩
theorem out_f {lo hi n : Int} : out lo hi n = false ↔ lo ≤ n ∧ n ≤ hi := by
  unfold out
  rw [Bool.or_eq_false_iff, decide_eq_false_iff_not, decide_eq_false_iff_not]; omega
theorem zGk {s : Int × Int} {m : Int} (e : widthE s m = 0) : 0 ≤ s.1 ∧ s.1 ≤ s.2 ∧ s.2 ≤ m ∧ s.2 - s.1 ≤ 3 := by
  unfold widthE at e
  cases h1 : (out 0 m s.1 || out 0 m s.2) with
  | true => rw [h1, if_pos rfl] at e; cases e
  | false =>
    rw [h1, if_neg (by simp)] at e
    cases h2 : out 0 3 (s.2 - s.1) with
    | true => rw [h2, if_pos rfl] at e; cases e
    | false =>
      rw [Bool.or_eq_false_iff] at h1
      have a1 := out_f.1 h1.1
      have a2 := out_f.1 h1.2
      have a3 := out_f.1 h2
      omega
theorem lotE_zero {nh ne : Nat} {bf : List Lot} {l : Lot} (e : lotE nh ne bf l = 0) : l.Ok nh ne := by
  unfold lotE at e
  cases h1 : out 0 ((nh : Int) - 1) l.hold with
  | true => rw [h1, if_pos rfl] at e; cases e
  | false =>
    rw [h1, if_neg (by simp)] at e
    cases h2 : out 0 ne l.frm with
    | true => rw [h2, if_pos rfl] at e; cases e
    | false =>
      rw [h2, if_neg (by simp)] at e
      have a := zGk e
      have a1 := out_f.1 h1
      have a2 := out_f.1 h2
      exact ⟨by omega, by omega, a.1, a.2.1, a.2.2.1, a.2.2.2⟩
theorem zD1 {c : Cargo} {i : Nat} (h : i < c.lots.length) : lotAt c i = c.lots[i] := by simp [lotAt, List.getD, h]
theorem hold_at {c : Cargo} {i : Nat} (h : i < c.holds.length) : holdAt c i = c.holds[i] := by simp [holdAt, List.getD, h]
theorem seen_at {c : Cargo} {i : Nat} (h : i < c.seen.length) : seenAt c i = c.seen[i] := by simp [seenAt, List.getD, h]
theorem heat_at {c : Cargo} {i : Nat} (h : i < c.heat.length) : c.heat.getD i 0 = c.heat[i] := by simp [List.getD, h]
theorem zGs {c : Cargo} (h : (check c).2.2 = 0) : (failE heatE 0 8 c.heat).2 = 0 ∧ out 0 3 c.gas = false ∧ (failE holdE 1 3 c.holds).2 = 0 ∧ (failE (lotE c.holds.length c.heat.length) 0 4 c.lots).2 = 0 ∧ (failE (seenE c) 0 4 c.seen).2 = 0 := by
  unfold check at h
  by_cases h1 : (failE heatE 0 8 c.heat).2 = 0
  · rw [if_neg (by simp [h1])] at h
    cases h2 : out 0 3 c.gas with
    | true => rw [h2, if_pos rfl] at h; cases h
    | false =>
      rw [h2, if_neg (by simp)] at h
      by_cases h3 : (failE holdE 1 3 c.holds).2 = 0
      · rw [if_neg (by simp [h3])] at h
        by_cases h4 : (failE (lotE c.holds.length c.heat.length) 0 4 c.lots).2 = 0
        · rw [if_neg (by simp [h4])] at h
          by_cases h5 : (failE (seenE c) 0 4 c.seen).2 = 0
          · exact ⟨h1, rfl, h3, h4, h5⟩
          · rw [if_pos h5] at h; exact absurd h h5
        · rw [if_pos h4] at h; exact absurd h h4
      · rw [if_pos h3] at h; exact absurd h h3
  · rw [if_pos h1] at h; exact absurd h h1
theorem check_ok {c : Cargo} (h : (check c).2.2 = 0) : c.Ok := by
  obtain ⟨h1, h2, h3, h4, h5⟩ := zGs h
  obtain ⟨l1, e1⟩ := zDf h1
  obtain ⟨l3, e3⟩ := zDf h3
  obtain ⟨l4, e4⟩ := zDf h4
  obtain ⟨l5, e5⟩ := zDf h5
  refine ⟨by omega, fun z hz => ?_, out_f.1 h2, by omega, fun s hs => ?_, by omega, fun l hl => ?_, by omega, fun s hs => ?_⟩
  · obtain ⟨i, hi, rfl⟩ := List.getElem_of_mem hz
    have := e1 i hi
    unfold heatE at this
    cases ho : out 0 3 c.heat[i] with
    | true => rw [ho, if_pos rfl] at this; cases this
    | false => exact out_f.1 ho
  · obtain ⟨i, hi, rfl⟩ := List.getElem_of_mem hs
    exact zGk (e3 i hi)
  · obtain ⟨i, hi, rfl⟩ := List.getElem_of_mem hl
    exact lotE_zero (e4 i hi)
  · obtain ⟨i, hi, rfl⟩ := List.getElem_of_mem hs
    have := e5 i hi
    unfold seenE at this
    cases h1 : out 0 ((c.lots.length : Int) - 1) c.seen[i].lot with
    | true => rw [h1, if_pos rfl] at this; cases this
    | false =>
      rw [h1, if_neg (by simp)] at this
      cases h2 : out (lotAt c c.seen[i].lot.toNat).frm c.heat.length c.seen[i].hour with
      | true => rw [h2, if_pos rfl] at this; cases this
      | false =>
        have a1 := out_f.1 h1
        have a2 := out_f.1 h2
        have hi2 : c.seen[i].lot.toNat < c.lots.length := by omega
        rw [zD1 hi2] at a2
        have a3 := (lotE_zero (e4 _ hi2)).frm
        exact ⟨by omega, by omega, by omega⟩
structure SOk (s : List Int) : Prop where
  len : s.length = 8
  w : 0 ≤ s.getD 1 0 ∧ s.getD 1 0 ≤ 6
  g : ∀ i, i < 5 → -1000 ≤ s.getD (2 + i) 0 ∧ s.getD (2 + i) 0 ≤ 1000
  t : 0 ≤ s.getD 7 0 ∧ s.getD 7 0 < 64
theorem SOk.tt {s : List Int} (h : SOk s) : s.getD 7 0 = ((tt s : Nat) : Int) ∧ tt s < 64 := by
  have := h.t
  unfold Tu.tt
  omega
theorem shl5 {i : Nat} (h : i < 5) : 1 <<< i = 2 ^ i ∧ 1 <<< i ≤ 16 := by
  match i, h with
  | 0, _ => decide
  | 1, _ => decide
  | 2, _ => decide
  | 3, _ => decide
  | 4, _ => decide
theorem of_lt (c : Cargo) (hold : Int) : ∀ i, i ≤ 5 → ofTo c hold i < 2 ^ i
  | 0, _ => by simp [ofTo]
  | i + 1, h => by
    have ih := of_lt c hold i (by omega)
    rw [ofTo]
    split
    · rw [(shl5 (by omega)).1]
      exact Nat.or_lt_two_pow (by rw [Nat.pow_succ]; omega) (by rw [Nat.pow_succ]; have := Nat.pow_pos (n := i) (show 0 < 2 by omega); omega)
    · rw [Nat.pow_succ]; omega
theorem zId (c : Cargo) (hold : Int) {i : Nat} (h : i ≤ 5) : ofTo c hold i < 32 := by
  have h1 := of_lt c hold i h
  have h2 : 2 ^ i ≤ 2 ^ 5 := Nat.pow_le_pow_right (by omega) h
  omega
theorem of_yes {c : Cargo} {hold : Int} {i : Nat} (hi : i < c.lots.length) (h : c.lots[i].hold = hold) : ofTo c hold (i + 1) = ofTo c hold i ||| (1 <<< i) := by rw [ofTo, zD1 hi, if_pos h]
theorem of_no {c : Cargo} {hold : Int} {i : Nat} (hi : i < c.lots.length) (h : ¬ c.lots[i].hold = hold) : ofTo c hold (i + 1) = ofTo c hold i := by rw [ofTo, zD1 hi, if_neg h]
def fillTo (z : Int) : Nat → List Int
  | 0 => List.replicate 5 0
  | i + 1 => (fillTo z i).set i z
theorem zCu (z : Int) : ∀ i, (fillTo z i).length = 5
  | 0 => rfl
  | i + 1 => by rw [fillTo, List.length_set, zCu z i]
theorem zCr (c : Cargo) (s : List Int) (h : Nat) (left t0 : List Int) : ∀ i, (turnTo c s h left t0 i).1.length = t0.length
  | 0 => rfl
  | i + 1 => by
    have ih := zCr c s h left t0 i
    rw [turnTo, turnStep]; split
    · simp [ih]
    · exact ih
theorem turn_gas {c : Cargo} (hg : 0 ≤ c.gas ∧ c.gas ≤ 3) (s : List Int) (h : Nat) (left t0 : List Int) : ∀ i, 0 ≤ (turnTo c s h left t0 i).2 ∧ (turnTo c s h left t0 i).2 ≤ 3
  | 0 => by simp [turnTo]
  | i + 1 => by
    have ih := turn_gas hg s h left t0 i
    rw [turnTo, turnStep]; split
    · exact hg
    · exact ih
theorem on_no {c : Cargo} {s : List Int} {h : Nat} {left : List Int} {i : Nat} (hi : i < c.lots.length) (hh : bit (tt s) i = 0 ∨ (h : Int) < c.lots[i].frm ∨ 0 < left.getD i 0) : on c s h left i = false := by
  unfold on; rw [zD1 hi]
  rcases hh with e | e | e
  · simp [e]
  · simp [e]
  · rw [decide_eq_true e, Bool.or_true]; rfl
theorem on_yes {c : Cargo} {s : List Int} {h : Nat} {left : List Int} {i : Nat} (hi : i < c.lots.length) (h1 : ¬ bit (tt s) i = 0) (h2 : ¬ (h : Int) < c.lots[i].frm) (h3 : ¬ 0 < left.getD i 0) : on c s h left i = true := by
  unfold on; rw [zD1 hi]
  simp only [h1, h2, h3, decide_false, Bool.or_false]; rfl
theorem zFq {c : Cargo} {s : List Int} {h : Nat} {left t0 : List Int} {i : Nat} (ho : on c s h left i = false) : turnTo c s h left t0 (i + 1) = turnTo c s h left t0 i := by
  rw [turnTo, turnStep, ho]; rfl
theorem zEu {c : Cargo} {s : List Int} {h : Nat} {left t0 : List Int} {i : Nat} (ho : on c s h left i = true) : turnTo c s h left t0 (i + 1) = ((turnTo c s h left t0 i).1.set i (min ((turnTo c s h left t0 i).1.getD i 0) h), c.gas) := by
  rw [turnTo, turnStep, ho]; rfl
def Near (l : List Int) : Prop := l.length = 5 ∧ ∀ i, -1000 ≤ l.getD i 0 ∧ l.getD i 0 ≤ 1000
theorem near_set {l : List Int} (h : Near l) {i : Nat} {z : Int} (hz : -1000 ≤ z ∧ z ≤ 1000) : Near (l.set i z) := by
  refine ⟨by rw [List.length_set]; exact h.1, fun j => ?_⟩
  by_cases e : i = j
  · subst e
    by_cases hi : i < l.length
    · simp [List.getD, hi]; exact hz
    · have := h.2 i
      rw [List.set_eq_of_length_le (by omega)]; exact this
  · have : (l.set i z).getD j 0 = l.getD j 0 := by simp [List.getD, List.getElem?_set, e]
    rw [this]; exact h.2 j
theorem takes_in {c : Cargo} (hc : c.TOk) {s : List Int} (hs : SOk s) {h : Nat} {g : Int} (hg : 0 ≤ g ∧ g ≤ 3) : 0 ≤ takes c s h g ∧ takes c s h g ≤ 12 := by
  have h1 := hs.w
  unfold takes
  by_cases hh : h < c.heat.length
  · rw [heat_at hh]
    have := hc.heat _ (List.getElem_mem hh)
    omega
  · have : c.heat.getD h 0 = 0 := by simp [List.getD, List.getElem?_eq_none (by omega : c.heat.length ≤ h)]
    rw [this]; omega
theorem left_near {c : Cargo} (hc : c.TOk) {s : List Int} (hs : SOk s) {h : Nat} {g : Int} (hg : 0 ≤ g ∧ g ≤ 3) {l0 : List Int} (h0 : Near l0) : ∀ i, Near (leftTo c s h g l0 i)
  | 0 => h0
  | i + 1 => by
    have ih := left_near hc hs (h := h) hg h0 i
    have ht := takes_in hc hs (h := h) hg
    rw [leftTo, leftStep]
    split
    · rename_i e
      unfold lessAt at e
      simp only [Bool.and_eq_true, decide_eq_true_eq] at e
      have := ih.2 i
      exact near_set ih (by omega)
    · exact ih
theorem left_no {c : Cargo} {s : List Int} {h : Nat} {g : Int} {l0 : List Int} {i : Nat} (hi : i < c.lots.length) (hh : (h : Int) < c.lots[i].frm ∨ (leftTo c s h g l0 i).getD i 0 ≤ 0) : leftTo c s h g l0 (i + 1) = leftTo c s h g l0 i := by
  rw [leftTo, leftStep, lessAt, zD1 hi]
  rcases hh with e | e
  · rw [decide_eq_false (by omega)]; rfl
  · rw [decide_eq_false (p := 0 < _) (by omega), Bool.and_false]; rfl
theorem left_yes {c : Cargo} {s : List Int} {h : Nat} {g z : Int} {l0 : List Int} {i : Nat} (hi : i < c.lots.length) (h1 : c.lots[i].frm ≤ (h : Int)) (h2 : 0 < (leftTo c s h g l0 i).getD i 0) (hz : z = (leftTo c s h g l0 i).getD i 0 - takes c s h g) : leftTo c s h g l0 (i + 1) = (leftTo c s h g l0 i).set i z := by
  subst hz
  rw [leftTo, leftStep, lessAt, zD1 hi, decide_eq_true h1, decide_eq_true h2]; rfl
theorem take5 {s : List Int} (h : SOk s) : Near ((s.drop 2).take 5) := by
  refine ⟨by simp [h.len], fun i => ?_⟩
  by_cases hi : i < 5
  · have := h.g i hi
    have e : ((s.drop 2).take 5).getD i 0 = s.getD (2 + i) 0 := by simp [List.getD, List.getElem?_take, hi]
    rw [e]; exact this
  · have e : ((s.drop 2).take 5).getD i 0 = 0 := by simp [List.getD, List.getElem?_take, hi]
    rw [e]; omega
theorem zCs {c : Cargo} (s : List Int) : ∀ h, (hourTo c s h).1.length = 5
  | 0 => by simp [hourTo]
  | h + 1 => by rw [hourTo, hourStep]; simp only [zCr, zCs s h]
theorem hour_near {c : Cargo} (hc : c.TOk) {s : List Int} (hs : SOk s) : ∀ h, Near (hourTo c s h).2
  | 0 => take5 hs
  | h + 1 => by
    rw [hourTo, hourStep]
    exact left_near hc hs (turn_gas hc.gas _ _ _ _ _) (hour_near hc hs h) _
theorem zBf (c : Cargo) (s : List Int) : (times c s).length = 5 := by unfold times; rw [zCr, zCs]
theorem key_cov : ∀ l m : List Int, l.length = 8 → m.length = 8 → (decide ((l.drop 0).take 1 = (m.drop 0).take 1) && (decide ((l.drop 1).take 1 = (m.drop 1).take 1) && (decide ((l.drop 2).take 5 = (m.drop 2).take 5) && (decide ((l.drop 7).take 1 = (m.drop 7).take 1) && true)))) = decide (l = m) := by
  intro l m hl hm
  match l, hl with
  | [a, b, c, d, e, f, g, h], _ =>
    match m, hm with
    | [a', b', c', d', e', f', g', h'], _ =>
      rw [Bool.eq_iff_iff]
      simp
      intro _ _
      constructor
      · rintro ⟨⟨_, _,_,_, _⟩, _⟩; simp [*]
      · rintro ⟨_, _,_,_,_, _⟩; simp [*]
end Go.Rt.Tu
/- Plain laws of maps as lists: what is left of a range, values that are ints. No conditions. -/
set_option linter.unusedSectionVars false
namespace Go.Rt
open Go.RowKit
section
variable {α : Type} [DecidableEq α]
def remN (es : List (α × Value × Nat)) (seen : Array Nat) : Nat := (es.filter fun r => !decide (r.2.2 ∈ seen.toList)).length
def valA (a : α) (l : List (α × Value × Nat)) : Int := match getA a l with | some (.int _ z) => z | _ => 0
def IntsTo (B : Int) (l : List (α × Value × Nat)) : Prop := ∀ q ∈ l, ∃ z : Int, q.2.1 = .int .i64 z ∧ 0 ≤ z ∧ z ≤ B
theorem IntsTo.put {B B' : Int} {l : List (α × Value × Nat)} (h : IntsTo B l) (hB : B ≤ B') {a : α} {z : Int} (hz : 0 ≤ z ∧ z ≤ B') (ck : Nat) : IntsTo B' (putA a (.int .i64 z) ck l) := by
  intro q hq
  rcases zIf hq with ⟨_, h2⟩ | h2
  · exact ⟨z, h2, hz⟩
  · obtain ⟨y, h3, h4⟩ := h q h2
    exact ⟨y, h3, by omega⟩
theorem IntsTo.le {B B' : Int} {l : List (α × Value × Nat)} (h : IntsTo B l) (hB : B ≤ B') : IntsTo B' l := fun q hq => by
  obtain ⟨y, h3, h4⟩ := h q hq
  exact ⟨y, h3, by omega⟩
end
section
variable {P : Program} {n : Nat} {ρ : Nat → Value} {ds : List Deferred} {w w0 : World} {L : List (Nat × Obj)} {d : Option Tmp} {ty : TypeId} {p : String} {e : Array Edge} {g : Option (Nat × Bool)} {α : Type} [DecidableEq α] {kv : α → Value} {ok : α → Prop}
end
end Go.Rt
/- The walking engine, part 20: lookups in maps whose values are told by their keys. No conditions. -/
set_option linter.unusedSectionVars false
namespace Go.Rt
open Go.RowKit
variable {P : Program} {n : Nat} {ρ : Nat → Value} {ds : List Deferred} {w w0 : World} {L : List (Nat × Obj)} {d : Option Tmp} {ty : TypeId} {p : String} {e : Array Edge} {g : Option (Nat × Bool)} {α : Type} [DecidableEq α] {kv : α → Value} {ok : α → Prop}
end Go.Rt
