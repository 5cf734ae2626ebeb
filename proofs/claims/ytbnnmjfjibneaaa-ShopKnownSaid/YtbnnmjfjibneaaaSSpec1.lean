/- Plain words of the shop layer: markets, their errors. No conditions. -/
import Derived.Test.YtbnnmjfjibneaaaCSpec
set_option linter.unusedSimpArgs false
set_option linter.unusedVariables false
namespace Go.Rt.Sh
structure Room where
  name : ByteArray
  lo : Int
  hi : Int
  fro : Int
  las : Int
structure Shop where
  name : ByteArray
  day : Int
  want : Int
structure Train where
  room : Int
  shop : Int
  days : Int
  cap : Int
structure Market where
  rooms : List Room
  shops : List Shop
  trains : List Train
def Room.cells (r : Room) : List Value := [.string r.name, .int .i64 r.lo, .int .i64 r.hi, .int .i64 r.fro, .int .i64 r.las]
def Shop.cells (s : Shop) : List Value := [.string s.name, .int .i64 s.day, .int .i64 s.want]
def Train.cells (t : Train) : List Value := [.int .i64 t.room, .int .i64 t.shop, .int .i64 t.days, .int .i64 t.cap]
/-- Where a market's lists lie. -/
structure At3 where
  ar : Option Addr
  cr : Nat
  as : Option Addr
  cs : Nat
  at_ : Option Addr
  ct : Nat
def Market.cells (m : Market) (p : At3) : List Value := [.slice p.ar m.rooms.length p.cr, .slice p.as m.shops.length p.cs, .slice p.at_ m.trains.length p.ct]
def rrows (l : List Room) : List (List Value) := l.map Room.cells
def srows (l : List Shop) : List (List Value) := l.map Shop.cells
def trows (l : List Train) : List (List Value) := l.map Train.cells
def strs (l : List ByteArray) : List Value := l.map Value.string
/-- The first thing with an error, and what it is. -/
def firstE {α : Type} (err : List α → α → Int) : List α → Int → List α → Int × Int
  | _, _, [] => (0, 0)
  | b, i, x :: l => if err b x = 0 then firstE err (b ++ [x]) (i + 1) l else (i, err b x)
theorem firstE_step {α : Type} {err : List α → α → Int} {l : List α} {i : Nat} (hi : i < l.length) (h : err (l.take i) l[i] = 0) : firstE err (l.take i) i (l.drop i) = firstE err (l.take (i + 1)) (i + 1 : Nat) (l.drop (i + 1)) := by
  rw [List.drop_eq_getElem_cons hi]
  simp only [firstE, h, if_true]
  rw [List.take_succ_eq_append_getElem hi]; rfl
theorem firstE_stop {α : Type} {err : List α → α → Int} {l : List α} {i : Nat} (hi : i < l.length) (h : err (l.take i) l[i] ≠ 0) : firstE err (l.take i) i (l.drop i) = ((i : Int), err (l.take i) l[i]) := by
  rw [List.drop_eq_getElem_cons hi]
  simp only [firstE, if_neg h]
theorem firstE_end {α : Type} {err : List α → α → Int} {l : List α} {i : Nat} (hi : l.length ≤ i) (b : List α) : firstE err b i (l.drop i) = (0, 0) := by
  rw [List.drop_of_length_le hi]; rfl
/-- The error of a name behind others. -/
def nameE (before : List ByteArray) (s : ByteArray) : Int := if nmOk s then (if has before s then 5 else 0) else 6
def roomOwn (r : Room) : Int := if out 0 60 r.lo || out 0 60 r.hi || (out 0 9 r.fro || out 0 9 r.las) then 7 else if decide (r.hi < r.lo) || decide (r.las < r.fro) then 2 else 0
def shopOwn (s : Shop) : Int := if out 0 9 s.day || out 1 60 s.want then 7 else 0
def roomE (before : List Room) (r : Room) : Int := if nameE (before.map (·.name)) r.name ≠ 0 then nameE (before.map (·.name)) r.name else roomOwn r
def shopE (before : List Shop) (s : Shop) : Int := if nameE (before.map (·.name)) s.name ≠ 0 then nameE (before.map (·.name)) s.name else shopOwn s
def trainE (m : Market) (_before : List Train) (t : Train) : Int := if out 0 (m.rooms.length - 1) t.room || out 0 (m.shops.length - 1) t.shop then 4 else if out 0 5 t.days || out 1 60 t.cap then 7 else 0
def failE {α : Type} (err : List α → α → Int) (most : Int) (l : List α) : Int × Int := if most < l.length then (0, 3) else firstE err [] 0 l
def check (m : Market) : Int × Int × Int :=
  if (failE roomE 3 m.rooms).2 ≠ 0 then (1, failE roomE 3 m.rooms) else if (failE shopE 4 m.shops).2 ≠ 0 then (2, failE shopE 4 m.shops) else if (failE (trainE m) 6 m.trains).2 ≠ 0 then (3, failE (trainE m) 6 m.trains) else (0, 0, 0)
end Go.Rt.Sh
