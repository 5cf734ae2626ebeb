/- Plain words of the cable layer: ports, farms, their errors. No conditions. -/
import Derived.Test.YtofoabifbkhkfaaCSpec
namespace Go.Rt
structure Farm where
  name : ByteArray
  way : Int
  notice : Int
  keep : Int
  lo : Int
  hi : Int
structure Port where
  hold : Int
  clo : Int
  chi : Int
  farms : List Farm
def Farm.cells (f : Farm) : List Value := [.string f.name, .int .i64 f.way, .int .i64 f.notice, .int .i64 f.keep, .int .i64 f.lo, .int .i64 f.hi]
def Port.cells (p : Port) (a : Option Addr) (c : Nat) : List Value := [.int .i64 p.hold, .int .i64 p.clo, .int .i64 p.chi, .slice a p.farms.length c]
def rows (l : List Farm) : List (List Value) := l.map Farm.cells
/-- A farm's error, behind its name. -/
def farmErr (f : Farm) : Int := if out 1 4 f.way || (out 0 3 f.notice || out f.way 9 f.keep) then 7 else ends f.lo f.hi 0 60
def fErr (before : List ByteArray) (f : Farm) : Int := if nmOk f.name then (if has before f.name then 5 else farmErr f) else 6
def farmsErr (before : List ByteArray) (i : Int) : List Farm → Int × Int × Int
  | [] => (0, 0, 0)
  | f :: l => if fErr before f = 0 then farmsErr (before ++ [f.name]) (i + 1) l else (2, i, fErr before f)
def check (p : Port) : Int × Int × Int :=
  if out 1 200 p.hold || (out 0 10 p.clo || out 0 10 p.chi) then (1, 0, 7) else if p.chi < p.clo then (1, 0, 2) else if 3 < p.farms.length then (2, 0, 3) else farmsErr [] 0 p.farms
/-- What a farm cannot be like, in order: the error, the function, whether it is so. -/
def flawE : Nat → Int
  | 0 => 6
  | 1 => 5
  | 2 => 7
  | _ => 2
def flawIs (before : List ByteArray) (f : Farm) : Nat → Bool
  | 0 => !nmOk f.name
  | 1 => has before f.name
  | 2 => out 1 4 f.way || (out 0 3 f.notice || (out f.way 9 f.keep || (out 0 60 f.lo || out 0 60 f.hi)))
  | _ => decide (f.hi < f.lo)
theorem fErr_flaw (before : List ByteArray) (f : Farm) (j : Nat) (hj : j < 4) (h : flawIs before f j = true) (hb : ∀ i < j, flawIs before f i = false) : fErr before f = flawE j := by
  have h0 : 0 < j → flawIs before f 0 = false := fun h => hb 0 h
  have h1 : 1 < j → flawIs before f 1 = false := fun h => hb 1 h
  have h2 : 2 < j → flawIs before f 2 = false := fun h => hb 2 h
  match j, hj with
  | 0, _ => simp only [flawIs, Bool.not_eq_true'] at h; simp [fErr, h, flawE]
  | 1, _ =>
    have h0 := h0 (by omega); simp only [flawIs, Bool.not_eq_false'] at h h0; simp [fErr, h, h0, flawE]
  | 2, _ =>
    have h0 := h0 (by omega); have h1 := h1 (by omega)
    simp only [flawIs, Bool.not_eq_false'] at h h0 h1
    simp only [fErr, h0, h1, flawE, farmErr, ends, if_true, Bool.false_eq_true, if_false]
    cases ho : (out 1 4 f.way || (out 0 3 f.notice || out f.way 9 f.keep)) with
    | true => rfl
    | false =>
      simp only [Bool.or_eq_false_iff] at ho
      rw [ho.1, ho.2.1, ho.2.2] at h
      simp only [Bool.false_or] at h
      simp [h]
  | 3, _ =>
    have h0 := h0 (by omega); have h1 := h1 (by omega); have h2 := h2 (by omega)
    simp only [flawIs, Bool.not_eq_false', decide_eq_true_eq, Bool.or_eq_false_iff] at h h0 h1 h2
    simp [fErr, h0, h1, flawE, farmErr, ends, h2, h]
theorem fErr_fine (before : List ByteArray) (f : Farm) (hb : ∀ i < 4, flawIs before f i = false) : fErr before f = 0 := by
  have h0 := hb 0 (by omega); have h1 := hb 1 (by omega); have h2 := hb 2 (by omega); have h3 := hb 3 (by omega)
  simp only [flawIs, Bool.not_eq_false', Bool.or_eq_false_iff, decide_eq_false_iff_not] at h0 h1 h2 h3
  simp [fErr, h0, h1, farmErr, ends, h2, h3]
def names (l : List Farm) : List ByteArray := l.map (·.name)
theorem farmsErr_step {l : List Farm} {i : Nat} (hi : i < l.length) (h : fErr (names (l.take i)) l[i] = 0) :
    farmsErr (names (l.take i)) i (l.drop i) = farmsErr (names (l.take (i + 1))) (i + 1 : Nat) (l.drop (i + 1)) := by
  rw [List.drop_eq_getElem_cons hi]
  simp only [farmsErr, h, if_true]
  rw [List.take_succ_eq_append_getElem hi]
  simp only [names, List.map_append, List.map_cons, List.map_nil, Int.natCast_add]
  rfl
theorem farmsErr_stop {l : List Farm} {i : Nat} (hi : i < l.length) (h : fErr (names (l.take i)) l[i] ≠ 0) : farmsErr (names (l.take i)) i (l.drop i) = (2, (i : Int), fErr (names (l.take i)) l[i]) := by
  rw [List.drop_eq_getElem_cons hi]
  simp only [farmsErr, if_neg h]
theorem farmsErr_end {l : List Farm} {i : Nat} (hi : l.length ≤ i) (b : List ByteArray) : farmsErr b i (l.drop i) = (0, 0, 0) := by
  rw [List.drop_of_length_le hi]; rfl
end Go.Rt
