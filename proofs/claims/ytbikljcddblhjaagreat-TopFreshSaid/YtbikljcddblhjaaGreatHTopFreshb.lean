/- Own texts of this claim, joined. No conditions. -/
import Derived.OpenShut
import Derived.Test.YtbikljcddblhjaaGreatRows
import Derived.Laws.RangeAny
import Derived.Laws.Bits64b
import Derived.Test.YtbikljcddblhjaaGreatHTopFresha
/- Plain words of the cable layer: what Plan, Held and Told return. No conditions. -/
set_option linter.unusedSimpArgs false
namespace Go.Rt.Ca
def planL (p : Port) : List Int := if (check p).2.2 = 0 ∧ (best p (doP p)).found = true then (best p (doP p)).b.take p.farms.length else []
def planV (p : Port) : Int := if (check p).2.2 = 0 ∧ (best p (doP p)).found = true then vain p (best p (doP p)).b else 0
def planE (p : Port) : Int := if (check p).2.2 = 0 then (if (best p (doP p)).found = true then 0 else 9) else (check p).2.2
theorem plan_e1 {p : Port} (h : ¬ (check p).2.2 = 0) : planL p = [] ∧ planV p = 0 ∧ planE p = (check p).2.2 := by
  unfold planL planV planE
  rw [if_neg (fun hh => h hh.1), if_neg (fun hh => h hh.1), if_neg h]; exact ⟨rfl, rfl, rfl⟩
theorem plan_e2 {p : Port} (h : (check p).2.2 = 0) (hf : (best p (doP p)).found = false) : planL p = [] ∧ planV p = 0 ∧ planE p = 9 := by
  unfold planL planV planE
  rw [hf]; simp [h]
theorem plan_ok {p : Port} (h : (check p).2.2 = 0) (hf : (best p (doP p)).found = true) : planL p = (best p (doP p)).b.take p.farms.length ∧ planV p = vain p (best p (doP p)).b ∧ planE p = 0 := by
  unfold planL planV planE
  rw [hf]; simp [h]
def heldUpto (p : Port) (f i : Nat) : Int := ((doP p).take i).foldl (fun n l => max n (l.getD f 0)) 0
def held (p : Port) (f : Nat) : Int := (doP p).foldl (fun n l => max n (l.getD f 0)) 0
theorem heldUpto_succ {p : Port} {f i : Nat} (hi : i < (doP p).length) : heldUpto p f (i + 1) = max (heldUpto p f i) ((doP p)[i].getD f 0) := by
  unfold heldUpto; rw [List.take_succ_eq_append_getElem hi, List.foldl_append]; rfl
theorem zD9 {p : Port} {f i : Nat} (hi : (doP p).length ≤ i) : heldUpto p f i = held p f := by unfold heldUpto held; rw [List.take_of_length_le hi]
def anyNever (p : Port) (f i : Nat) : Bool := ((doP p).take i).any fun l => decide (l.getD f 0 = -1)
theorem zHf {p : Port} {f i : Nat} (hi : i < (doP p).length) : anyNever p f (i + 1) = (anyNever p f i || decide ((doP p)[i].getD f 0 = -1)) := by
  unfold anyNever; rw [List.take_succ_eq_append_getElem hi, List.any_append]; simp
theorem zEa {p : Port} {f i : Nat} (hi : (doP p).length ≤ i) : anyNever p f i = (doP p).any fun l => decide (l.getD f 0 = -1) := by unfold anyNever; rw [List.take_of_length_le hi]
theorem anyNever_true {p : Port} {f i : Nat} (h : anyNever p f i = true) : ((doP p).any fun l => decide (l.getD f 0 = -1)) = true := by
  unfold anyNever at h
  rw [List.any_eq_true] at h ⊢
  obtain ⟨x, hx, h⟩ := h
  exact ⟨x, List.mem_of_mem_take hx, h⟩
def heldD (p : Port) (f : Int) : Int := if (check p).2.2 = 0 ∧ out 0 (p.farms.length - 1) f = false then (if ((doP p).any fun l => decide (l.getD f.toNat 0 = -1)) then -1 else held p f.toNat) else 0
def heldE (p : Port) (f : Int) : Int := if (check p).2.2 = 0 then (if out 0 (p.farms.length - 1) f = false then (if doC p = [] then 9 else 0) else 4) else (check p).2.2
def toldStep (p : Port) (day : Int) (n : Int) (l : List Int) : Int := if 0 ≤ worst p l day ∧ (n < 0 ∨ worst p l day < n) then worst p l day else n
def toldUpto (p : Port) (d i : Nat) : Int := ((((allC d p.farms.length).map pad)).take i).foldl (toldStep p d) (-1)
def told (p : Port) (d : Nat) : Int := ((allC d p.farms.length).map pad).foldl (toldStep p d) (-1)
theorem zC5 {p : Port} {d i : Nat} (hi : i < ((allC d p.farms.length).map pad).length) : toldUpto p d (i + 1) = toldStep p d (toldUpto p d i) ((allC d p.farms.length).map pad)[i] := by
  unfold toldUpto; rw [List.take_succ_eq_append_getElem hi, List.foldl_append]; rfl
theorem zDi {p : Port} {d i : Nat} (hi : ((allC d p.farms.length).map pad).length ≤ i) : toldUpto p d i = told p d := by unfold toldUpto told; rw [List.take_of_length_le hi]
theorem zH9 {p : Port} {day n : Int} {l : List Int} (h : 0 ≤ worst p l day) (h2 : n < 0 ∨ worst p l day < n) : worst p l day = toldStep p day n l := by unfold toldStep; rw [if_pos ⟨h, h2⟩]
theorem told_no {p : Port} {day n : Int} {l : List Int} (h : ¬ (0 ≤ worst p l day ∧ (n < 0 ∨ worst p l day < n))) : n = toldStep p day n l := by unfold toldStep; rw [if_neg h]
def toldD (p : Port) (day : Int) : Int := if (check p).2.2 = 0 ∧ out 0 10 day = false ∧ 0 ≤ told p day.toNat then told p day.toNat else 0
def toldE (p : Port) (day : Int) : Int := if (check p).2.2 = 0 then (if out 0 10 day = false then (if told p day.toNat < 0 then 9 else 0) else 7) else (check p).2.2
theorem keep_front {w0 w : World} {x : Nat × Obj} {Y F : List (Nat × Obj)} (h : St w0 w (x :: (Y ++ F))) : St w0 w (x :: F) := (h.perm (zAa [x] Y F)).drop
end Go.Rt.Ca
/- Plain words of the cable layer: who must cut too early. No conditions. -/
namespace Go.Rt.Ca
def setKeep (l : List Farm) (i : Nat) (k : Int) : List Farm := l.modify i fun f => { f with keep := k }
def kept (p : Port) (i : Nat) (k : Int) : Port := { p with farms := setKeep p.farms i k }
def canAt (p : Port) (i : Nat) (k : Int) : Bool := !(doC (kept p i k)).isEmpty
def earlyK (p : Port) (i : Nat) : Int → Nat → Option Int
  | _, 0 => none
  | k, n + 1 => if canAt p i k then some k else earlyK p i (k + 1) n
def earlyFrom (p : Port) : Nat → List Farm → Int × Int × Int
  | _, [] => (0,0,9)
  | i, f :: l => match earlyK p i (f.keep + 1) (9 - f.keep).toNat with
    | some k => ((i : Int), k - f.keep, 0)
    | none => earlyFrom p (i + 1) l
def earlyD (p : Port) : Int × Int × Int := if (check p).2.2 = 0 then (if (doC p).isEmpty then earlyFrom p 0 p.farms else (0,0,2)) else (0,0, (check p).2.2)
theorem zE9 {p : Port} {i : Nat} (hi : i < p.farms.length) : earlyFrom p i (p.farms.drop i) = match earlyK p i (p.farms[i].keep + 1) (9 - p.farms[i].keep).toNat with
    | some k => ((i : Int), k - p.farms[i].keep, 0)
    | none => earlyFrom p (i + 1) (p.farms.drop (i + 1)) := by
  rw [List.drop_eq_getElem_cons hi]; rfl
theorem zDa (l : List Farm) (i : Nat) (k : Int) : (setKeep l i k).length = l.length := by simp [setKeep]
theorem setKeep_same {l : List Farm} {i : Nat} (hi : i < l.length) : setKeep l i l[i].keep = l := by
  unfold setKeep
  apply List.ext_getElem?
  intro j
  rw [List.getElem?_modify]
  by_cases h : i = j
  · subst h; simp [hi]
  · simp [h]
theorem setKeep_set {l : List Farm} {i : Nat} {k k' : Int} : setKeep (setKeep l i k) i k' = setKeep l i k' := by
  unfold setKeep
  apply List.ext_getElem?
  intro j
  simp only [List.getElem?_modify]
  by_cases h : i = j
  · subst h; cases l[i]? <;> simp
  · simp [h]
theorem setKeep_get {l : List Farm} {i : Nat} (k : Int) (hi : i < l.length) : (setKeep l i k)[i]'(by rw [zDa]; exact hi) = { l[i] with keep := k } := by simp [setKeep]
theorem zG0 {l : List Farm} {i : Nat} (k : Int) (hi : i < l.length) : ((setKeep l i k)[i]'(by rw [zDa]; exact hi)).cells = [.string l[i].name, .int .i64 l[i].way, .int .i64 l[i].notice, .int .i64 k, .int .i64 l[i].lo, .int .i64 l[i].hi] := by
  rw [setKeep_get k hi]; rfl
theorem kept_ok {p : Port} (hok : p.Ok) {i : Nat} {k : Int} (hi : i < p.farms.length) (h1 : p.farms[i].keep ≤ k) (h2 : k ≤ 9) : (kept p i k).Ok := by
  refine ⟨hok.hold, hok.come, by show (setKeep p.farms i k).length ≤ 3; rw [zDa]; exact hok.len, ?_⟩
  intro f hf
  obtain ⟨j, hj, rfl⟩ := List.getElem_of_mem hf
  have hj' : j < p.farms.length := by simpa [kept, setKeep] using hj
  have := hok.farm _ (List.getElem_mem hj')
  by_cases h : i = j
  · subst h
    have e : (kept p i k).farms[i] = { p.farms[i] with keep := k } := setKeep_get k hi
    rw [e]
    unfold Farm.Ok at this ⊢
    dsimp only
    omega
  · have e : (kept p i k).farms[j] = p.farms[j] := by simp [kept, setKeep, List.getElem_modify, h]
    rw [e]; exact this
theorem rows_set : ∀ (l : List Farm) (i : Nat) (k : Int), i < l.length → (rows l).flatten.set (i * 6 + 3) (.int .i64 k) = (rows (setKeep l i k)).flatten
  | [], i, _, h => by simp at h
  | f :: l, 0, k, _ => by simp [rows, setKeep, Farm.cells]
  | f :: l, i + 1, k, h => by
    have ih := rows_set l i k (by simpa using h)
    have e : rows (setKeep (f :: l) (i + 1) k) = f.cells :: rows (setKeep l i k) := by simp [rows, setKeep]
    rw [e, List.flatten_cons, ← ih]
    simp only [rows, List.map_cons, List.flatten_cons]
    rw [List.set_append_right _ _ (by simp [Farm.cells]; omega)]
    congr 2
    simp [Farm.cells]; omega
theorem cells_set {cs : List Value} {l : List Farm} {n i : Nat} {k : Int} (hn : l.length = n) (h : cs.take (n * 6) = (rows l).flatten) (hi : i < n) : (cs.set (i * 6 + 3) (.int .i64 k)).take (n * 6) = (rows (setKeep l i k)).flatten := by
  rw [List.take_set, h, rows_set l i k (by omega)]
end Go.Rt.Ca
/- Plain words of the cable layer's reference: all cables made from the left, which come before others. No conditions. -/
namespace Go.Rt.Ca
def grow (ds : List Int) (l : List (List Int)) (k : Nat) : List (List Int) := (l.take k).flatMap fun x => ds.map fun d => x ++ [d]
def growDay (ds : List Int) (l : List (List Int)) (k q : Nat) (x : List Int) : List (List Int) := grow ds l k ++ (List.range q).map fun (d : Nat) => x ++ [(d : Int)]
theorem zIg {α β : Type} {f : α → List β} {m : Nat} : ∀ (l : List α), (∀ x ∈ l, (f x).length = m) → (l.flatMap f).length = l.length * m
  | [], _ => by simp
  | a :: l, h => by
    rw [List.flatMap_cons, List.length_append, h a (.head _), zIg l fun x hx => h x (.tail _ hx), List.length_cons, Nat.succ_mul, Nat.add_comm]
def beforeL : List Int → List Int → Bool
  | x :: a, y :: b => if x = y then beforeL a b else (decide (y = -1) || (!decide (x = -1) && decide (x < y)))
  | _, _ => false
def before (p : Port) (a b : List Int) : Bool :=
  if vain p a = vain p b then (if cut p.farms a = cut p.farms b then beforeL a b else decide (cut p.farms a < cut p.farms b)) else decide (vain p a < vain p b)
end Go.Rt.Ca
/- Plain words of the cable layer: the examples of the document, evaluated. No conditions. -/
set_option maxRecDepth 100000
namespace Go.Rt.Ca
def fAlto : Farm := ⟨⟨#[97,108,116,111]⟩, 1,1,5,20,25⟩
def fBajo : Farm := ⟨⟨#[98,97,106,111]⟩, 2,1,4,30,30⟩
def fCima : Farm := ⟨⟨#[99,105,109,97]⟩, 1,2,3,40,45⟩
def exPort (come : Int) (n : Nat) : Port := ⟨50, come, 8, [fAlto, fBajo, fCima].take n⟩
theorem zHr (come : Int) (n : Nat) : ∀ f ∈ (exPort come n).farms, f.name.size ≤ 9223372036854775807 := by
  intro f hf
  have h := List.mem_of_mem_take hf
  simp only [List.mem_cons, List.not_mem_nil, or_false] at h
  rcases h with rfl | rfl | rfl <;> decide
def fullR (p : Port) (l : List Int) : Int := if enterErr p l = 0 then does p l else 0
def vainR (p : Port) (l : List Int) : Int := if enterErr p l = 0 then vain p l else 0
theorem ex_q5 : enterErr (exPort 5 3) [2,3, -1] = 0 := by decide +kernel
theorem ex_q5v : quayR (exPort 5 3) [2,3, -1] = [[20,25], [50,55], [50,55], [50,55]] := by decide +kernel
theorem ex_q6 : enterErr (exPort 6 3) [2,3, -1] = 0 := by decide +kernel
theorem ex_q5b : enterErr (exPort 5 3) [-1, -1,3] = 0 := by decide +kernel
theorem ex_f6 : fullR (exPort 6 3) [2,3, -1] = 1 := by decide +kernel
theorem ex_f5 : fullR (exPort 5 3) [2,3, -1] = 0 := by decide +kernel
theorem ex_f5b : fullR (exPort 5 3) [-1, -1,3] = 2 := by decide +kernel
theorem ex_v5 : vainR (exPort 5 3) [2,3, -1] = 30 := by decide +kernel
theorem ex_p6 : planL (exPort 6 3) = [2,3, -1] := by decide +kernel
theorem ex_p6v : planV (exPort 6 3) = 0 := by decide +kernel
theorem ex_p6e : planE (exPort 6 3) = 0 := by decide +kernel
theorem ex_p5 : planL (exPort 5 3) = [2,0,3] := by decide +kernel
theorem ex_p5v : planV (exPort 5 3) = 45 := by decide +kernel
theorem ex_p5e : planE (exPort 5 3) = 0 := by decide +kernel
theorem ex_t5 : planL (exPort 5 2) = [] := by decide +kernel
theorem ex_t5v : planV (exPort 5 2) = 0 := by decide +kernel
theorem ex_t5e : planE (exPort 5 2) = 9 := by decide +kernel
theorem ex_h60 : heldD (exPort 6 2) 0 = 4 := by decide +kernel
theorem ex_h60e : heldE (exPort 6 2) 0 = 0 := by decide +kernel
theorem ex_h63 : heldD (exPort 6 3) 3 = 0 := by decide +kernel
theorem ex_h63e : heldE (exPort 6 3) 3 = 4 := by decide +kernel
theorem ex_e5 : earlyD (exPort 5 2) = (1,1,0) := by decide +kernel
theorem ex_e6 : earlyD (exPort 6 3) = (0,0,2) := by decide +kernel
theorem ex_t3 : toldD (exPort 5 3) 3 = 30 := by decide +kernel
theorem ex_t3e : toldE (exPort 5 3) 3 = 0 := by decide +kernel
end Go.Rt.Ca
/- Plain words of the cable layer: the reference and the laws (joined texts). No conditions. -/
set_option linter.unusedVariables false
namespace Go.Rt.Ca
def dayLt (d e : Int) : Prop := d ≠ e ∧ (decide (e = -1) || (!decide (d = -1) && decide (d < e))) = true
def rsel (p : Port) (b l : List Int) : List Int := if before p l b then l else b
def rbUpto (p : Port) (L : List (List Int)) (i : Nat) : List Int := (L.take i).tail.foldl (rsel p) (L.headD [])
def canUpto (f : Farm) (start day : Int) (k : Nat) : Bool := (List.range k).any fun (j : Nat) => fresh f (start + (j : Int)) day
def thenR (p : Port) (g : List Int) (start day : Int) : Int := if leastT p.farms g start day < p.hold then -1 else (on p.farms g day).vain
def turnOf (x : List Int) (n : Nat) : Int := if x.length = 0 then 0 else x.getD (n % x.length) 0
def anyC (n : Nat) (x : List Int) : List Int := (List.range n).map fun i => turnOf x i % 12 - 1
def ownH (f : Farm) (t : Int) : Int := f.lo + t % (f.hi - f.lo + 1)
def trU (fs : List Farm) (l x : List Int) (day : Int) : Nat → Int × Int
  | 0 => (0,0)
  | i + 1 => match fs[i]? with
    | some f => if l.getD i 0 = -1 then trU fs l x day i else if fresh f (l.getD i 0) day then ((trU fs l x day i).1 + ownH f (turnOf x i), (trU fs l x day i).2) else ((trU fs l x day i).1, (trU fs l x day i).2 + ownH f (turnOf x i))
    | none => trU fs l x day i
theorem quay_get {p : Port} {l : List Int} (h : enterErr p l = 0) {k : Nat} (hk : k < (quayR p l).length) : (quayR p l)[k] = [(on p.farms l (p.clo + k)).least, (on p.farms l (p.clo + k)).most] := by
  have e : quayR p l = quay p l := by unfold quayR; rw [if_pos h]
  have hk2 : k < (quay p l).length := by rw [← e]; exact hk
  have : (quayR p l)[k] = (quay p l)[k] := by simp [e]
  rw [this]
  simp [quay, loads, Port.days]
theorem quay_len {p : Port} {l : List Int} (h : enterErr p l = 0) (hc : p.clo ≤ p.chi) : ((quayR p l).length : Int) = p.chi - p.clo + 1 := by
  have e : quayR p l = quay p l := by unfold quayR; rw [if_pos h]
  rw [e]; unfold quay; rw [List.length_map, zD4]; omega
def namesOk : List ByteArray → List ByteArray → Bool
  | _, [] => true
  | b, n :: l => nmOk n && !has b n && namesOk (b ++ [n]) l
theorem farmErr_iff {f : Farm} : farmErr f = 0 ↔ f.Ok := by
  unfold farmErr ends Farm.Ok out
  simp only [Bool.or_eq_true, decide_eq_true_eq]
  constructor
  · intro h
    split at h
    · omega
    · split at h
      · omega
      · split at h <;> omega
  · intro h
    rw [if_neg (by omega), if_neg (by omega), if_neg (by omega)]
theorem fErr_iff {b : List ByteArray} {f : Farm} : fErr b f = 0 ↔ (nmOk f.name && !has b f.name) = true ∧ f.Ok := by
  unfold fErr
  split
  · rename_i h
    split
    · rename_i h2; simp [h, h2]
    · rename_i h2; rw [farmErr_iff]; simp [h, h2]
  · rename_i h; simp [h]
theorem zF2 : ∀ (l : List Farm) (b : List ByteArray) (j : Int), (farmsErr b j l).2.2 = 0 ↔ namesOk b (names l) = true ∧ ∀ f ∈ l, f.Ok
  | [], b, j => by simp [farmsErr, names, namesOk]
  | f :: l, b, j => by
    have e : names (f :: l) = f.name :: names l := rfl
    rw [e]
    simp only [farmsErr, namesOk]
    split
    · rename_i h
      have h2 := fErr_iff.1 h
      rw [zF2 l, h2.1, Bool.true_and]
      constructor
      · rintro ⟨h3, h4⟩
        refine ⟨h3, fun g hg => ?_⟩
        cases hg with
        | head => exact h2.2
        | tail _ hg => exact h4 g hg
      · rintro ⟨h3, h4⟩; exact ⟨h3, fun g hg => h4 g (.tail _ hg)⟩
    · rename_i h
      constructor
      · intro h2; exact absurd h2 h
      · rintro ⟨h3, h4⟩
        rw [Bool.and_eq_true] at h3
        exact absurd (fErr_iff.2 ⟨h3.1, h4 f (.head _)⟩) h
theorem check_iff {p : Port} : (check p).2.2 = 0 ↔ p.Ok ∧ namesOk [] (names p.farms) = true := by
  constructor
  · intro h
    refine ⟨check_ok h, ?_⟩
    unfold check at h
    split at h
    · simp at h
    · split at h
      · simp at h
      · split at h
        · simp at h
        · exact ((zF2 _ _ _).1 h).1
  · rintro ⟨hok, hn⟩
    have h1 := hok.hold
    have h2 := hok.come
    have h3 := hok.len
    unfold check
    rw [if_neg (by simp only [out, Bool.or_eq_true, decide_eq_true_eq]; omega), if_neg (by omega), if_neg (by omega)]
    exact (zF2 _ _ _).2 ⟨hn, hok.farm⟩
def sumC (g : Farm × Int → Int) (l : List (Farm × Int)) : Int := l.foldr (fun q n => g q + n) 0
def cLo (day : Int) (q : Farm × Int) : Int := if q.2 = -1 then 0 else if fresh q.1 q.2 day then q.1.lo else 0
def cHi (day : Int) (q : Farm × Int) : Int := if q.2 = -1 then 0 else if fresh q.1 q.2 day then q.1.hi else 0
def cVain (day : Int) (q : Farm × Int) : Int := if q.2 = -1 then 0 else if fresh q.1 q.2 day then 0 else q.1.hi
def cLate (start day : Int) (q : Farm × Int) : Int := if q.2 = -1 then (if canLate q.1 start day then q.1.lo else 0) else 0
def cutAt (a z : Int) : Int := if z < a then z else -1
def oneP (p : Port) (day : Int) : Port := { p with clo := day, chi := day }
theorem one_check {p : Port} (hck : (check p).2.2 = 0) {day : Int} (h1 : p.clo ≤ day) (h2 : day ≤ p.chi) : (check (oneP p day)).2.2 = 0 := by
  have hc := check_iff.1 hck
  have hcm := hc.1.come
  exact check_iff.2 ⟨⟨hc.1.hold, show 0 ≤ day ∧ day ≤ day ∧ day ≤ 10 by omega, hc.1.len, hc.1.farm⟩, hc.2⟩
def never_ (n : Nat) : List Int := List.replicate n (-1)
def bestDay (fs : List Farm) (day : Int) : List Int := fs.map fun f => if canLate f 0 day then min 10 (day - f.way - f.notice) else -1
def moreP (p : Port) (f : Farm) : Port := { p with farms := p.farms ++ [f] }
def lateP (p : Port) (n : Int) : Port := { p with clo := p.clo + n, chi := p.chi + n }
def lateD (n z : Int) : Int := if z = -1 then -1 else z + n
def shortP (p : Port) (a b : Int) : Port := { p with clo := a, chi := b }
def easeF (f : Farm) (k lo : Int) : Farm := { f with keep := k, lo := lo }
def easyL (l : List Farm) (i : Nat) (k lo : Int) : List Farm := match l[i]? with
  | some f => l.set i (easeF f k lo)
  | none => l
def easyP (p : Port) (h a b : Int) (i : Nat) (k lo : Int) : Port := ⟨h, a, b, easyL p.farms i k lo⟩
end Go.Rt.Ca
/- Arguments of TopFresh, opened. No conditions. -/
set_option maxRecDepth 100000
namespace Go.Proofs.YtbikljcddblhjaaGreat
open Go.Proofs.Tryz
open Go.Rt Go.RowKit Go.ChangeShapes Go.WideShapes Go.ChangeAt
instance : Inhabited Ca.Farm := ⟨⟨ByteArray.empty, 0,0,0,0,0⟩⟩
theorem Tryz.own : ownKnob Tryz.prog.godebug = none := by kernel_rfl
theorem Tryz.laidOut : laidOutB Tryz.prog = true := by kernel_rfl
theorem cells33 : Tryz.prog.cellsOf 33 = 6 := by kernel_rfl
theorem cells26 : Tryz.prog.cellsOf 26 = 4 := by kernel_rfl
theorem cells23 : Tryz.prog.cellsOf 23 = 2 := by kernel_rfl
theorem cells24 : Tryz.prog.cellsOf 24 = 1 := by kernel_rfl
theorem cells3 : Tryz.prog.cellsOf 3 = 1 := by kernel_rfl
theorem cells9 : Tryz.prog.cellsOf 9 = 1 := by kernel_rfl
variable {H : Type} {enc : TypeId × Value → H} {W : World} {sp : Nat → Bool} {held : Bool}
theorem open_span {fuel : Nat} {cs : List Value} {x : DataW H × List MemPlace} (h : DataW.trod enc Tryz.prog W 0 sp held fuel 23 cs = some x) : ∃ a b : Int, cs = [.int .i64 a, .int .i64 b] := by
  have hl := trod_len underlying23 h
  rw [cells23] at hl
  obtain ⟨n, y, h0⟩ := zDn underlying23 h 0 3 0 1 rfl rfl rfl cells3
  obtain ⟨n1, y1, h1⟩ := zDn underlying23 h 1 3 1 1 rfl rfl rfl cells3
  match cs, hl with
  | [c0, c1], _ =>
    obtain ⟨a, e0⟩ := zF4 underlying3 h0
    obtain ⟨b, e1⟩ := zF4 underlying3 h1
    simp at e0 e1
    exact ⟨a, b, by rw [e0, e1]⟩
theorem open_farm (fuel : Nat) (cs : List Value) (y : DataW H × List MemPlace) (h : DataW.trod enc Tryz.prog W 0 sp held fuel 33 cs = some y) : ∃ f : Ca.Farm, cs = f.cells ∧ f.name.size ≤ 9223372036854775807 := by
  have hl := trod_len underlying33 h
  rw [cells33] at hl
  obtain ⟨_, _, h0⟩ := zDn underlying33 h 0 9 0 1 rfl rfl rfl cells9
  obtain ⟨_, _, h1⟩ := zDn underlying33 h 1 3 1 1 rfl rfl rfl cells3
  obtain ⟨_, _, h2⟩ := zDn underlying33 h 2 3 2 1 rfl rfl rfl cells3
  obtain ⟨_, _, h3⟩ := zDn underlying33 h 3 3 3 1 rfl rfl rfl cells3
  obtain ⟨_, _, h4⟩ := zDn underlying33 h 4 23 4 2 rfl rfl rfl cells23
  match cs, hl with
  | [c0, c1, c2, c3, c4, c5], _ =>
    obtain ⟨s, e0, _, hs⟩ := DataW.trod_string underlying9 h0
    obtain ⟨x1, e1⟩ := zF4 underlying3 h1
    obtain ⟨x2, e2⟩ := zF4 underlying3 h2
    obtain ⟨x3, e3⟩ := zF4 underlying3 h3
    obtain ⟨x4, x5, e4⟩ := open_span h4
    simp at e0 e1 e2 e3 e4
    exact ⟨⟨s, x1, x2, x3, x4, x5⟩, by rw [e0, e1, e2, e3, e4.1, e4.2]; rfl, by simpa [maxLen] using hs⟩
theorem open_port {v : Value} {d : DataW H} {ps : List MemPlace} {r : Reach} {b0 : Nat} (hval : Value.okWide Tryz.prog W r b0 26 v) (h : DataW.Trod enc Tryz.prog W 0 sp held 26 v d ps) :
    ∃ (p : Ca.Port) (a : Option Addr) (c : Nat), v = .agg (p.cells a c).toArray ∧ Sl W [] a 6 (Ca.rows p.farms) ∧ p.farms.length ≤ c ∧ p.farms.length ≤ 9223372036854775807 ∧ ∀ f ∈ p.farms, f.name.size ≤ 9223372036854775807 := by
  obtain ⟨xs, rfl, hsz⟩ : ∃ xs, v = .agg xs ∧ xs.size = 4 := by
    unfold Value.okWide at hval
    rw [underlying26] at hval
    obtain ⟨cs, h1, h2, _⟩ := hval
    exact ⟨cs, h1, by rw [h2, cells26]⟩
  obtain ⟨fuel, hf⟩ := h
  have hf2 : DataW.trod enc Tryz.prog W 0 sp held fuel 26 xs.toList = some (d, ps) := hf
  obtain ⟨_, _, h0⟩ := zDn underlying26 hf2 0 3 0 1 rfl rfl rfl cells3
  obtain ⟨_, _, h1⟩ := zDn underlying26 hf2 1 23 1 2 rfl rfl rfl cells23
  obtain ⟨_, _, h2⟩ := zDn underlying26 hf2 2 24 3 1 rfl rfl rfl cells24
  obtain ⟨xl, rfl⟩ : ∃ l : List Value, xs = l.toArray := ⟨xs.toList, by simp⟩
  have hl4 : xl.length = 4 := by simpa using hsz
  match xl, hl4 with
  | [c0, c1, c2, c3], _ =>
    obtain ⟨x0, e0⟩ := zF4 underlying3 h0
    obtain ⟨x1, x2, e1⟩ := open_span h1
    obtain ⟨a, c, l, e2, hsl, hc, hm, hn⟩ := open_rows (row := Ca.Farm.cells) (ok := fun f => f.name.size ≤ 9223372036854775807) underlying24 cells33 (by omega) (fun _ => rfl) open_farm h2
    simp at e0 e1 e2
    exact ⟨⟨x0, x1, x2, l⟩, a, c, by rw [e0, e1.1, e1.2, e2]; rfl, hsl, hc, hm, hn⟩
theorem u8_wf {n : Int} (h : (Lit.int .u8 n).wf = true) : 0 ≤ n ∧ n ≤ 255 := by
  simp only [Lit.wf, Bool.and_eq_true, decide_eq_true_eq] at h
  exact h
theorem cells5 : Tryz.prog.cellsOf 5 = 1 := by kernel_rfl
theorem cel5 {fuel : Nat} {cs : List Value} {y : DataW H × List MemPlace} (h : DataW.trod enc Tryz.prog W 0 sp held fuel 5 cs = some y) : ∃ (x0 : Int), cs = [.int .u8 x0] ∧ (0 ≤ x0 ∧ x0 ≤ 255) := by
  obtain ⟨n, e, _, hw⟩ := DataW.trod_int underlying5 h
  exact ⟨n, e, u8_wf hw⟩
theorem cells27 : Tryz.prog.cellsOf 27 = 3 := by kernel_rfl
theorem cel27 {fuel : Nat} {cs : List Value} {y : DataW H × List MemPlace} (h : DataW.trod enc Tryz.prog W 0 sp held fuel 27 cs = some y) : ∃ (x0 : Int) (x1 : Int) (x2 : Int), cs = [.int .u8 x0, .int .u8 x1, .int .u8 x2] ∧ (0 ≤ x0 ∧ x0 ≤ 255) ∧ (0 ≤ x1 ∧ x1 ≤ 255) ∧ (0 ≤ x2 ∧ x2 ≤ 255) := by
  obtain ⟨ys, m, _,_, hl, hll, he⟩ := DataW.trod_array underlying27 h
  rw [cells27] at hl
  rw [cells5] at he
  have h0 := he 0 (by omega)
  rw [List.getElem?_eq_getElem (by omega)] at h0
  have h1 := he 1 (by omega)
  rw [List.getElem?_eq_getElem (by omega)] at h1
  have h2 := he 2 (by omega)
  rw [List.getElem?_eq_getElem (by omega)] at h2
  match cs, hl with
  | [c0, c1, c2], _ =>
    obtain ⟨x0, e0, f0_0⟩ := cel5 h0
    obtain ⟨x1, e1, f1_0⟩ := cel5 h1
    obtain ⟨x2, e2, f2_0⟩ := cel5 h2
    simp at e0 e1 e2
    exact ⟨x0, x1, x2, by simp [e0, e1, e2], f0_0, f1_0, f2_0⟩
theorem opn27 {v : Value} {d : DataW H} {ps : List MemPlace} {r : Reach} {b0 : Nat} (hval : Value.okWide Tryz.prog W r b0 27 v) (h : DataW.Trod enc Tryz.prog W 0 sp held 27 v d ps) : ∃ (x0 : Int) (x1 : Int) (x2 : Int), v = .agg #[.int .u8 x0, .int .u8 x1, .int .u8 x2] ∧ (0 ≤ x0 ∧ x0 ≤ 255) ∧ (0 ≤ x1 ∧ x1 ≤ 255) ∧ (0 ≤ x2 ∧ x2 ≤ 255) := by
  obtain ⟨xs, rfl, hsz⟩ : ∃ xs, v = .agg xs ∧ xs.size = 3 := by
    unfold Value.okWide at hval
    rw [underlying27] at hval
    obtain ⟨cs, h1, h2, _⟩ := hval
    exact ⟨cs, h1, by rw [h2, cells27]⟩
  obtain ⟨fuel, hf⟩ := h
  have hf2 : DataW.trod enc Tryz.prog W 0 sp held fuel 27 xs.toList = some (d, ps) := hf
  obtain ⟨xl, rfl⟩ : ∃ l : List Value, xs = l.toArray := ⟨xs.toList, by simp⟩
  obtain ⟨x0, x1, x2, e, hr⟩ := cel27 hf2
  exact ⟨x0, x1, x2, by rw [show xl = _ from e], hr⟩
end Go.Proofs.YtbikljcddblhjaaGreat
/- The walking engine, part 9: regions that draw their order, where two operations can come: both ways are walked. No conditions. -/
namespace Go.Rt
open Go.RowKit
variable {r : Option Nat} {P : Program} {ops : Array Oper} {K K' : Act → World → Prop} {n : Nat} {ρ : Nat → Value} {ds : List Deferred} {w w0 : World} {L : List (Nat × Obj)}
def drawE (ops : Array Oper) (late : List Nat) (e : Array Bool → Bool) : List (Nat × Nat) → Array Bool → Bool
  | [], l => e l
  | (i, t) :: rest, l =>
    (match t with
     | 0 => (Region.ready .any ops l).contains i && Region.free .any ops l i && !late.contains i
     | 1 => (Region.ready .any ops l).contains i && Region.free .any ops l i && !late.contains i &&
        (let c := closeB ops i ops.size l; ((Region.ready .any ops c).all fun j => Nat.beq j i) && !badB late c && !c.getD i false && (List.range ops.size).all fun j => !l.getD j false || c.getD j false)
     | 2 => Region.ready .any ops l == [i] && !late.contains i
     | _ => Region.ready .any ops l == [i] && late.contains i) && drawE ops late e rest (l.setIfInBounds i true)
theorem zD0 {C : World → Prop} {late : List Nat} {e : Array Bool → Bool} {m : Nat} (hns : Region.noSelect ops = true) (hnd : noDefer ops = true)
    (hend : ∀ (l : Array Bool) (a : Act) (w : World), l.size = ops.size → e l = true → (badB late l = false → C w) → K' a w → wAH r P ops K (fun l w => badB late l = false → C w) m l a w) : ∀ (ord : List (Nat × Nat)) (l : Array Bool) (a : Act) (w : World), l.size = ops.size → drawE ops late e ord l = true →
    (badB late l = false → C w) → DW r P ops K' C ord a w → wAH r P ops K (fun l w => badB late l = false → C w) (ord.length + m) l a w
  | [], l, a, w, hsz, hB, hC, h => by
    rw [show ([] : List (Nat × Nat)).length + m = m by simp]
    exact hend l a w hsz hB hC h
  | (i, t) :: rest, l, a, w, hsz, hB, hC, h => by
    simp only [drawE, Bool.and_eq_true] at hB
    obtain ⟨hB1, hB2⟩ := hB
    have hsz' : (l.setIfInBounds i true).size = ops.size := by simpa using hsz
    have ih := zD0 (C := C) (late := late) (e := e) (m := m) hns hnd hend rest (l.setIfInBounds i true)
    rw [show ((i, t) :: rest).length + m = (rest.length + m) + 1 by simp; omega]
    match t, hB1, h with
    | 0, hB1, h =>
      simp only [Bool.and_eq_true, Bool.not_eq_true'] at hB1
      obtain ⟨o, v, ho, hy, hd⟩ := h
      refine zGy (C := fun _ => True) ho (Region.noSelect_spec hns) hnd (rest.length + m) l a w (Region.free_spec ho hB1.1.2) ?_ (by simpa using hB1.1.1) hy trivial hC ⟨?_, ih _ w hsz' hB2 ?_ hd⟩
      · exact fun l' w' _ hS => ⟨trivial, fun hb => hS (zHd hB1.2 hb)⟩
      · exact fun hb => hC (zIp hB1.2 hb)
      · exact fun hb => hC (zIp hB1.2 hb)
    | 1, hB1, h =>
      simp only [Bool.and_eq_true, Bool.not_eq_true'] at hB1
      obtain ⟨⟨⟨h1, h2⟩, h3⟩, ⟨⟨⟨h4, h5⟩, h6⟩, h7⟩⟩ := hB1
      obtain ⟨hCw, o, v, ho, hy, hd⟩ := h
      refine zGy (C := C) ho (Region.noSelect_spec hns) hnd (rest.length + m) l a w (Region.free_spec ho h2) ?_ (by simpa using h1) hy hCw hC ⟨fun _ => hCw, ih _ w hsz' hB2 (fun _ => hCw) hd⟩
      intro l' w' hre hS
      have hsub := reach_sub (c := closeB ops i ops.size l) hre (fun j hj => ?_) (fun j hj => ?_) (by rw [zGo, hsz])
      · have hb : badB late l' = false := by
          unfold badB at h5 ⊢
          rw [List.any_eq_false] at *
          intro s hs hs'
          exact h5 s hs (hsub s hs')
        have := hS (zHd h3 hb)
        exact ⟨this, fun _ => this⟩
      · rw [List.all_eq_true] at h7
        have hlt : j < ops.size := by
          rw [← hsz]
          rcases Nat.lt_or_ge j l.size with h' | h'
          · exact h'
          · simp [Array.getElem?_eq_none h'] at hj
        have := h7 j (List.mem_range.2 hlt)
        simp only [hj, Bool.not_true, Bool.false_or] at this
        exact this
      · rw [List.all_eq_true] at h4
        exact Nat.eq_of_beq_eq_true (h4 j hj)
    | 2, hB1, h =>
      simp only [Bool.and_eq_true, Bool.not_eq_true', beq_iff_eq] at hB1
      obtain ⟨o, ho, hw⟩ := h
      refine ⟨fun h0 => (by rw [hB1.1] at h0; cases h0), fun j hj => ?_⟩
      rw [hB1.1] at hj
      obtain rfl : j = i := by simpa using hj
      refine wpOpIn_mono (fun a' w' h' => ⟨fun _ => h'.1, ih a' w' hsz' hB2 (fun _ => h'.1) h'.2⟩) (zEe (K := K) ho hw)
    | t + 3, hB1, h =>
      simp only [Bool.and_eq_true, beq_iff_eq] at hB1
      obtain ⟨o, ho, hw⟩ := h
      refine ⟨fun h0 => (by rw [hB1.1] at h0; cases h0), fun j hj => ?_⟩
      rw [hB1.1] at hj
      obtain rfl : j = i := by simpa using hj
      have hbad : badB late (l.setIfInBounds j true) = true := by
        unfold badB
        rw [List.any_eq_true]
        refine ⟨j, List.contains_iff_mem.1 hB1.2, ?_⟩
        have hlt : j < l.size := by rw [hsz]; exact (Array.getElem?_eq_some_iff.1 ho).1
        simp [hlt]
      refine wpOpIn_mono (fun a' w' h' => ⟨fun hb => (by rw [hbad] at hb; cases hb), ih a' w' hsz' hB2 (fun hb => (by rw [hbad] at hb; cases hb)) h'⟩) (zEe (K := K) ho hw)
inductive OT where
  | done (pre : List (Nat × Nat))
  | two (pre : List (Nat × Nat)) (i j : Nat) (a b : OT)
def OT.len : OT → Nat
  | .done pre => pre.length
  | .two pre _ _ a _ => pre.length + (a.len + 1)
def drawT (ops : Array Oper) (late : List Nat) : OT → Array Bool → Bool
  | .done pre, l => drawE ops late (fun l => (Region.ready .any ops l).isEmpty) pre l
  | .two pre i j a b, l => drawE ops late (fun l => Region.ready .any ops l == [i, j] && !late.contains i && !late.contains j && Nat.beq a.len b.len && drawT ops late a (l.setIfInBounds i true) && drawT ops late b (l.setIfInBounds j true)) pre l
def DT (r : Option Nat) (P : Program) (ops : Array Oper) (K : Act → World → Prop) (C : World → Prop) : OT → Act → World → Prop
  | .done pre => DW r P ops K C pre
  | .two pre i j x y => DW r P ops (fun a w => (∃ o, ops[i]? = some o ∧ WL r P ops (Qn fun a' w' => C w' ∧ DT r P ops K C x a' w') [o] a w) ∧ (∃ o, ops[j]? = some o ∧ WL r P ops (Qn fun a' w' => C w' ∧ DT r P ops K C y a' w') [o] a w)) C pre
theorem wAH_of_DT {C : World → Prop} {late : List Nat} (hns : Region.noSelect ops = true) (hnd : noDefer ops = true) : ∀ (T : OT) (l : Array Bool) (a : Act) (w : World), l.size = ops.size → drawT ops late T l = true →
    (badB late l = false → C w) → DT r P ops K C T a w → wAH r P ops K (fun l w => badB late l = false → C w) T.len l a w
  | .done pre, l, a, w, hsz, hB, hC, h => by
    refine zD0 (m := 0) (e := fun l => (Region.ready .any ops l).isEmpty) hns hnd ?_ pre l a w hsz hB hC h
    intro l' a' w' _ he _ hk
    exact ⟨by simpa using he, hk⟩
  | .two pre i j x y, l, a, w, hsz, hB, hC, h => by
    refine zD0 (m := x.len + 1) hns hnd ?_ pre l a w hsz hB hC h
    intro l' a' w' hsz' he hC' hk
    simp only [Bool.and_eq_true, Bool.not_eq_true', beq_iff_eq] at he
    obtain ⟨⟨⟨⟨⟨h1, h2⟩, h3⟩, h4⟩, h5⟩, h6⟩ := he
    obtain ⟨⟨o1, ho1, hw1⟩, ⟨o2, ho2, hw2⟩⟩ := hk
    have hlen : y.len = x.len := (Nat.eq_of_beq_eq_true h4).symm
    refine ⟨fun h0 => (by rw [h1] at h0; cases h0), fun q hq => ?_⟩
    rw [h1] at hq
    rcases List.mem_cons.1 hq with rfl | hq
    · refine wpOpIn_mono (fun a'' w'' h' => ⟨fun _ => h'.1, wAH_of_DT hns hnd x _ a'' w'' (by simpa using hsz') h5 (fun _ => h'.1) h'.2⟩) (zEe (K := K) ho1 hw1)
    · rw [List.mem_singleton] at hq
      subst hq
      refine wpOpIn_mono (fun a'' w'' h' => ⟨fun _ => h'.1, by rw [← hlen]; exact wAH_of_DT hns hnd y _ a'' w'' (by simpa using hsz') h6 (fun _ => h'.1) h'.2⟩) (zEe (K := K) ho2 hw2)
def drawTOK (ops : Array Oper) (late : List Nat) (T : OT) : Bool := Region.noSelect ops && noDefer ops && Nat.beq T.len ops.size && drawT ops late T (Array.replicate ops.size false)
theorem w_drawT {id : Nat} {l : List Oper} {Q : Exit → Act → World → Prop} {C : World → Prop} (late : List Nat) (T : OT) (hm : P.follows .mixedOrders = true) (hB : drawTOK l.toArray late T = true) (hC : C w)
    (hdrew : ∀ w, C w → C { w with drawn := w.drawn + 1 }) (h : ∀ w', C w' → DT r P l.toArray (fun a w => Q .normal a w) C T (A n ρ ds) w') : WC r P (.region id l.toArray true) Q (A n ρ ds) w := by
  unfold drawTOK at hB
  simp only [Bool.and_eq_true] at hB
  obtain ⟨⟨⟨h1, h2⟩, h3⟩, h4⟩ := hB
  have hst' := hdrew _ hC
  have hsz : T.len = l.toArray.size := Nat.eq_of_beq_eq_true h3
  have := wAH_of_DT h1 h2 T (Array.replicate l.toArray.size false) (A n ρ ds) _ (by simp) h4 (fun _ => hst') (h _ hst')
  have hany := zD6 _ _ _ _ this
  rw [hsz] at hany
  refine wpIn_mono (wpIn_region_any hm hany) ?_
  intro e a w hq
  cases e <;> first | exact hq | exact hq.elim
theorem zDg {C : World → Prop} {pre : List (Nat × Nat)} {a : Act} (h : DW r P ops K C pre a w) : DT r P ops K C (.done pre) a w := h
theorem zFa {C : World → Prop} {pre : List (Nat × Nat)} {i j : Nat} {x y : OT} {a : Act} (h : DW r P ops (fun a w => (∃ o, ops[i]? = some o ∧ WL r P ops (Qn fun a' w' => C w' ∧ DT r P ops K C x a' w') [o] a w) ∧ (∃ o, ops[j]? = some o ∧ WL r P ops (Qn fun a' w' => C w' ∧ DT r P ops K C y a' w') [o] a w)) C pre a w) : DT r P ops K C (.two pre i j x y) a w := h
theorem zHu {C : World → Prop} {i j : Nat} {x y : OT} {a : Act} {o1 o2 : Oper} (h1 : ops[i]? = some o1) (h2 : ops[j]? = some o2) (hx : WL r P ops (Qn fun a' w' => C w' ∧ DT r P ops K C x a' w') [o1] a w) (hy : WL r P ops (Qn fun a' w' => C w' ∧ DT r P ops K C y a' w') [o2] a w) :
    DW r P ops (fun a w => (∃ o, ops[i]? = some o ∧ WL r P ops (Qn fun a' w' => C w' ∧ DT r P ops K C x a' w') [o] a w) ∧ (∃ o, ops[j]? = some o ∧ WL r P ops (Qn fun a' w' => C w' ∧ DT r P ops K C y a' w') [o] a w)) C [] a w := zBh ⟨⟨o1, h1, hx⟩, ⟨o2, h2, hy⟩⟩
end Go.Rt
set_option maxRecDepth 20000
namespace Go.Proofs
open Go.Proofs.Tryz
open Go.Rt
attribute [local irreducible] WL WC Con Yd At Ats Sl Agree DW

theorem zB0 : Tryz.prog.follows .mixedOrders = true := by kernel_rfl
theorem c13 {w0 w : World} {F : List (Nat × Obj)} (n lo hi : Int) (hs : St w0 w F) : Con Tryz.prog 13 [.int .i64 n, .int .i64 lo, .int .i64 hi] w fun v w' => v = .bool (decide (lo ≤ n ∧ n ≤ hi)) ∧ St w0 w' F := by
  refine zAu (n := 15) func13 rfl rfl (zNl rfl) ?_
  refine zAg (fun K2 g3 => (zAc (zBj rfl rfl (zAe (zAd (g3 _ _ (zAg (fun K4 g0 => (zAc (zBe rfl rfl (zBe rfl rfl (w_p (zHh rfl rfl rfl rfl) rfl ?_))))))))))))
  refine w_p (zAi (v := .bool _) rfl rfl) rfl (zBp (fun h5 => ?_) (fun h5 => ?_))
  ·
   try simp only [zS] at h5
   refine w_y rfl rfl rfl (zA6 rfl rfl) rfl ?_
   refine w_y rfl rfl rfl (zA6 rfl rfl) rfl ?_
   refine w_y rfl rfl rfl (zGf rfl rfl rfl rfl) rfl ?_
   refine w_p (zAv (v := .bool _) rfl rfl rfl rfl) rfl (w_p (zAo (v := .bool _) rfl rfl) rfl (zAe (zAd (g0 _ _ (zA7 (zBa (l := [.tmp 6]) (vs := [_]) rfl ⟨⟨rfl, (rfl : _ = Value.bool _)⟩, trivial⟩ ?_))))))
   exact ⟨congrArg Value.bool (by rw [Bool.eq_iff_iff]; simp [*] <;> omega), hs⟩
  try simp only [zS] at h5
  refine zAj rfl rfl rfl ?_
  refine zAj rfl rfl rfl ?_
  refine zAj rfl rfl rfl ?_
  refine w_p (zBg (v := _) rfl rfl rfl rfl) rfl (w_p (zAo (v := .bool _) rfl rfl) rfl (zAe (zAd (g0 _ _ (zA7 (zBa (l := [.tmp 6]) (vs := [_]) rfl ⟨⟨rfl, (rfl : _ = Value.bool _)⟩, trivial⟩ ?_))))))
  exact ⟨congrArg Value.bool (by rw [Bool.eq_iff_iff]; simp [*] <;> omega), hs⟩

theorem c12 {w0 w : World} {F : List (Nat × Obj)} (a b lo hi : Int) (hs : St w0 w F) : Con Tryz.prog 12 [.agg #[.int .i64 a, .int .i64 b], .int .i64 lo, .int .i64 hi] w fun v w' => v = .int .i64 (ends a b lo hi) ∧ St w0 w' F := by
  refine zAu (n := 26) func12 rfl rfl (zNl rfl) ?_
  refine zAg (fun K2 g9 => (zAc (zCj (v := .agg #[.int _ _, .int _ _]) (cs := [_,_]) zAb rfl rfl rfl hs (fun b3 w4 g7 => ?_))))
  refine zBj rfl rfl (zAe (zAd (g9 _ _ (zAg (fun K7 ga => (zAg (fun K9 g8 => (zAc (w_p (zAf (o := 0) (i := 0) underlying23 rfl sizeOf3 rfl rfl rfl) rfl ?_)))))))))
  refine w_p (zAk isAgg3 g7 rfl rfl (zAl (i := 0) (vs := [_]) rfl rfl)) rfl (zBe rfl rfl (zBe rfl rfl (zAr zAb call13 rfl rfl rfl rfl (c13 _ _ _ g7) ?_)))
  rintro _ gh ⟨rfl, g3⟩
  refine w_p (zDq rfl rfl) rfl (w_p (zAi (v := .bool _) rfl rfl) rfl (zBp (fun g4 => ?_) (fun g4 => ?_)))
  ·
   try simp only [zS] at g4
   refine zAj rfl rfl rfl ?_
   refine zAj rfl rfl rfl ?_
   refine zAj rfl rfl rfl ?_
   refine zAj rfl rfl rfl ?_
   refine zAj rfl rfl rfl ?_
   refine zAj rfl rfl rfl ?_
   refine w_p (zAv (v := _) rfl rfl rfl rfl) rfl (zAe (zAd (g8 _ _ (zC0 rfl rfl ?_))))
   refine zAg (fun gi gb => (zAc (zBj rfl rfl (zAe (zAd (gb _ _ (zA7 (zAm (zBa (l := [.tmp 6]) (vs := [_]) rfl ⟨⟨rfl, (rfl : _ = Value.int _ _)⟩, trivial⟩ ?_)))))))))
   exact ⟨congrArg (Value.int .i64) (by simp only [ends, out, Bool.or_eq_true, decide_eq_true_eq]; (repeat' split) <;> omega), g3.tail⟩
  try simp only [zS] at g4
  refine w_y rfl rfl rfl (zAf (o := 1) (i := 1) underlying23 rfl sizeOf3 rfl rfl rfl) rfl ?_
  refine w_y rfl rfl rfl (zAk isAgg3 g3 rfl rfl (zAl (i := 0) (vs := [_]) rfl rfl)) rfl ?_
  refine w_y rfl rfl rfl (zA6 rfl rfl) rfl ?_
  refine w_y rfl rfl rfl (zA6 rfl rfl) rfl ?_
  refine zAr (zAp rfl rfl rfl) call13 rfl rfl rfl rfl (c13 _ _ _ g3) ?_
  rintro _ gj ⟨rfl, g0⟩
  refine w_y rfl rfl rfl (zDq rfl rfl) rfl ?_
  refine w_p (zBg (v := .bool _) rfl rfl rfl rfl) rfl (zAe (zAd (g8 _ _ (zA1 rfl rfl (fun g5 => ?_) (fun g5 => ?_)))))
  ·
   try simp only [zS] at g5
   refine zAg (fun gk gc => (zAc (zBj rfl rfl (zAe (zAd (gc _ _ (zA7 (zAm (zBa (l := [.tmp 6]) (vs := [_]) rfl ⟨⟨rfl, (rfl : _ = Value.int _ _)⟩, trivial⟩ ?_)))))))))
   exact ⟨congrArg (Value.int .i64) (by simp only [ends, out, Bool.or_eq_true, decide_eq_true_eq]; (repeat' split) <;> omega), g0.tail⟩
  try simp only [zS] at g5
  refine zAx (zAd (ga _ _ (zAg (fun gl gd => (zAg (fun gm ge => (zAc (w_p (zAf (o := 1) (i := 1) underlying23 rfl sizeOf3 rfl rfl rfl) rfl (w_p (zAk isAgg3 g0 rfl rfl (zAl (i := 0) (vs := [_]) rfl rfl)) rfl ?_)))))))))
  refine w_p (zAf (o := 0) (i := 0) underlying23 rfl sizeOf3 rfl rfl rfl) rfl (w_p (zAk isAgg3 g0 rfl rfl (zAl (i := 0) (vs := [_]) rfl rfl)) rfl (w_p (zCl rfl rfl rfl rfl) rfl (zAe (zAd (ge _ _ (zA1 rfl rfl (fun g6 => ?_) (fun g6 => ?_)))))))
  ·
   try simp only [zS] at g6
   refine zAg (fun gn gf => (zAc (zBj rfl rfl (zAe (zAd (gf _ _ (zA7 (zAm (zBa (l := [.tmp 6]) (vs := [_]) rfl ⟨⟨rfl, (rfl : _ = Value.int _ _)⟩, trivial⟩ ?_)))))))))
   exact ⟨congrArg (Value.int .i64) (by simp only [ends, out, Bool.or_eq_true, decide_eq_true_eq]; (repeat' split) <;> omega), g0.tail⟩
  try simp only [zS] at g6
  refine zAx (zAd (gd _ _ (zAg (fun go gg => (zAc (zBj rfl rfl (zAe (zAd (gg _ _ (zA7 (zBa (l := [.tmp 6]) (vs := [_]) rfl ⟨⟨rfl, (rfl : _ = Value.int _ _)⟩, trivial⟩ ?_)))))))))))
  exact ⟨congrArg (Value.int .i64) (by simp only [ends, out, Bool.or_eq_true, decide_eq_true_eq]; (repeat' split) <;> omega), g0.tail⟩

theorem less_at (a b : List Int) (i : Nat) (h : a.take i = b.take i) (ha : i ≤ a.length) (hb : i ≤ b.length) : less a b = less (a.drop i) (b.drop i) := by
  induction i generalizing a b with
  | zero => rfl
  | succ i ih =>
    cases a with
    | nil => simp at ha
    | cons x a =>
      cases b with
      | nil => simp at hb
      | cons y b =>
        simp only [List.take_succ_cons, List.cons.injEq] at h
        obtain ⟨rfl, h⟩ := h
        simp only [less, if_true, List.drop_succ_cons]
        exact ih a b h (by simpa using ha) (by simpa using hb)
theorem zFs {a b : List Int} {i : Nat} (h : a.take i = b.take i) (ha : i < a.length) (hb : i < b.length) (e : a[i] = b[i]) : a.take (i + 1) = b.take (i + 1) := by
  rw [List.take_succ_eq_append_getElem ha, List.take_succ_eq_append_getElem hb, h, e]
theorem zC8 {a b : List Int} {i : Nat} (h : a.take i = b.take i) (ha : i ≤ a.length) (hb : i = b.length) : less a b = false := by
  rw [less_at a b i h ha (by omega), hb, List.drop_length]
  cases a.drop b.length <;> rfl
theorem zCp {a b : List Int} {i : Nat} (h : a.take i = b.take i) (ha : i = a.length) (hb : i < b.length) : less a b = true := by
  rw [less_at a b i h (by omega) (by omega), ha, List.drop_length]
  have : b.drop a.length = b[a.length] :: b.drop (a.length + 1) := List.drop_eq_getElem_cons (by omega)
  rw [this]; rfl
theorem zDp {a b : List Int} {i : Nat} (h : a.take i = b.take i) (ha : i < a.length) (hb : i < b.length) (hne : a[i] ≠ b[i]) : less a b = decide (a[i] < b[i]) := by
  rw [less_at a b i h (by omega) (by omega), List.drop_eq_getElem_cons ha, List.drop_eq_getElem_cons hb]
  simp only [less]
  rw [if_neg hne]
theorem zDv {w0 : World} {F : List (Nat × Obj)} {a : Option Addr} {l : List Int} {i : Nat} (h : Sl w0 F a 1 (l.map fun x => [Value.int .i64 x])) (hi : i < l.length) :
    ∃ b off, a = some ⟨b, off, none⟩ ∧ Ats w0 F b (off + i * 1) [.int .i64 l[i]] := by
  obtain ⟨b, off, ha, _, hat⟩ := h.at (i := i) (row := [.int .i64 l[i]]) (by simp [hi])
  exact ⟨b, off, ha, hat⟩
theorem c38 {w0 w : World} {F : List (Nat × Obj)} (aa ab : Option Addr) (a b : List Int) (ca cb : Nat) (hla : a.length ≤ 9223372036854775807) (ha : Sl w0 F aa 1 (a.map fun x => [Value.int .i64 x])) (hb : Sl w0 F ab 1 (b.map fun x => [Value.int .i64 x])) (hs : St w0 w F) :
  Con Tryz.prog 38 [.slice aa a.length ca, .slice ab b.length cb] w fun v w' => v = .bool (less a b) ∧ St w0 w' F := by
  refine zAu (n := 48) func38 rfl rfl (zNl rfl) ?_
  refine zAg (fun K2 gk => (zAc (zBj rfl rfl (zAe (zAd (gk _ _ (zAg (fun K4 gl => (zAc (zBj rfl rfl (zAe (zAd (gl _ _ (zAg (fun K6 g6 => (zA8 ?_))))))))))))))))
  refine zCd [5,6,7,8,9,10,11,12,13,14,15,16,17,18,19,20,21,22,23,24,25,26,27,28] [5] (fun k vs w => ∃ i : Nat, vs = [.int .i64 i] ∧ i ≤ a.length ∧ i ≤ b.length ∧ k = a.length - i ∧ a.take i = b.take i ∧ St w0 w F) (a.length) ?_ ?_
  ·
   exact ⟨0, rfl, by omega, by omega, by omega, rfl, hs⟩
  intro k vs μ w9 hI K8 gm
  obtain ⟨i, rfl, hia, hib, rfl, hpre, hs⟩ := hI
  refine zAg (fun gy gn => (zAg (fun gz g7 => (zCe [] [(0,0),(1,0),(2,0),(3,0),(4,0),(5,0),(6,0),(7,0),(8,0),(9,0),(10,0),(11,0),(12,0),(13,0),(14,1),(15,0),(16,0),(17,0),(18,1),(19,0),(20,0)] zB0 (by kernel_rfl) hs (fun gA g0 => ?_)))))
  refine d_w rfl (fun _ => zA6 rfl rfl) rfl ?_
  refine d_w rfl (fun _ => zAi (v := .slice _ _ _) rfl rfl) rfl ?_
  refine d_w rfl (fun _ => zBo underlying35 rfl rfl) rfl ?_
  refine d_w rfl (fun _ => zCl rfl rfl rfl rfl) rfl ?_
  refine d_w rfl (fun _ => zAi (v := .bool _) rfl rfl) rfl ?_
  refine zDx (fun g8 => ?_) (fun g8 => ?_)
  ·
   try simp only [zS] at g8
   refine zBv rfl (zAp rfl rfl rfl) rfl (fun _ => (zA6 rfl rfl)) ?_
   refine zBv rfl (zAp rfl rfl rfl) rfl (fun _ => (zAi (v := .slice _ _ _) rfl rfl)) ?_
   refine zBv rfl (zAp rfl rfl rfl) rfl (fun _ => (zBo underlying35 rfl rfl)) ?_
   refine zBv rfl (zAp rfl rfl rfl) rfl (fun _ => (zCl rfl rfl rfl rfl)) ?_
   refine d_w rfl (fun _ => zAv (v := .bool _) rfl rfl rfl rfl) rfl ?_
   refine d_w rfl (fun _ => zAi (v := .bool _) rfl rfl) rfl ?_
   refine zDx (fun g9 => ?_) (fun g9 => ?_)
   ·
    try simp only [zS] at g9
    refine zBv rfl (zAp rfl rfl rfl) rfl (fun _ => (zAi (v := .slice _ _ _) rfl rfl)) ?_
    refine zBv rfl (zAp rfl rfl rfl) rfl (fun _ => (zA6 rfl rfl)) ?_
    have hia2 : i < a.length := by omega
    have hib2 : i < b.length := by omega
    obtain ⟨ba, oa, rfl, hxa⟩ := zDv ha hia2
    obtain ⟨bb, ob, rfl, hxb⟩ := zDv hb hib2
    refine zBv rfl (zAp rfl rfl rfl) rfl (fun _ => (zBk underlying35 sizeOf3 rfl rfl rfl rfl (i := _) rfl (by omega))) ?_
    refine zBb rfl (zAp rfl rfl rfl) rfl g0 (fun _ hq => (zAk isAgg3 hq rfl rfl hxa)) ?_
    refine zBv rfl (zAp rfl rfl rfl) rfl (fun _ => (zAi (v := .slice _ _ _) rfl rfl)) ?_
    refine zBv rfl (zAp rfl rfl rfl) rfl (fun _ => (zA6 rfl rfl)) ?_
    refine zBv rfl (zAp rfl rfl rfl) rfl (fun _ => (zBk underlying35 sizeOf3 rfl rfl rfl rfl (i := _) rfl (by omega))) ?_
    refine zBb rfl (zAp rfl rfl rfl) rfl g0 (fun _ hq => (zAk isAgg3 hq rfl rfl hxb)) ?_
    refine zBv rfl (zAp rfl rfl rfl) rfl (fun _ => (zB3 rfl rfl rfl rfl)) ?_
    refine d_w rfl (fun _ => zAv (v := .bool _) rfl rfl rfl rfl) rfl ?_
    refine zBh ?_
    refine zAd (g7 _ _ (zA1 rfl rfl (fun ga => ?_) (fun ga => ?_)))
    ·
     try simp only [zS] at ga
     refine zAx (zAd (gn _ _ (zA8 ?_)))
     refine zAc (zBe rfl rfl (w_p (zBq rfl rfl rfl rfl (by omega) (by omega)) rfl (zBs rfl rfl (zAe (zAn (zAd (gm _ _ (nxI (a.length - (i + 1)) (by omega) ?_))))))))
     exact ⟨i + 1, rfl, by omega, by omega, rfl, zFs hpre (by omega) (by omega) (by assumption), g0⟩
    try simp only [zS] at ga
    refine zBy (zAq (zAq (zBc (zAd (g6 _ _ (zAg (fun gB go => (zAg (fun gC gp => (zAc (zBe rfl rfl (w_p (zAi (v := .slice _ _ _) rfl rfl) rfl ?_))))))))))))
    refine w_p (zBo underlying35 rfl rfl) rfl (w_p (zB3 rfl rfl rfl rfl) rfl (zAe (zAd (gp _ _ (zA1 rfl rfl (fun gb => ?_) (fun gb => ?_))))))
    ·
     try simp only [zS] at gb
     refine zAg (fun gD gq => (zAc (zBj rfl rfl (zAe (zAd (gq _ _ (zA7 (zAm (zBa (l := [.tmp 4]) (vs := [_]) rfl ⟨⟨rfl, (rfl : _ = Value.bool _)⟩, trivial⟩ ?_)))))))))
     exact ⟨(by first | (rw [zC8 hpre hia (by omega)]; rfl) | (rw [zCp hpre (by omega) (by omega)]; rfl) | (rw [zDp hpre (by omega) (by omega) (by first | assumption | omega)]; rfl)), g0⟩
    try simp only [zS] at gb
    refine zAx (zAd (go _ _ (zAg (fun gE gh => (zCe [] [(0,0),(1,0),(2,0),(3,0),(4,0),(5,0),(6,0),(7,0),(8,1),(9,0),(10,0),(11,0),(12,1),(13,0),(14,0),(15,0)] zB0 (by kernel_rfl) g0 (fun gF g3 => ?_))))))
    refine d_w rfl (fun _ => zA6 rfl rfl) rfl ?_
    refine d_w rfl (fun _ => zAi (v := .slice _ _ _) rfl rfl) rfl ?_
    refine d_w rfl (fun _ => zBo underlying35 rfl rfl) rfl ?_
    refine d_w rfl (fun _ => zB3 rfl rfl rfl rfl) rfl ?_
    refine d_w rfl (fun _ => zAi (v := .bool _) rfl rfl) rfl ?_
    refine zDx (fun gc => ?_) (fun gc => ?_)
    ·
     try simp only [zS] at gc
     refine zBr rfl rfl rfl rfl ?_
     refine zBr rfl rfl rfl rfl ?_
     refine zBr rfl rfl rfl rfl ?_
     refine zCt rfl rfl rfl rfl g3 ?_
     refine zBr rfl rfl rfl rfl ?_
     refine zBr rfl rfl rfl rfl ?_
     refine zBr rfl rfl rfl rfl ?_
     refine zCt rfl rfl rfl rfl g3 ?_
     refine zBr rfl rfl rfl rfl ?_
     refine d_w rfl (fun _ => zAv (v := _) rfl rfl rfl rfl) rfl ?_
     refine d_w rfl (fun _ => zAo (v := .bool _) rfl rfl) rfl ?_
     refine zBh ?_
     refine zAd (gh _ _ (zA7 (zBa (l := [.tmp 4]) (vs := [_]) rfl ⟨⟨rfl, (rfl : _ = Value.bool _)⟩, trivial⟩ ?_)))
     exact ⟨(by first | (rw [zC8 hpre hia (by omega)]; rfl) | (rw [zCp hpre (by omega) (by omega)]; rfl) | (rw [zDp hpre (by omega) (by omega) (by first | assumption | omega)]; rfl)), g3⟩
    try simp only [zS] at gc
    refine zBv rfl (zAp rfl rfl rfl) rfl (fun _ => (zAi (v := .slice _ _ _) rfl rfl)) ?_
    refine zBv rfl (zAp rfl rfl rfl) rfl (fun _ => (zA6 rfl rfl)) ?_
    refine zBv rfl (zAp rfl rfl rfl) rfl (fun _ => (zBk underlying35 sizeOf3 rfl rfl rfl rfl (i := _) rfl (by omega))) ?_
    refine zBb rfl (zAp rfl rfl rfl) rfl g3 (fun _ hq => (zAk isAgg3 hq rfl rfl hxa)) ?_
    refine zBv rfl (zAp rfl rfl rfl) rfl (fun _ => (zAi (v := .slice _ _ _) rfl rfl)) ?_
    refine zBv rfl (zAp rfl rfl rfl) rfl (fun _ => (zA6 rfl rfl)) ?_
    refine zBv rfl (zAp rfl rfl rfl) rfl (fun _ => (zBk underlying35 sizeOf3 rfl rfl rfl rfl (i := _) rfl (by omega))) ?_
    refine zBb rfl (zAp rfl rfl rfl) rfl g3 (fun _ hq => (zAk isAgg3 hq rfl rfl hxb)) ?_
    refine zBv rfl (zAp rfl rfl rfl) rfl (fun _ => (zCl rfl rfl rfl rfl)) ?_
    refine d_w rfl (fun _ => zBg (v := .bool _) rfl rfl rfl rfl) rfl ?_
    refine d_w rfl (fun _ => zAo (v := .bool _) rfl rfl) rfl ?_
    refine zBh ?_
    refine zAd (gh _ _ (zA7 (zBa (l := [.tmp 4]) (vs := [_]) rfl ⟨⟨rfl, (rfl : _ = Value.bool _)⟩, trivial⟩ ?_)))
    exact ⟨(by first | (rw [zC8 hpre hia (by omega)]; rfl) | (rw [zCp hpre (by omega) (by omega)]; rfl) | (rw [zDp hpre (by omega) (by omega) (by first | assumption | omega)]; rfl)), g3⟩
   try simp only [zS] at g9
   refine zBr rfl rfl rfl rfl ?_
   refine zBr rfl rfl rfl rfl ?_
   refine zBr rfl rfl rfl rfl ?_
   refine zCt rfl rfl rfl rfl g0 ?_
   refine zBr rfl rfl rfl rfl ?_
   refine zBr rfl rfl rfl rfl ?_
   refine zBr rfl rfl rfl rfl ?_
   refine zCt rfl rfl rfl rfl g0 ?_
   refine zBr rfl rfl rfl rfl ?_
   refine d_w rfl (fun _ => zBg (v := _) rfl rfl rfl rfl) rfl ?_
   refine zBh ?_
   refine zAd (g7 _ _ (zB7 rfl rfl ?_))
   refine zBy (zAq (zAq (zBc (zAd (g6 _ _ (zAg (fun gG gr => (zAg (fun gH gt => (zAc (zBe rfl rfl (w_p (zAi (v := .slice _ _ _) rfl rfl) rfl ?_))))))))))))
   refine w_p (zBo underlying35 rfl rfl) rfl (w_p (zB3 rfl rfl rfl rfl) rfl (zAe (zAd (gt _ _ (zA1 rfl rfl (fun gd => ?_) (fun gd => ?_))))))
   ·
    try simp only [zS] at gd
    refine zAg (fun gI gu => (zAc (zBj rfl rfl (zAe (zAd (gu _ _ (zA7 (zAm (zBa (l := [.tmp 4]) (vs := [_]) rfl ⟨⟨rfl, (rfl : _ = Value.bool _)⟩, trivial⟩ ?_)))))))))
    exact ⟨(by first | (rw [zC8 hpre hia (by omega)]; rfl) | (rw [zCp hpre (by omega) (by omega)]; rfl) | (rw [zDp hpre (by omega) (by omega) (by first | assumption | omega)]; rfl)), g0⟩
   try simp only [zS] at gd
   refine zAx (zAd (gr _ _ (zAg (fun gJ gi => (zCe [] [(0,0),(1,0),(2,0),(3,0),(4,0),(5,0),(6,0),(7,0),(8,1),(9,0),(10,0),(11,0),(12,1),(13,0),(14,0),(15,0)] zB0 (by kernel_rfl) g0 (fun gK g4 => ?_))))))
   refine d_w rfl (fun _ => zA6 rfl rfl) rfl ?_
   refine d_w rfl (fun _ => zAi (v := .slice _ _ _) rfl rfl) rfl ?_
   refine d_w rfl (fun _ => zBo underlying35 rfl rfl) rfl ?_
   refine d_w rfl (fun _ => zB3 rfl rfl rfl rfl) rfl ?_
   refine d_w rfl (fun _ => zAi (v := .bool _) rfl rfl) rfl ?_
   refine zDx (fun ge => ?_) (fun ge => ?_)
   ·
    try simp only [zS] at ge
    refine zBr rfl rfl rfl rfl ?_
    refine zBr rfl rfl rfl rfl ?_
    refine zBr rfl rfl rfl rfl ?_
    refine zCt rfl rfl rfl rfl g4 ?_
    refine zBr rfl rfl rfl rfl ?_
    refine zBr rfl rfl rfl rfl ?_
    refine zBr rfl rfl rfl rfl ?_
    refine zCt rfl rfl rfl rfl g4 ?_
    refine zBr rfl rfl rfl rfl ?_
    refine d_w rfl (fun _ => zAv (v := _) rfl rfl rfl rfl) rfl ?_
    refine d_w rfl (fun _ => zAo (v := .bool _) rfl rfl) rfl ?_
    refine zBh ?_
    refine zAd (gi _ _ (zA7 (zBa (l := [.tmp 4]) (vs := [_]) rfl ⟨⟨rfl, (rfl : _ = Value.bool _)⟩, trivial⟩ ?_)))
    exact ⟨(by first | (rw [zC8 hpre hia (by omega)]; rfl) | (rw [zCp hpre (by omega) (by omega)]; rfl) | (rw [zDp hpre (by omega) (by omega) (by first | assumption | omega)]; rfl)), g4⟩
   try simp only [zS] at ge
   refine zBv rfl (zAp rfl rfl rfl) rfl (fun _ => (zAi (v := .slice _ _ _) rfl rfl)) ?_
   refine zBv rfl (zAp rfl rfl rfl) rfl (fun _ => (zA6 rfl rfl)) ?_
   have hia2 : i < a.length := by omega
   have hib2 : i < b.length := by omega
   obtain ⟨ba, oa, rfl, hxa⟩ := zDv ha hia2
   obtain ⟨bb, ob, rfl, hxb⟩ := zDv hb hib2
   refine zBv rfl (zAp rfl rfl rfl) rfl (fun _ => (zBk underlying35 sizeOf3 rfl rfl rfl rfl (i := _) rfl (by omega))) ?_
   refine zBb rfl (zAp rfl rfl rfl) rfl g4 (fun _ hq => (zAk isAgg3 hq rfl rfl hxa)) ?_
   refine zBv rfl (zAp rfl rfl rfl) rfl (fun _ => (zAi (v := .slice _ _ _) rfl rfl)) ?_
   refine zBv rfl (zAp rfl rfl rfl) rfl (fun _ => (zA6 rfl rfl)) ?_
   refine zBv rfl (zAp rfl rfl rfl) rfl (fun _ => (zBk underlying35 sizeOf3 rfl rfl rfl rfl (i := _) rfl (by omega))) ?_
   refine zBb rfl (zAp rfl rfl rfl) rfl g4 (fun _ hq => (zAk isAgg3 hq rfl rfl hxb)) ?_
   refine zBv rfl (zAp rfl rfl rfl) rfl (fun _ => (zCl rfl rfl rfl rfl)) ?_
   refine d_w rfl (fun _ => zBg (v := .bool _) rfl rfl rfl rfl) rfl ?_
   refine d_w rfl (fun _ => zAo (v := .bool _) rfl rfl) rfl ?_
   refine zBh ?_
   refine zAd (gi _ _ (zA7 (zBa (l := [.tmp 4]) (vs := [_]) rfl ⟨⟨rfl, (rfl : _ = Value.bool _)⟩, trivial⟩ ?_)))
   exact ⟨(by first | (rw [zC8 hpre hia (by omega)]; rfl) | (rw [zCp hpre (by omega) (by omega)]; rfl) | (rw [zDp hpre (by omega) (by omega) (by first | assumption | omega)]; rfl)), g4⟩
  try simp only [zS] at g8
  refine zBr rfl rfl rfl rfl ?_
  refine zBr rfl rfl rfl rfl ?_
  refine zBr rfl rfl rfl rfl ?_
  refine zBr rfl rfl rfl rfl ?_
  refine d_w rfl (fun _ => zBg (v := _) rfl rfl rfl rfl) rfl ?_
  refine d_w rfl (fun _ => zAi (v := .bool _) rfl rfl) rfl ?_
  refine zBr rfl rfl rfl rfl ?_
  refine zBr rfl rfl rfl rfl ?_
  refine zBr rfl rfl rfl rfl ?_
  refine zCt rfl rfl rfl rfl g0 ?_
  refine zBr rfl rfl rfl rfl ?_
  refine zBr rfl rfl rfl rfl ?_
  refine zBr rfl rfl rfl rfl ?_
  refine zCt rfl rfl rfl rfl g0 ?_
  refine zBr rfl rfl rfl rfl ?_
  refine d_w rfl (fun _ => zBg (v := _) rfl rfl rfl rfl) rfl ?_
  refine zBh ?_
  refine zAd (g7 _ _ (zB7 rfl rfl ?_))
  refine zBy (zAq (zAq (zBc (zAd (g6 _ _ (zAg (fun gL gv => (zAg (fun gM gw => (zAc (zBe rfl rfl (w_p (zAi (v := .slice _ _ _) rfl rfl) rfl ?_))))))))))))
  refine w_p (zBo underlying35 rfl rfl) rfl (w_p (zB3 rfl rfl rfl rfl) rfl (zAe (zAd (gw _ _ (zA1 rfl rfl (fun gf => ?_) (fun gf => ?_))))))
  ·
   try simp only [zS] at gf
   refine zAg (fun gN gx => (zAc (zBj rfl rfl (zAe (zAd (gx _ _ (zA7 (zAm (zBa (l := [.tmp 4]) (vs := [_]) rfl ⟨⟨rfl, (rfl : _ = Value.bool _)⟩, trivial⟩ ?_)))))))))
   exact ⟨(by first | (rw [zC8 hpre hia (by omega)]; rfl) | (rw [zCp hpre (by omega) (by omega)]; rfl) | (rw [zDp hpre (by omega) (by omega) (by first | assumption | omega)]; rfl)), g0⟩
  try simp only [zS] at gf
  refine zAx (zAd (gv _ _ (zAg (fun gO gj => (zCe [] [(0,0),(1,0),(2,0),(3,0),(4,0),(5,0),(6,0),(7,0),(8,1),(9,0),(10,0),(11,0),(12,1),(13,0),(14,0),(15,0)] zB0 (by kernel_rfl) g0 (fun gP g5 => ?_))))))
  refine d_w rfl (fun _ => zA6 rfl rfl) rfl ?_
  refine d_w rfl (fun _ => zAi (v := .slice _ _ _) rfl rfl) rfl ?_
  refine d_w rfl (fun _ => zBo underlying35 rfl rfl) rfl ?_
  refine d_w rfl (fun _ => zB3 rfl rfl rfl rfl) rfl ?_
  refine d_w rfl (fun _ => zAi (v := .bool _) rfl rfl) rfl ?_
  refine zDx (fun gg => ?_) (fun gg => ?_)
  ·
   try simp only [zS] at gg
   refine zBr rfl rfl rfl rfl ?_
   refine zBr rfl rfl rfl rfl ?_
   refine zBr rfl rfl rfl rfl ?_
   refine zCt rfl rfl rfl rfl g5 ?_
   refine zBr rfl rfl rfl rfl ?_
   refine zBr rfl rfl rfl rfl ?_
   refine zBr rfl rfl rfl rfl ?_
   refine zCt rfl rfl rfl rfl g5 ?_
   refine zBr rfl rfl rfl rfl ?_
   refine d_w rfl (fun _ => zAv (v := _) rfl rfl rfl rfl) rfl ?_
   refine d_w rfl (fun _ => zAo (v := .bool _) rfl rfl) rfl ?_
   refine zBh ?_
   refine zAd (gj _ _ (zA7 (zBa (l := [.tmp 4]) (vs := [_]) rfl ⟨⟨rfl, (rfl : _ = Value.bool _)⟩, trivial⟩ ?_)))
   exact ⟨(by first | (rw [zC8 hpre hia (by omega)]; rfl) | (rw [zCp hpre (by omega) (by omega)]; rfl) | (rw [zDp hpre (by omega) (by omega) (by first | assumption | omega)]; rfl)), g5⟩
  try simp only [zS] at gg
  refine zBv rfl (zAp rfl rfl rfl) rfl (fun _ => (zAi (v := .slice _ _ _) rfl rfl)) ?_
  refine zBv rfl (zAp rfl rfl rfl) rfl (fun _ => (zA6 rfl rfl)) ?_
  have hia2 : i < a.length := by omega
  have hib2 : i < b.length := by omega
  obtain ⟨ba, oa, rfl, hxa⟩ := zDv ha hia2
  obtain ⟨bb, ob, rfl, hxb⟩ := zDv hb hib2
  refine zBv rfl (zAp rfl rfl rfl) rfl (fun _ => (zBk underlying35 sizeOf3 rfl rfl rfl rfl (i := _) rfl (by omega))) ?_
  refine zBb rfl (zAp rfl rfl rfl) rfl g5 (fun _ hq => (zAk isAgg3 hq rfl rfl hxa)) ?_
  refine zBv rfl (zAp rfl rfl rfl) rfl (fun _ => (zAi (v := .slice _ _ _) rfl rfl)) ?_
  refine zBv rfl (zAp rfl rfl rfl) rfl (fun _ => (zA6 rfl rfl)) ?_
  refine zBv rfl (zAp rfl rfl rfl) rfl (fun _ => (zBk underlying35 sizeOf3 rfl rfl rfl rfl (i := _) rfl (by omega))) ?_
  refine zBb rfl (zAp rfl rfl rfl) rfl g5 (fun _ hq => (zAk isAgg3 hq rfl rfl hxb)) ?_
  refine zBv rfl (zAp rfl rfl rfl) rfl (fun _ => (zCl rfl rfl rfl rfl)) ?_
  refine d_w rfl (fun _ => zBg (v := .bool _) rfl rfl rfl rfl) rfl ?_
  refine d_w rfl (fun _ => zAo (v := .bool _) rfl rfl) rfl ?_
  refine zBh ?_
  refine zAd (gj _ _ (zA7 (zBa (l := [.tmp 4]) (vs := [_]) rfl ⟨⟨rfl, (rfl : _ = Value.bool _)⟩, trivial⟩ ?_)))
  exact ⟨(by first | (rw [zC8 hpre hia (by omega)]; rfl) | (rw [zCp hpre (by omega) (by omega)]; rfl) | (rw [zDp hpre (by omega) (by omega) (by first | assumption | omega)]; rfl)), g5⟩

theorem c10 {w0 w : World} {F : List (Nat × Obj)} (aa ab : Option Addr) (a b : List Int) (ca cb : Nat) (hla : a.length ≤ 9223372036854775807) (ha : Sl w0 F aa 1 (a.map fun x => [Value.int .i64 x])) (hb : Sl w0 F ab 1 (b.map fun x => [Value.int .i64 x])) (hs : St w0 w F) :
  Con Tryz.prog 10 [.slice aa a.length ca, .slice ab b.length cb] w fun v w' => v = .bool (decide (a = b)) ∧ St w0 w' F := by
  refine zAu (n := 22) func10 rfl rfl (zNl rfl) ?_
  refine zAg (fun K2 g4 => (zAc (zBj rfl rfl (zAe (zAd (g4 _ _ (zAg (fun K4 g0 => (zAc (w_p (zAi (v := .slice _ _ _) rfl rfl) rfl ?_))))))))))
  refine w_p (zBo underlying35 rfl rfl) rfl (w_p (zAi (v := .slice _ _ _) rfl rfl) rfl (w_p (zBo underlying35 rfl rfl) rfl (w_p (zB3 rfl rfl rfl rfl) rfl (w_p (zAi (v := .bool _) rfl rfl) rfl (zBp (fun h5 => ?_) (fun h5 => ?_))))))
  ·
   try simp only [zS] at h5
   refine w_y rfl rfl rfl (zAi (v := .slice _ _ _) rfl rfl) rfl ?_
   refine w_y rfl rfl rfl (zAi (v := .slice _ _ _) rfl rfl) rfl ?_
   refine zAr (zAp rfl rfl rfl) call38 rfl rfl rfl rfl (c38 _ _ _ _ _ _ (by omega) (by assumption) (by assumption) hs) ?_
   rintro _ w7 ⟨rfl, g3⟩
   refine w_y rfl rfl rfl (zDq rfl rfl) rfl ?_
   refine w_p (zAv (v := .bool _) rfl rfl rfl rfl) rfl (w_p (zAi (v := .bool _) rfl rfl) rfl (zBp (fun h9 => ?_) (fun h9 => ?_)))
   ·
    try simp only [zS] at h9
    refine w_y rfl rfl rfl (zAi (v := .slice _ _ _) rfl rfl) rfl ?_
    refine w_y rfl rfl rfl (zAi (v := .slice _ _ _) rfl rfl) rfl ?_
    refine zAr (zAp rfl rfl rfl) call38 rfl rfl rfl rfl (c38 _ _ _ _ _ _ (by omega) (by assumption) (by assumption) g3) ?_
    rintro _ g6 ⟨rfl, g5⟩
    refine w_y rfl rfl rfl (zDq rfl rfl) rfl ?_
    refine w_p (zAv (v := .bool _) rfl rfl rfl rfl) rfl (w_p (zAo (v := .bool _) rfl rfl) rfl (zAe (zAd (g0 _ _ (zA7 (zBa (l := [.tmp 4]) (vs := [_]) rfl ⟨⟨rfl, (rfl : _ = Value.bool _)⟩, trivial⟩ ?_))))))
    exact ⟨congrArg Value.bool (by rw [← ints_eq, Bool.eq_iff_iff]; simp [*] <;> omega), g5⟩
   try simp only [zS] at h9
   refine zAj rfl rfl rfl ?_
   refine zAj rfl rfl rfl ?_
   refine zAj rfl rfl rfl ?_
   refine zAj rfl rfl rfl ?_
   refine w_p (zBg (v := _) rfl rfl rfl rfl) rfl (w_p (zAo (v := .bool _) rfl rfl) rfl (zAe (zAd (g0 _ _ (zA7 (zBa (l := [.tmp 4]) (vs := [_]) rfl ⟨⟨rfl, (rfl : _ = Value.bool _)⟩, trivial⟩ ?_))))))
   exact ⟨congrArg Value.bool (by rw [← ints_eq, Bool.eq_iff_iff]; simp [*] <;> omega), g3⟩
  try simp only [zS] at h5
  refine zAj rfl rfl rfl ?_
  refine zAj rfl rfl rfl ?_
  refine zAj rfl rfl rfl ?_
  refine zAj rfl rfl rfl ?_
  refine w_p (zBg (v := _) rfl rfl rfl rfl) rfl (w_p (zAi (v := .bool _) rfl rfl) rfl (zAj rfl rfl rfl ?_))
  refine zAj rfl rfl rfl ?_
  refine zAj rfl rfl rfl ?_
  refine zAj rfl rfl rfl ?_
  refine w_p (zBg (v := _) rfl rfl rfl rfl) rfl (w_p (zAo (v := .bool _) rfl rfl) rfl (zAe (zAd (g0 _ _ (zA7 (zBa (l := [.tmp 4]) (vs := [_]) rfl ⟨⟨rfl, (rfl : _ = Value.bool _)⟩, trivial⟩ ?_))))))
  exact ⟨congrArg Value.bool (by rw [← ints_eq, Bool.eq_iff_iff]; simp [*] <;> omega), hs⟩

theorem sl_strs {w0 : World} {F : List (Nat × Obj)} {a : Option Addr} {l : List ByteArray} {i : Nat} (h : Sl w0 F a 1 (l.map fun x => [Value.string x])) (hi : i < l.length) :
    ∃ b off, a = some ⟨b, off, none⟩ ∧ Ats w0 F b (off + i * 1) [.string l[i]] := by
  obtain ⟨b, off, ha, _, hat⟩ := h.at (i := i) (row := [.string l[i]]) (by simp [hi])
  exact ⟨b, off, ha, hat⟩
theorem notmem_take {l : List ByteArray} {s : ByteArray} {i : Nat} (h : has (l.take i) s = false) (hi : i < l.length) (hne : ¬ l[i] = s) : has (l.take (i + 1)) s = false := by
  unfold has at *
  rw [List.take_succ_eq_append_getElem hi, List.any_append, h]; simp [hne]
theorem c42 {w0 w : World} {F : List (Nat × Obj)} (aa : Option Addr) (l : List ByteArray) (s : ByteArray) (ca : Nat) (hla : l.length ≤ 9223372036854775807) (ha : Sl w0 F aa 1 (l.map fun x => [Value.string x])) (hs : St w0 w F) :
  Con Tryz.prog 42 [.slice aa l.length ca, .string s] w fun v w' => (∃ z, v = .int .i64 z ∧ (0 ≤ z ↔ has l s = true)) ∧ St w0 w' F := by
  refine zAu (n := 25) func42 rfl rfl (zNl rfl) ?_
  refine zAg (fun K2 g8 => (zAc (zBj rfl rfl (zAe (zAd (g8 _ _ (zAg (fun K4 g9 => (zAc (zBj rfl rfl (zAe (zAd (g9 _ _ (zAg (fun K6 g6 => (zA8 ?_))))))))))))))))
  refine zCd [5,6,7,8,9,10,11,12,13,14,15,16,17,18,19] [5] (fun k vs w => ∃ i : Nat, vs = [.int .i64 i] ∧ i ≤ l.length ∧ k = l.length - i ∧ has (l.take i) s = false ∧ St w0 w F) (l.length) ?_ ?_
  ·
   exact ⟨0, rfl, by omega, by omega, rfl, hs⟩
  intro k vs μ w9 hI K8 ga
  obtain ⟨i, rfl, hia, rfl, hpre, hs⟩ := hI
  refine zAg (fun gk gb => (zAg (fun gl g7 => (zAc (zBe rfl rfl (w_p (zAi (v := .slice _ _ _) rfl rfl) rfl (w_p (zBo underlying53 rfl rfl) rfl (w_p (zCl rfl rfl rfl rfl) rfl ?_))))))))
  refine w_p (zAi (v := .bool _) rfl rfl) rfl (zBp (fun g0 => ?_) (fun g0 => ?_))
  ·
   try simp only [zS] at g0
   refine w_y rfl rfl rfl (zAi (v := .slice _ _ _) rfl rfl) rfl ?_
   refine w_y rfl rfl rfl (zA6 rfl rfl) rfl ?_
   have hi2 : i < l.length := by omega
   obtain ⟨ba, oa, rfl, hxa⟩ := sl_strs ha hi2
   refine w_y rfl rfl rfl (zBk underlying53 sizeOf9 rfl rfl rfl rfl (i := _) rfl (by omega)) rfl ?_
   refine w_y rfl rfl rfl (zAk isAgg9 hs rfl rfl hxa) rfl ?_
   refine w_y rfl rfl rfl (zAi (v := .string _) rfl rfl) rfl ?_
   refine w_y rfl rfl rfl (y_strNe rfl rfl rfl rfl) rfl ?_
   refine w_p (zAv (v := .bool _) rfl rfl rfl rfl) rfl (zAe (zAd (g7 _ _ (zA1 rfl rfl (fun g3 => ?_) (fun g3 => ?_)))))
   ·
    try simp only [zS] at g3
    refine zAx (zAd (gb _ _ (zA8 ?_)))
    refine zAc (zBe rfl rfl (w_p (zBq rfl rfl rfl rfl (by omega) (by omega)) rfl (zBs rfl rfl (zAe (zAn (zAd (ga _ _ (nxI (l.length - (i + 1)) (by omega) ?_))))))))
    exact ⟨i + 1, rfl, by omega, rfl, notmem_take hpre (by omega) (by assumption), hs⟩
   try simp only [zS] at g3
   refine zBy (zAq (zAq (zBc (zAd (g6 _ _ (zAg (fun gm gc => (zAg (fun gn gd => (zAc (zBe rfl rfl (w_p (zAi (v := .slice _ _ _) rfl rfl) rfl ?_))))))))))))
   refine w_p (zBo underlying53 rfl rfl) rfl (w_p (zB3 rfl rfl rfl rfl) rfl (zAe (zAd (gd _ _ (zA1 rfl rfl (fun g4 => ?_) (fun g4 => ?_))))))
   ·
    try simp only [zS] at g4
    refine zAg (fun go ge => (zAc (zBj rfl rfl (zAe (zAd (ge _ _ (zA7 (zAm (zBa (l := [.tmp 4]) (vs := [_]) rfl ⟨⟨rfl, (rfl : _ = Value.int _ _)⟩, trivial⟩ ?_)))))))))
    first
      | exact ⟨⟨-1, rfl, by have hil : i = l.length := (by omega); subst hil; rw [List.take_length] at hpre; simp [hpre]⟩, hs⟩
      | exact ⟨⟨(i : Int), rfl, ⟨fun _ => (by have hi3 : i < l.length := (by omega); have he : l[i] = s := (by assumption); exact List.any_eq_true.2 ⟨_, List.getElem_mem hi3, by simp [he]⟩), fun _ => by omega⟩⟩, hs⟩
      | (exfalso; omega)
   try simp only [zS] at g4
   refine zAx (zAd (gc _ _ (zAg (fun gp gf => (zAc (zBe rfl rfl (zBs rfl rfl (zAe (zAd (gf _ _ (zA7 (zBa (l := [.tmp 4]) (vs := [_]) rfl ⟨⟨rfl, (rfl : _ = Value.int _ _)⟩, trivial⟩ ?_))))))))))))
   first
     | exact ⟨⟨-1, rfl, by have hil : i = l.length := (by omega); subst hil; rw [List.take_length] at hpre; simp [hpre]⟩, hs⟩
     | exact ⟨⟨(i : Int), rfl, ⟨fun _ => (by have hi3 : i < l.length := (by omega); have he : l[i] = s := (by assumption); exact List.any_eq_true.2 ⟨_, List.getElem_mem hi3, by simp [he]⟩), fun _ => by omega⟩⟩, hs⟩
     | (exfalso; omega)
  try simp only [zS] at g0
  refine zAj rfl rfl rfl ?_
  refine zAj rfl rfl rfl ?_
  refine zAj rfl rfl rfl ?_
  refine zAj rfl rfl rfl ?_
  refine zAj rfl rfl rfl ?_
  refine zAj rfl rfl rfl ?_
  refine w_p (zBg (v := _) rfl rfl rfl rfl) rfl (zAe (zAd (g7 _ _ (zB7 rfl rfl ?_))))
  refine zBy (zAq (zAq (zBc (zAd (g6 _ _ (zAg (fun gq gg => (zAg (fun gr gh => (zAc (zBe rfl rfl (w_p (zAi (v := .slice _ _ _) rfl rfl) rfl ?_))))))))))))
  refine w_p (zBo underlying53 rfl rfl) rfl (w_p (zB3 rfl rfl rfl rfl) rfl (zAe (zAd (gh _ _ (zA1 rfl rfl (fun g5 => ?_) (fun g5 => ?_))))))
  ·
   try simp only [zS] at g5
   refine zAg (fun gt gi => (zAc (zBj rfl rfl (zAe (zAd (gi _ _ (zA7 (zAm (zBa (l := [.tmp 4]) (vs := [_]) rfl ⟨⟨rfl, (rfl : _ = Value.int _ _)⟩, trivial⟩ ?_)))))))))
   first
     | exact ⟨⟨-1, rfl, by have hil : i = l.length := (by omega); subst hil; rw [List.take_length] at hpre; simp [hpre]⟩, hs⟩
     | exact ⟨⟨(i : Int), rfl, ⟨fun _ => (by have hi3 : i < l.length := (by omega); have he : l[i] = s := (by assumption); exact List.any_eq_true.2 ⟨_, List.getElem_mem hi3, by simp [he]⟩), fun _ => by omega⟩⟩, hs⟩
     | (exfalso; omega)
  try simp only [zS] at g5
  refine zAx (zAd (gg _ _ (zAg (fun gu gj => (zAc (zBe rfl rfl (zBs rfl rfl (zAe (zAd (gj _ _ (zA7 (zBa (l := [.tmp 4]) (vs := [_]) rfl ⟨⟨rfl, (rfl : _ = Value.int _ _)⟩, trivial⟩ ?_))))))))))))
  first
    | exact ⟨⟨-1, rfl, by have hil : i = l.length := (by omega); subst hil; rw [List.take_length] at hpre; simp [hpre]⟩, hs⟩
    | exact ⟨⟨(i : Int), rfl, ⟨fun _ => (by have hi3 : i < l.length := (by omega); have he : l[i] = s := (by assumption); exact List.any_eq_true.2 ⟨_, List.getElem_mem hi3, by simp [he]⟩), fun _ => by omega⟩⟩, hs⟩
    | (exfalso; omega)

theorem nmBytes_snoc (l : List UInt8) (c : UInt8) : ∀ f, nmBytes f (l ++ [c]) = (nmBytes f l && nmByte (f && l.isEmpty) c) := by
  induction l with
  | nil => intro f; simp [nmBytes]
  | cons x l ih => intro f; simp only [List.cons_append, nmBytes, ih]; simp [Bool.and_assoc]
theorem zEs (s : ByteArray) (i : Nat) (h : i < s.size) : nmBytes true (s.data.toList.take (i + 1)) = (nmBytes true (s.data.toList.take i) && nmByte (decide (i = 0)) s[i]) := by
  rw [List.take_succ_eq_append_getElem (by simpa using h), nmBytes_snoc]
  have e : (true && (s.data.toList.take i).isEmpty) = decide (i = 0) := by
    rw [Bool.eq_iff_iff]
    cases i with
    | zero => simp
    | succ i =>
      have : s.data.toList ≠ [] := by intro e; simp at e; have h2 : s.size = 0 := by rw [ByteArray.size, e]; rfl
                                      omega
      simp [this]
  rw [e]; rfl
theorem bp (x y : Bool) (k : IntKind) (a b : Int) (h1 : x = y) (h2 : a = b) : [Value.bool x, Value.int k a] = [Value.bool y, Value.int k b] := by rw [h1, h2]
theorem zDt (s : ByteArray) (i : Nat) (h : i < s.size) (x : Bool)
    (hx : x = ((decide (1 ≤ s.size) && decide (s.size ≤ 16) && nmBytes true (s.data.toList.take i)) && nmByte (decide (i = 0)) s[i])) : x = (decide (1 ≤ s.size) && decide (s.size ≤ 16) && nmBytes true (s.data.toList.take (i + 1))) := by
  rw [hx, zEs s i h, Bool.and_assoc]
theorem c43 {w0 w : World} {F : List (Nat × Obj)} (s : ByteArray) (hls : s.size ≤ 9223372036854775807) (hs : St w0 w F) :
  Con Tryz.prog 43 [.string s] w fun v w' => v = .bool (nmOk s) ∧ St w0 w' F := by
  refine zAu (n := 42) func43 rfl rfl (zNl rfl) ?_
  refine zAg (fun K2 gi => (zAc (zBj rfl rfl (zAe (zAd (gi _ _ (zAg (fun K4 gj => (zAc (w_p (zAi (v := .string _) rfl rfl) rfl ?_))))))))))
  refine w_p (y_lenStr underlying9 rfl rfl) rfl (zAr zAb call13 rfl rfl rfl rfl (c13 _ _ _ hs) ?_)
  rintro _ w6 ⟨rfl, gk⟩
  refine w_p (zAo (v := .bool _) rfl rfl) rfl (zAe (zAd (gj _ _ (zAg (fun K9 gl => (zAg (fun gq gm => (zAc (zBj rfl rfl (zAe (zAd (gm _ _ (zA8 ?_)))))))))))))
  refine zCd [3,4,5,9,10,11,12,13,14,15,16,17,18,19,20,21,22,23,24,25,26,27,28,29,30,31,32,33,34,35,36,37,38,39,40] [3,4] (fun k vs w => ∃ i : Nat, vs = [.bool (decide (1 ≤ s.size) && decide (s.size ≤ 16) && nmBytes true (s.data.toList.take i)), .int .i64 i] ∧ i ≤ s.size ∧ k = s.size - i ∧ St w0 w F) (s.size) ?_ ?_
  ·
   exact ⟨0, bp _ _ _ _ _ (by rw [Bool.eq_iff_iff]; simp [out, nmBytes] <;> omega) rfl, by omega, by omega, gk⟩
  intro k vs μ gr hI gt g0
  obtain ⟨i, rfl, hia, rfl, hs⟩ := hI
  generalize hfine : (decide (1 ≤ s.size) && decide (s.size ≤ 16) && nmBytes true (s.data.toList.take i)) = fine
  refine zAg (fun gu gn => (zAg (fun gv go => (zAc (zBe rfl rfl (w_p (zAi (v := .string _) rfl rfl) rfl (w_p (y_lenStr underlying9 rfl rfl) rfl (w_p (zCl rfl rfl rfl rfl) rfl ?_))))))))
  refine zAe (zAd (go _ _ (zA1 rfl rfl (fun g4 => ?_) (fun g4 => ?_))))
  ·
   try simp only [zS] at g4
   refine zAx (zAd (gn _ _ (zAg (fun gw g3 => (zA8 ?_)))))
   refine zAg (fun gx g5 => ?_)
   have hi2 : i < s.size := by omega
   have hc0 : (0:Int) ≤ (s[i].toNat : Int) := by omega
   have hc1 : (s[i].toNat : Int) ≤ 255 := by have := s[i].toNat_lt; omega
   refine zAc (zBe rfl rfl (w_p (zEt rfl rfl rfl rfl) rfl (w_p (zAi (v := .bool _) rfl rfl) rfl (zBp (fun g6 => ?_) (fun g6 => ?_)))))
   ·
    try simp only [zS] at g6
    refine w_y rfl rfl rfl (zAi (v := .string _) rfl rfl) rfl ?_
    refine w_y rfl rfl rfl (zA6 rfl rfl) rfl ?_
    refine w_y rfl rfl rfl (zGu underlying9 rfl rfl rfl rfl (i := _) rfl (by omega)) rfl ?_
    refine w_y rfl rfl rfl (zB3 rfl rfl rfl rfl) rfl ?_
    refine w_y rfl rfl rfl (zAi (v := .bool _) rfl rfl) rfl ?_
    refine zBp (fun g7 => ?_) (fun g7 => ?_)
    ·
     try simp only [zS] at g7
     refine zAj rfl rfl rfl ?_
     refine zAj rfl rfl rfl ?_
     refine zAj rfl rfl rfl ?_
     refine zAj rfl rfl rfl ?_
     refine zAj rfl rfl rfl ?_
     refine w_y rfl rfl rfl (zAv (v := _) rfl rfl rfl rfl) rfl ?_
     refine w_p (zAv (v := .bool _) rfl rfl rfl rfl) rfl (w_p (zAo (v := .bool _) rfl rfl) rfl (zAe (zAd (g5 _ _ (zAc (w_p (zAi (v := .bool _) rfl rfl) rfl ?_))))))
     refine w_p (zAi (v := .bool _) rfl rfl) rfl (zBp (fun g8 => ?_) (fun g8 => ?_))
     ·
      try simp only [zS] at g8
      refine w_y rfl rfl rfl (zAi (v := .string _) rfl rfl) rfl ?_
      refine w_y rfl rfl rfl (zA6 rfl rfl) rfl ?_
      refine w_y rfl rfl rfl (zGu underlying9 rfl rfl rfl rfl (i := _) rfl (by omega)) rfl ?_
      refine w_y rfl rfl rfl (zGi (by rw [underlying5]; rfl) underlying3 rfl rfl (by omega) (by omega)) rfl ?_
      refine zAr (zAp rfl rfl rfl) call13 rfl rfl rfl rfl (c13 _ _ _ hs) ?_
      rintro _ gy ⟨rfl, ge⟩
      refine w_y rfl rfl rfl (zAi (v := .bool _) rfl rfl) rfl ?_
      refine zBp (fun g9 => ?_) (fun g9 => ?_)
      ·
       try simp only [zS] at g9
       refine zAj rfl rfl rfl ?_
       refine w_y rfl rfl rfl (zAv (v := _) rfl rfl rfl rfl) rfl ?_
       refine w_p (zAv (v := .bool _) rfl rfl rfl rfl) rfl (w_p (zAo (v := .bool _) rfl rfl) rfl (zAe (zAn (zAd (g3 _ _ (zAc (zBe rfl rfl (w_p (zBq rfl rfl rfl rfl (by omega) (by omega)) rfl ?_))))))))
       refine zBs rfl rfl (zAe (zAd (g0 _ _ (nxI (s.size - (i + 1)) (by omega) ?_))))
       exact ⟨i + 1, bp _ _ _ _ _ (zDt s i (by omega) _ (by rw [hfine, Bool.eq_iff_iff]; simp only [*]; simp [nmByte, out] <;> omega)) rfl, by omega, rfl, ge⟩
      try simp only [zS] at g9
      refine w_y rfl rfl rfl (zAi (v := .bool _) rfl rfl) rfl ?_
      refine w_y rfl rfl rfl (zBg (v := .bool _) rfl rfl rfl rfl) rfl ?_
      refine w_p (zAv (v := .bool _) rfl rfl rfl rfl) rfl (w_p (zAo (v := .bool _) rfl rfl) rfl (zAe (zAn (zAd (g3 _ _ (zAc (zBe rfl rfl (w_p (zBq rfl rfl rfl rfl (by omega) (by omega)) rfl ?_))))))))
      refine zBs rfl rfl (zAe (zAd (g0 _ _ (nxI (s.size - (i + 1)) (by omega) ?_))))
      exact ⟨i + 1, bp _ _ _ _ _ (zDt s i (by omega) _ (by rw [hfine, Bool.eq_iff_iff]; simp only [*]; simp [nmByte, out] <;> omega)) rfl, by omega, rfl, ge⟩
     try simp only [zS] at g8
     refine zAj rfl rfl rfl ?_
     refine zAj rfl rfl rfl ?_
     refine zAj rfl rfl rfl ?_
     refine zAj rfl rfl rfl ?_
     refine zAj rfl rfl rfl ?_
     refine zAj rfl rfl rfl ?_
     refine zBi rfl rfl rfl ?_
     refine zAj rfl rfl rfl ?_
     refine w_p (zBg (v := _) rfl rfl rfl rfl) rfl (w_p (zAo (v := .bool _) rfl rfl) rfl (zAe (zAn (zAd (g3 _ _ (zAc (zBe rfl rfl (w_p (zBq rfl rfl rfl rfl (by omega) (by omega)) rfl ?_))))))))
     refine zBs rfl rfl (zAe (zAd (g0 _ _ (nxI (s.size - (i + 1)) (by omega) ?_))))
     exact ⟨i + 1, bp _ _ _ _ _ (zDt s i (by omega) _ (by rw [hfine, Bool.eq_iff_iff]; simp only [*]; simp [nmByte, out] <;> omega)) rfl, by omega, rfl, hs⟩
    try simp only [zS] at g7
    refine w_y rfl rfl rfl (zAi (v := .string _) rfl rfl) rfl ?_
    refine w_y rfl rfl rfl (zA6 rfl rfl) rfl ?_
    refine w_y rfl rfl rfl (zGu underlying9 rfl rfl rfl rfl (i := _) rfl (by omega)) rfl ?_
    refine w_y rfl rfl rfl (zGi (by rw [underlying5]; rfl) underlying3 rfl rfl (by omega) (by omega)) rfl ?_
    refine zAr (zAp rfl rfl rfl) call13 rfl rfl rfl rfl (c13 _ _ _ hs) ?_
    rintro _ gz ⟨rfl, gf⟩
    refine w_y rfl rfl rfl (zBg (v := .bool _) rfl rfl rfl rfl) rfl ?_
    refine w_p (zAv (v := .bool _) rfl rfl rfl rfl) rfl (w_p (zAo (v := .bool _) rfl rfl) rfl (zAe (zAd (g5 _ _ (zAc (w_p (zAi (v := .bool _) rfl rfl) rfl ?_))))))
    refine w_p (zAi (v := .bool _) rfl rfl) rfl (zBp (fun ga => ?_) (fun ga => ?_))
    ·
     try simp only [zS] at ga
     refine w_y rfl rfl rfl (zAi (v := .string _) rfl rfl) rfl ?_
     refine w_y rfl rfl rfl (zA6 rfl rfl) rfl ?_
     refine w_y rfl rfl rfl (zGu underlying9 rfl rfl rfl rfl (i := _) rfl (by omega)) rfl ?_
     refine w_y rfl rfl rfl (zGi (by rw [underlying5]; rfl) underlying3 rfl rfl (by omega) (by omega)) rfl ?_
     refine zAr (zAp rfl rfl rfl) call13 rfl rfl rfl rfl (c13 _ _ _ gf) ?_
     rintro _ gA ⟨rfl, gg⟩
     refine w_y rfl rfl rfl (zAi (v := .bool _) rfl rfl) rfl ?_
     refine zBp (fun gb => ?_) (fun gb => ?_)
     ·
      try simp only [zS] at gb
      refine zAj rfl rfl rfl ?_
      refine w_y rfl rfl rfl (zAv (v := _) rfl rfl rfl rfl) rfl ?_
      refine w_p (zAv (v := .bool _) rfl rfl rfl rfl) rfl (w_p (zAo (v := .bool _) rfl rfl) rfl (zAe (zAn (zAd (g3 _ _ (zAc (zBe rfl rfl (w_p (zBq rfl rfl rfl rfl (by omega) (by omega)) rfl ?_))))))))
      refine zBs rfl rfl (zAe (zAd (g0 _ _ (nxI (s.size - (i + 1)) (by omega) ?_))))
      exact ⟨i + 1, bp _ _ _ _ _ (zDt s i (by omega) _ (by rw [hfine, Bool.eq_iff_iff]; simp only [*]; simp [nmByte, out] <;> omega)) rfl, by omega, rfl, gg⟩
     try simp only [zS] at gb
     refine w_y rfl rfl rfl (zAi (v := .bool _) rfl rfl) rfl ?_
     refine w_y rfl rfl rfl (zBg (v := .bool _) rfl rfl rfl rfl) rfl ?_
     refine w_p (zAv (v := .bool _) rfl rfl rfl rfl) rfl (w_p (zAo (v := .bool _) rfl rfl) rfl (zAe (zAn (zAd (g3 _ _ (zAc (zBe rfl rfl (w_p (zBq rfl rfl rfl rfl (by omega) (by omega)) rfl ?_))))))))
     refine zBs rfl rfl (zAe (zAd (g0 _ _ (nxI (s.size - (i + 1)) (by omega) ?_))))
     exact ⟨i + 1, bp _ _ _ _ _ (zDt s i (by omega) _ (by rw [hfine, Bool.eq_iff_iff]; simp only [*]; simp [nmByte, out] <;> omega)) rfl, by omega, rfl, gg⟩
    try simp only [zS] at ga
    refine zAj rfl rfl rfl ?_
    refine zAj rfl rfl rfl ?_
    refine zAj rfl rfl rfl ?_
    refine zAj rfl rfl rfl ?_
    refine zAj rfl rfl rfl ?_
    refine zAj rfl rfl rfl ?_
    refine zBi rfl rfl rfl ?_
    refine zAj rfl rfl rfl ?_
    refine w_p (zBg (v := _) rfl rfl rfl rfl) rfl (w_p (zAo (v := .bool _) rfl rfl) rfl (zAe (zAn (zAd (g3 _ _ (zAc (zBe rfl rfl (w_p (zBq rfl rfl rfl rfl (by omega) (by omega)) rfl ?_))))))))
    refine zBs rfl rfl (zAe (zAd (g0 _ _ (nxI (s.size - (i + 1)) (by omega) ?_))))
    exact ⟨i + 1, bp _ _ _ _ _ (zDt s i (by omega) _ (by rw [hfine, Bool.eq_iff_iff]; simp only [*]; simp [nmByte, out] <;> omega)) rfl, by omega, rfl, gf⟩
   try simp only [zS] at g6
   refine zAj rfl rfl rfl ?_
   refine zAj rfl rfl rfl ?_
   refine zAj rfl rfl rfl ?_
   refine zAj rfl rfl rfl ?_
   refine zAj rfl rfl rfl ?_
   refine zBi rfl rfl rfl ?_
   refine zBi rfl rfl rfl ?_
   refine zBi rfl rfl rfl ?_
   refine zBi rfl rfl rfl ?_
   refine zBi rfl rfl rfl ?_
   refine zAj rfl rfl rfl ?_
   refine w_p (zBg (v := _) rfl rfl rfl rfl) rfl (w_p (zAo (v := .bool _) rfl rfl) rfl (zAe (zAd (g5 _ _ (zAc (w_p (zAi (v := .bool _) rfl rfl) rfl ?_))))))
   refine w_p (zAi (v := .bool _) rfl rfl) rfl (zBp (fun gc => ?_) (fun gc => ?_))
   ·
    try simp only [zS] at gc
    refine w_y rfl rfl rfl (zAi (v := .string _) rfl rfl) rfl ?_
    refine w_y rfl rfl rfl (zA6 rfl rfl) rfl ?_
    refine w_y rfl rfl rfl (zGu underlying9 rfl rfl rfl rfl (i := _) rfl (by omega)) rfl ?_
    refine w_y rfl rfl rfl (zGi (by rw [underlying5]; rfl) underlying3 rfl rfl (by omega) (by omega)) rfl ?_
    refine zAr (zAp rfl rfl rfl) call13 rfl rfl rfl rfl (c13 _ _ _ hs) ?_
    rintro _ gB ⟨rfl, gh⟩
    refine w_y rfl rfl rfl (zAi (v := .bool _) rfl rfl) rfl ?_
    refine zBp (fun gd => ?_) (fun gd => ?_)
    ·
     try simp only [zS] at gd
     refine zAj rfl rfl rfl ?_
     refine w_y rfl rfl rfl (zAv (v := _) rfl rfl rfl rfl) rfl ?_
     refine w_p (zAv (v := .bool _) rfl rfl rfl rfl) rfl (w_p (zAo (v := .bool _) rfl rfl) rfl (zAe (zAn (zAd (g3 _ _ (zAc (zBe rfl rfl (w_p (zBq rfl rfl rfl rfl (by omega) (by omega)) rfl ?_))))))))
     refine zBs rfl rfl (zAe (zAd (g0 _ _ (nxI (s.size - (i + 1)) (by omega) ?_))))
     exact ⟨i + 1, bp _ _ _ _ _ (zDt s i (by omega) _ (by rw [hfine, Bool.eq_iff_iff]; simp only [*]; simp [nmByte, out] <;> omega)) rfl, by omega, rfl, gh⟩
    try simp only [zS] at gd
    refine w_y rfl rfl rfl (zAi (v := .bool _) rfl rfl) rfl ?_
    refine w_y rfl rfl rfl (zBg (v := .bool _) rfl rfl rfl rfl) rfl ?_
    refine w_p (zAv (v := .bool _) rfl rfl rfl rfl) rfl (w_p (zAo (v := .bool _) rfl rfl) rfl (zAe (zAn (zAd (g3 _ _ (zAc (zBe rfl rfl (w_p (zBq rfl rfl rfl rfl (by omega) (by omega)) rfl ?_))))))))
    refine zBs rfl rfl (zAe (zAd (g0 _ _ (nxI (s.size - (i + 1)) (by omega) ?_))))
    exact ⟨i + 1, bp _ _ _ _ _ (zDt s i (by omega) _ (by rw [hfine, Bool.eq_iff_iff]; simp only [*]; simp [nmByte, out] <;> omega)) rfl, by omega, rfl, gh⟩
   try simp only [zS] at gc
   refine zAj rfl rfl rfl ?_
   refine zAj rfl rfl rfl ?_
   refine zAj rfl rfl rfl ?_
   refine zAj rfl rfl rfl ?_
   refine zAj rfl rfl rfl ?_
   refine zAj rfl rfl rfl ?_
   refine zBi rfl rfl rfl ?_
   refine zAj rfl rfl rfl ?_
   refine w_p (zBg (v := _) rfl rfl rfl rfl) rfl (w_p (zAo (v := .bool _) rfl rfl) rfl (zAe (zAn (zAd (g3 _ _ (zAc (zBe rfl rfl (w_p (zBq rfl rfl rfl rfl (by omega) (by omega)) rfl ?_))))))))
   refine zBs rfl rfl (zAe (zAd (g0 _ _ (nxI (s.size - (i + 1)) (by omega) ?_))))
   exact ⟨i + 1, bp _ _ _ _ _ (zDt s i (by omega) _ (by rw [hfine, Bool.eq_iff_iff]; simp only [*]; simp [nmByte, out] <;> omega)) rfl, by omega, rfl, hs⟩
  try simp only [zS] at g4
  refine zBy (zAq (zAq (zBc (zAd (gl _ _ (zAg (fun gC gp => (zAc (w_p (zAi (v := .bool _) rfl rfl) rfl (w_p (zAo (v := .bool _) rfl rfl) rfl ?_))))))))))
  refine zAe (zAd (gp _ _ (zA7 (zBa (l := [.tmp 2]) (vs := [_]) rfl ⟨⟨rfl, (rfl : _ = Value.bool _)⟩, trivial⟩ ?_))))
  exact ⟨congrArg Value.bool (by have hil : i = s.size := (by omega); subst hil; rw [← hfine]; unfold nmOk; rw [List.take_of_length_le (by simp)]), hs⟩

theorem c14 {w0 w : World} {F : List (Nat × Obj)} (s : ByteArray) (aa : Option Addr) (l : List ByteArray) (ca : Nat) (hls : s.size ≤ 9223372036854775807) (hla : l.length ≤ 9223372036854775807) (ha : Sl w0 F aa 1 (l.map fun x => [Value.string x])) (hs : St w0 w F) :
  Con Tryz.prog 14 [.string s, .slice aa l.length ca] w fun v w' => v = .int .i64 (if nmOk s = false then 6 else if has l s then 5 else 0) ∧ St w0 w' F := by
  refine zAu (n := 14) func14 rfl rfl (zNl rfl) ?_
  refine zAg (fun K2 gb => (zAc (zBj rfl rfl (zAe (zAd (gb _ _ (zAg (fun K4 gc => (zAc (zBj rfl rfl (zAe (zAd (gc _ _ (zAg (fun K6 g5 => (zAg (fun K8 gd => (zAc (w_p (zAi (v := .slice _ _ _) rfl rfl) rfl ?_)))))))))))))))))))
  refine w_p (zAi (v := .string _) rfl rfl) rfl (zAr zAb call42 rfl rfl rfl rfl (c42 _ _ _ _ (by omega) (by assumption) hs) ?_)
  rintro _ gk ⟨⟨z, rfl, hz⟩, g6⟩
  refine w_p (zHh rfl rfl rfl rfl) rfl (zAe (zAd (gd _ _ (zA1 rfl rfl (fun g0 => ?_) (fun g0 => ?_)))))
  ·
   try simp only [zS] at g0
   refine zAc (zBj rfl rfl (zAe (zAd (g5 _ _ (zAg (fun gl g7 => (zAg (fun gm ge => (zAc (w_p (zAi (v := .string _) rfl rfl) rfl ?_))))))))))
   refine zAr zAb call43 rfl rfl rfl rfl (c43 _ (by omega) g6) ?_
   rintro _ gn ⟨rfl, g8⟩
   refine w_p (zDq rfl rfl) rfl (zAe (zAd (ge _ _ (zA1 rfl rfl (fun g3 => ?_) (fun g3 => ?_)))))
   ·
    try simp only [zS] at g3
    refine zAc (zBj rfl rfl (zAe (zAd (g7 _ _ (zAg (fun go gf => (zAc (zBe rfl rfl (zBs rfl rfl (zAe (zAd (gf _ _ (zA7 (zBa (l := [.tmp 4]) (vs := [_]) rfl ⟨⟨rfl, (rfl : _ = Value.int _ _)⟩, trivial⟩ ?_))))))))))))))
    exact ⟨congrArg (Value.int .i64) (by have hz2 : has l s = decide (0 ≤ z) := (by rw [Bool.eq_iff_iff]; simp [hz]); rw [hz2]; clear hz hz2; simp [*] <;> (repeat' split) <;> omega), g8⟩
   try simp only [zS] at g3
   refine zAx (zAd (g7 _ _ (zAg (fun gp gg => (zAc (zBe rfl rfl (zBs rfl rfl (zAe (zAd (gg _ _ (zA7 (zBa (l := [.tmp 4]) (vs := [_]) rfl ⟨⟨rfl, (rfl : _ = Value.int _ _)⟩, trivial⟩ ?_))))))))))))
   exact ⟨congrArg (Value.int .i64) (by have hz2 : has l s = decide (0 ≤ z) := (by rw [Bool.eq_iff_iff]; simp [hz]); rw [hz2]; clear hz hz2; simp [*] <;> (repeat' split) <;> omega), g8⟩
  try simp only [zS] at g0
  refine zAx (zAd (g5 _ _ (zAg (fun gq g9 => (zAg (fun gr gh => (zAc (w_p (zAi (v := .string _) rfl rfl) rfl (zAr zAb call43 rfl rfl rfl rfl (c43 _ (by omega) g6) ?_)))))))))
  rintro _ gt ⟨rfl, ga⟩
  refine w_p (zDq rfl rfl) rfl (zAe (zAd (gh _ _ (zA1 rfl rfl (fun g4 => ?_) (fun g4 => ?_)))))
  ·
   try simp only [zS] at g4
   refine zAc (zBj rfl rfl (zAe (zAd (g9 _ _ (zAg (fun gu gi => (zAc (zBe rfl rfl (zBs rfl rfl (zAe (zAd (gi _ _ (zA7 (zBa (l := [.tmp 4]) (vs := [_]) rfl ⟨⟨rfl, (rfl : _ = Value.int _ _)⟩, trivial⟩ ?_))))))))))))))
   exact ⟨congrArg (Value.int .i64) (by have hz2 : has l s = decide (0 ≤ z) := (by rw [Bool.eq_iff_iff]; simp [hz]); rw [hz2]; clear hz hz2; simp [*] <;> (repeat' split) <;> omega), ga⟩
  try simp only [zS] at g4
  refine zAx (zAd (g9 _ _ (zAg (fun gv gj => (zAc (zBe rfl rfl (zBs rfl rfl (zAe (zAd (gj _ _ (zA7 (zBa (l := [.tmp 4]) (vs := [_]) rfl ⟨⟨rfl, (rfl : _ = Value.int _ _)⟩, trivial⟩ ?_))))))))))))
  exact ⟨congrArg (Value.int .i64) (by have hz2 : has l s = decide (0 ≤ z) := (by rw [Bool.eq_iff_iff]; simp [hz]); rw [hz2]; clear hz hz2; simp [*] <;> (repeat' split) <;> omega), ga⟩

theorem any_take {l : List Int} {p : Int → Bool} {i : Nat} (h : (l.take i).any p = false) (hi : i < l.length) (hp : p l[i] = false) : (l.take (i + 1)).any p = false := by
  rw [List.take_succ_eq_append_getElem hi, List.any_append, h]; simp [hp]
theorem c102 {w0 w : World} {F : List (Nat × Obj)} (aa : Option Addr) (l : List Int) (ca : Nat) (hla : l.length ≤ 9223372036854775807) (ha : Sl w0 F aa 1 (l.map fun x => [Value.int .i64 x])) {fk : FuncId} (hC : CF Tryz.prog fk) (first captured : Array Value) (p : Int → Bool)
    (hp : ∀ x ∈ l, ∀ w, St w0 w F → Con Tryz.prog fk (first.toList ++ ([.int .i64 x] ++ captured.toList)) w fun v w' => v = .bool (p x) ∧ St w0 w' F) (hs : St w0 w F) :
  Con Tryz.prog 102 [.slice aa l.length ca, .func (.func fk) first captured] w fun v w' => (∃ z, v = .int .i64 z ∧ decide (0 ≤ z) = l.any p) ∧ St w0 w' F := by
  refine zAu (n := 19) func102 rfl rfl (zNl rfl) ?_
  refine zAg (fun K2 g5 => (zAc (zBj rfl rfl (zAe (zAd (g5 _ _ (zAg (fun K4 g6 => (zAg (fun K6 g7 => (zAc (w_p (zAi (v := .slice _ _ _) rfl rfl) rfl ?_))))))))))))
  refine w_p (zBo underlying35 rfl rfl) rfl (w_p (zAi (v := _) rfl rfl) rfl (zAe (zAd (g7 _ _ (zA8 ?_)))))
  refine zCd [4,5,8,9,10,11,12,13,14,15,16,17,18] [8] (fun k vs w => ∃ i : Nat, vs = [.int .i64 i] ∧ i ≤ l.length ∧ k = l.length - i ∧ (l.take i).any p = false ∧ St w0 w F) (l.length) ?_ ?_
  ·
   exact ⟨0, rfl, by omega, by omega, by simp, hs⟩
  intro k vs μ w9 hI K8 g8
  obtain ⟨i, rfl, hia, rfl, hpre, hs⟩ := hI
  refine zAg (fun gg g9 => (zAc (w_p (zCl rfl rfl rfl rfl) rfl (zAe (zAd (g9 _ _ (zAg (fun gh ga => (zA1 rfl rfl (fun g0 => ?_) (fun g0 => ?_))))))))))
  ·
   try simp only [zS] at g0
   refine zAx (zAd (ga _ _ (zAg (fun gi gb => (zA8 ?_)))))
   refine zAg (fun gj gc => (zAc (zBe rfl rfl (zBs rfl rfl (zAe (zAd (gc _ _ (zAg (fun gk gd => ?_)))))))))
   have hi2 : i < l.length := by omega
   obtain ⟨ba, oa, rfl, hxa⟩ := zDv ha hi2
   refine zAc (w_p (zAi (v := .func _ _ _) rfl rfl) rfl (w_p (zAi (v := .slice _ _ _) rfl rfl) rfl (zBe rfl rfl (w_p (zBk underlying35 sizeOf3 rfl rfl rfl rfl (i := _) rfl (by omega)) rfl (w_p (zAk isAgg3 hs rfl rfl hxa) rfl ?_)))))
   refine zAr zAb hC rfl rfl rfl rfl (hp _ (List.getElem_mem hi2) _ hs) ?_
   rintro _ gl ⟨rfl, g3⟩
   refine zAe (zAd (gd _ _ (zA1 rfl rfl (fun g4 => ?_) (fun g4 => ?_))))
   ·
    try simp only [zS] at g4
    refine zAg (fun gm ge => (zAc (zBe rfl rfl (zBs rfl rfl (zAe (zAd (ge _ _ (zA7 (zAy (zAm (zAm (zAy (zAm (zBa (l := [.tmp 4]) (vs := [_]) rfl ⟨⟨rfl, (rfl : _ = Value.int _ _)⟩, trivial⟩ ?_))))))))))))))
    first
      | exact ⟨⟨-1, rfl, by have hil : i = l.length := (by omega); subst hil; rw [List.take_length] at hpre; rw [hpre]; rfl⟩, g3⟩
      | exact ⟨⟨(i : Int), rfl, by rw [Bool.eq_iff_iff]; simp only [decide_eq_true_eq, List.any_eq_true]; exact ⟨fun _ => ⟨_, List.getElem_mem hi2, by assumption⟩, fun _ => by omega⟩⟩, g3⟩
   try simp only [zS] at g4
   refine zAx (zAn (zAd (gb _ _ (zAc (w_p (zBq rfl rfl rfl rfl (by omega) (by omega)) rfl (zBe rfl rfl (zAe (zAd (g8 _ _ (nxI (l.length - (i + 1)) (by omega) ?_))))))))))
   exact ⟨i + 1, rfl, by omega, rfl, any_take hpre (by omega) (by assumption), g3⟩
  try simp only [zS] at g0
  refine zBy (zAq (zAq (zBc (zAd (g6 _ _ (zAg (fun gn gf => (zAc (zBj rfl rfl (zAe (zAd (gf _ _ (zA7 (zBa (l := [.tmp 4]) (vs := [_]) rfl ⟨⟨rfl, (rfl : _ = Value.int _ _)⟩, trivial⟩ ?_))))))))))))))
  first
    | exact ⟨⟨-1, rfl, by have hil : i = l.length := (by omega); subst hil; rw [List.take_length] at hpre; rw [hpre]; rfl⟩, hs⟩
    | exact ⟨⟨(i : Int), rfl, by rw [Bool.eq_iff_iff]; simp only [decide_eq_true_eq, List.any_eq_true]; exact ⟨fun _ => ⟨_, List.getElem_mem hi2, by assumption⟩, fun _ => by omega⟩⟩, hs⟩

theorem c77 {w0 w : World} {F : List (Nat × Obj)} (aa : Option Addr) (l : List Int) (ca : Nat) (hla : l.length ≤ 9223372036854775807) (ha : Sl w0 F aa 1 (l.map fun x => [Value.int .i64 x])) {fk : FuncId} (hC : CF Tryz.prog fk) (first captured : Array Value) (p : Int → Bool)
    (hp : ∀ x ∈ l, ∀ w, St w0 w F → Con Tryz.prog fk (first.toList ++ ([.int .i64 x] ++ captured.toList)) w fun v w' => v = .bool (p x) ∧ St w0 w' F) (hs : St w0 w F) :
  Con Tryz.prog 77 [.slice aa l.length ca, .func (.func fk) first captured] w fun v w' => v = .bool (l.any p) ∧ St w0 w' F := by
  refine zAu (n := 9) func77 rfl rfl (zNl rfl) ?_
  refine zAg (fun K2 g0 => (zAc (zBj rfl rfl (zAe (zAd (g0 _ _ (zAg (fun K4 g3 => (zAc (w_p (zAi (v := .slice _ _ _) rfl rfl) rfl ?_))))))))))
  refine w_p (zAi (v := .func _ _ _) rfl rfl) rfl (zAr zAb call102 rfl rfl rfl rfl (c102 _ _ _ hla ha hC _ _ p hp hs) ?_)
  rintro _ w6 ⟨⟨z, rfl, hz⟩, g4⟩
  refine w_p (zHh rfl rfl rfl rfl) rfl (w_p (zAo (v := .bool _) rfl rfl) rfl (zAe (zAd (g3 _ _ (zA7 (zBa (l := [.tmp 4]) (vs := [_]) rfl ⟨⟨rfl, (rfl : _ = Value.bool _)⟩, trivial⟩ ?_))))))
  exact ⟨congrArg Value.bool hz, g4⟩

theorem c106 {w0 w : World} {F : List (Nat × Obj)} (n lo hi : Int) (b1 b2 : Nat) (h1 : Ats w0 F b1 0 [.int .i64 lo]) (h2 : Ats w0 F b2 0 [.int .i64 hi]) (hs : St w0 w F) :
  Con Tryz.prog 106 [.int .i64 n, .pointer (some ⟨b1,0, none⟩), .pointer (some ⟨b2,0, none⟩)] w fun v w' => v = .bool (out lo hi n) ∧ St w0 w' F := by
  refine zAu (n := 13) func106 rfl rfl (zNl rfl) ?_
  refine zAg (fun K2 g3 => (zAc (zBj rfl rfl (zAe (zAd (g3 _ _ (zAg (fun K4 g0 => (zAc (zBe rfl rfl (w_p (zAk isAgg3 hs rfl rfl h1) rfl ?_)))))))))))
  refine w_p (zCl rfl rfl rfl rfl) rfl (w_p (zAi (v := .bool _) rfl rfl) rfl (zBp (fun h5 => ?_) (fun h5 => ?_)))
  ·
   try simp only [zS] at h5
   refine zAj rfl rfl rfl ?_
   refine zAj rfl rfl rfl ?_
   refine zAj rfl rfl rfl ?_
   refine w_p (zAv (v := _) rfl rfl rfl rfl) rfl (w_p (zAo (v := .bool _) rfl rfl) rfl (zAe (zAd (g0 _ _ (zA7 (zBa (l := [.tmp 4]) (vs := [_]) rfl ⟨⟨rfl, (rfl : _ = Value.bool _)⟩, trivial⟩ ?_))))))
   exact ⟨congrArg Value.bool (by rw [Bool.eq_iff_iff]; simp [out, *] <;> omega), hs⟩
  try simp only [zS] at h5
  refine w_y rfl rfl rfl (zA6 rfl rfl) rfl ?_
  refine w_y rfl rfl rfl (zAk isAgg3 hs rfl rfl h2) rfl ?_
  refine w_y rfl rfl rfl (zEt rfl rfl rfl rfl) rfl ?_
  refine w_p (zBg (v := .bool _) rfl rfl rfl rfl) rfl (w_p (zAo (v := .bool _) rfl rfl) rfl (zAe (zAd (g0 _ _ (zA7 (zBa (l := [.tmp 4]) (vs := [_]) rfl ⟨⟨rfl, (rfl : _ = Value.bool _)⟩, trivial⟩ ?_))))))
  exact ⟨congrArg Value.bool (by rw [Bool.eq_iff_iff]; simp [out, *] <;> omega), hs⟩

theorem c103 {w0 w : World} {F : List (Nat × Obj)} (lo hi : Int) (aa : Option Addr) (l : List Int) (ca : Nat) (hla : l.length ≤ 9223372036854775807) (ha : Sl w0 F aa 1 (l.map fun x => [Value.int .i64 x])) (hs : St w0 w F) :
  Con Tryz.prog 103 [.int .i64 lo, .int .i64 hi, .slice aa l.length ca] w fun v w' => v = .bool (l.any (out lo hi)) ∧ St w0 w' F := by
  refine zAu (n := 10) func103 rfl rfl (zNl rfl) ?_
  refine zAg (fun K2 g0 => (zAc (zCj (v := .int _ _) (cs := [_]) zAb rfl rfl rfl hs (fun b3 w4 g3 => ?_))))
  refine zCj (v := .int _ _) (cs := [_]) zAb rfl rfl rfl g3 (fun b6 w7 g4 => ?_)
  refine zBj rfl rfl (zAe (zAd (g0 _ _ (zAg (fun g7 g5 => (zAc (w_p (zAi (v := .slice _ _ _) rfl rfl) rfl (w_p (zCa (fv := []) (cv := [_,_]) rfl rfl rfl rfl) rfl ?_))))))))
  refine zAr zAb call77 rfl rfl rfl rfl (c77 _ _ _ hla ha.cons.cons call106 _ _ (out lo hi) (fun x _ w hs => c106 _ _ _ _ _ (zAl (i := 1) (vs := [_]) rfl rfl) (zAl (i := 0) (vs := [_]) rfl rfl) hs) g4) ?_
  rintro _ g8 ⟨rfl, g6⟩
  refine w_p (zAo (v := .bool _) rfl rfl) rfl (zAe (zAd (g5 _ _ (zA7 (zBa (l := [.tmp 6]) (vs := [_]) rfl ⟨⟨rfl, (rfl : _ = Value.bool _)⟩, trivial⟩ ?_)))))
  exact ⟨rfl, g6.tail.tail⟩

theorem c78 {w0 w : World} {F : List (Nat × Obj)} (n lo hi : Int) (b1 b2 : Nat) (h1 : Ats w0 F b1 0 [.int .i64 lo]) (h2 : Ats w0 F b2 0 [.int .i64 hi]) (hs : St w0 w F) :
  Con Tryz.prog 78 [.int .i64 n, .pointer (some ⟨b1,0, none⟩), .pointer (some ⟨b2,0, none⟩)] w fun v w' => v = .bool (out lo hi n) ∧ St w0 w' F := by
  refine zAu (n := 13) func78 rfl rfl (zNl rfl) ?_
  refine zAg (fun K2 g3 => (zAc (zBj rfl rfl (zAe (zAd (g3 _ _ (zAg (fun K4 g0 => (zAc (zBe rfl rfl (w_p (zAk isAgg3 hs rfl rfl h1) rfl ?_)))))))))))
  refine w_p (zCl rfl rfl rfl rfl) rfl (w_p (zAi (v := .bool _) rfl rfl) rfl (zBp (fun h5 => ?_) (fun h5 => ?_)))
  ·
   try simp only [zS] at h5
   refine zAj rfl rfl rfl ?_
   refine zAj rfl rfl rfl ?_
   refine zAj rfl rfl rfl ?_
   refine w_p (zAv (v := _) rfl rfl rfl rfl) rfl (w_p (zAo (v := .bool _) rfl rfl) rfl (zAe (zAd (g0 _ _ (zA7 (zBa (l := [.tmp 4]) (vs := [_]) rfl ⟨⟨rfl, (rfl : _ = Value.bool _)⟩, trivial⟩ ?_))))))
   exact ⟨congrArg Value.bool (by rw [Bool.eq_iff_iff]; simp [out, *] <;> omega), hs⟩
  try simp only [zS] at h5
  refine w_y rfl rfl rfl (zA6 rfl rfl) rfl ?_
  refine w_y rfl rfl rfl (zAk isAgg3 hs rfl rfl h2) rfl ?_
  refine w_y rfl rfl rfl (zEt rfl rfl rfl rfl) rfl ?_
  refine w_p (zBg (v := .bool _) rfl rfl rfl rfl) rfl (w_p (zAo (v := .bool _) rfl rfl) rfl (zAe (zAd (g0 _ _ (zA7 (zBa (l := [.tmp 4]) (vs := [_]) rfl ⟨⟨rfl, (rfl : _ = Value.bool _)⟩, trivial⟩ ?_))))))
  exact ⟨congrArg Value.bool (by rw [Bool.eq_iff_iff]; simp [out, *] <;> omega), hs⟩

theorem c51 {w0 w : World} {F : List (Nat × Obj)} (lo hi : Int) (aa : Option Addr) (l : List Int) (ca : Nat) (hla : l.length ≤ 9223372036854775807) (ha : Sl w0 F aa 1 (l.map fun x => [Value.int .i64 x])) (hs : St w0 w F) :
  Con Tryz.prog 51 [.int .i64 lo, .int .i64 hi, .slice aa l.length ca] w fun v w' => v = .bool (l.any (out lo hi)) ∧ St w0 w' F := by
  refine zAu (n := 10) func51 rfl rfl (zNl rfl) ?_
  refine zAg (fun K2 g0 => (zAc (zCj (v := .int _ _) (cs := [_]) zAb rfl rfl rfl hs (fun b3 w4 g3 => ?_))))
  refine zCj (v := .int _ _) (cs := [_]) zAb rfl rfl rfl g3 (fun b6 w7 g4 => ?_)
  refine zBj rfl rfl (zAe (zAd (g0 _ _ (zAg (fun g7 g5 => (zAc (w_p (zAi (v := .slice _ _ _) rfl rfl) rfl (w_p (zCa (fv := []) (cv := [_,_]) rfl rfl rfl rfl) rfl ?_))))))))
  refine zAr zAb call77 rfl rfl rfl rfl (c77 _ _ _ hla ha.cons.cons call78 _ _ (out lo hi) (fun x _ w hs => c78 _ _ _ _ _ (zAl (i := 1) (vs := [_]) rfl rfl) (zAl (i := 0) (vs := [_]) rfl rfl) hs) g4) ?_
  rintro _ g8 ⟨rfl, g6⟩
  refine w_p (zAo (v := .bool _) rfl rfl) rfl (zAe (zAd (g5 _ _ (zA7 (zBa (l := [.tmp 6]) (vs := [_]) rfl ⟨⟨rfl, (rfl : _ = Value.bool _)⟩, trivial⟩ ?_)))))
  exact ⟨rfl, g6.tail.tail⟩

theorem c90 {w0 w : World} {F : List (Nat × Obj)} (n lo hi : Int) (b1 b2 : Nat) (h1 : Ats w0 F b1 0 [.int .i64 lo]) (h2 : Ats w0 F b2 0 [.int .i64 hi]) (hs : St w0 w F) :
  Con Tryz.prog 90 [.int .i64 n, .pointer (some ⟨b1,0, none⟩), .pointer (some ⟨b2,0, none⟩)] w fun v w' => v = .bool (out lo hi n) ∧ St w0 w' F := by
  refine zAu (n := 13) func90 rfl rfl (zNl rfl) ?_
  refine zAg (fun K2 g3 => (zAc (zBj rfl rfl (zAe (zAd (g3 _ _ (zAg (fun K4 g0 => (zAc (zBe rfl rfl (w_p (zAk isAgg3 hs rfl rfl h1) rfl ?_)))))))))))
  refine w_p (zCl rfl rfl rfl rfl) rfl (w_p (zAi (v := .bool _) rfl rfl) rfl (zBp (fun h5 => ?_) (fun h5 => ?_)))
  ·
   try simp only [zS] at h5
   refine zAj rfl rfl rfl ?_
   refine zAj rfl rfl rfl ?_
   refine zAj rfl rfl rfl ?_
   refine w_p (zAv (v := _) rfl rfl rfl rfl) rfl (w_p (zAo (v := .bool _) rfl rfl) rfl (zAe (zAd (g0 _ _ (zA7 (zBa (l := [.tmp 4]) (vs := [_]) rfl ⟨⟨rfl, (rfl : _ = Value.bool _)⟩, trivial⟩ ?_))))))
   exact ⟨congrArg Value.bool (by rw [Bool.eq_iff_iff]; simp [out, *] <;> omega), hs⟩
  try simp only [zS] at h5
  refine w_y rfl rfl rfl (zA6 rfl rfl) rfl ?_
  refine w_y rfl rfl rfl (zAk isAgg3 hs rfl rfl h2) rfl ?_
  refine w_y rfl rfl rfl (zEt rfl rfl rfl rfl) rfl ?_
  refine w_p (zBg (v := .bool _) rfl rfl rfl rfl) rfl (w_p (zAo (v := .bool _) rfl rfl) rfl (zAe (zAd (g0 _ _ (zA7 (zBa (l := [.tmp 4]) (vs := [_]) rfl ⟨⟨rfl, (rfl : _ = Value.bool _)⟩, trivial⟩ ?_))))))
  exact ⟨congrArg Value.bool (by rw [Bool.eq_iff_iff]; simp [out, *] <;> omega), hs⟩

theorem c71 {w0 w : World} {F : List (Nat × Obj)} (lo hi : Int) (aa : Option Addr) (l : List Int) (ca : Nat) (hla : l.length ≤ 9223372036854775807) (ha : Sl w0 F aa 1 (l.map fun x => [Value.int .i64 x])) (hs : St w0 w F) :
  Con Tryz.prog 71 [.int .i64 lo, .int .i64 hi, .slice aa l.length ca] w fun v w' => v = .bool (l.any (out lo hi)) ∧ St w0 w' F := by
  refine zAu (n := 10) func71 rfl rfl (zNl rfl) ?_
  refine zAg (fun K2 g0 => (zAc (zCj (v := .int _ _) (cs := [_]) zAb rfl rfl rfl hs (fun b3 w4 g3 => ?_))))
  refine zCj (v := .int _ _) (cs := [_]) zAb rfl rfl rfl g3 (fun b6 w7 g4 => ?_)
  refine zBj rfl rfl (zAe (zAd (g0 _ _ (zAg (fun g7 g5 => (zAc (w_p (zAi (v := .slice _ _ _) rfl rfl) rfl (w_p (zCa (fv := []) (cv := [_,_]) rfl rfl rfl rfl) rfl ?_))))))))
  refine zAr zAb call77 rfl rfl rfl rfl (c77 _ _ _ hla ha.cons.cons call90 _ _ (out lo hi) (fun x _ w hs => c90 _ _ _ _ _ (zAl (i := 1) (vs := [_]) rfl rfl) (zAl (i := 0) (vs := [_]) rfl rfl) hs) g4) ?_
  rintro _ g8 ⟨rfl, g6⟩
  refine w_p (zAo (v := .bool _) rfl rfl) rfl (zAe (zAd (g5 _ _ (zA7 (zBa (l := [.tmp 6]) (vs := [_]) rfl ⟨⟨rfl, (rfl : _ = Value.bool _)⟩, trivial⟩ ?_)))))
  exact ⟨rfl, g6.tail.tail⟩

end Go.Proofs
set_option maxRecDepth 20000
namespace Go.Proofs
open Go.Proofs.Tryz
open Go.Rt
attribute [local irreducible] WL WC Con Yd At Ats Sl Agree DW
theorem Try_B_fb0 (x0 : Int) (w : World) : (Instr.buildSlice 35 1 [(0, .int .i64 x0)].toArray).run Tryz.prog w = .ok (.slice (some ⟨w.heap.size, 0, none⟩) 1 1) (w.alloc (Go.Rt.blk 3 [.int .i64 x0])) := by kernel_rfl
theorem nmBytes_take (l : List UInt8) : ∀ (f : Bool) (i : Nat), nmBytes f l = true → nmBytes f (l.take i) = true := by
  induction l with
  | nil => intro f i h; simpa using h
  | cons x l ih =>
    intro f i h
    cases i with
    | zero => rfl
    | succ i =>
      simp only [nmBytes, Bool.and_eq_true] at h
      simp only [List.take_succ_cons, nmBytes, Bool.and_eq_true]
      exact ⟨h.1, ih _ i h.2⟩
theorem zFk (s : ByteArray) (i : Nat) (h : i < s.size) (hb : nmByte (decide (i = 0)) s[i] = false) : false = nmOk s := by
  symm
  unfold nmOk
  cases hn : nmBytes true s.data.toList with
  | false => simp
  | true =>
    have := nmBytes_take _ true (i + 1) hn
    rw [zEs s i h, hb] at this
    simp at this
theorem dec (s : ByteArray) (i : Nat) (h : i < s.size) : (s[i].toNat < 128 ∧ (Utf8.decode s i).1 = s[i].toNat ∧ (Utf8.decode s i).2 = 1) ∨ (128 ≤ s[i].toNat ∧ 128 ≤ (Utf8.decode s i).1 ∧ 1 ≤ (Utf8.decode s i).2) := by
  rcases Nat.lt_or_ge s[i].toNat 128 with hlt | hge
  · left; rw [decode_ascii s i h hlt]; exact ⟨hlt, rfl, rfl⟩
  · right; exact ⟨hge, decode_high s i h hge⟩
theorem c95 {w0 w : World} {F : List (Nat × Obj)} (s : ByteArray) (hls : s.size ≤ 9223372036854775807) (hs : St w0 w F) :
  Con Tryz.prog 95 [.string s] w fun v w' => v = .bool (nmOk s) ∧ St w0 w' F := by
  refine zAu (n := 41) func95 rfl rfl (zNl rfl) ?_
  refine zAg (fun K2 gj => (zAc (zBj rfl rfl (zAe (zAd (gj _ _ (zAg (fun K4 gk => (zAg (fun K6 gl => (zAc (w_p (zAi (v := .string _) rfl rfl) rfl ?_))))))))))))
  refine w_rangeStr zAb underlying9 rfl rfl hs (fun b7 w8 gm => ?_)
  refine zAe (zAd (gl _ _ (zA8 ?_)))
  refine zCd [2,3,4,5,8,9,10,11,12,13,14,15,16,17,18,19,20,21,22,23,24,25,26,27,28,29,30,31,32,33,34,35] [] (fun k vs w => ∃ i : Nat, vs = [] ∧ i ≤ s.size ∧ k = s.size - i ∧ nmBytes true (s.data.toList.take i) = true ∧ St w0 w ((b7, .stringIter s i) :: F)) (s.size) ?_ ?_
  ·
   exact ⟨0, rfl, by omega, by omega, rfl, gm⟩
  intro k vs μ gy hI gz g3
  obtain ⟨i, rfl, hia, rfl, hpre, hs⟩ := hI
  refine zAg (fun gA gg => (zAc (w_nextStr (i := 0) zAb rfl rfl hs rfl (fun hp15 gB g0 => ?_) (fun hp15 => ?_))))
  ·
   refine w_p (zAh (v := .bool _) rfl rfl rfl) rfl (zAe (zAd (gg _ _ (zAg (fun gC gn => (zC0 rfl rfl ?_))))))
   refine zAx (zAd (gn _ _ (zA8 ?_)))
   refine zAg (fun gD go => (zAc ?_))
   have hi2 : i < s.size := by omega
   have hd := dec s i hi2
   have hb2 := s[i].toNat_lt
   refine w_p (zAh (v := .int _ _) rfl rfl rfl) rfl (w_p (zAh (v := .int _ _) rfl rfl rfl) rfl (zBs rfl rfl (zBs rfl rfl (zAe (zAd (go _ _ (zAg (fun gE gh => (zAc (zBe rfl rfl ?_))))))))))
   refine w_p (zHh rfl rfl rfl rfl) rfl (w_p (zAi (v := .bool _) rfl rfl) rfl (zBp (fun g6 => ?_) (fun g6 => ?_)))
   ·
    try simp only [zS] at g6
    refine w_y rfl rfl rfl (zA6 rfl rfl) rfl ?_
    refine w_y rfl rfl rfl (zGf rfl rfl rfl rfl) rfl ?_
    refine w_p (zAv (v := .bool _) rfl rfl rfl rfl) rfl (w_p (zAo (v := .bool _) rfl rfl) rfl (zAe (zAd (gh _ _ (zAg (fun gF g4 => (zAc (w_p (zAi (v := .bool _) rfl rfl) rfl ?_))))))))
    refine w_p (zDq rfl rfl) rfl (w_p (zAi (v := .bool _) rfl rfl) rfl (zBp (fun g7 => ?_) (fun g7 => ?_)))
    ·
     try simp only [zS] at g7
     refine w_y rfl rfl rfl (zA6 rfl rfl) rfl ?_
     refine w_y rfl rfl rfl (zB3 rfl rfl rfl rfl) rfl ?_
     refine w_y rfl rfl rfl (zAi (v := .bool _) rfl rfl) rfl ?_
     refine zBp (fun g8 => ?_) (fun g8 => ?_)
     ·
      try simp only [zS] at g8
      refine zAj rfl rfl rfl ?_
      refine zAj rfl rfl rfl ?_
      refine zAj rfl rfl rfl ?_
      refine zBi rfl rfl rfl ?_
      refine zBi rfl rfl rfl ?_
      refine zBi rfl rfl rfl ?_
      refine zBi rfl rfl rfl ?_
      refine zBi rfl rfl rfl ?_
      refine zBi rfl rfl rfl ?_
      refine zAj rfl rfl rfl ?_
      refine w_y rfl rfl rfl (zAv (v := _) rfl rfl rfl rfl) rfl ?_
      refine w_p (zAv (v := .bool _) rfl rfl rfl rfl) rfl (zAe (zAd (g4 _ _ (zC0 rfl rfl ?_))))
      refine zAg (fun gG gp => (zAc (zBj rfl rfl (zAe (zAd (gp _ _ (zA7 (zAy (zAm (zAy (zAm (zBa (l := [.tmp 2]) (vs := [_]) rfl ⟨⟨rfl, (rfl : _ = Value.bool _)⟩, trivial⟩ ?_))))))))))))
      first
        | exact ⟨congrArg Value.bool (zFk s i hi2 (by simp [nmByte]; omega)), g0.tail⟩
        | exact ⟨congrArg Value.bool (by have hil : i = s.size := (by omega); subst hil; rw [List.take_of_length_le (by simp)] at hpre; unfold nmOk; rw [hpre, Bool.eq_iff_iff]; simp [out] <;> omega), g0.tail.tail⟩
     try simp only [zS] at g8
     refine w_y rfl rfl rfl (zA6 rfl rfl) rfl ?_
     refine w_y rfl rfl rfl (zCv rfl rfl rfl rfl) rfl ?_
     refine w_y rfl rfl rfl (zAi (v := .bool _) rfl rfl) rfl ?_
     refine zBp (fun g9 => ?_) (fun g9 => ?_)
     ·
      try simp only [zS] at g9
      refine w_y rfl rfl rfl (zA6 rfl rfl) rfl ?_
      refine w_y rfl rfl rfl (zCl rfl rfl rfl rfl) rfl ?_
      refine w_y rfl rfl rfl (zAi (v := .bool _) rfl rfl) rfl ?_
      refine zBp (fun ga => ?_) (fun ga => ?_)
      ·
       try simp only [zS] at ga
       refine zAj rfl rfl rfl ?_
       refine zAj rfl rfl rfl ?_
       refine w_y rfl rfl rfl (zAv (v := _) rfl rfl rfl rfl) rfl ?_
       refine w_y rfl rfl rfl (zAv (v := .bool _) rfl rfl rfl rfl) rfl ?_
       refine w_y rfl rfl rfl (zBg (v := .bool _) rfl rfl rfl rfl) rfl ?_
       refine w_p (zAv (v := .bool _) rfl rfl rfl rfl) rfl (zAe (zAd (g4 _ _ (zC0 rfl rfl ?_))))
       refine zAg (fun gH gq => (zAc (zBj rfl rfl (zAe (zAd (gq _ _ (zA7 (zAy (zAm (zAy (zAm (zBa (l := [.tmp 2]) (vs := [_]) rfl ⟨⟨rfl, (rfl : _ = Value.bool _)⟩, trivial⟩ ?_))))))))))))
       first
         | exact ⟨congrArg Value.bool (zFk s i hi2 (by simp [nmByte]; omega)), g0.tail⟩
         | exact ⟨congrArg Value.bool (by have hil : i = s.size := (by omega); subst hil; rw [List.take_of_length_le (by simp)] at hpre; unfold nmOk; rw [hpre, Bool.eq_iff_iff]; simp [out] <;> omega), g0.tail.tail⟩
      try simp only [zS] at ga
      refine w_y rfl rfl rfl (zA6 rfl rfl) rfl ?_
      refine w_y rfl rfl rfl (zEt rfl rfl rfl rfl) rfl ?_
      refine w_y rfl rfl rfl (zBg (v := .bool _) rfl rfl rfl rfl) rfl ?_
      refine w_y rfl rfl rfl (zAv (v := .bool _) rfl rfl rfl rfl) rfl ?_
      refine w_y rfl rfl rfl (zBg (v := .bool _) rfl rfl rfl rfl) rfl ?_
      refine w_p (zAv (v := .bool _) rfl rfl rfl rfl) rfl (zAe (zAd (g4 _ _ (zA1 rfl rfl (fun gb => ?_) (fun gb => ?_)))))
      ·
       try simp only [zS] at gb
       refine zAg (fun gI gr => (zAc (zBj rfl rfl (zAe (zAd (gr _ _ (zA7 (zAy (zAm (zAy (zAm (zBa (l := [.tmp 2]) (vs := [_]) rfl ⟨⟨rfl, (rfl : _ = Value.bool _)⟩, trivial⟩ ?_))))))))))))
       first
         | exact ⟨congrArg Value.bool (zFk s i hi2 (by simp [nmByte]; omega)), g0.tail⟩
         | exact ⟨congrArg Value.bool (by have hil : i = s.size := (by omega); subst hil; rw [List.take_of_length_le (by simp)] at hpre; unfold nmOk; rw [hpre, Bool.eq_iff_iff]; simp [out] <;> omega), g0.tail.tail⟩
      try simp only [zS] at gb
      refine zAx (zAn (zAd (g3 _ _ (Nx.intro (s.size - (i + (Utf8.decode s i).2)) ((by omega)) (by repeat (first | exact zA5 | refine zA4 rfl ?_ | refine zAw rfl ?_ _ | refine zAt rfl ?_)) ?_))))
      have hd1 : s[i].toNat < 128 ∧ (Utf8.decode s i).1 = s[i].toNat ∧ (Utf8.decode s i).2 = 1 := (by rcases hd with h | h; exact h; (exfalso; first | omega | (simp only [Bool.or_eq_true, Bool.and_eq_true, decide_eq_true_eq, Bool.not_eq_true', decide_eq_false_iff_not] at *; omega)))
      have hn1 : nmByte (decide (i = 0)) s[i] = true := (by simp [nmByte]; omega)
      refine ⟨i + 1, rfl, by omega, by rw [hd1.2.2], ?_, by rw [← hd1.2.2]; exact g0⟩
      rw [zEs s i hi2, hpre, hn1]; rfl
     try simp only [zS] at g9
     refine zAj rfl rfl rfl ?_
     refine zAj rfl rfl rfl ?_
     refine zAj rfl rfl rfl ?_
     refine zBi rfl rfl rfl ?_
     refine zBi rfl rfl rfl ?_
     refine zAj rfl rfl rfl ?_
     refine w_y rfl rfl rfl (zBg (v := _) rfl rfl rfl rfl) rfl ?_
     refine w_y rfl rfl rfl (zBg (v := .bool _) rfl rfl rfl rfl) rfl ?_
     refine w_p (zAv (v := .bool _) rfl rfl rfl rfl) rfl (zAe (zAd (g4 _ _ (zB7 rfl rfl ?_))))
     refine zAx (zAn (zAd (g3 _ _ (Nx.intro (s.size - (i + (Utf8.decode s i).2)) ((by omega)) (by repeat (first | exact zA5 | refine zA4 rfl ?_ | refine zAw rfl ?_ _ | refine zAt rfl ?_)) ?_))))
     have hd1 : s[i].toNat < 128 ∧ (Utf8.decode s i).1 = s[i].toNat ∧ (Utf8.decode s i).2 = 1 := (by rcases hd with h | h; exact h; (exfalso; first | omega | (simp only [Bool.or_eq_true, Bool.and_eq_true, decide_eq_true_eq, Bool.not_eq_true', decide_eq_false_iff_not] at *; omega)))
     have hn1 : nmByte (decide (i = 0)) s[i] = true := (by simp [nmByte]; omega)
     refine ⟨i + 1, rfl, by omega, by rw [hd1.2.2], ?_, by rw [← hd1.2.2]; exact g0⟩
     rw [zEs s i hi2, hpre, hn1]; rfl
    try simp only [zS] at g7
    refine zAj rfl rfl rfl ?_
    refine zAj rfl rfl rfl ?_
    refine zAj rfl rfl rfl ?_
    refine zBi rfl rfl rfl ?_
    refine zBi rfl rfl rfl ?_
    refine zBi rfl rfl rfl ?_
    refine zBi rfl rfl rfl ?_
    refine zBi rfl rfl rfl ?_
    refine zBi rfl rfl rfl ?_
    refine zBi rfl rfl rfl ?_
    refine zBi rfl rfl rfl ?_
    refine zBi rfl rfl rfl ?_
    refine zBi rfl rfl rfl ?_
    refine zAj rfl rfl rfl ?_
    refine w_p (zBg (v := _) rfl rfl rfl rfl) rfl (zAe (zAd (g4 _ _ (zB7 rfl rfl ?_))))
    refine zAx (zAn (zAd (g3 _ _ (Nx.intro (s.size - (i + (Utf8.decode s i).2)) ((by omega)) (by repeat (first | exact zA5 | refine zA4 rfl ?_ | refine zAw rfl ?_ _ | refine zAt rfl ?_)) ?_))))
    have hd1 : s[i].toNat < 128 ∧ (Utf8.decode s i).1 = s[i].toNat ∧ (Utf8.decode s i).2 = 1 := (by rcases hd with h | h; exact h; (exfalso; first | omega | (simp only [Bool.or_eq_true, Bool.and_eq_true, decide_eq_true_eq, Bool.not_eq_true', decide_eq_false_iff_not] at *; omega)))
    have hn1 : nmByte (decide (i = 0)) s[i] = true := (by simp [nmByte]; omega)
    refine ⟨i + 1, rfl, by omega, by rw [hd1.2.2], ?_, by rw [← hd1.2.2]; exact g0⟩
    rw [zEs s i hi2, hpre, hn1]; rfl
   try simp only [zS] at g6
   refine zAj rfl rfl rfl ?_
   refine zAj rfl rfl rfl ?_
   refine w_p (zBg (v := _) rfl rfl rfl rfl) rfl (w_p (zAo (v := .bool _) rfl rfl) rfl (zAe (zAd (gh _ _ (zAg (fun gJ g5 => (zAc (w_p (zAi (v := .bool _) rfl rfl) rfl ?_))))))))
   refine w_p (zDq rfl rfl) rfl (w_p (zAi (v := .bool _) rfl rfl) rfl (w_y rfl rfl rfl (zA6 rfl rfl) rfl (w_y rfl rfl rfl (zB3 rfl rfl rfl rfl) rfl (w_y rfl rfl rfl (zAi (v := .bool _) rfl rfl) rfl (zBp (fun gc => ?_) (fun gc => ?_))))))
   ·
    try simp only [zS] at gc
    refine zAj rfl rfl rfl ?_
    refine zAj rfl rfl rfl ?_
    refine zAj rfl rfl rfl ?_
    refine zBi rfl rfl rfl ?_
    refine zBi rfl rfl rfl ?_
    refine zBi rfl rfl rfl ?_
    refine zBi rfl rfl rfl ?_
    refine zBi rfl rfl rfl ?_
    refine zBi rfl rfl rfl ?_
    refine zAj rfl rfl rfl ?_
    refine w_y rfl rfl rfl (zAv (v := _) rfl rfl rfl rfl) rfl ?_
    refine w_p (zAv (v := .bool _) rfl rfl rfl rfl) rfl (zAe (zAd (g5 _ _ (zC0 rfl rfl ?_))))
    refine zAg (fun gK gt => (zAc (zBj rfl rfl (zAe (zAd (gt _ _ (zA7 (zAy (zAm (zAy (zAm (zBa (l := [.tmp 2]) (vs := [_]) rfl ⟨⟨rfl, (rfl : _ = Value.bool _)⟩, trivial⟩ ?_))))))))))))
    first
      | exact ⟨congrArg Value.bool (zFk s i hi2 (by simp [nmByte]; omega)), g0.tail⟩
      | exact ⟨congrArg Value.bool (by have hil : i = s.size := (by omega); subst hil; rw [List.take_of_length_le (by simp)] at hpre; unfold nmOk; rw [hpre, Bool.eq_iff_iff]; simp [out] <;> omega), g0.tail.tail⟩
   try simp only [zS] at gc
   refine w_y rfl rfl rfl (zA6 rfl rfl) rfl ?_
   refine w_y rfl rfl rfl (zCv rfl rfl rfl rfl) rfl ?_
   refine w_y rfl rfl rfl (zAi (v := .bool _) rfl rfl) rfl ?_
   refine zBp (fun gd => ?_) (fun gd => ?_)
   ·
    try simp only [zS] at gd
    refine w_y rfl rfl rfl (zA6 rfl rfl) rfl ?_
    refine w_y rfl rfl rfl (zCl rfl rfl rfl rfl) rfl ?_
    refine w_y rfl rfl rfl (zAi (v := .bool _) rfl rfl) rfl ?_
    refine zBp (fun ge => ?_) (fun ge => ?_)
    ·
     try simp only [zS] at ge
     refine zAj rfl rfl rfl ?_
     refine zAj rfl rfl rfl ?_
     refine w_y rfl rfl rfl (zAv (v := _) rfl rfl rfl rfl) rfl ?_
     refine w_y rfl rfl rfl (zAv (v := .bool _) rfl rfl rfl rfl) rfl ?_
     refine w_y rfl rfl rfl (zBg (v := .bool _) rfl rfl rfl rfl) rfl ?_
     refine w_p (zAv (v := .bool _) rfl rfl rfl rfl) rfl (zAe (zAd (g5 _ _ (zC0 rfl rfl ?_))))
     refine zAg (fun gL gu => (zAc (zBj rfl rfl (zAe (zAd (gu _ _ (zA7 (zAy (zAm (zAy (zAm (zBa (l := [.tmp 2]) (vs := [_]) rfl ⟨⟨rfl, (rfl : _ = Value.bool _)⟩, trivial⟩ ?_))))))))))))
     first
       | exact ⟨congrArg Value.bool (zFk s i hi2 (by simp [nmByte]; omega)), g0.tail⟩
       | exact ⟨congrArg Value.bool (by have hil : i = s.size := (by omega); subst hil; rw [List.take_of_length_le (by simp)] at hpre; unfold nmOk; rw [hpre, Bool.eq_iff_iff]; simp [out] <;> omega), g0.tail.tail⟩
    try simp only [zS] at ge
    refine w_y rfl rfl rfl (zA6 rfl rfl) rfl ?_
    refine w_y rfl rfl rfl (zEt rfl rfl rfl rfl) rfl ?_
    refine w_y rfl rfl rfl (zBg (v := .bool _) rfl rfl rfl rfl) rfl ?_
    refine w_y rfl rfl rfl (zAv (v := .bool _) rfl rfl rfl rfl) rfl ?_
    refine w_y rfl rfl rfl (zBg (v := .bool _) rfl rfl rfl rfl) rfl ?_
    refine w_p (zAv (v := .bool _) rfl rfl rfl rfl) rfl (zAe (zAd (g5 _ _ (zA1 rfl rfl (fun gf => ?_) (fun gf => ?_)))))
    ·
     try simp only [zS] at gf
     refine zAg (fun gM gv => (zAc (zBj rfl rfl (zAe (zAd (gv _ _ (zA7 (zAy (zAm (zAy (zAm (zBa (l := [.tmp 2]) (vs := [_]) rfl ⟨⟨rfl, (rfl : _ = Value.bool _)⟩, trivial⟩ ?_))))))))))))
     first
       | exact ⟨congrArg Value.bool (zFk s i hi2 (by simp [nmByte]; omega)), g0.tail⟩
       | exact ⟨congrArg Value.bool (by have hil : i = s.size := (by omega); subst hil; rw [List.take_of_length_le (by simp)] at hpre; unfold nmOk; rw [hpre, Bool.eq_iff_iff]; simp [out] <;> omega), g0.tail.tail⟩
    try simp only [zS] at gf
    refine zAx (zAn (zAd (g3 _ _ (Nx.intro (s.size - (i + (Utf8.decode s i).2)) ((by omega)) (by repeat (first | exact zA5 | refine zA4 rfl ?_ | refine zAw rfl ?_ _ | refine zAt rfl ?_)) ?_))))
    have hd1 : s[i].toNat < 128 ∧ (Utf8.decode s i).1 = s[i].toNat ∧ (Utf8.decode s i).2 = 1 := (by rcases hd with h | h; exact h; (exfalso; first | omega | (simp only [Bool.or_eq_true, Bool.and_eq_true, decide_eq_true_eq, Bool.not_eq_true', decide_eq_false_iff_not] at *; omega)))
    have hn1 : nmByte (decide (i = 0)) s[i] = true := (by simp [nmByte]; omega)
    refine ⟨i + 1, rfl, by omega, by rw [hd1.2.2], ?_, by rw [← hd1.2.2]; exact g0⟩
    rw [zEs s i hi2, hpre, hn1]; rfl
   try simp only [zS] at gd
   refine zAj rfl rfl rfl ?_
   refine zAj rfl rfl rfl ?_
   refine zAj rfl rfl rfl ?_
   refine zBi rfl rfl rfl ?_
   refine zBi rfl rfl rfl ?_
   refine zAj rfl rfl rfl ?_
   refine w_y rfl rfl rfl (zBg (v := _) rfl rfl rfl rfl) rfl ?_
   refine w_y rfl rfl rfl (zBg (v := .bool _) rfl rfl rfl rfl) rfl ?_
   refine w_p (zAv (v := .bool _) rfl rfl rfl rfl) rfl (zAe (zAd (g5 _ _ (zB7 rfl rfl ?_))))
   refine zAx (zAn (zAd (g3 _ _ (Nx.intro (s.size - (i + (Utf8.decode s i).2)) ((by omega)) (by repeat (first | exact zA5 | refine zA4 rfl ?_ | refine zAw rfl ?_ _ | refine zAt rfl ?_)) ?_))))
   have hd1 : s[i].toNat < 128 ∧ (Utf8.decode s i).1 = s[i].toNat ∧ (Utf8.decode s i).2 = 1 := (by rcases hd with h | h; exact h; (exfalso; first | omega | (simp only [Bool.or_eq_true, Bool.and_eq_true, decide_eq_true_eq, Bool.not_eq_true', decide_eq_false_iff_not] at *; omega)))
   have hn1 : nmByte (decide (i = 0)) s[i] = true := (by simp [nmByte]; omega)
   refine ⟨i + 1, rfl, by omega, by rw [hd1.2.2], ?_, by rw [← hd1.2.2]; exact g0⟩
   rw [zEs s i hi2, hpre, hn1]; rfl
  refine w_p (zAh (v := .bool _) rfl rfl rfl) rfl (zAe (zAd (gg _ _ (zAg (fun gN gO => (zB7 rfl rfl ?_))))))
  refine zBy (zAq (zAq (zBc (zAd (gk _ _ (zAg (fun gP gw => (zAc (w_p (zAi (v := .string _) rfl rfl) rfl (w_p (y_lenStr underlying9 rfl rfl) rfl ?_))))))))))
  refine zA3 (ps := [(0, _)]) (pv := [(0, .int _ _)]) (cs := [_]) zAb rfl rfl (fun w => Try_B_fb0 _ w) hs (fun gQ gR gx => ?_)
  refine zAr zAb call103 rfl rfl rfl rfl (c103 _ _ _ [_] _ (by simp) (zBd (i := 0) (rows := [[_]]) rfl (by simp) rfl) gx) ?_
  rintro _ gS ⟨rfl, gi⟩
  refine w_p (zDq rfl rfl) rfl (w_p (zAo (v := .bool _) rfl rfl) rfl (zAe (zAd (gw _ _ (zA7 (zBa (l := [.tmp 2]) (vs := [_]) rfl ⟨⟨rfl, (rfl : _ = Value.bool _)⟩, trivial⟩ ?_))))))
  first
    | exact ⟨congrArg Value.bool (zFk s i hi2 (by simp [nmByte]; omega)), gi.tail⟩
    | exact ⟨congrArg Value.bool (by have hil : i = s.size := (by omega); subst hil; rw [List.take_of_length_le (by simp)] at hpre; unfold nmOk; rw [hpre, Bool.eq_iff_iff]; simp [out] <;> omega), gi.tail.tail⟩

end Go.Proofs
/- Plain words of the hand layer: lots, their errors, their ways. No conditions. -/
namespace Go.Rt.Ha
structure Grade where
  name : ByteArray
  hands : Int
  scars : Int
structure Bunch where
  lo : Int
  hi : Int
  slo : Int
  shi : Int
structure Count where
  bits : Int
  hands : Int
structure Lot where
  grades : List Grade
  bunches : List Bunch
  counts : List Count
def Grade.cells (g : Grade) : List Value := [.string g.name, .int .i64 g.hands, .int .i64 g.scars]
def Bunch.cells (b : Bunch) : List Value := [.int .i64 b.lo, .int .i64 b.hi, .int .i64 b.slo, .int .i64 b.shi]
def Count.cells (c : Count) : List Value := [.int .i64 c.bits, .int .i64 c.hands]
structure At3 where
  ag : Option Addr
  cg : Nat
  ab : Option Addr
  cb : Nat
  ac : Option Addr
  cc : Nat
def Lot.cells (l : Lot) (p : At3) : List Value := [.slice p.ag l.grades.length p.cg, .slice p.ab l.bunches.length p.cb, .slice p.ac l.counts.length p.cc]
def grows (l : List Grade) : List (List Value) := l.map Grade.cells
def brows (l : List Bunch) : List (List Value) := l.map Bunch.cells
def crows (l : List Count) : List (List Value) := l.map Count.cells
def firstE {α : Type} (err : List α → α → Int) : List α → Int → List α → Int × Int
  | _,_, [] => (0,0)
  | b, i, x :: l => if err b x = 0 then firstE err (b ++ [x]) (i + 1) l else (i, err b x)
theorem zCf {α : Type} {err : List α → α → Int} {l : List α} {i : Nat} (hi : i < l.length) (h : err (l.take i) l[i] = 0) : firstE err (l.take i) i (l.drop i) = firstE err (l.take (i + 1)) (i + 1 : Nat) (l.drop (i + 1)) := by
  rw [List.drop_eq_getElem_cons hi]
  simp only [firstE, h, if_true]
  rw [List.take_succ_eq_append_getElem hi]; rfl
theorem zBu {α : Type} {err : List α → α → Int} {l : List α} {i : Nat} (hi : i < l.length) (h : err (l.take i) l[i] ≠ 0) : firstE err (l.take i) i (l.drop i) = ((i : Int), err (l.take i) l[i]) := by
  rw [List.drop_eq_getElem_cons hi]
  simp only [firstE, if_neg h]
theorem zB1 {α : Type} {err : List α → α → Int} {l : List α} {i : Nat} (hi : l.length ≤ i) (b : List α) : firstE err b i (l.drop i) = (0,0) := by
  rw [List.drop_of_length_le hi]; rfl
def nameE (before : List ByteArray) (s : ByteArray) : Int := if nmOk s then (if has before s then 5 else 0) else 6
def notBelow (before : List Grade) (g : Grade) : Bool := match before.getLast? with | none => false | some q => decide (q.hands ≤ g.hands) || decide (g.scars < q.scars)
def gradeE (before : List Grade) (g : Grade) : Int := if nameE (before.map (·.name)) g.name ≠ 0 then nameE (before.map (·.name)) g.name else if out 1 12 g.hands || out 0 9 g.scars then 7 else if notBelow before g then 2 else 0
def bunchE (_before : List Bunch) (b : Bunch) : Int := if out 1 12 b.lo || out 1 12 b.hi || (out 0 9 b.slo || out 0 9 b.shi) then 7 else if out 0 3 (b.hi - b.lo) || decide (b.shi < b.slo) then 2 else 0
def countE (n : Nat) (_before : List Count) (c : Count) : Int := if out 1 (2 ^ n - 1) c.bits then 4 else if out 0 72 c.hands then 7 else 0
def failE {α : Type} (err : List α → α → Int) (lo most : Int) (l : List α) : Int × Int := if out lo most l.length then (0,3) else firstE err [] 0 l
def check (l : Lot) : Int × Int × Int :=
  if (failE gradeE 1 4 l.grades).2 ≠ 0 then (1, failE gradeE 1 4 l.grades) else if (failE bunchE 0 6 l.bunches).2 ≠ 0 then (2, failE bunchE 0 6 l.bunches) else if (failE (countE l.bunches.length) 0 4 l.counts).2 ≠ 0 then (3, failE (countE l.bunches.length) 0 4 l.counts) else (0,0,0)
def upto (lo : Int) : Nat → List Int
  | 0 => []
  | n + 1 => lo :: upto (lo + 1) n
def spanL (lo hi : Int) : List Int := upto lo (hi + 1 - lo).toNat
def felt : List Bunch → List (List Int)
  | [] => [[]]
  | b :: l => (spanL b.lo b.hi).flatMap fun n => (felt l).map (n :: ·)
def bit (b j : Nat) : Nat := (b >>> j) &&& 1
def counted (bits : Nat) : Nat → List Int → Int
  | _, [] => 0
  | i, h :: l => (if bit bits i = 1 then h else 0) + counted bits (i + 1) l
def soFrom (but : Nat) (h : List Int) : Nat → List Count → Bool
  | _, [] => true
  | i, c :: l => (decide (bit but i = 1) || decide (counted c.bits.toNat 0 h = c.hands)) && soFrom but h (i + 1) l
def ways (l : Lot) (but : Nat) : List (List Int) := (felt l.bunches).filter fun h => soFrom but h 0 l.counts
def ofG : List Grade → Int → Int → Int → Int
  | [], _,_, _ => -1
  | g :: l, i, h, s => if g.hands ≤ h ∧ s ≤ g.scars then i else ofG l (i + 1) h s
def orG (gs : List Grade) (h : Int) : List Int → Nat
  | [] => 0
  | s :: l => 1 <<< (ofG gs 0 h s + 1).toNat ||| orG gs h l
def gradesB (l : Lot) (b : Bunch) (h : Int) : Nat := orG l.grades h (spanL b.slo b.shi)
end Go.Rt.Ha
/- Plain words of the hand layer: what the program's functions return. No conditions. -/
namespace Go.Rt.Ha
def idxE (n : Int) (below : Nat) : Int := if out 0 (below - 1) n then 4 else 0
def enterE (l : Lot) (e : Int) : Int := if (check l).2.2 ≠ 0 then (check l).2.2 else if e ≠ 0 then e else if ways l 0 = [] then 8 else 0
def at_ (h : List Int) (b : Nat) : Int := h.getD b 0
def joinS (b : Nat) (s : Int × Int) (h : List Int) : Int × Int := (min s.1 (at_ h b), max s.2 (at_ h b))
def spanW (b : Nat) (ws : List (List Int)) : Int × Int := ws.foldl (joinS b) (12,0)
def bunchOf (l : Lot) (b : Nat) : Bunch := l.bunches.getD b ⟨0,0,0,0⟩
def setW (l : Lot) (b : Nat) (ws : List (List Int)) : Nat := ws.foldl (fun s h => s ||| gradesB l (bunchOf l b) (at_ h b)) 0
def handsP (l : Lot) (b : Int) : (Int × Int) × Int := if enterE l (idxE b l.bunches.length) ≠ 0 then ((0,0), enterE l (idxE b l.bunches.length)) else (spanW b.toNat (ways l 0), 0)
def listL (b : Nat) : Nat → List Int
  | 0 => []
  | n + 1 => listL b n ++ if bit b n = 1 then [(n : Int)] else []
def gradeP (l : Lot) (b : Int) : List Int × Int := if enterE l (idxE b l.bunches.length) ≠ 0 then ([], enterE l (idxE b l.bunches.length)) else ((listL (setW l b.toNat (ways l 0)) (l.grades.length + 1)).map (· - 1), 0)
def sumsTo (l : Lot) (g : Nat) (h : List Int) : Nat → Int × Int
  | 0 => (0,0)
  | k + 1 => let s := sumsTo l g h k; let z := gradesB l (bunchOf l k) (at_ h k)
    if z = 2 <<< g then (s.1 + at_ h k, s.2 + at_ h k) else if bit z (g + 1) = 1 then (s.1, s.2 + at_ h k) else s
def sums (l : Lot) (g : Nat) (h : List Int) : Int × Int := sumsTo l g h l.bunches.length
def totalW (l : Lot) (g : Nat) (ws : List (List Int)) : Int × Int := ws.foldl (fun s h => (min s.1 (sums l g h).1, max s.2 (sums l g h).2)) (72,0)
def totalP (l : Lot) (g : Int) : (Int × Int) × Int := if enterE l (idxE g l.grades.length) ≠ 0 then ((0,0), enterE l (idxE g l.grades.length)) else (totalW l g.toNat (ways l 0), 0)
def sureTo (l : Lot) (ws : List (List Int)) : Nat → List Int
  | 0 => []
  | k + 1 => sureTo l ws k ++ if setW l k ws = 1 then [(k : Int)] else []
def mayTo (l : Lot) (ws : List (List Int)) : Nat → List Int
  | 0 => []
  | k + 1 => mayTo l ws k ++ if setW l k ws &&& 1 = 1 then [(k : Int)] else []
def refusedP (l : Lot) : List Int × List Int × Int := if enterE l 0 ≠ 0 then ([], [], enterE l 0) else (sureTo l (ways l 0) l.bunches.length, mayTo l (ways l 0) l.bunches.length, 0)
def before (a b : List Int) : Bool := decide (a.length < b.length) || (decide (a.length = b.length) && less a b)
def fewStep (do_ : Nat → Bool) (n : Nat) (s : List Int × Bool) (b : Nat) : List Int × Bool := if s.2 && before s.1 (listL b n) then s else if do_ b then (listL b n, true) else s
def fewTo (do_ : Nat → Bool) (n : Nat) : Nat → List Int × Bool
  | 0 => ([], false)
  | k + 1 => fewStep do_ n (fewTo do_ n k) k
def fewest (do_ : Nat → Bool) (n : Nat) : List Int × Bool := fewTo do_ n (1 <<< n)
def fitTo (l : Lot) (g : Nat) (ws : List (List Int)) : Nat → Nat
  | 0 => 0
  | k + 1 => if setW l k ws &&& 1 = 1 ∨ 0 < setW l k ws >>> (g + 2) then fitTo l g ws k else fitTo l g ws k ||| 1 <<< k
def someOf (h : List Int) : List Int → Int
  | [] => 0
  | b :: r => at_ h b.toNat + someOf h r
def bitDiff (a b : Nat) : Nat := a &&& (a ^^^ b)
def pickDo (l : Lot) (g : Nat) (many : Int) (b : Nat) : Bool := decide (bitDiff b (fitTo l g (ways l 0) l.bunches.length) = 0) && (ways l 0).all fun h => decide (many ≤ someOf h (listL b l.bunches.length))
def pickE (l : Lot) (g many : Int) : Int := if idxE g l.grades.length ≠ 0 then idxE g l.grades.length else if out 0 72 many then 7 else 0
def pickP (l : Lot) (g many : Int) : List Int × Int :=
  if enterE l (pickE l g many) ≠ 0 then ([], enterE l (pickE l g many)) else
  if (fewest (pickDo l g.toNat many) l.bunches.length).2 then ((fewest (pickDo l g.toNat many) l.bunches.length).1,0) else ([], 9)
def often (b : Nat) (n : Int) (ws : List (List Int)) : Int := (ws.filter fun h => decide (at_ h b = n)).length
def mostTo (b : Nat) (ws : List (List Int)) : Nat → Int
  | 0 => 0
  | k + 1 => max (mostTo b ws k) (often b k ws)
def leftW (b : Nat) (ws : List (List Int)) : Int := mostTo b ws 13
def nextTo (ws : List (List Int)) : Nat → Int × Int
  | 0 => (-1,0)
  | k + 1 => let s := nextTo ws k
    if leftW k ws < ws.length ∧ (s.1 < 0 ∨ leftW k ws < s.2) then ((k : Int), leftW k ws) else s
def nextP (l : Lot) : Int × Int × Int := if enterE l 0 ≠ 0 then (0,0, enterE l 0) else if (nextTo (ways l 0) l.bunches.length).1 < 0 then (0,0,9) else ((nextTo (ways l 0) l.bunches.length).1, (nextTo (ways l 0) l.bunches.length).2,0)
def wrongP (l : Lot) : List Int × Int := if (check l).2.2 ≠ 0 then ([], (check l).2.2) else ((fewest (fun b => !(ways l b).isEmpty) l.counts.length).1,0)
end Go.Rt.Ha
/- Plain words of lists in their order, and of all sets of some numbers, for all layers. No conditions. -/
namespace Go.Rt
def hasI (l : List Int) (z : Int) : Bool := l.any fun y => decide (y = z)
def othersTo (l : List Int) : Nat → List Int
  | 0 => []
  | i + 1 => if hasI l i then othersTo l i else othersTo l i ++ [(i : Int)]
def leastN (x : List Int) : Int := match x.getLast? with | none => 0 | some z => z + 1
def nextTo (x : List Int) (n : Nat) : List (List Int) := ((List.range n).filter fun q : Nat => decide (leastN x ≤ (q : Int))).map fun q : Nat => x ++ [(q : Int)]
def choices (below : Nat) : Nat → List (List Int)
  | 0 => [[]]
  | i + 1 => (choices below i).flatMap fun x => nextTo x below
def chTo (below i k : Nat) : List (List Int) := ((choices below i).take k).flatMap fun x => nextTo x below
def pickL (shops l : List Int) : List Int := l.map fun z => shops.getD z.toNat 0
def setsMany (shops : List Int) (many : Nat) : List (List Int) := (choices shops.length many).map (pickL shops)
def setsTo (shops : List Int) : Nat → List (List Int)
  | 0 => []
  | k + 1 => setsTo shops k ++ setsMany shops k
def setsL (shops : List Int) : List (List Int) := setsTo shops (shops.length + 1)
namespace Ls
def before (a b : List Int) : Bool := decide (a.length < b.length) || (decide (a.length = b.length) && less a b)
end Ls
end Go.Rt
/- Plain laws of the hand layer: the first of the fewest. No conditions. -/
namespace Go.Rt.Ha
structure FewS (do_ : Nat → Bool) (n k : Nat) (s : List Int × Bool) : Prop where
  no : s.2 = false → s.1 = [] ∧ ∀ b < k, do_ b = false
  yes : s.2 = true → ∃ b, b < k ∧ do_ b = true ∧ s.1 = listL b n ∧ ∀ c < k, do_ c = true → listL c n = s.1 ∨ before s.1 (listL c n) = true
end Go.Rt.Ha
/- Plain laws of the hand layer: grades as lists and as bits, spans, sums. No conditions. -/
namespace Go.Rt.Ha
def gStep (gs : List Grade) (h : Int) (out : List Int) (s : Int) : List Int := if hasI out (ofG gs 0 h s) then out else out ++ [ofG gs 0 h s]
def gradesL (gs : List Grade) (h : Int) (ss : List Int) : List Int := ss.foldl (gStep gs h) []
def onlyG (l : List Int) (g : Int) : Bool := decide (l.length = 1) && decide (l.getD 0 0 = g)
def scarsOf (l : Lot) (b : Nat) : List Int := spanL (bunchOf l b).slo (bunchOf l b).shi
def couldR (l : Lot) (ws : List (List Int)) (b : Nat) (g : Int) : Bool := ws.any fun h => hasI (gradesL l.grades (at_ h b) (scarsOf l b)) g
def mustR (l : Lot) (ws : List (List Int)) (b : Nat) (g : Int) : Bool := ws.all fun h => onlyG (gradesL l.grades (at_ h b) (scarsOf l b)) g
def gradeTo (l : Lot) (ws : List (List Int)) (b : Nat) : Nat → List Int
  | 0 => []
  | k + 1 => gradeTo l ws b k ++ if couldR l ws b ((k : Int) - 1) then [(k : Int) - 1] else []
def spanR (b : Nat) : List (List Int) → Int × Int
  | [] => (0,0)
  | h :: r => r.foldl (joinS b) (at_ h b, at_ h b)
end Go.Rt.Ha
/- Plain laws of the hand layer: lots that are, their ways, totals. No conditions. -/
namespace Go.Rt.Ha
structure Lot.Ok (l : Lot) : Prop where
  lg : 1 ≤ l.grades.length ∧ l.grades.length ≤ 4
  lb : l.bunches.length ≤ 6
  lc : l.counts.length ≤ 4
  grade : ∀ g ∈ l.grades, 1 ≤ g.hands ∧ g.hands ≤ 12 ∧ 0 ≤ g.scars ∧ g.scars ≤ 9
  bunch : ∀ b ∈ l.bunches, 1 ≤ b.lo ∧ b.lo ≤ b.hi ∧ b.hi ≤ 12 ∧ b.hi - b.lo ≤ 3 ∧ 0 ≤ b.slo ∧ b.slo ≤ b.shi ∧ b.shi ≤ 9
  count : ∀ c ∈ l.counts, 1 ≤ c.bits ∧ c.bits ≤ 2 ^ l.bunches.length - 1 ∧ 0 ≤ c.hands ∧ c.hands ≤ 72
theorem firstE_zero {α : Type} (err : List α → α → Int) : ∀ (l b : List α) (i : Int), (firstE err b i l).2 = 0 → ∀ k (h : k < l.length), err (b ++ l.take k) l[k] = 0
  | [], _,_,_, k, h => by simp at h
  | x :: l, b, i, h, k, hk => by
    unfold firstE at h
    by_cases he : err b x = 0
    · rw [if_pos he] at h
      match k with
      | 0 => simpa using he
      | k + 1 =>
        have := firstE_zero err l (b ++ [x]) (i + 1) h k (by simpa using hk)
        simpa using this
    · rw [if_neg he] at h
      exact absurd h he
theorem zDf {α : Type} {err : List α → α → Int} {lo most : Int} {l : List α} (h : (failE err lo most l).2 = 0) : (lo ≤ l.length ∧ (l.length : Int) ≤ most) ∧ ∀ k (h : k < l.length), err (l.take k) l[k] = 0 := by
  unfold failE at h
  split at h
  · cases h
  · rename_i ho
    unfold out at ho
    simp only [Bool.or_eq_true, decide_eq_true_eq, not_or] at ho
    exact ⟨by omega, fun k hk => by simpa using firstE_zero err l [] 0 h k hk⟩
theorem zGs {l : Lot} (h : (check l).2.2 = 0) : (failE gradeE 1 4 l.grades).2 = 0 ∧ (failE bunchE 0 6 l.bunches).2 = 0 ∧ (failE (countE l.bunches.length) 0 4 l.counts).2 = 0 := by
  unfold check at h
  split at h
  · rename_i h1; exact absurd h h1
  · rename_i h1
    split at h
    · rename_i h2; exact absurd h h2
    · rename_i h2
      split at h
      · rename_i h3; exact absurd h h3
      · rename_i h3
        exact ⟨by omega, by omega, by omega⟩
theorem check_ok {l : Lot} (h : (check l).2.2 = 0) : l.Ok := by
  obtain ⟨h1, h2, h3⟩ := zGs h
  have h1 := zDf h1
  have h2 := zDf h2
  have h3 := zDf h3
  refine ⟨by omega, by omega, by omega, fun g hg => ?_, fun b hb => ?_, fun c hc => ?_⟩
  · obtain ⟨k, hk, rfl⟩ := List.getElem_of_mem hg
    have := h1.2 k hk
    unfold gradeE out at this
    split at this
    · rename_i h; exact absurd this h
    · split at this
      · cases this
      · rename_i h
        simp only [Bool.or_eq_true, decide_eq_true_eq, not_or] at h
        omega
  · obtain ⟨k, hk, rfl⟩ := List.getElem_of_mem hb
    have := h2.2 k hk
    unfold bunchE out at this
    split at this
    · cases this
    · rename_i h
      simp only [Bool.or_eq_true, decide_eq_true_eq, not_or] at h
      split at this
      · cases this
      · rename_i h'
        simp only [Bool.or_eq_true, decide_eq_true_eq, not_or] at h'
        omega
  · obtain ⟨k, hk, rfl⟩ := List.getElem_of_mem hc
    have := h3.2 k hk
    unfold countE out at this
    split at this
    · cases this
    · rename_i h
      simp only [Bool.or_eq_true, decide_eq_true_eq, not_or] at h
      split at this
      · cases this
      · rename_i h'
        simp only [Bool.or_eq_true, decide_eq_true_eq, not_or] at h'
        omega
theorem zGz : ∀ (n : Nat) (lo z : Int), z ∈ upto lo n ↔ lo ≤ z ∧ z < lo + n
  | 0, lo, z => by simp [upto]
  | n + 1, lo, z => by
    rw [upto, List.mem_cons, zGz n (lo + 1) z]
    omega
theorem zC1 {lo hi z : Int} : z ∈ spanL lo hi ↔ lo ≤ z ∧ z ≤ hi := by
  unfold spanL; rw [zGz]; omega
theorem felt_in : ∀ (bs : List Bunch) (h : List Int), h ∈ felt bs ↔ h.length = bs.length ∧ ∀ i (hi : i < bs.length), bs[i].lo ≤ at_ h i ∧ at_ h i ≤ bs[i].hi
  | [], h => by simp [felt]
  | b :: bs, h => by
    simp only [felt, List.mem_flatMap, List.mem_map]
    constructor
    · rintro ⟨n, hn, r, hr, rfl⟩
      have ih := (felt_in bs r).1 hr
      refine ⟨by simp [ih.1], fun i hi => ?_⟩
      cases i with
      | zero => exact zC1.1 hn
      | succ i => exact ih.2 i (by simpa using hi)
    · rintro ⟨h1, h2⟩
      cases h with
      | nil => simp at h1
      | cons n r =>
        refine ⟨n, zC1.2 (h2 0 (by simp)), r, (felt_in bs r).2 ⟨by simpa using h1, fun i hi => h2 (i + 1) (by simpa using hi)⟩, rfl⟩
def sumsR (l : Lot) (g : Int) (h : List Int) : Nat → Int × Int
  | 0 => (0,0)
  | k + 1 => let s := sumsR l g h k; let z := gradesL l.grades (at_ h k) (scarsOf l k)
    if hasI z g then ((if z.length = 1 then s.1 + at_ h k else s.1), s.2 + at_ h k) else s
def totStepR (l : Lot) (g : Int) (s : Int × Int) (h : List Int) : Int × Int := (min (min s.1 (sumsR l g h l.bunches.length).1) (sumsR l g h l.bunches.length).2, max (max s.2 (sumsR l g h l.bunches.length).1) (sumsR l g h l.bunches.length).2)
def totalR (l : Lot) (g : Int) (ws : List (List Int)) : Int × Int := ws.foldl (totStepR l g) (72,0)
end Go.Rt.Ha
/- Plain laws of the hand layer: Pick, Next and Wrong, as the reference has them. No conditions. -/
namespace Go.Rt.Ha
def noneTo (l : Lot) (ws : List (List Int)) (b g : Nat) : Nat → Bool
  | 0 => !couldR l ws b (-1)
  | k + 1 => noneTo l ws b g k && !couldR l ws b ((g : Int) + 1 + k)
def fitR (l : Lot) (ws : List (List Int)) (g : Nat) : Nat → List Int
  | 0 => []
  | b + 1 => fitR l ws g b ++ if noneTo l ws b g (l.grades.length - (g + 1)) then [(b : Int)] else []
def leastR (ws : List (List Int)) (own : List Int) : Int := ws.foldl (fun s h => min s (someOf h own)) 72
def pickR (l : Lot) (g many : Int) : List Int × Int :=
  if enterE l (pickE l g many) ≠ 0 then ([], enterE l (pickE l g many)) else
  match (setsL (fitR l (ways l 0) g.toNat l.bunches.length)).find? fun own => decide (many ≤ leastR (ways l 0) own) with | some x => (x, 0) | none => ([], 9)
def soR (but : List Int) (h : List Int) : Nat → List Count → Bool
  | _, [] => true
  | i, c :: l => (hasI but i || decide (counted c.bits.toNat 0 h = c.hands)) && soR but h (i + 1) l
def waysR (l : Lot) (but : List Int) : List (List Int) := (felt l.bunches).filter fun h => soR but h 0 l.counts
def choicesTo (n : Nat) : Nat → List (List Int)
  | 0 => []
  | k + 1 => choicesTo n k ++ choices n k
def wrongR (l : Lot) : List Int × Int := if (check l).2.2 ≠ 0 then ([], (check l).2.2) else
  match (choicesTo l.counts.length l.counts.length).find? fun x => !(waysR l x).isEmpty with | some x => (x, 0) | none => ((choices l.counts.length l.counts.length).getD 0 [], 0)
end Go.Rt.Ha
/- Plain laws of the hand layer: Hands, Grade, Total, Refused and Next, as the reference has them. No conditions. -/
namespace Go.Rt.Ha
structure SpanF (b : Nat) (ws : List (List Int)) (s : Int × Int) : Prop where
  all : ∀ h ∈ ws, s.1 ≤ at_ h b ∧ at_ h b ≤ s.2
  lo : ∃ h ∈ ws, at_ h b = s.1
  hi : ∃ h ∈ ws, at_ h b = s.2
def handsR (l : Lot) (b : Int) : (Int × Int) × Int := if enterE l (idxE b l.bunches.length) ≠ 0 then ((0,0), enterE l (idxE b l.bunches.length)) else (spanR b.toNat (ways l 0), 0)
def gradeR (l : Lot) (b : Int) : List Int × Int := if enterE l (idxE b l.bunches.length) ≠ 0 then ([], enterE l (idxE b l.bunches.length)) else (gradeTo l (ways l 0) b.toNat (l.grades.length + 1), 0)
def totR (l : Lot) (g : Int) : (Int × Int) × Int := if enterE l (idxE g l.grades.length) ≠ 0 then ((0,0), enterE l (idxE g l.grades.length)) else (totalR l g (ways l 0), 0)
def sureR (l : Lot) (ws : List (List Int)) : Nat → List Int
  | 0 => []
  | k + 1 => sureR l ws k ++ if mustR l ws k (-1) then [(k : Int)] else []
def mayR (l : Lot) (ws : List (List Int)) : Nat → List Int
  | 0 => []
  | k + 1 => mayR l ws k ++ if couldR l ws k (-1) then [(k : Int)] else []
def refusedR (l : Lot) : List Int × List Int × Int := if enterE l 0 ≠ 0 then ([], [], enterE l 0) else (sureR l (ways l 0) l.bunches.length, mayR l (ways l 0) l.bunches.length, 0)
def nextRTo (ws : List (List Int)) : Nat → Int × Int
  | 0 => (-1,0)
  | k + 1 => let s := nextRTo ws k
    if (spanR k ws).1 < (spanR k ws).2 ∧ (s.1 < 0 ∨ leftW k ws < s.2) then ((k : Int), leftW k ws) else s
def nextR (l : Lot) : Int × Int × Int := if enterE l 0 ≠ 0 then (0,0, enterE l 0) else if (nextRTo (ways l 0) l.bunches.length).1 < 0 then (0,0,9) else ((nextRTo (ways l 0) l.bunches.length).1, (nextRTo (ways l 0) l.bunches.length).2,0)
end Go.Rt.Ha
/- Plain laws of the hand layer: Check as the reference has it; a lot that is told by a way. No conditions. -/
namespace Go.Rt.Ha
def bunchR (b : Bunch) : Int := if ends b.lo b.hi 1 12 = 7 ∨ ends b.slo b.shi 0 9 = 7 then 7 else if ends b.lo b.hi 1 12 ≠ 0 ∨ ends b.slo b.shi 0 9 ≠ 0 ∨ 3 < b.hi - b.lo then 2 else 0
def allN : Nat → Int
  | 0 => 0
  | k + 1 => 2 * allN k + 1
def toldC (h : List Int) (c : Count) : Count := { c with hands := counted c.bits.toNat 0 h }
def told (l : Lot) (h : List Int) : Lot := { l with counts := l.counts.map (toldC h) }
end Go.Rt.Ha
/- Plain words of the hand layer: all ways, as they are yielded one after the other, filled up to six numbers. No conditions. -/
namespace Go.Rt.Ha
def pad6 (h : List Int) : List Int := h ++ List.replicate (6 - h.length) 0
def segW (l : Lot) (but d : Nat) (pre : List Int) : List (List Int) := (((felt (l.bunches.drop d)).map (pre ++ ·)).filter fun h => soFrom but h 0 l.counts).map pad6
def restW (l : Lot) (but d : Nat) (pre : List Int) (xs : List Int) : List (List Int) := xs.flatMap fun x => segW l but (d + 1) (pre ++ [x])
theorem zE4 {lo : Int} {k n : Nat} (h : k < n) : upto (lo + k) (n - k) = (lo + k) :: upto (lo + (k + 1 : Nat)) (n - (k + 1)) := by
  rw [show n - k = (n - (k + 1)) + 1 by omega, upto, show lo + (k : Int) + 1 = lo + (k + 1 : Nat) by omega]
theorem upto_nodup : ∀ (n : Nat) (lo : Int), (upto lo n).Nodup
  | 0, _ => by simp [upto]
  | n + 1, lo => by
    simp only [upto, List.nodup_cons]
    exact ⟨fun h => by have := (zGz n (lo + 1) lo).1 h; omega, upto_nodup n (lo + 1)⟩
theorem zF7 : ∀ bs : List Bunch, (felt bs).Nodup
  | [] => by simp [felt]
  | b :: bs => by
    have ih := zF7 bs
    have key : ∀ xs : List Int, xs.Nodup → (xs.flatMap fun n => (felt bs).map (n :: ·)).Nodup := by
      intro xs
      induction xs with
      | nil => intro _; simp
      | cons x xs ihx =>
        intro hn
        rw [List.nodup_cons] at hn
        rw [List.flatMap_cons, List.nodup_append]
        refine ⟨by unfold List.Nodup; rw [List.pairwise_map]; exact List.Pairwise.imp (fun h e => h (by simpa using e)) ih, ihx hn.2, ?_⟩
        intro a ha b hb hab
        obtain ⟨u, _, rfl⟩ := List.mem_map.1 ha
        obtain ⟨y, hy, hb⟩ := List.mem_flatMap.1 hb
        obtain ⟨v, _, rfl⟩ := List.mem_map.1 hb
        injection hab with h1 h2
        subst h1
        exact hn.1 hy
    exact key _ (upto_nodup _ _)
theorem zCm {α : Type} {l : List α} {i : Nat} {x : α} {r : List α} (h : l.drop i = x :: r) : i < l.length := by
  rcases Nat.lt_or_ge i l.length with h1 | h1
  · exact h1
  · rw [List.drop_of_length_le h1] at h; cases h
theorem zDd {α : Type} {l : List α} {i : Nat} {x : α} {r : List α} (h : l.drop i = x :: r) : l[i]'(zCm h) = x := by
  rw [List.drop_eq_getElem_cons (zCm h)] at h
  injection h
theorem zCc {α : Type} {l : List α} {i : Nat} {x : α} {r : List α} (h : l.drop i = x :: r) : l.drop (i + 1) = r := by
  rw [List.drop_eq_getElem_cons (zCm h)] at h
  injection h
theorem zCx {α : Type} {l : List α} {i : Nat} (hi : i ≤ l.length) (h : l.drop i = []) : i = l.length := by
  have := congrArg List.length h; simp at this; omega
theorem zEn {α : Type} {l : List α} {i : Nat} {x : α} {r : List α} (hn : l.Nodup) (h : l.drop i = x :: r) : x ∉ r := by
  have h1 : (l.drop i).Nodup := List.Sublist.nodup (List.drop_sublist _ _) hn
  rw [h, List.nodup_cons] at h1; exact h1.1
theorem cur_pad {cur pre : List Int} {d : Nat} (hl : cur.length = 6) (hp : pre.length = d) (hk : cur.take d = pre) (hz : ∀ j, d ≤ j → cur.getD j 0 = 0) : cur = pad6 pre := by
  apply List.ext_getElem?
  intro j
  unfold pad6
  subst hk
  have hpl : (cur.take d).length ≤ 6 := by simp; omega
  by_cases hj : j < d
  · by_cases h6 : j < 6
    · rw [List.getElem?_append_left (by simp; omega), List.getElem?_take, if_pos hj]
    · rw [List.getElem?_eq_none (by omega), List.getElem?_eq_none (by simp; omega)]
  · by_cases h6 : j < 6
    · rw [List.getElem?_append_right (by simp; omega), List.getElem?_replicate, if_pos (by simp at *; omega)]
      have := hz j (by omega)
      simpa [List.getD, show j < cur.length by omega] using this
    · rw [List.getElem?_eq_none (by omega), List.getElem?_eq_none (by simp; omega)]
theorem zC6 {cur pre : List Int} {d : Nat} {x : Int} (hk : cur.take d = pre) (hd : d < cur.length) : (cur.set d x).take (d + 1) = pre ++ [x] := by
  rw [List.take_succ_eq_append_getElem (by simpa using hd), List.take_set_of_le (Nat.le_refl _), hk]; simp
theorem zCw {cur : List Int} {d n : Nat} {x : Int} (hd : d < n) (hz : ∀ j, n ≤ j → cur.getD j 0 = 0) : ∀ j, n ≤ j → (cur.set d x).getD j 0 = 0 := by
  intro j hj
  have := hz j hj
  simp only [List.getD, List.getElem?_set_ne (show d ≠ j by omega)] at this ⊢; exact this
theorem zB8 {cur pre : List Int} {d : Nat} {x : Int} (hk : cur.take (d + 1) = pre ++ [x]) (hp : pre.length = d) : cur.take d = pre := by
  have h := congrArg (List.take d) hk
  rw [List.take_take, Nat.min_eq_left (by omega)] at h
  rw [h, ← hp]; simp
end Go.Rt.Ha
/- The walking engine, part 10: bits of numbers, numbers within arrays of a struct, maps by structs of numbers. No conditions. -/
namespace Go.Rt
open Go.RowKit
section
variable {r : Option Nat} {P : Program} {ops : Array Oper} {Q : Exit → Act → World → Prop} {rest : List Oper} {n : Nat} {ρ : Nat → Value} {ds : List Deferred} {d : Option Tmp} {ty : TypeId} {p : String} {e : Array Edge} {g : Option (Nat × Bool)} {w w0 : World} {L : List (Nat × Obj)}
theorem ofI (a : Nat) (ha : a < 9223372036854775808) : (BitVec.ofInt 64 (a : Int)).toNat = a := by
  rw [BitVec.ofInt_natCast, BitVec.toNat_ofNat]; exact Nat.mod_eq_of_lt (by omega)
theorem y_and {t t2 : TypeId} {u v : Operand} {a b : Int} {x y : Nat} (ho : okO n u = true) (ho1 : okO n v = true) (hx : ev ρ u = .int .i64 a) (hy : ev ρ v = .int .i64 b) (ha : a = (x : Int)) (hb : b = (y : Int)) (h1 : x < 9223372036854775808) (h2 : y < 9223372036854775808) :
    Yd P (A n ρ ds) ⟨d, .binOp .and t u v t2, ty, p, e, g⟩ w (.int .i64 ((x &&& y : Nat) : Int)) := by
  subst ha hb
  refine zGw ho ho1 hx hy fun w => ?_
  have hle : x &&& y < 2 ^ 63 := Nat.and_lt_two_pow _ (by omega)
  have : Go.bits .and .i64 (x : Int) (y : Int) = ((x &&& y : Nat) : Int) := by
    show IntKind.i64.wrap ((BitVec.ofInt 64 (x : Int) &&& BitVec.ofInt 64 (y : Int)).toNat : Int) = _
    rw [BitVec.toNat_and, ofI x h1, ofI y h2, zGj (by omega) (by omega)]
  rw [binOp_and, intBits_and, this]; rfl
theorem y_or {t t2 : TypeId} {u v : Operand} {a b : Int} {x y : Nat} (ho : okO n u = true) (ho1 : okO n v = true) (hx : ev ρ u = .int .i64 a) (hy : ev ρ v = .int .i64 b) (ha : a = (x : Int)) (hb : b = (y : Int)) (h1 : x < 9223372036854775808) (h2 : y < 9223372036854775808) :
    Yd P (A n ρ ds) ⟨d, .binOp .or t u v t2, ty, p, e, g⟩ w (.int .i64 ((x ||| y : Nat) : Int)) := by
  subst ha hb
  refine zGw ho ho1 hx hy fun w => ?_
  have hle : x ||| y < 2 ^ 63 := Nat.or_lt_two_pow (by omega) (by omega)
  have : Go.bits .or .i64 (x : Int) (y : Int) = ((x ||| y : Nat) : Int) := by
    show IntKind.i64.wrap ((BitVec.ofInt 64 (x : Int) ||| BitVec.ofInt 64 (y : Int)).toNat : Int) = _
    rw [BitVec.toNat_or, ofI x h1, ofI y h2, zGj (by omega) (by omega)]
  rw [binOp_or, intBits_or, this]; rfl
def bitDiff (x y : Nat) : Nat := (BitVec.ofNat 64 x &&& ~~~(BitVec.ofNat 64 y)).toNat
theorem bitDiff_le (x y : Nat) (h : x < 9223372036854775808) : bitDiff x y ≤ x := by
  unfold bitDiff
  rw [BitVec.toNat_and, BitVec.toNat_ofNat, Nat.mod_eq_of_lt (by omega)]
  exact Nat.and_le_left
theorem y_andNot {t t2 : TypeId} {u v : Operand} {a b : Int} {x y : Nat} (ho : okO n u = true) (ho1 : okO n v = true) (hx : ev ρ u = .int .i64 a) (hy : ev ρ v = .int .i64 b) (ha : a = (x : Int)) (hb : b = (y : Int)) (h1 : x < 9223372036854775808) :
    Yd P (A n ρ ds) ⟨d, .binOp .andNot t u v t2, ty, p, e, g⟩ w (.int .i64 ((bitDiff x y : Nat) : Int)) := by
  subst ha hb
  refine zGw ho ho1 hx hy fun w => ?_
  have hle := bitDiff_le x y h1
  have : Go.bits .andNot .i64 (x : Int) (y : Int) = ((bitDiff x y : Nat) : Int) := by
    show IntKind.i64.wrap ((BitVec.ofInt 64 (x : Int) &&& ~~~(BitVec.ofInt 64 (y : Int))).toNat : Int) = _
    rw [BitVec.ofInt_natCast, BitVec.ofInt_natCast]
    exact zGj (z := ((bitDiff x y : Nat) : Int)) (by omega) (by omega)
  rw [binOp_andNot, intBits_andNot, this]; rfl
theorem y_shr {t t2 : TypeId} {u v : Operand} {a b : Int} {x y : Nat} (ho : okO n u = true) (ho1 : okO n v = true) (hx : ev ρ u = .int .i64 a) (hy : ev ρ v = .int .i64 b) (ha : a = (x : Int)) (hb : b = (y : Int)) (h2 : y ≤ 60) :
    Yd P (A n ρ ds) ⟨d, .binOp .shr t u v t2, ty, p, e, g⟩ w (.int .i64 ((x >>> y : Nat) : Int)) := by
  subst ha hb
  refine zGw ho ho1 hx hy fun w => ?_
  rw [binOp_shr]
  unfold Op.shift
  have hb : IntKind.i64.bits = 64 := rfl
  rw [if_neg (by omega)]
  simp only [Int.toNat_natCast, hb, Nat.min_eq_left (show y ≤ 64 by omega), Sem.run_pure]
  congr 2
  rw [Int.fdiv_eq_ediv_of_nonneg _ (by exact_mod_cast Nat.zero_le _), Nat.shiftRight_eq_div_pow]
  norm_cast
theorem y_shl {t t2 : TypeId} {u v : Operand} {a b : Int} {x y : Nat} (ho : okO n u = true) (ho1 : okO n v = true) (hx : ev ρ u = .int .i64 a) (hy : ev ρ v = .int .i64 b) (ha : a = (x : Int)) (hb : b = (y : Int)) (h1 : x ≤ 1000) (h2 : y ≤ 40) :
    Yd P (A n ρ ds) ⟨d, .binOp .shl t u v t2, ty, p, e, g⟩ w (.int .i64 ((x <<< y : Nat) : Int)) := by
  subst ha hb
  refine zGw ho ho1 hx hy fun w => ?_
  rw [binOp_shl]
  unfold Op.shift
  have hb : IntKind.i64.bits = 64 := rfl
  rw [if_neg (by omega)]
  simp only [Int.toNat_natCast, hb, Nat.min_eq_left (show y ≤ 64 by omega), Sem.run_pure]
  have h3 : x * 2 ^ y ≤ 1000 * 2 ^ 40 := Nat.mul_le_mul h1 (Nat.pow_le_pow_right (by omega) h2)
  have h4 : (x : Int) * 2 ^ y = ((x * 2 ^ y : Nat) : Int) := by push_cast; rfl
  rw [h4, zGj (by omega) (by omega), Nat.shiftLeft_eq]
theorem zD5 {b i o : Nat} {t : TypeId} {l : List Int} (hi : L[i]? = some (b, blk t (iv l))) (hj : o < l.length) : Ats w0 L b o [.int .i64 (l.getD o 0)] := by
  have := zCy (w0 := w0) (j := o) hi hj
  rwa [show 0 + o * 1 = o by omega] at this
theorem w_storeAtIO {t : TypeId} {x y : Operand} {b i o j : Nat} {tb : TypeId} {l : List Int} {z : Int} (hw : Want ops (A n ρ ds) ⟨none, .store t x y, ty, p, e, g⟩) (hs : ∀ w, (sizeOf t).run P w = .ok 1 w)
    (ho : okO n x = true) (ho1 : okO n y = true) (hx : ev ρ x = .pointer (some ⟨b, o + j * 1, none⟩)) (hy : ev ρ y = .int .i64 z) (hst : St w0 w L) (hi : L[i]? = some (b, blk tb (iv l))) (hl : o + j < l.length)
    (hk : ∀ w', St w0 w' (L.set i (b, blk tb (iv (l.set (o + j) z)))) → WL r P ops Q rest (A n ρ ds) w') :
    WL r P ops Q (⟨none, .store t x y, ty, p, e, g⟩ :: rest) (A n ρ ds) w :=
  zDr (j := o + j) hw hs ho ho1 (by rw [hx, show 0 + (o + j) * 1 = o + j * 1 by omega]) hy hst hi hl hk
theorem zEp {t : TypeId} {x y : Operand} {b i o : Nat} {tb : TypeId} {l : List Int} {z : Int} (hw : Want ops (A n ρ ds) ⟨none, .store t x y, ty, p, e, g⟩) (hs : ∀ w, (sizeOf t).run P w = .ok 1 w)
    (ho : okO n x = true) (ho1 : okO n y = true) (hx : ev ρ x = .pointer (some ⟨b, o, none⟩)) (hy : ev ρ y = .int .i64 z) (hst : St w0 w L) (hi : L[i]? = some (b, blk tb (iv l))) (hl : o < l.length)
    (hk : ∀ w', St w0 w' (L.set i (b, blk tb (iv (l.set o z)))) → WL r P ops Q rest (A n ρ ds) w') :
    WL r P ops Q (⟨none, .store t x y, ty, p, e, g⟩ :: rest) (A n ρ ds) w :=
  zDr (j := o) hw hs ho ho1 (by rw [hx, show 0 + o * 1 = o by omega]) hy hst hi hl hk
theorem y_loadIP {k o : Nat} {t : TypeId} {x : Operand} {b i : Nat} {tb : TypeId} {l : List Int} (ha : ∀ w, (isAgg t).run P w = .ok true w) (hs : ∀ w, (sizeOf t).run P w = .ok k w) (hkl : o + k ≤ l.length) (hst : St w0 w L) (ho : okO n x = true) (hx : ev ρ x = .pointer (some ⟨b, o, none⟩))
    (hi : L[i]? = some (b, blk tb (iv l))) : Yd P (A n ρ ds) ⟨d, .load t x, ty, p, e, g⟩ w (ia ((l.drop o).take k)) := by
  have hl : (iv ((l.drop o).take k)).length = k := by simp; omega
  have := zA9 (d := d) (ty := ty) (p := p) (e := e) (g := g) (P := P) (ds := ds) (vs := iv ((l.drop o).take k)) ha (by rw [hl]; exact hs) hst ho hx (zAl hi (by rw [hl]; simp [iv, List.map_drop, List.map_take]))
  exact this
theorem y_indexV {t el len : TypeId} {x y : Operand} {a : Value} {l : List Int} {z : Int} {i : Nat} (hU : P.underlying t = some (.array len el)) (hel : P.underlying el = some (.int .i64)) (hsz : ∀ w, (sizeOf el).run P w = .ok 1 w) (ho : okO n x = true) (ho1 : okO n y = true)
    (hx : ev ρ x = a) (ha : a = ia l) (hy : ev ρ y = .int .i64 z) (hz : z = (i : Int)) (hi : i < len) (hl : i < l.length) : Yd P (A n ρ ds) ⟨d, .index t x y, ty, p, e, g⟩ w (.int .i64 (l.getD i 0)) := by
  subst hz ha
  have e1 : (iv l).toArray[i * 1]? = some (.int .i64 (l.getD i 0)) := by simp [hl]
  have hp := zC7 (P := P) (w := w) hel e1
  have : (Instr.index t (ia l) (.int .i64 (i : Int))).run P w = .ok (.int .i64 (l.getD i 0)) w := by
    unfold Instr.index ia
    simp only [asIntOf, Sem.run_bind, Sem.run_pure, Result.andThen_ok, run_underlying hU]
    rw [if_pos ⟨by omega, by omega⟩]
    simp only [Sem.run_bind, hsz, Result.andThen_ok, Int.toNat_natCast, hp]
  simp only [Yd, execOp, zB2 ho, zB2 ho1, hx, hy, Sem.run_bind, this]
  rfl
theorem zFg {t : TypeId} {k o : Nat} (ha : ∀ w, (isAgg t).run P w = .ok true w) (hs : ∀ w, (sizeOf t).run P w = .ok k w) {l : List Int} : (part t (iv l).toArray o).run P w = .ok (ia ((l.drop o).take k)) w := by
  unfold part
  simp only [Sem.run_bind, ha, Result.andThen_ok, if_true, hs, Sem.run_pure]
  congr 2
  simp [iv, List.map_drop, List.map_take, List.extract_eq_take_drop]
def FF (P : Program) (f : Field) (k : Nat) : Prop := f.name ≠ "_" ∧ ((P.underlying f.type = some (.int .i64) ∧ k = 1) ∨ (flatInts P f.type k = true ∧ (∀ w, (isAgg f.type).run P w = .ok true w) ∧ ∀ w, (sizeOf f.type).run P w = .ok k w))
theorem zHa (dd : Nat) (l m : List Int) : ∀ (fs : List (Field × Nat)), (∀ q ∈ fs, FF P q.1 q.2 ∧ q.1.offset + q.2 ≤ l.length ∧ q.1.offset + q.2 ≤ m.length) →
    (Op.eqFields (dd + 2) (iv l).toArray (iv m).toArray (fs.map Prod.fst)).run P w = .ok (fs.all fun q => decide ((l.drop q.1.offset).take q.2 = (m.drop q.1.offset).take q.2)) w
  | [], _ => by simp [Op.eqFields]
  | q :: fs, hh => by
    obtain ⟨⟨hn, hff⟩, h1, h2⟩ := hh q (.head _)
    have ih := zHa dd l m fs fun j hj => hh j (.tail _ hj)
    have key : ∃ u v : Value, (part q.1.type (iv l).toArray q.1.offset).run P w = .ok u w ∧ (part q.1.type (iv m).toArray q.1.offset).run P w = .ok v w ∧ (Op.equalIn (dd + 2) q.1.type u v).run P w = .ok (decide ((l.drop q.1.offset).take q.2 = (m.drop q.1.offset).take q.2)) w := by
      rcases hff with ⟨hu, hk⟩ | ⟨hf, ha, hs⟩
      · have e1 : (iv l).toArray[q.1.offset]? = some (.int .i64 (l.getD q.1.offset 0)) := by simp [show q.1.offset < l.length by omega]
        have e2 : (iv m).toArray[q.1.offset]? = some (.int .i64 (m.getD q.1.offset 0)) := by simp [show q.1.offset < m.length by omega]
        refine ⟨_, _, zC7 hu e1, zC7 hu e2, ?_⟩
        rw [run_equalIn_int w (dd + 1) q.1.type .i64 .i64 _ _ hu, hk]
        congr 1
        rw [List.drop_eq_getElem_cons (show q.1.offset < l.length by omega), List.drop_eq_getElem_cons (show q.1.offset < m.length by omega)]
        simp only [List.take_succ_cons, List.take_zero, List.cons.injEq, and_true]
        have g1 : l.getD q.1.offset 0 = l[q.1.offset]'(by omega) := by simp [List.getD, show q.1.offset < l.length by omega]
        have g2 : m.getD q.1.offset 0 = m[q.1.offset]'(by omega) := by simp [List.getD, show q.1.offset < m.length by omega]
        rw [g1, g2]
        rfl
      · refine ⟨_, _, zFg ha hs, zFg ha hs, ?_⟩
        have hl1 : ((l.drop q.1.offset).take q.2).length = q.2 := by simp; omega
        have hl2 : ((m.drop q.1.offset).take q.2).length = q.2 := by simp; omega
        exact zD8 dd (by rw [hl1]; exact hf) (by rw [hl1, hl2])
    obtain ⟨u, v, k1, k2, k3⟩ := key
    simp only [List.map_cons, Op.eqFields, hn, ne_eq, not_false_eq_true, if_true, Sem.run_bind, k1, k2, k3, Result.andThen_ok]
    simp only [List.all_cons]
    by_cases hv : (l.drop q.1.offset).take q.2 = (m.drop q.1.offset).take q.2
    · rw [decide_eq_true hv]
      simp only [Bool.not_true, Bool.false_eq_true, if_false, Bool.true_and]
      exact ih
    · rw [decide_eq_false hv]
      simp only [Bool.not_false, if_true, Sem.run_pure, Bool.false_and]
structure KeyTy (P : Program) (t : TypeId) (n : Nat) : Prop where
  chk : ∀ (em : Bool) (l : List Int) (w : World), l.length = n → (Instr.checkKey em 10000 t (ia l)).run P w = .ok () w
  eq : ∀ (l m : List Int) (w : World), l.length = n → m.length = n → (Op.equal t (ia l) (ia m)).run P w = .ok (decide (l = m)) w
  desc : ∃ u, P.underlying t = some u ∧ (∀ (l : List Int) (e : MapEntry) (es : List MapEntry), Instr.findNow u (ia l) (e :: es) 0 = none) ∧ ∀ (l : List Int) (w : World), (Instr.findKey t (ia l) []).run P w = .ok none w
theorem keyTy_struct {t : TypeId} {fs : Array Field} {k : Nat} (fq : List (Field × Nat)) (hu : P.underlying t = some (.struct fs)) (hp : P.stoodInHeld t = false) (hfs : fs.toList = fq.map Prod.fst) (hff : ∀ q ∈ fq, FF P q.1 q.2 ∧ q.1.offset + q.2 ≤ k)
    (hck : ∀ q ∈ fq, P.underlying q.1.type = some (.int .i64) ∨ ∃ el, P.underlying q.1.type = some (.array q.2 el) ∧ P.underlying el = some (.int .i64) ∧ ∀ w, (sizeOf el).run P w = .ok 1 w)
    (hcov : ∀ l m : List Int, l.length = k → m.length = k → (fq.all fun q => decide ((l.drop q.1.offset).take q.2 = (m.drop q.1.offset).take q.2)) = decide (l = m)) : KeyTy P t k := by
  refine ⟨fun em l w hl => ?_, fun l m w hl hm => ?_, ⟨_, hu, fun l e es => ?_, fun l w => ?_⟩⟩
  · have one : ∀ q ∈ fq, ∀ w, q.1.name ≠ "_" ∧ ∃ v, (part q.1.type (iv l).toArray q.1.offset).run P w = .ok v w ∧ (Instr.checkKey em 9999 q.1.type v).run P w = .ok () w := by
      intro q hq w
      obtain ⟨⟨hn, hf⟩, ho⟩ := hff q hq
      refine ⟨hn, ?_⟩
      rcases hf with ⟨hi, hk1⟩ | ⟨hf, ha, hs⟩
      · have e1 : (iv l).toArray[q.1.offset]? = some (.int .i64 (l.getD q.1.offset 0)) := by simp [show q.1.offset < l.length by omega]
        refine ⟨_, zC7 hi e1, ?_⟩
        unfold Instr.checkKey
        simp [Sem.run_bind, run_underlying hi, Result.andThen]
      · refine ⟨_, zFg ha hs, ?_⟩
        rcases hck q hq with hi | ⟨el, h1, h2, h3⟩
        · exfalso
          unfold flatInts at hf
          rw [hi] at hf
          cases hf
        · exact zEw (dd := 9997) h1 (by simp; omega) h2 h3
    rw [show (10000 : Nat) = 9999 + 1 from rfl, Instr.checkKey]
    unfold ia
    simp only [Sem.run_bind, run_underlying hu, Result.andThen_ok]
    rw [← Array.forIn_toList, hfs]
    have : ∀ (q : List (Field × Nat)), (∀ x ∈ q, x ∈ fq) → ∀ w, (forIn (q.map Prod.fst) PUnit.unit fun f _ => (do
        if f.name ≠ "_" then Instr.checkKey em 9999 f.type (← part f.type (iv l).toArray f.offset)
        pure (ForInStep.yield PUnit.unit) : Sem (ForInStep PUnit)) : Sem PUnit).run P w = .ok PUnit.unit w := by
      intro q
      induction q with
      | nil => intro _ w; simp
      | cons x q ih =>
        intro hx w
        obtain ⟨hn, v, h1, h2⟩ := one x (hx x (.head _)) w
        simp only [List.map_cons, List.forIn_cons, Sem.run_bind, hn, ne_eq, not_false_eq_true, if_true, h1, h2, Result.andThen_ok, Sem.run_pure]
        exact ih (fun y hy => hx y (.tail _ hy)) w
    have h := this fq (fun _ h => h) w
    exact congrArg (fun r => Result.andThen r fun a w' => Sem.run P (pure ()) w') h
  · have hfo : P.fieldsOf t = fs := by simp [Program.fieldsOf, hu]
    show (Op.equalIn ((9997 + 2) + 1) t (.agg (iv l).toArray) (.agg (iv m).toArray)).run P w = _
    rw [run_equalIn_struct w (9997 + 2) t _ _ (by rw [hfo]; exact hu) hp, hfo, hfs, zHa 9997 l m fq (fun q hq => ⟨(hff q hq).1, by have := (hff q hq).2; omega, by have := (hff q hq).2; omega⟩), hcov l m hl hm]
  · simp [Instr.findNow, Instr.sameNow]
  · simp [Instr.findKey, Sem.run_bind, run_underlying hu, Result.andThen, Instr.findNow]
end
end Go.Rt
