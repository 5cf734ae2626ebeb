/- Plain words of names, spans and lists of numbers: what the helpers that all layers share compute. No conditions. -/
import GoSem.Core.Value
namespace Go.Rt

/-- A byte of a name: a letter, or later a digit or a dot. -/
def nmByte (first : Bool) (c : UInt8) : Bool := (97 ≤ c.toNat && c.toNat ≤ 122) || (!first && (c.toNat == 46 || (48 ≤ c.toNat && c.toNat ≤ 57)))
def nmBytes : Bool → List UInt8 → Bool
  | _, [] => true
  | first, c :: l => nmByte first c && nmBytes false l
/-- A name. -/
def nmOk (s : ByteArray) : Bool := (1 ≤ s.size && s.size ≤ 16) && nmBytes true s.data.toList
/-- Whether a string is among others. -/
def has (l : List ByteArray) (s : ByteArray) : Bool := l.any fun x => decide (x = s)
/-- A number that is not from lo to hi. -/
def out (lo hi n : Int) : Bool := decide (n < lo) || decide (hi < n)
/-- The error of a span whose ends have to be from lo to hi. -/
def ends (a b lo hi : Int) : Int := if out lo hi a || out lo hi b then 7 else if b < a then 2 else 0
/-- Whether a list comes before another one. -/
def less : List Int → List Int → Bool
  | _, [] => false
  | [], _ :: _ => true
  | a :: l, b :: m => if a = b then less l m else decide (a < b)
theorem less_irrefl (l : List Int) : less l l = false := by
  induction l with
  | nil => rfl
  | cons a l ih => simp [less, ih]
theorem less_both : ∀ (l m : List Int), l.length = m.length → less l m = false → less m l = false → l = m
  | [], [], _, _, _ => rfl
  | a :: l, b :: m, hl, h1, h2 => by
    simp only [less] at h1 h2
    by_cases e : a = b
    · subst e
      simp only [if_true] at h1 h2
      rw [less_both l m (by simpa using hl) h1 h2]
    · rw [if_neg e] at h1
      rw [if_neg (Ne.symm e)] at h2
      simp only [decide_eq_false_iff_not] at h1 h2
      omega
  | [], _ :: _, hl, _, _ => by simp at hl
  | _ :: _, [], hl, _, _ => by simp at hl
/-- Two lists of the same numbers. -/
theorem ints_eq (l m : List Int) : (decide (l.length = m.length) && (!less l m && !less m l)) = decide (l = m) := by
  rw [Bool.eq_iff_iff]
  simp only [Bool.and_eq_true, decide_eq_true_eq, Bool.not_eq_true']
  constructor
  · rintro ⟨h1, h2, h3⟩; exact less_both l m h1 h2 h3
  · rintro rfl; exact ⟨rfl, less_irrefl _, less_irrefl _⟩
end Go.Rt
