/-
  No cell of these rows narrows 'for every input' (looked for: loops, veiled, ifaces, maps, wideKeys, modest, calm, conditions, laid).
  DERIVED. THE GIVEN ROWS OF THIS SEAT. 13 by the template 'for every input the law returns true; each argument reads behind the call as it read before'; 0 by the template 'total and deterministic' (their statements: YtiemgahjdgajmaaTotals.lean).
  GIVEN WITH THE SEED: the statements are not yours to turn. If you find one false, say at which input.
  Laid BY PROGRAM, IN A SANDBOX (cutbox-rows.mjs): the forced cells as the released guide's own fill.sh prints them over the translation d96dba4484f6b914… (all of the seat's roots in one cut). By AI agents, Wed Nov 11 2026. No macro, syntax, notation, axiom, sorry.
-/
import Derived.Test.YtiemgahjdgajmaaChecked
import GoSem.Claim
import GoSem.ClaimJoined
import GoSem.ClaimMapViews
import Derived.JoinedTies
import Derived.KernelRfl
namespace Go.Proofs.Ytiemgahjdgajmaa
/- THE CELL 'sum', in the pinned program and in every row, IS THE sha256 OF THE DUMP (.gsa) THAT YtiemgahjdgajmaaProg.lean LOADS. Nothing in Lean hashes anything: it is a label: what it is worth is what the hold of that sum in a sandbox is worth. -/
noncomputable def Try.pinned : Pinned := { name := "ytiemgahjdgajmaa", sum := "d96dba4484f6b914d91c1735664d211dd5e98879a955e48b1c5647238e9031c9", checked := Try.checked }
namespace Rows
def none {H : Type} : Left H := { results := [], args := [] }

/-- 'ratoonlaw01.HandChecks': WHATEVER THE INPUT: true; the input reads as it did. -/
def handChecksSpec : ChangeSpec := { name := "handChecks", fn := fun _ => fun
  | [d1, d2] => { results := [.lit (.bool true)], args := [d1, d2] }
  | _ => none }
def handChecksRow : OpenClaim := { program := "ytiemgahjdgajmaa", sum := "d96dba4484f6b914d91c1735664d211dd5e98879a955e48b1c5647238e9031c9", func := "ratoon/ratoonlaw01.HandChecks", spec := "handChecks", unfollowed := true, recurses := true, plainKeys := false, apart := false }
def HandChecksSaid : Prop := handChecksRow.holds Try.pinned (OpenSpec.ofChange handChecksSpec)

/-- ITS FALSE NEIGHBOUR: 'it returns false'. Refute it at one input. -/
def handChecksWrong : ChangeSpec := { name := "handChecks", fn := fun _ => fun
  | [d1, d2] => { results := [.lit (.bool false)], args := [d1, d2] }
  | _ => none }
def HandChecksWrongFalsely : Prop := handChecksRow.holds Try.pinned (OpenSpec.ofChange handChecksWrong)

/-- 'ratoonlaw01.HandGrades': WHATEVER THE INPUT: true; the input reads as it did. -/
def handGradesSpec : ChangeSpec := { name := "handGrades", fn := fun _ => fun
  | [d1, d2] => { results := [.lit (.bool true)], args := [d1, d2] }
  | _ => none }
def handGradesRow : OpenClaim := { program := "ytiemgahjdgajmaa", sum := "d96dba4484f6b914d91c1735664d211dd5e98879a955e48b1c5647238e9031c9", func := "ratoon/ratoonlaw01.HandGrades", spec := "handGrades", unfollowed := true, recurses := true, plainKeys := false, apart := false }
def HandGradesSaid : Prop := handGradesRow.holds Try.pinned (OpenSpec.ofChange handGradesSpec)

/-- ITS FALSE NEIGHBOUR: 'it returns false'. Refute it at one input. -/
def handGradesWrong : ChangeSpec := { name := "handGrades", fn := fun _ => fun
  | [d1, d2] => { results := [.lit (.bool false)], args := [d1, d2] }
  | _ => none }
def HandGradesWrongFalsely : Prop := handGradesRow.holds Try.pinned (OpenSpec.ofChange handGradesWrong)

/-- 'ratoonlaw01.HandTotals': WHATEVER THE INPUT: true; the input reads as it did. -/
def handTotalsSpec : ChangeSpec := { name := "handTotals", fn := fun _ => fun
  | [d1, d2] => { results := [.lit (.bool true)], args := [d1, d2] }
  | _ => none }
def handTotalsRow : OpenClaim := { program := "ytiemgahjdgajmaa", sum := "d96dba4484f6b914d91c1735664d211dd5e98879a955e48b1c5647238e9031c9", func := "ratoon/ratoonlaw01.HandTotals", spec := "handTotals", unfollowed := true, recurses := true, plainKeys := false, apart := false }
def HandTotalsSaid : Prop := handTotalsRow.holds Try.pinned (OpenSpec.ofChange handTotalsSpec)

/-- ITS FALSE NEIGHBOUR: 'it returns false'. Refute it at one input. -/
def handTotalsWrong : ChangeSpec := { name := "handTotals", fn := fun _ => fun
  | [d1, d2] => { results := [.lit (.bool false)], args := [d1, d2] }
  | _ => none }
def HandTotalsWrongFalsely : Prop := handTotalsRow.holds Try.pinned (OpenSpec.ofChange handTotalsWrong)

/-- 'ratoonlaw01.HandPicks': WHATEVER THE INPUT: true; the input reads as it did. -/
def handPicksSpec : ChangeSpec := { name := "handPicks", fn := fun _ => fun
  | [d1, d2] => { results := [.lit (.bool true)], args := [d1, d2] }
  | _ => none }
def handPicksRow : OpenClaim := { program := "ytiemgahjdgajmaa", sum := "d96dba4484f6b914d91c1735664d211dd5e98879a955e48b1c5647238e9031c9", func := "ratoon/ratoonlaw01.HandPicks", spec := "handPicks", unfollowed := true, recurses := true, plainKeys := false, apart := false }
def HandPicksSaid : Prop := handPicksRow.holds Try.pinned (OpenSpec.ofChange handPicksSpec)

/-- ITS FALSE NEIGHBOUR: 'it returns false'. Refute it at one input. -/
def handPicksWrong : ChangeSpec := { name := "handPicks", fn := fun _ => fun
  | [d1, d2] => { results := [.lit (.bool false)], args := [d1, d2] }
  | _ => none }
def HandPicksWrongFalsely : Prop := handPicksRow.holds Try.pinned (OpenSpec.ofChange handPicksWrong)

/-- 'ratoonlaw01.HandNexts': WHATEVER THE INPUT: true; the input reads as it did. -/
def handNextsSpec : ChangeSpec := { name := "handNexts", fn := fun _ => fun
  | [d] => { results := [.lit (.bool true)], args := [d] }
  | _ => none }
def handNextsRow : OpenClaim := { program := "ytiemgahjdgajmaa", sum := "d96dba4484f6b914d91c1735664d211dd5e98879a955e48b1c5647238e9031c9", func := "ratoon/ratoonlaw01.HandNexts", spec := "handNexts", unfollowed := true, recurses := true, plainKeys := false, apart := false }
def HandNextsSaid : Prop := handNextsRow.holds Try.pinned (OpenSpec.ofChange handNextsSpec)

/-- ITS FALSE NEIGHBOUR: 'it returns false'. Refute it at one input. -/
def handNextsWrong : ChangeSpec := { name := "handNexts", fn := fun _ => fun
  | [d] => { results := [.lit (.bool false)], args := [d] }
  | _ => none }
def HandNextsWrongFalsely : Prop := handNextsRow.holds Try.pinned (OpenSpec.ofChange handNextsWrong)

/-- 'ratoonlaw01.HandKnown': WHATEVER THE INPUT: true; the input reads as it did. -/
def handKnownSpec : ChangeSpec := { name := "handKnown", fn := fun _ => fun
  | [] => { results := [.lit (.bool true)], args := [] }
  | _ => none }
def handKnownRow : OpenClaim := { program := "ytiemgahjdgajmaa", sum := "d96dba4484f6b914d91c1735664d211dd5e98879a955e48b1c5647238e9031c9", func := "ratoon/ratoonlaw01.HandKnown", spec := "handKnown", unfollowed := true, recurses := true, plainKeys := false, apart := false }
def HandKnownSaid : Prop := handKnownRow.holds Try.pinned (OpenSpec.ofChange handKnownSpec)

/-- ITS FALSE NEIGHBOUR: 'it returns false'. Refute it at one input. -/
def handKnownWrong : ChangeSpec := { name := "handKnown", fn := fun _ => fun
  | [] => { results := [.lit (.bool false)], args := [] }
  | _ => none }
def HandKnownWrongFalsely : Prop := handKnownRow.holds Try.pinned (OpenSpec.ofChange handKnownWrong)

/-- 'ratoonlaw01.HandTrue': WHATEVER THE INPUT: true; the input reads as it did. -/
def handTrueSpec : ChangeSpec := { name := "handTrue", fn := fun _ => fun
  | [d1, d2, d3] => { results := [.lit (.bool true)], args := [d1, d2, d3] }
  | _ => none }
def handTrueRow : OpenClaim := { program := "ytiemgahjdgajmaa", sum := "d96dba4484f6b914d91c1735664d211dd5e98879a955e48b1c5647238e9031c9", func := "ratoon/ratoonlaw01.HandTrue", spec := "handTrue", unfollowed := true, recurses := true, plainKeys := false, apart := false }
def HandTrueSaid : Prop := handTrueRow.holds Try.pinned (OpenSpec.ofChange handTrueSpec)

/-- ITS FALSE NEIGHBOUR: 'it returns false'. Refute it at one input. -/
def handTrueWrong : ChangeSpec := { name := "handTrue", fn := fun _ => fun
  | [d1, d2, d3] => { results := [.lit (.bool false)], args := [d1, d2, d3] }
  | _ => none }
def HandTrueWrongFalsely : Prop := handTrueRow.holds Try.pinned (OpenSpec.ofChange handTrueWrong)

/-- 'ratoonlaw01.HandPicked': WHATEVER THE INPUT: true; the input reads as it did. -/
def handPickedSpec : ChangeSpec := { name := "handPicked", fn := fun _ => fun
  | [d1, d2] => { results := [.lit (.bool true)], args := [d1, d2] }
  | _ => none }
def handPickedRow : OpenClaim := { program := "ytiemgahjdgajmaa", sum := "d96dba4484f6b914d91c1735664d211dd5e98879a955e48b1c5647238e9031c9", func := "ratoon/ratoonlaw01.HandPicked", spec := "handPicked", unfollowed := true, recurses := true, plainKeys := false, apart := false }
def HandPickedSaid : Prop := handPickedRow.holds Try.pinned (OpenSpec.ofChange handPickedSpec)

/-- ITS FALSE NEIGHBOUR: 'it returns false'. Refute it at one input. -/
def handPickedWrong : ChangeSpec := { name := "handPicked", fn := fun _ => fun
  | [d1, d2] => { results := [.lit (.bool false)], args := [d1, d2] }
  | _ => none }
def HandPickedWrongFalsely : Prop := handPickedRow.holds Try.pinned (OpenSpec.ofChange handPickedWrong)

/-- 'ratoonlaw01.HandFewest': WHATEVER THE INPUT: true; the input reads as it did. -/
def handFewestSpec : ChangeSpec := { name := "handFewest", fn := fun _ => fun
  | [d1, d2] => { results := [.lit (.bool true)], args := [d1, d2] }
  | _ => none }
def handFewestRow : OpenClaim := { program := "ytiemgahjdgajmaa", sum := "d96dba4484f6b914d91c1735664d211dd5e98879a955e48b1c5647238e9031c9", func := "ratoon/ratoonlaw01.HandFewest", spec := "handFewest", unfollowed := true, recurses := true, plainKeys := false, apart := false }
def HandFewestSaid : Prop := handFewestRow.holds Try.pinned (OpenSpec.ofChange handFewestSpec)

/-- ITS FALSE NEIGHBOUR: 'it returns false'. Refute it at one input. -/
def handFewestWrong : ChangeSpec := { name := "handFewest", fn := fun _ => fun
  | [d1, d2] => { results := [.lit (.bool false)], args := [d1, d2] }
  | _ => none }
def HandFewestWrongFalsely : Prop := handFewestRow.holds Try.pinned (OpenSpec.ofChange handFewestWrong)

/-- 'ratoonlaw01.HandMore': WHATEVER THE INPUT: true; the input reads as it did. -/
def handMoreSpec : ChangeSpec := { name := "handMore", fn := fun _ => fun
  | [d1, d2] => { results := [.lit (.bool true)], args := [d1, d2] }
  | _ => none }
def handMoreRow : OpenClaim := { program := "ytiemgahjdgajmaa", sum := "d96dba4484f6b914d91c1735664d211dd5e98879a955e48b1c5647238e9031c9", func := "ratoon/ratoonlaw01.HandMore", spec := "handMore", unfollowed := true, recurses := true, plainKeys := false, apart := false }
def HandMoreSaid : Prop := handMoreRow.holds Try.pinned (OpenSpec.ofChange handMoreSpec)

/-- ITS FALSE NEIGHBOUR: 'it returns false'. Refute it at one input. -/
def handMoreWrong : ChangeSpec := { name := "handMore", fn := fun _ => fun
  | [d1, d2] => { results := [.lit (.bool false)], args := [d1, d2] }
  | _ => none }
def HandMoreWrongFalsely : Prop := handMoreRow.holds Try.pinned (OpenSpec.ofChange handMoreWrong)

/-- 'ratoonlaw01.HandNext': WHATEVER THE INPUT: true; the input reads as it did. -/
def handNextSpec : ChangeSpec := { name := "handNext", fn := fun _ => fun
  | [d1, d2, d3] => { results := [.lit (.bool true)], args := [d1, d2, d3] }
  | _ => none }
def handNextRow : OpenClaim := { program := "ytiemgahjdgajmaa", sum := "d96dba4484f6b914d91c1735664d211dd5e98879a955e48b1c5647238e9031c9", func := "ratoon/ratoonlaw01.HandNext", spec := "handNext", unfollowed := true, recurses := true, plainKeys := false, apart := false }
def HandNextSaid : Prop := handNextRow.holds Try.pinned (OpenSpec.ofChange handNextSpec)

/-- ITS FALSE NEIGHBOUR: 'it returns false'. Refute it at one input. -/
def handNextWrong : ChangeSpec := { name := "handNext", fn := fun _ => fun
  | [d1, d2, d3] => { results := [.lit (.bool false)], args := [d1, d2, d3] }
  | _ => none }
def HandNextWrongFalsely : Prop := handNextRow.holds Try.pinned (OpenSpec.ofChange handNextWrong)

/-- 'ratoonlaw01.HandEasier': WHATEVER THE INPUT: true; the input reads as it did. -/
def handEasierSpec : ChangeSpec := { name := "handEasier", fn := fun _ => fun
  | [d1, d2] => { results := [.lit (.bool true)], args := [d1, d2] }
  | _ => none }
def handEasierRow : OpenClaim := { program := "ytiemgahjdgajmaa", sum := "d96dba4484f6b914d91c1735664d211dd5e98879a955e48b1c5647238e9031c9", func := "ratoon/ratoonlaw01.HandEasier", spec := "handEasier", unfollowed := true, recurses := true, plainKeys := false, apart := false }
def HandEasierSaid : Prop := handEasierRow.holds Try.pinned (OpenSpec.ofChange handEasierSpec)

/-- ITS FALSE NEIGHBOUR: 'it returns false'. Refute it at one input. -/
def handEasierWrong : ChangeSpec := { name := "handEasier", fn := fun _ => fun
  | [d1, d2] => { results := [.lit (.bool false)], args := [d1, d2] }
  | _ => none }
def HandEasierWrongFalsely : Prop := handEasierRow.holds Try.pinned (OpenSpec.ofChange handEasierWrong)

/-- 'ratoonlaw01.HandOrder': WHATEVER THE INPUT: true; the input reads as it did. -/
def handOrderSpec : ChangeSpec := { name := "handOrder", fn := fun _ => fun
  | [d1, d2] => { results := [.lit (.bool true)], args := [d1, d2] }
  | _ => none }
def handOrderRow : OpenClaim := { program := "ytiemgahjdgajmaa", sum := "d96dba4484f6b914d91c1735664d211dd5e98879a955e48b1c5647238e9031c9", func := "ratoon/ratoonlaw01.HandOrder", spec := "handOrder", unfollowed := true, recurses := true, plainKeys := false, apart := false }
def HandOrderSaid : Prop := handOrderRow.holds Try.pinned (OpenSpec.ofChange handOrderSpec)

/-- ITS FALSE NEIGHBOUR: 'it returns false'. Refute it at one input. -/
def handOrderWrong : ChangeSpec := { name := "handOrder", fn := fun _ => fun
  | [d1, d2] => { results := [.lit (.bool false)], args := [d1, d2] }
  | _ => none }
def HandOrderWrongFalsely : Prop := handOrderRow.holds Try.pinned (OpenSpec.ofChange handOrderWrong)

/- THE SECOND FORM. 'bulk': how many values and letters a reading holds, each counted each time it is reached (what is shared counts as often as it is met; a slice's spare places count too). A statement '..UptoSaid' is the law's where the arguments, and the package variables that the reading takes, are together of bulk at most 1048576: NARROWER than '..Said'. Prove '..Said' where nothing that the law and all that it calls make is longer than what came in: it says more and counts as full. Else prove '..UptoSaid'. A law counts once. -/
mutual
def uptoBulk {H : Type} : DataW H → Nat
  | .lit (.string bytes) => bytes.length + 1
  | .lit _ => 1
  | .nil => 1
  | .ptr d => uptoBulk d + 1
  | .slice elems spare => uptoBulkAll elems + uptoBulkAll spare + 1
  | .agg parts => uptoBulkAll parts + 1
  | .iface _ d => uptoBulk d + 1
  | .map entries => uptoBulkEntries entries + 1
  | .held _ => 1
def uptoBulkAll {H : Type} : List (DataW H) → Nat
  | [] => 0
  | d :: r => uptoBulk d + uptoBulkAll r
def uptoBulkEntries {H : Type} : List (Lit × DataW H) → Nat
  | [] => 0
  | x :: r => uptoBulkEntry x + uptoBulkEntries r
def uptoBulkEntry {H : Type} : Lit × DataW H → Nat
  | (.string bytes, d) => bytes.length + uptoBulk d + 1
  | (_, d) => uptoBulk d + 1
 end
def uptoSmall : (H : Type) → List (DataW H) → Bool := fun _ ds => decide (uptoBulkAll ds ≤ 1048576)
def OpenSpec.upto (s : _root_.Go.ChangeSpec) : _root_.Go.OpenSpec := { _root_.Go.OpenSpec.ofChange s with cond := some uptoSmall }

/-- 'ratoonlaw01.HandChecks', WHERE WHAT IT READS IS OF BULK AT MOST 1048576: true; the input reads as it did. -/
def handChecksUptoRow : OpenClaim := { program := "ytiemgahjdgajmaa", sum := "d96dba4484f6b914d91c1735664d211dd5e98879a955e48b1c5647238e9031c9", func := "ratoon/ratoonlaw01.HandChecks", spec := "handChecks", unfollowed := true, recurses := true, plainKeys := false, apart := false, narrowed := true }
def HandChecksUptoSaid : Prop := handChecksUptoRow.holds Try.pinned (OpenSpec.upto handChecksSpec)

/-- 'ratoonlaw01.HandGrades', WHERE WHAT IT READS IS OF BULK AT MOST 1048576: true; the input reads as it did. -/
def handGradesUptoRow : OpenClaim := { program := "ytiemgahjdgajmaa", sum := "d96dba4484f6b914d91c1735664d211dd5e98879a955e48b1c5647238e9031c9", func := "ratoon/ratoonlaw01.HandGrades", spec := "handGrades", unfollowed := true, recurses := true, plainKeys := false, apart := false, narrowed := true }
def HandGradesUptoSaid : Prop := handGradesUptoRow.holds Try.pinned (OpenSpec.upto handGradesSpec)

/-- 'ratoonlaw01.HandTotals', WHERE WHAT IT READS IS OF BULK AT MOST 1048576: true; the input reads as it did. -/
def handTotalsUptoRow : OpenClaim := { program := "ytiemgahjdgajmaa", sum := "d96dba4484f6b914d91c1735664d211dd5e98879a955e48b1c5647238e9031c9", func := "ratoon/ratoonlaw01.HandTotals", spec := "handTotals", unfollowed := true, recurses := true, plainKeys := false, apart := false, narrowed := true }
def HandTotalsUptoSaid : Prop := handTotalsUptoRow.holds Try.pinned (OpenSpec.upto handTotalsSpec)

/-- 'ratoonlaw01.HandPicks', WHERE WHAT IT READS IS OF BULK AT MOST 1048576: true; the input reads as it did. -/
def handPicksUptoRow : OpenClaim := { program := "ytiemgahjdgajmaa", sum := "d96dba4484f6b914d91c1735664d211dd5e98879a955e48b1c5647238e9031c9", func := "ratoon/ratoonlaw01.HandPicks", spec := "handPicks", unfollowed := true, recurses := true, plainKeys := false, apart := false, narrowed := true }
def HandPicksUptoSaid : Prop := handPicksUptoRow.holds Try.pinned (OpenSpec.upto handPicksSpec)

/-- 'ratoonlaw01.HandNexts', WHERE WHAT IT READS IS OF BULK AT MOST 1048576: true; the input reads as it did. -/
def handNextsUptoRow : OpenClaim := { program := "ytiemgahjdgajmaa", sum := "d96dba4484f6b914d91c1735664d211dd5e98879a955e48b1c5647238e9031c9", func := "ratoon/ratoonlaw01.HandNexts", spec := "handNexts", unfollowed := true, recurses := true, plainKeys := false, apart := false, narrowed := true }
def HandNextsUptoSaid : Prop := handNextsUptoRow.holds Try.pinned (OpenSpec.upto handNextsSpec)

/-- 'ratoonlaw01.HandKnown', WHERE WHAT IT READS IS OF BULK AT MOST 1048576: true; the input reads as it did. -/
def handKnownUptoRow : OpenClaim := { program := "ytiemgahjdgajmaa", sum := "d96dba4484f6b914d91c1735664d211dd5e98879a955e48b1c5647238e9031c9", func := "ratoon/ratoonlaw01.HandKnown", spec := "handKnown", unfollowed := true, recurses := true, plainKeys := false, apart := false, narrowed := true }
def HandKnownUptoSaid : Prop := handKnownUptoRow.holds Try.pinned (OpenSpec.upto handKnownSpec)

/-- 'ratoonlaw01.HandTrue', WHERE WHAT IT READS IS OF BULK AT MOST 1048576: true; the input reads as it did. -/
def handTrueUptoRow : OpenClaim := { program := "ytiemgahjdgajmaa", sum := "d96dba4484f6b914d91c1735664d211dd5e98879a955e48b1c5647238e9031c9", func := "ratoon/ratoonlaw01.HandTrue", spec := "handTrue", unfollowed := true, recurses := true, plainKeys := false, apart := false, narrowed := true }
def HandTrueUptoSaid : Prop := handTrueUptoRow.holds Try.pinned (OpenSpec.upto handTrueSpec)

/-- 'ratoonlaw01.HandPicked', WHERE WHAT IT READS IS OF BULK AT MOST 1048576: true; the input reads as it did. -/
def handPickedUptoRow : OpenClaim := { program := "ytiemgahjdgajmaa", sum := "d96dba4484f6b914d91c1735664d211dd5e98879a955e48b1c5647238e9031c9", func := "ratoon/ratoonlaw01.HandPicked", spec := "handPicked", unfollowed := true, recurses := true, plainKeys := false, apart := false, narrowed := true }
def HandPickedUptoSaid : Prop := handPickedUptoRow.holds Try.pinned (OpenSpec.upto handPickedSpec)

/-- 'ratoonlaw01.HandFewest', WHERE WHAT IT READS IS OF BULK AT MOST 1048576: true; the input reads as it did. -/
def handFewestUptoRow : OpenClaim := { program := "ytiemgahjdgajmaa", sum := "d96dba4484f6b914d91c1735664d211dd5e98879a955e48b1c5647238e9031c9", func := "ratoon/ratoonlaw01.HandFewest", spec := "handFewest", unfollowed := true, recurses := true, plainKeys := false, apart := false, narrowed := true }
def HandFewestUptoSaid : Prop := handFewestUptoRow.holds Try.pinned (OpenSpec.upto handFewestSpec)

/-- 'ratoonlaw01.HandMore', WHERE WHAT IT READS IS OF BULK AT MOST 1048576: true; the input reads as it did. -/
def handMoreUptoRow : OpenClaim := { program := "ytiemgahjdgajmaa", sum := "d96dba4484f6b914d91c1735664d211dd5e98879a955e48b1c5647238e9031c9", func := "ratoon/ratoonlaw01.HandMore", spec := "handMore", unfollowed := true, recurses := true, plainKeys := false, apart := false, narrowed := true }
def HandMoreUptoSaid : Prop := handMoreUptoRow.holds Try.pinned (OpenSpec.upto handMoreSpec)

/-- 'ratoonlaw01.HandNext', WHERE WHAT IT READS IS OF BULK AT MOST 1048576: true; the input reads as it did. -/
def handNextUptoRow : OpenClaim := { program := "ytiemgahjdgajmaa", sum := "d96dba4484f6b914d91c1735664d211dd5e98879a955e48b1c5647238e9031c9", func := "ratoon/ratoonlaw01.HandNext", spec := "handNext", unfollowed := true, recurses := true, plainKeys := false, apart := false, narrowed := true }
def HandNextUptoSaid : Prop := handNextUptoRow.holds Try.pinned (OpenSpec.upto handNextSpec)

/-- 'ratoonlaw01.HandEasier', WHERE WHAT IT READS IS OF BULK AT MOST 1048576: true; the input reads as it did. -/
def handEasierUptoRow : OpenClaim := { program := "ytiemgahjdgajmaa", sum := "d96dba4484f6b914d91c1735664d211dd5e98879a955e48b1c5647238e9031c9", func := "ratoon/ratoonlaw01.HandEasier", spec := "handEasier", unfollowed := true, recurses := true, plainKeys := false, apart := false, narrowed := true }
def HandEasierUptoSaid : Prop := handEasierUptoRow.holds Try.pinned (OpenSpec.upto handEasierSpec)

/-- 'ratoonlaw01.HandOrder', WHERE WHAT IT READS IS OF BULK AT MOST 1048576: true; the input reads as it did. -/
def handOrderUptoRow : OpenClaim := { program := "ytiemgahjdgajmaa", sum := "d96dba4484f6b914d91c1735664d211dd5e98879a955e48b1c5647238e9031c9", func := "ratoon/ratoonlaw01.HandOrder", spec := "handOrder", unfollowed := true, recurses := true, plainKeys := false, apart := false, narrowed := true }
def HandOrderUptoSaid : Prop := handOrderUptoRow.holds Try.pinned (OpenSpec.upto handOrderSpec)

end Rows
end Go.Proofs.Ytiemgahjdgajmaa
