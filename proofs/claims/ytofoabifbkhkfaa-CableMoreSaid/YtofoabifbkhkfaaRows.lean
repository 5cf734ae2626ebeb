/-
  No cell of these rows narrows 'for every input' (looked for: loops, veiled, ifaces, maps, wideKeys, modest, calm, conditions, laid).
  DERIVED. THE GIVEN ROWS OF THIS SEAT. 13 by the template 'for every input the law returns true; each argument reads behind the call as it read before'; 0 by the template 'total and deterministic' (their statements: YtofoabifbkhkfaaTotals.lean).
  GIVEN WITH THE SEED: the statements are not yours to turn. If you find one false, say at which input.
  Laid BY PROGRAM, IN A SANDBOX (cutbox-rows.mjs): the forced cells as the released guide's own fill.sh prints them over the translation f07347bdc69f9208… (all of the seat's roots in one cut). By AI agents, Wed Nov 11 2026. No macro, syntax, notation, axiom, sorry.
-/
import Derived.Test.YtofoabifbkhkfaaChecked
import GoSem.Claim
import GoSem.ClaimJoined
import GoSem.ClaimMapViews
import Derived.JoinedTies
import Derived.KernelRfl
namespace Go.Proofs.Ytofoabifbkhkfaa
/- THE CELL 'sum', in the pinned program and in every row, IS THE sha256 OF THE DUMP (.gsa) THAT YtofoabifbkhkfaaProg.lean LOADS. Nothing in Lean hashes anything: it is a label: what it is worth is what the hold of that sum in a sandbox is worth. -/
noncomputable def Try.pinned : Pinned := { name := "ytofoabifbkhkfaa", sum := "f07347bdc69f920825a33a41c217e643191ed96cf70f874f431a70539da4d26a", checked := Try.checked }
namespace Rows
def none {H : Type} : Left H := { results := [], args := [] }

/-- 'ratoonlaw03.CableQuays': WHATEVER THE INPUT: true; the input reads as it did. -/
def cableQuaysSpec : ChangeSpec := { name := "cableQuays", fn := fun _ => fun
  | [d1, d2] => { results := [.lit (.bool true)], args := [d1, d2] }
  | _ => none }
def cableQuaysRow : OpenClaim := { program := "ytofoabifbkhkfaa", sum := "f07347bdc69f920825a33a41c217e643191ed96cf70f874f431a70539da4d26a", func := "ratoon/ratoonlaw03.CableQuays", spec := "cableQuays", unfollowed := true, recurses := true, plainKeys := false, apart := false }
def CableQuaysSaid : Prop := cableQuaysRow.holds Try.pinned (OpenSpec.ofChange cableQuaysSpec)

/-- ITS FALSE NEIGHBOUR: 'it returns false'. Refute it at one input. -/
def cableQuaysWrong : ChangeSpec := { name := "cableQuays", fn := fun _ => fun
  | [d1, d2] => { results := [.lit (.bool false)], args := [d1, d2] }
  | _ => none }
def CableQuaysWrongFalsely : Prop := cableQuaysRow.holds Try.pinned (OpenSpec.ofChange cableQuaysWrong)

/-- 'ratoonlaw03.CablePlans': WHATEVER THE INPUT: true; the input reads as it did. -/
def cablePlansSpec : ChangeSpec := { name := "cablePlans", fn := fun _ => fun
  | [d1, d2] => { results := [.lit (.bool true)], args := [d1, d2] }
  | _ => none }
def cablePlansRow : OpenClaim := { program := "ytofoabifbkhkfaa", sum := "f07347bdc69f920825a33a41c217e643191ed96cf70f874f431a70539da4d26a", func := "ratoon/ratoonlaw03.CablePlans", spec := "cablePlans", unfollowed := true, recurses := true, plainKeys := false, apart := false }
def CablePlansSaid : Prop := cablePlansRow.holds Try.pinned (OpenSpec.ofChange cablePlansSpec)

/-- ITS FALSE NEIGHBOUR: 'it returns false'. Refute it at one input. -/
def cablePlansWrong : ChangeSpec := { name := "cablePlans", fn := fun _ => fun
  | [d1, d2] => { results := [.lit (.bool false)], args := [d1, d2] }
  | _ => none }
def CablePlansWrongFalsely : Prop := cablePlansRow.holds Try.pinned (OpenSpec.ofChange cablePlansWrong)

/-- 'ratoonlaw03.CableHelds': WHATEVER THE INPUT: true; the input reads as it did. -/
def cableHeldsSpec : ChangeSpec := { name := "cableHelds", fn := fun _ => fun
  | [d1, d2] => { results := [.lit (.bool true)], args := [d1, d2] }
  | _ => none }
def cableHeldsRow : OpenClaim := { program := "ytofoabifbkhkfaa", sum := "f07347bdc69f920825a33a41c217e643191ed96cf70f874f431a70539da4d26a", func := "ratoon/ratoonlaw03.CableHelds", spec := "cableHelds", unfollowed := true, recurses := true, plainKeys := false, apart := false }
def CableHeldsSaid : Prop := cableHeldsRow.holds Try.pinned (OpenSpec.ofChange cableHeldsSpec)

/-- ITS FALSE NEIGHBOUR: 'it returns false'. Refute it at one input. -/
def cableHeldsWrong : ChangeSpec := { name := "cableHelds", fn := fun _ => fun
  | [d1, d2] => { results := [.lit (.bool false)], args := [d1, d2] }
  | _ => none }
def CableHeldsWrongFalsely : Prop := cableHeldsRow.holds Try.pinned (OpenSpec.ofChange cableHeldsWrong)

/-- 'ratoonlaw03.CableTolds': WHATEVER THE INPUT: true; the input reads as it did. -/
def cableToldsSpec : ChangeSpec := { name := "cableTolds", fn := fun _ => fun
  | [d1, d2] => { results := [.lit (.bool true)], args := [d1, d2] }
  | _ => none }
def cableToldsRow : OpenClaim := { program := "ytofoabifbkhkfaa", sum := "f07347bdc69f920825a33a41c217e643191ed96cf70f874f431a70539da4d26a", func := "ratoon/ratoonlaw03.CableTolds", spec := "cableTolds", unfollowed := true, recurses := true, plainKeys := false, apart := false }
def CableToldsSaid : Prop := cableToldsRow.holds Try.pinned (OpenSpec.ofChange cableToldsSpec)

/-- ITS FALSE NEIGHBOUR: 'it returns false'. Refute it at one input. -/
def cableToldsWrong : ChangeSpec := { name := "cableTolds", fn := fun _ => fun
  | [d1, d2] => { results := [.lit (.bool false)], args := [d1, d2] }
  | _ => none }
def CableToldsWrongFalsely : Prop := cableToldsRow.holds Try.pinned (OpenSpec.ofChange cableToldsWrong)

/-- 'ratoonlaw03.CableKnown': WHATEVER THE INPUT: true; the input reads as it did. -/
def cableKnownSpec : ChangeSpec := { name := "cableKnown", fn := fun _ => fun
  | [] => { results := [.lit (.bool true)], args := [] }
  | _ => none }
def cableKnownRow : OpenClaim := { program := "ytofoabifbkhkfaa", sum := "f07347bdc69f920825a33a41c217e643191ed96cf70f874f431a70539da4d26a", func := "ratoon/ratoonlaw03.CableKnown", spec := "cableKnown", unfollowed := true, recurses := true, plainKeys := false, apart := false }
def CableKnownSaid : Prop := cableKnownRow.holds Try.pinned (OpenSpec.ofChange cableKnownSpec)

/-- ITS FALSE NEIGHBOUR: 'it returns false'. Refute it at one input. -/
def cableKnownWrong : ChangeSpec := { name := "cableKnown", fn := fun _ => fun
  | [] => { results := [.lit (.bool false)], args := [] }
  | _ => none }
def CableKnownWrongFalsely : Prop := cableKnownRow.holds Try.pinned (OpenSpec.ofChange cableKnownWrong)

/-- 'ratoonlaw03.CableFull': WHATEVER THE INPUT: true; the input reads as it did. -/
def cableFullSpec : ChangeSpec := { name := "cableFull", fn := fun _ => fun
  | [d1, d2, d3] => { results := [.lit (.bool true)], args := [d1, d2, d3] }
  | _ => none }
def cableFullRow : OpenClaim := { program := "ytofoabifbkhkfaa", sum := "f07347bdc69f920825a33a41c217e643191ed96cf70f874f431a70539da4d26a", func := "ratoon/ratoonlaw03.CableFull", spec := "cableFull", unfollowed := true, recurses := true, plainKeys := false, apart := false }
def CableFullSaid : Prop := cableFullRow.holds Try.pinned (OpenSpec.ofChange cableFullSpec)

/-- ITS FALSE NEIGHBOUR: 'it returns false'. Refute it at one input. -/
def cableFullWrong : ChangeSpec := { name := "cableFull", fn := fun _ => fun
  | [d1, d2, d3] => { results := [.lit (.bool false)], args := [d1, d2, d3] }
  | _ => none }
def CableFullWrongFalsely : Prop := cableFullRow.holds Try.pinned (OpenSpec.ofChange cableFullWrong)

/-- 'ratoonlaw03.CableLeast': WHATEVER THE INPUT: true; the input reads as it did. -/
def cableLeastSpec : ChangeSpec := { name := "cableLeast", fn := fun _ => fun
  | [d1, d2] => { results := [.lit (.bool true)], args := [d1, d2] }
  | _ => none }
def cableLeastRow : OpenClaim := { program := "ytofoabifbkhkfaa", sum := "f07347bdc69f920825a33a41c217e643191ed96cf70f874f431a70539da4d26a", func := "ratoon/ratoonlaw03.CableLeast", spec := "cableLeast", unfollowed := true, recurses := true, plainKeys := false, apart := false }
def CableLeastSaid : Prop := cableLeastRow.holds Try.pinned (OpenSpec.ofChange cableLeastSpec)

/-- ITS FALSE NEIGHBOUR: 'it returns false'. Refute it at one input. -/
def cableLeastWrong : ChangeSpec := { name := "cableLeast", fn := fun _ => fun
  | [d1, d2] => { results := [.lit (.bool false)], args := [d1, d2] }
  | _ => none }
def CableLeastWrongFalsely : Prop := cableLeastRow.holds Try.pinned (OpenSpec.ofChange cableLeastWrong)

/-- 'ratoonlaw03.CableEarly': WHATEVER THE INPUT: true; the input reads as it did. -/
def cableEarlySpec : ChangeSpec := { name := "cableEarly", fn := fun _ => fun
  | [d] => { results := [.lit (.bool true)], args := [d] }
  | _ => none }
def cableEarlyRow : OpenClaim := { program := "ytofoabifbkhkfaa", sum := "f07347bdc69f920825a33a41c217e643191ed96cf70f874f431a70539da4d26a", func := "ratoon/ratoonlaw03.CableEarly", spec := "cableEarly", unfollowed := true, recurses := true, plainKeys := false, apart := false }
def CableEarlySaid : Prop := cableEarlyRow.holds Try.pinned (OpenSpec.ofChange cableEarlySpec)

/-- ITS FALSE NEIGHBOUR: 'it returns false'. Refute it at one input. -/
def cableEarlyWrong : ChangeSpec := { name := "cableEarly", fn := fun _ => fun
  | [d] => { results := [.lit (.bool false)], args := [d] }
  | _ => none }
def CableEarlyWrongFalsely : Prop := cableEarlyRow.holds Try.pinned (OpenSpec.ofChange cableEarlyWrong)

/-- 'ratoonlaw03.CableHeld': WHATEVER THE INPUT: true; the input reads as it did. -/
def cableHeldSpec : ChangeSpec := { name := "cableHeld", fn := fun _ => fun
  | [d1, d2, d3] => { results := [.lit (.bool true)], args := [d1, d2, d3] }
  | _ => none }
def cableHeldRow : OpenClaim := { program := "ytofoabifbkhkfaa", sum := "f07347bdc69f920825a33a41c217e643191ed96cf70f874f431a70539da4d26a", func := "ratoon/ratoonlaw03.CableHeld", spec := "cableHeld", unfollowed := true, recurses := true, plainKeys := false, apart := false }
def CableHeldSaid : Prop := cableHeldRow.holds Try.pinned (OpenSpec.ofChange cableHeldSpec)

/-- ITS FALSE NEIGHBOUR: 'it returns false'. Refute it at one input. -/
def cableHeldWrong : ChangeSpec := { name := "cableHeld", fn := fun _ => fun
  | [d1, d2, d3] => { results := [.lit (.bool false)], args := [d1, d2, d3] }
  | _ => none }
def CableHeldWrongFalsely : Prop := cableHeldRow.holds Try.pinned (OpenSpec.ofChange cableHeldWrong)

/-- 'ratoonlaw03.CableTold': WHATEVER THE INPUT: true; the input reads as it did. -/
def cableToldSpec : ChangeSpec := { name := "cableTold", fn := fun _ => fun
  | [d1, d2] => { results := [.lit (.bool true)], args := [d1, d2] }
  | _ => none }
def cableToldRow : OpenClaim := { program := "ytofoabifbkhkfaa", sum := "f07347bdc69f920825a33a41c217e643191ed96cf70f874f431a70539da4d26a", func := "ratoon/ratoonlaw03.CableTold", spec := "cableTold", unfollowed := true, recurses := true, plainKeys := false, apart := false }
def CableToldSaid : Prop := cableToldRow.holds Try.pinned (OpenSpec.ofChange cableToldSpec)

/-- ITS FALSE NEIGHBOUR: 'it returns false'. Refute it at one input. -/
def cableToldWrong : ChangeSpec := { name := "cableTold", fn := fun _ => fun
  | [d1, d2] => { results := [.lit (.bool false)], args := [d1, d2] }
  | _ => none }
def CableToldWrongFalsely : Prop := cableToldRow.holds Try.pinned (OpenSpec.ofChange cableToldWrong)

/-- 'ratoonlaw03.CableEasier': WHATEVER THE INPUT: true; the input reads as it did. -/
def cableEasierSpec : ChangeSpec := { name := "cableEasier", fn := fun _ => fun
  | [d1, d2, d3] => { results := [.lit (.bool true)], args := [d1, d2, d3] }
  | _ => none }
def cableEasierRow : OpenClaim := { program := "ytofoabifbkhkfaa", sum := "f07347bdc69f920825a33a41c217e643191ed96cf70f874f431a70539da4d26a", func := "ratoon/ratoonlaw03.CableEasier", spec := "cableEasier", unfollowed := true, recurses := true, plainKeys := false, apart := false }
def CableEasierSaid : Prop := cableEasierRow.holds Try.pinned (OpenSpec.ofChange cableEasierSpec)

/-- ITS FALSE NEIGHBOUR: 'it returns false'. Refute it at one input. -/
def cableEasierWrong : ChangeSpec := { name := "cableEasier", fn := fun _ => fun
  | [d1, d2, d3] => { results := [.lit (.bool false)], args := [d1, d2, d3] }
  | _ => none }
def CableEasierWrongFalsely : Prop := cableEasierRow.holds Try.pinned (OpenSpec.ofChange cableEasierWrong)

/-- 'ratoonlaw03.CableMore': WHATEVER THE INPUT: true; the input reads as it did. -/
def cableMoreSpec : ChangeSpec := { name := "cableMore", fn := fun _ => fun
  | [d1, d2, d3] => { results := [.lit (.bool true)], args := [d1, d2, d3] }
  | _ => none }
def cableMoreRow : OpenClaim := { program := "ytofoabifbkhkfaa", sum := "f07347bdc69f920825a33a41c217e643191ed96cf70f874f431a70539da4d26a", func := "ratoon/ratoonlaw03.CableMore", spec := "cableMore", unfollowed := true, recurses := true, plainKeys := false, apart := false }
def CableMoreSaid : Prop := cableMoreRow.holds Try.pinned (OpenSpec.ofChange cableMoreSpec)

/-- ITS FALSE NEIGHBOUR: 'it returns false'. Refute it at one input. -/
def cableMoreWrong : ChangeSpec := { name := "cableMore", fn := fun _ => fun
  | [d1, d2, d3] => { results := [.lit (.bool false)], args := [d1, d2, d3] }
  | _ => none }
def CableMoreWrongFalsely : Prop := cableMoreRow.holds Try.pinned (OpenSpec.ofChange cableMoreWrong)

/-- 'ratoonlaw03.CableMoved': WHATEVER THE INPUT: true; the input reads as it did. -/
def cableMovedSpec : ChangeSpec := { name := "cableMoved", fn := fun _ => fun
  | [d1, d2, d3] => { results := [.lit (.bool true)], args := [d1, d2, d3] }
  | _ => none }
def cableMovedRow : OpenClaim := { program := "ytofoabifbkhkfaa", sum := "f07347bdc69f920825a33a41c217e643191ed96cf70f874f431a70539da4d26a", func := "ratoon/ratoonlaw03.CableMoved", spec := "cableMoved", unfollowed := true, recurses := true, plainKeys := false, apart := false }
def CableMovedSaid : Prop := cableMovedRow.holds Try.pinned (OpenSpec.ofChange cableMovedSpec)

/-- ITS FALSE NEIGHBOUR: 'it returns false'. Refute it at one input. -/
def cableMovedWrong : ChangeSpec := { name := "cableMoved", fn := fun _ => fun
  | [d1, d2, d3] => { results := [.lit (.bool false)], args := [d1, d2, d3] }
  | _ => none }
def CableMovedWrongFalsely : Prop := cableMovedRow.holds Try.pinned (OpenSpec.ofChange cableMovedWrong)

/- THE SECOND FORM. 'bulk': how many values and letters a reading holds, each counted each time it is reached (what is shared counts as often as it is met; a slice's spare places count too). A statement '..UptoSaid' is the law's where the arguments, and the package variables that the reading takes, are together of bulk at most 1048576: NARROWER than '..Said'. Prove '..Said' where nothing that the law and all that it calls make is longer than what came in: it says more and counts as full. Else prove '..UptoSaid'. A law counts once. -/
mutual
def uptoBulk {H : Type} : DataW H → Nat
  | .lit (.string bytes) => bytes.length + 1
  | .lit _ => 1
  | .nil => 1
  | .ptr d => uptoBulk d + 1
  | .slice elems spare => uptoBulkAll elems + uptoBulkAll spare + 1
  | .agg parts => uptoBulkAll parts + 1
  | .iface _ d => uptoBulk d + 1
  | .map entries => uptoBulkEntries entries + 1
  | .held _ => 1
def uptoBulkAll {H : Type} : List (DataW H) → Nat
  | [] => 0
  | d :: r => uptoBulk d + uptoBulkAll r
def uptoBulkEntries {H : Type} : List (Lit × DataW H) → Nat
  | [] => 0
  | x :: r => uptoBulkEntry x + uptoBulkEntries r
def uptoBulkEntry {H : Type} : Lit × DataW H → Nat
  | (.string bytes, d) => bytes.length + uptoBulk d + 1
  | (_, d) => uptoBulk d + 1
 end
def uptoSmall : (H : Type) → List (DataW H) → Bool := fun _ ds => decide (uptoBulkAll ds ≤ 1048576)
def OpenSpec.upto (s : _root_.Go.ChangeSpec) : _root_.Go.OpenSpec := { _root_.Go.OpenSpec.ofChange s with cond := some uptoSmall }

/-- 'ratoonlaw03.CableQuays', WHERE WHAT IT READS IS OF BULK AT MOST 1048576: true; the input reads as it did. -/
def cableQuaysUptoRow : OpenClaim := { program := "ytofoabifbkhkfaa", sum := "f07347bdc69f920825a33a41c217e643191ed96cf70f874f431a70539da4d26a", func := "ratoon/ratoonlaw03.CableQuays", spec := "cableQuays", unfollowed := true, recurses := true, plainKeys := false, apart := false, narrowed := true }
def CableQuaysUptoSaid : Prop := cableQuaysUptoRow.holds Try.pinned (OpenSpec.upto cableQuaysSpec)

/-- 'ratoonlaw03.CablePlans', WHERE WHAT IT READS IS OF BULK AT MOST 1048576: true; the input reads as it did. -/
def cablePlansUptoRow : OpenClaim := { program := "ytofoabifbkhkfaa", sum := "f07347bdc69f920825a33a41c217e643191ed96cf70f874f431a70539da4d26a", func := "ratoon/ratoonlaw03.CablePlans", spec := "cablePlans", unfollowed := true, recurses := true, plainKeys := false, apart := false, narrowed := true }
def CablePlansUptoSaid : Prop := cablePlansUptoRow.holds Try.pinned (OpenSpec.upto cablePlansSpec)

/-- 'ratoonlaw03.CableHelds', WHERE WHAT IT READS IS OF BULK AT MOST 1048576: true; the input reads as it did. -/
def cableHeldsUptoRow : OpenClaim := { program := "ytofoabifbkhkfaa", sum := "f07347bdc69f920825a33a41c217e643191ed96cf70f874f431a70539da4d26a", func := "ratoon/ratoonlaw03.CableHelds", spec := "cableHelds", unfollowed := true, recurses := true, plainKeys := false, apart := false, narrowed := true }
def CableHeldsUptoSaid : Prop := cableHeldsUptoRow.holds Try.pinned (OpenSpec.upto cableHeldsSpec)

/-- 'ratoonlaw03.CableTolds', WHERE WHAT IT READS IS OF BULK AT MOST 1048576: true; the input reads as it did. -/
def cableToldsUptoRow : OpenClaim := { program := "ytofoabifbkhkfaa", sum := "f07347bdc69f920825a33a41c217e643191ed96cf70f874f431a70539da4d26a", func := "ratoon/ratoonlaw03.CableTolds", spec := "cableTolds", unfollowed := true, recurses := true, plainKeys := false, apart := false, narrowed := true }
def CableToldsUptoSaid : Prop := cableToldsUptoRow.holds Try.pinned (OpenSpec.upto cableToldsSpec)

/-- 'ratoonlaw03.CableKnown', WHERE WHAT IT READS IS OF BULK AT MOST 1048576: true; the input reads as it did. -/
def cableKnownUptoRow : OpenClaim := { program := "ytofoabifbkhkfaa", sum := "f07347bdc69f920825a33a41c217e643191ed96cf70f874f431a70539da4d26a", func := "ratoon/ratoonlaw03.CableKnown", spec := "cableKnown", unfollowed := true, recurses := true, plainKeys := false, apart := false, narrowed := true }
def CableKnownUptoSaid : Prop := cableKnownUptoRow.holds Try.pinned (OpenSpec.upto cableKnownSpec)

/-- 'ratoonlaw03.CableFull', WHERE WHAT IT READS IS OF BULK AT MOST 1048576: true; the input reads as it did. -/
def cableFullUptoRow : OpenClaim := { program := "ytofoabifbkhkfaa", sum := "f07347bdc69f920825a33a41c217e643191ed96cf70f874f431a70539da4d26a", func := "ratoon/ratoonlaw03.CableFull", spec := "cableFull", unfollowed := true, recurses := true, plainKeys := false, apart := false, narrowed := true }
def CableFullUptoSaid : Prop := cableFullUptoRow.holds Try.pinned (OpenSpec.upto cableFullSpec)

/-- 'ratoonlaw03.CableLeast', WHERE WHAT IT READS IS OF BULK AT MOST 1048576: true; the input reads as it did. -/
def cableLeastUptoRow : OpenClaim := { program := "ytofoabifbkhkfaa", sum := "f07347bdc69f920825a33a41c217e643191ed96cf70f874f431a70539da4d26a", func := "ratoon/ratoonlaw03.CableLeast", spec := "cableLeast", unfollowed := true, recurses := true, plainKeys := false, apart := false, narrowed := true }
def CableLeastUptoSaid : Prop := cableLeastUptoRow.holds Try.pinned (OpenSpec.upto cableLeastSpec)

/-- 'ratoonlaw03.CableEarly', WHERE WHAT IT READS IS OF BULK AT MOST 1048576: true; the input reads as it did. -/
def cableEarlyUptoRow : OpenClaim := { program := "ytofoabifbkhkfaa", sum := "f07347bdc69f920825a33a41c217e643191ed96cf70f874f431a70539da4d26a", func := "ratoon/ratoonlaw03.CableEarly", spec := "cableEarly", unfollowed := true, recurses := true, plainKeys := false, apart := false, narrowed := true }
def CableEarlyUptoSaid : Prop := cableEarlyUptoRow.holds Try.pinned (OpenSpec.upto cableEarlySpec)

/-- 'ratoonlaw03.CableHeld', WHERE WHAT IT READS IS OF BULK AT MOST 1048576: true; the input reads as it did. -/
def cableHeldUptoRow : OpenClaim := { program := "ytofoabifbkhkfaa", sum := "f07347bdc69f920825a33a41c217e643191ed96cf70f874f431a70539da4d26a", func := "ratoon/ratoonlaw03.CableHeld", spec := "cableHeld", unfollowed := true, recurses := true, plainKeys := false, apart := false, narrowed := true }
def CableHeldUptoSaid : Prop := cableHeldUptoRow.holds Try.pinned (OpenSpec.upto cableHeldSpec)

/-- 'ratoonlaw03.CableTold', WHERE WHAT IT READS IS OF BULK AT MOST 1048576: true; the input reads as it did. -/
def cableToldUptoRow : OpenClaim := { program := "ytofoabifbkhkfaa", sum := "f07347bdc69f920825a33a41c217e643191ed96cf70f874f431a70539da4d26a", func := "ratoon/ratoonlaw03.CableTold", spec := "cableTold", unfollowed := true, recurses := true, plainKeys := false, apart := false, narrowed := true }
def CableToldUptoSaid : Prop := cableToldUptoRow.holds Try.pinned (OpenSpec.upto cableToldSpec)

/-- 'ratoonlaw03.CableEasier', WHERE WHAT IT READS IS OF BULK AT MOST 1048576: true; the input reads as it did. -/
def cableEasierUptoRow : OpenClaim := { program := "ytofoabifbkhkfaa", sum := "f07347bdc69f920825a33a41c217e643191ed96cf70f874f431a70539da4d26a", func := "ratoon/ratoonlaw03.CableEasier", spec := "cableEasier", unfollowed := true, recurses := true, plainKeys := false, apart := false, narrowed := true }
def CableEasierUptoSaid : Prop := cableEasierUptoRow.holds Try.pinned (OpenSpec.upto cableEasierSpec)

/-- 'ratoonlaw03.CableMore', WHERE WHAT IT READS IS OF BULK AT MOST 1048576: true; the input reads as it did. -/
def cableMoreUptoRow : OpenClaim := { program := "ytofoabifbkhkfaa", sum := "f07347bdc69f920825a33a41c217e643191ed96cf70f874f431a70539da4d26a", func := "ratoon/ratoonlaw03.CableMore", spec := "cableMore", unfollowed := true, recurses := true, plainKeys := false, apart := false, narrowed := true }
def CableMoreUptoSaid : Prop := cableMoreUptoRow.holds Try.pinned (OpenSpec.upto cableMoreSpec)

/-- 'ratoonlaw03.CableMoved', WHERE WHAT IT READS IS OF BULK AT MOST 1048576: true; the input reads as it did. -/
def cableMovedUptoRow : OpenClaim := { program := "ytofoabifbkhkfaa", sum := "f07347bdc69f920825a33a41c217e643191ed96cf70f874f431a70539da4d26a", func := "ratoon/ratoonlaw03.CableMoved", spec := "cableMoved", unfollowed := true, recurses := true, plainKeys := false, apart := false, narrowed := true }
def CableMovedUptoSaid : Prop := cableMovedUptoRow.holds Try.pinned (OpenSpec.upto cableMovedSpec)

end Rows
end Go.Proofs.Ytofoabifbkhkfaa
