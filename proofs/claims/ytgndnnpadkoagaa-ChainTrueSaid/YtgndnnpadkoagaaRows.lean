/-
  No cell of these rows narrows 'for every input' (looked for: loops, veiled, ifaces, maps, wideKeys, modest, calm, conditions, laid).
  DERIVED. THE GIVEN ROWS OF THIS SEAT. 13 by the template 'for every input the law returns true; each argument reads behind the call as it read before'; 0 by the template 'total and deterministic' (their statements: YtgndnnpadkoagaaTotals.lean).
  GIVEN WITH THE SEED: the statements are not yours to turn. If you find one false, say at which input.
  Laid BY PROGRAM, IN A SANDBOX (cutbox-rows.mjs): the forced cells as the released guide's own fill.sh prints them over the translation f04d7e08d8d62d6f… (all of the seat's roots in one cut). By AI agents, Wed Nov 11 2026. No macro, syntax, notation, axiom, sorry.
-/
import Derived.Test.YtgndnnpadkoagaaChecked
import GoSem.Claim
import GoSem.ClaimJoined
import GoSem.ClaimMapViews
import Derived.JoinedTies
import Derived.KernelRfl
namespace Go.Proofs.Ytgndnnpadkoagaa
/- THE CELL 'sum', in the pinned program and in every row, IS THE sha256 OF THE DUMP (.gsa) THAT YtgndnnpadkoagaaProg.lean LOADS. Nothing in Lean hashes anything: it is a label: what it is worth is what the hold of that sum in a sandbox is worth. -/
noncomputable def Try.pinned : Pinned := { name := "ytgndnnpadkoagaa", sum := "f04d7e08d8d62d6f284d6b9a15f6a3a424799f091288188c47b3772e8a5e67ba", checked := Try.checked }
namespace Rows
def none {H : Type} : Left H := { results := [], args := [] }

/-- 'ratoonlaw05.ChainWents': WHATEVER THE INPUT: true; the input reads as it did. -/
def chainWentsSpec : ChangeSpec := { name := "chainWents", fn := fun _ => fun
  | [d1, d2] => { results := [.lit (.bool true)], args := [d1, d2] }
  | _ => none }
def chainWentsRow : OpenClaim := { program := "ytgndnnpadkoagaa", sum := "f04d7e08d8d62d6f284d6b9a15f6a3a424799f091288188c47b3772e8a5e67ba", func := "ratoon/ratoonlaw05.ChainWents", spec := "chainWents", unfollowed := true, recurses := true, plainKeys := false, apart := false }
def ChainWentsSaid : Prop := chainWentsRow.holds Try.pinned (OpenSpec.ofChange chainWentsSpec)

/-- ITS FALSE NEIGHBOUR: 'it returns false'. Refute it at one input. -/
def chainWentsWrong : ChangeSpec := { name := "chainWents", fn := fun _ => fun
  | [d1, d2] => { results := [.lit (.bool false)], args := [d1, d2] }
  | _ => none }
def ChainWentsWrongFalsely : Prop := chainWentsRow.holds Try.pinned (OpenSpec.ofChange chainWentsWrong)

/-- 'ratoonlaw05.ChainRights': WHATEVER THE INPUT: true; the input reads as it did. -/
def chainRightsSpec : ChangeSpec := { name := "chainRights", fn := fun _ => fun
  | [d1, d2] => { results := [.lit (.bool true)], args := [d1, d2] }
  | _ => none }
def chainRightsRow : OpenClaim := { program := "ytgndnnpadkoagaa", sum := "f04d7e08d8d62d6f284d6b9a15f6a3a424799f091288188c47b3772e8a5e67ba", func := "ratoon/ratoonlaw05.ChainRights", spec := "chainRights", unfollowed := true, recurses := true, plainKeys := false, apart := false }
def ChainRightsSaid : Prop := chainRightsRow.holds Try.pinned (OpenSpec.ofChange chainRightsSpec)

/-- ITS FALSE NEIGHBOUR: 'it returns false'. Refute it at one input. -/
def chainRightsWrong : ChangeSpec := { name := "chainRights", fn := fun _ => fun
  | [d1, d2] => { results := [.lit (.bool false)], args := [d1, d2] }
  | _ => none }
def ChainRightsWrongFalsely : Prop := chainRightsRow.holds Try.pinned (OpenSpec.ofChange chainRightsWrong)

/-- 'ratoonlaw05.ChainLooks': WHATEVER THE INPUT: true; the input reads as it did. -/
def chainLooksSpec : ChangeSpec := { name := "chainLooks", fn := fun _ => fun
  | [d1, d2] => { results := [.lit (.bool true)], args := [d1, d2] }
  | _ => none }
def chainLooksRow : OpenClaim := { program := "ytgndnnpadkoagaa", sum := "f04d7e08d8d62d6f284d6b9a15f6a3a424799f091288188c47b3772e8a5e67ba", func := "ratoon/ratoonlaw05.ChainLooks", spec := "chainLooks", unfollowed := true, recurses := true, plainKeys := false, apart := false }
def ChainLooksSaid : Prop := chainLooksRow.holds Try.pinned (OpenSpec.ofChange chainLooksSpec)

/-- ITS FALSE NEIGHBOUR: 'it returns false'. Refute it at one input. -/
def chainLooksWrong : ChangeSpec := { name := "chainLooks", fn := fun _ => fun
  | [d1, d2] => { results := [.lit (.bool false)], args := [d1, d2] }
  | _ => none }
def ChainLooksWrongFalsely : Prop := chainLooksRow.holds Try.pinned (OpenSpec.ofChange chainLooksWrong)

/-- 'ratoonlaw05.ChainWrongs': WHATEVER THE INPUT: true; the input reads as it did. -/
def chainWrongsSpec : ChangeSpec := { name := "chainWrongs", fn := fun _ => fun
  | [d] => { results := [.lit (.bool true)], args := [d] }
  | _ => none }
def chainWrongsRow : OpenClaim := { program := "ytgndnnpadkoagaa", sum := "f04d7e08d8d62d6f284d6b9a15f6a3a424799f091288188c47b3772e8a5e67ba", func := "ratoon/ratoonlaw05.ChainWrongs", spec := "chainWrongs", unfollowed := true, recurses := true, plainKeys := false, apart := false }
def ChainWrongsSaid : Prop := chainWrongsRow.holds Try.pinned (OpenSpec.ofChange chainWrongsSpec)

/-- ITS FALSE NEIGHBOUR: 'it returns false'. Refute it at one input. -/
def chainWrongsWrong : ChangeSpec := { name := "chainWrongs", fn := fun _ => fun
  | [d] => { results := [.lit (.bool false)], args := [d] }
  | _ => none }
def ChainWrongsWrongFalsely : Prop := chainWrongsRow.holds Try.pinned (OpenSpec.ofChange chainWrongsWrong)

/-- 'ratoonlaw05.ChainKnown': WHATEVER THE INPUT: true; the input reads as it did. -/
def chainKnownSpec : ChangeSpec := { name := "chainKnown", fn := fun _ => fun
  | [] => { results := [.lit (.bool true)], args := [] }
  | _ => none }
def chainKnownRow : OpenClaim := { program := "ytgndnnpadkoagaa", sum := "f04d7e08d8d62d6f284d6b9a15f6a3a424799f091288188c47b3772e8a5e67ba", func := "ratoon/ratoonlaw05.ChainKnown", spec := "chainKnown", unfollowed := true, recurses := true, plainKeys := false, apart := false }
def ChainKnownSaid : Prop := chainKnownRow.holds Try.pinned (OpenSpec.ofChange chainKnownSpec)

/-- ITS FALSE NEIGHBOUR: 'it returns false'. Refute it at one input. -/
def chainKnownWrong : ChangeSpec := { name := "chainKnown", fn := fun _ => fun
  | [] => { results := [.lit (.bool false)], args := [] }
  | _ => none }
def ChainKnownWrongFalsely : Prop := chainKnownRow.holds Try.pinned (OpenSpec.ofChange chainKnownWrong)

/-- 'ratoonlaw05.ChainTrue': WHATEVER THE INPUT: true; the input reads as it did. -/
def chainTrueSpec : ChangeSpec := { name := "chainTrue", fn := fun _ => fun
  | [d1, d2] => { results := [.lit (.bool true)], args := [d1, d2] }
  | _ => none }
def chainTrueRow : OpenClaim := { program := "ytgndnnpadkoagaa", sum := "f04d7e08d8d62d6f284d6b9a15f6a3a424799f091288188c47b3772e8a5e67ba", func := "ratoon/ratoonlaw05.ChainTrue", spec := "chainTrue", unfollowed := true, recurses := true, plainKeys := false, apart := false }
def ChainTrueSaid : Prop := chainTrueRow.holds Try.pinned (OpenSpec.ofChange chainTrueSpec)

/-- ITS FALSE NEIGHBOUR: 'it returns false'. Refute it at one input. -/
def chainTrueWrong : ChangeSpec := { name := "chainTrue", fn := fun _ => fun
  | [d1, d2] => { results := [.lit (.bool false)], args := [d1, d2] }
  | _ => none }
def ChainTrueWrongFalsely : Prop := chainTrueRow.holds Try.pinned (OpenSpec.ofChange chainTrueWrong)

/-- 'ratoonlaw05.ChainFewest': WHATEVER THE INPUT: true; the input reads as it did. -/
def chainFewestSpec : ChangeSpec := { name := "chainFewest", fn := fun _ => fun
  | [d1, d2] => { results := [.lit (.bool true)], args := [d1, d2] }
  | _ => none }
def chainFewestRow : OpenClaim := { program := "ytgndnnpadkoagaa", sum := "f04d7e08d8d62d6f284d6b9a15f6a3a424799f091288188c47b3772e8a5e67ba", func := "ratoon/ratoonlaw05.ChainFewest", spec := "chainFewest", unfollowed := true, recurses := true, plainKeys := false, apart := false }
def ChainFewestSaid : Prop := chainFewestRow.holds Try.pinned (OpenSpec.ofChange chainFewestSpec)

/-- ITS FALSE NEIGHBOUR: 'it returns false'. Refute it at one input. -/
def chainFewestWrong : ChangeSpec := { name := "chainFewest", fn := fun _ => fun
  | [d1, d2] => { results := [.lit (.bool false)], args := [d1, d2] }
  | _ => none }
def ChainFewestWrongFalsely : Prop := chainFewestRow.holds Try.pinned (OpenSpec.ofChange chainFewestWrong)

/-- 'ratoonlaw05.ChainLooked': WHATEVER THE INPUT: true; the input reads as it did. -/
def chainLookedSpec : ChangeSpec := { name := "chainLooked", fn := fun _ => fun
  | [d1, d2] => { results := [.lit (.bool true)], args := [d1, d2] }
  | _ => none }
def chainLookedRow : OpenClaim := { program := "ytgndnnpadkoagaa", sum := "f04d7e08d8d62d6f284d6b9a15f6a3a424799f091288188c47b3772e8a5e67ba", func := "ratoon/ratoonlaw05.ChainLooked", spec := "chainLooked", unfollowed := true, recurses := true, plainKeys := false, apart := false }
def ChainLookedSaid : Prop := chainLookedRow.holds Try.pinned (OpenSpec.ofChange chainLookedSpec)

/-- ITS FALSE NEIGHBOUR: 'it returns false'. Refute it at one input. -/
def chainLookedWrong : ChangeSpec := { name := "chainLooked", fn := fun _ => fun
  | [d1, d2] => { results := [.lit (.bool false)], args := [d1, d2] }
  | _ => none }
def ChainLookedWrongFalsely : Prop := chainLookedRow.holds Try.pinned (OpenSpec.ofChange chainLookedWrong)

/-- 'ratoonlaw05.ChainHolds': WHATEVER THE INPUT: true; the input reads as it did. -/
def chainHoldsSpec : ChangeSpec := { name := "chainHolds", fn := fun _ => fun
  | [d] => { results := [.lit (.bool true)], args := [d] }
  | _ => none }
def chainHoldsRow : OpenClaim := { program := "ytgndnnpadkoagaa", sum := "f04d7e08d8d62d6f284d6b9a15f6a3a424799f091288188c47b3772e8a5e67ba", func := "ratoon/ratoonlaw05.ChainHolds", spec := "chainHolds", unfollowed := true, recurses := true, plainKeys := false, apart := false }
def ChainHoldsSaid : Prop := chainHoldsRow.holds Try.pinned (OpenSpec.ofChange chainHoldsSpec)

/-- ITS FALSE NEIGHBOUR: 'it returns false'. Refute it at one input. -/
def chainHoldsWrong : ChangeSpec := { name := "chainHolds", fn := fun _ => fun
  | [d] => { results := [.lit (.bool false)], args := [d] }
  | _ => none }
def ChainHoldsWrongFalsely : Prop := chainHoldsRow.holds Try.pinned (OpenSpec.ofChange chainHoldsWrong)

/-- 'ratoonlaw05.ChainBetter': WHATEVER THE INPUT: true; the input reads as it did. -/
def chainBetterSpec : ChangeSpec := { name := "chainBetter", fn := fun _ => fun
  | [d1, d2] => { results := [.lit (.bool true)], args := [d1, d2] }
  | _ => none }
def chainBetterRow : OpenClaim := { program := "ytgndnnpadkoagaa", sum := "f04d7e08d8d62d6f284d6b9a15f6a3a424799f091288188c47b3772e8a5e67ba", func := "ratoon/ratoonlaw05.ChainBetter", spec := "chainBetter", unfollowed := true, recurses := true, plainKeys := false, apart := false }
def ChainBetterSaid : Prop := chainBetterRow.holds Try.pinned (OpenSpec.ofChange chainBetterSpec)

/-- ITS FALSE NEIGHBOUR: 'it returns false'. Refute it at one input. -/
def chainBetterWrong : ChangeSpec := { name := "chainBetter", fn := fun _ => fun
  | [d1, d2] => { results := [.lit (.bool false)], args := [d1, d2] }
  | _ => none }
def ChainBetterWrongFalsely : Prop := chainBetterRow.holds Try.pinned (OpenSpec.ofChange chainBetterWrong)

/-- 'ratoonlaw05.ChainTells': WHATEVER THE INPUT: true; the input reads as it did. -/
def chainTellsSpec : ChangeSpec := { name := "chainTells", fn := fun _ => fun
  | [d1, d2, d3] => { results := [.lit (.bool true)], args := [d1, d2, d3] }
  | _ => none }
def chainTellsRow : OpenClaim := { program := "ytgndnnpadkoagaa", sum := "f04d7e08d8d62d6f284d6b9a15f6a3a424799f091288188c47b3772e8a5e67ba", func := "ratoon/ratoonlaw05.ChainTells", spec := "chainTells", unfollowed := true, recurses := true, plainKeys := false, apart := false }
def ChainTellsSaid : Prop := chainTellsRow.holds Try.pinned (OpenSpec.ofChange chainTellsSpec)

/-- ITS FALSE NEIGHBOUR: 'it returns false'. Refute it at one input. -/
def chainTellsWrong : ChangeSpec := { name := "chainTells", fn := fun _ => fun
  | [d1, d2, d3] => { results := [.lit (.bool false)], args := [d1, d2, d3] }
  | _ => none }
def ChainTellsWrongFalsely : Prop := chainTellsRow.holds Try.pinned (OpenSpec.ofChange chainTellsWrong)

/-- 'ratoonlaw05.ChainWheel': WHATEVER THE INPUT: true; the input reads as it did. -/
def chainWheelSpec : ChangeSpec := { name := "chainWheel", fn := fun _ => fun
  | [d1, d2, d3] => { results := [.lit (.bool true)], args := [d1, d2, d3] }
  | _ => none }
def chainWheelRow : OpenClaim := { program := "ytgndnnpadkoagaa", sum := "f04d7e08d8d62d6f284d6b9a15f6a3a424799f091288188c47b3772e8a5e67ba", func := "ratoon/ratoonlaw05.ChainWheel", spec := "chainWheel", unfollowed := true, recurses := true, plainKeys := false, apart := false }
def ChainWheelSaid : Prop := chainWheelRow.holds Try.pinned (OpenSpec.ofChange chainWheelSpec)

/-- ITS FALSE NEIGHBOUR: 'it returns false'. Refute it at one input. -/
def chainWheelWrong : ChangeSpec := { name := "chainWheel", fn := fun _ => fun
  | [d1, d2, d3] => { results := [.lit (.bool false)], args := [d1, d2, d3] }
  | _ => none }
def ChainWheelWrongFalsely : Prop := chainWheelRow.holds Try.pinned (OpenSpec.ofChange chainWheelWrong)

/-- 'ratoonlaw05.ChainOne': WHATEVER THE INPUT: true; the input reads as it did. -/
def chainOneSpec : ChangeSpec := { name := "chainOne", fn := fun _ => fun
  | [d1, d2] => { results := [.lit (.bool true)], args := [d1, d2] }
  | _ => none }
def chainOneRow : OpenClaim := { program := "ytgndnnpadkoagaa", sum := "f04d7e08d8d62d6f284d6b9a15f6a3a424799f091288188c47b3772e8a5e67ba", func := "ratoon/ratoonlaw05.ChainOne", spec := "chainOne", unfollowed := true, recurses := true, plainKeys := false, apart := false }
def ChainOneSaid : Prop := chainOneRow.holds Try.pinned (OpenSpec.ofChange chainOneSpec)

/-- ITS FALSE NEIGHBOUR: 'it returns false'. Refute it at one input. -/
def chainOneWrong : ChangeSpec := { name := "chainOne", fn := fun _ => fun
  | [d1, d2] => { results := [.lit (.bool false)], args := [d1, d2] }
  | _ => none }
def ChainOneWrongFalsely : Prop := chainOneRow.holds Try.pinned (OpenSpec.ofChange chainOneWrong)

/- THE SECOND FORM. 'bulk': how many values and letters a reading holds, each counted each time it is reached (what is shared counts as often as it is met; a slice's spare places count too). A statement '..UptoSaid' is the law's where the arguments, and the package variables that the reading takes, are together of bulk at most 1048576: NARROWER than '..Said'. Prove '..Said' where nothing that the law and all that it calls make is longer than what came in: it says more and counts as full. Else prove '..UptoSaid'. A law counts once. -/
mutual
def uptoBulk {H : Type} : DataW H → Nat
  | .lit (.string bytes) => bytes.length + 1
  | .lit _ => 1
  | .nil => 1
  | .ptr d => uptoBulk d + 1
  | .slice elems spare => uptoBulkAll elems + uptoBulkAll spare + 1
  | .agg parts => uptoBulkAll parts + 1
  | .iface _ d => uptoBulk d + 1
  | .map entries => uptoBulkEntries entries + 1
  | .held _ => 1
def uptoBulkAll {H : Type} : List (DataW H) → Nat
  | [] => 0
  | d :: r => uptoBulk d + uptoBulkAll r
def uptoBulkEntries {H : Type} : List (Lit × DataW H) → Nat
  | [] => 0
  | x :: r => uptoBulkEntry x + uptoBulkEntries r
def uptoBulkEntry {H : Type} : Lit × DataW H → Nat
  | (.string bytes, d) => bytes.length + uptoBulk d + 1
  | (_, d) => uptoBulk d + 1
 end
def uptoSmall : (H : Type) → List (DataW H) → Bool := fun _ ds => decide (uptoBulkAll ds ≤ 1048576)
def OpenSpec.upto (s : _root_.Go.ChangeSpec) : _root_.Go.OpenSpec := { _root_.Go.OpenSpec.ofChange s with cond := some uptoSmall }

/-- 'ratoonlaw05.ChainWents', WHERE WHAT IT READS IS OF BULK AT MOST 1048576: true; the input reads as it did. -/
def chainWentsUptoRow : OpenClaim := { program := "ytgndnnpadkoagaa", sum := "f04d7e08d8d62d6f284d6b9a15f6a3a424799f091288188c47b3772e8a5e67ba", func := "ratoon/ratoonlaw05.ChainWents", spec := "chainWents", unfollowed := true, recurses := true, plainKeys := false, apart := false, narrowed := true }
def ChainWentsUptoSaid : Prop := chainWentsUptoRow.holds Try.pinned (OpenSpec.upto chainWentsSpec)

/-- 'ratoonlaw05.ChainRights', WHERE WHAT IT READS IS OF BULK AT MOST 1048576: true; the input reads as it did. -/
def chainRightsUptoRow : OpenClaim := { program := "ytgndnnpadkoagaa", sum := "f04d7e08d8d62d6f284d6b9a15f6a3a424799f091288188c47b3772e8a5e67ba", func := "ratoon/ratoonlaw05.ChainRights", spec := "chainRights", unfollowed := true, recurses := true, plainKeys := false, apart := false, narrowed := true }
def ChainRightsUptoSaid : Prop := chainRightsUptoRow.holds Try.pinned (OpenSpec.upto chainRightsSpec)

/-- 'ratoonlaw05.ChainLooks', WHERE WHAT IT READS IS OF BULK AT MOST 1048576: true; the input reads as it did. -/
def chainLooksUptoRow : OpenClaim := { program := "ytgndnnpadkoagaa", sum := "f04d7e08d8d62d6f284d6b9a15f6a3a424799f091288188c47b3772e8a5e67ba", func := "ratoon/ratoonlaw05.ChainLooks", spec := "chainLooks", unfollowed := true, recurses := true, plainKeys := false, apart := false, narrowed := true }
def ChainLooksUptoSaid : Prop := chainLooksUptoRow.holds Try.pinned (OpenSpec.upto chainLooksSpec)

/-- 'ratoonlaw05.ChainWrongs', WHERE WHAT IT READS IS OF BULK AT MOST 1048576: true; the input reads as it did. -/
def chainWrongsUptoRow : OpenClaim := { program := "ytgndnnpadkoagaa", sum := "f04d7e08d8d62d6f284d6b9a15f6a3a424799f091288188c47b3772e8a5e67ba", func := "ratoon/ratoonlaw05.ChainWrongs", spec := "chainWrongs", unfollowed := true, recurses := true, plainKeys := false, apart := false, narrowed := true }
def ChainWrongsUptoSaid : Prop := chainWrongsUptoRow.holds Try.pinned (OpenSpec.upto chainWrongsSpec)

/-- 'ratoonlaw05.ChainKnown', WHERE WHAT IT READS IS OF BULK AT MOST 1048576: true; the input reads as it did. -/
def chainKnownUptoRow : OpenClaim := { program := "ytgndnnpadkoagaa", sum := "f04d7e08d8d62d6f284d6b9a15f6a3a424799f091288188c47b3772e8a5e67ba", func := "ratoon/ratoonlaw05.ChainKnown", spec := "chainKnown", unfollowed := true, recurses := true, plainKeys := false, apart := false, narrowed := true }
def ChainKnownUptoSaid : Prop := chainKnownUptoRow.holds Try.pinned (OpenSpec.upto chainKnownSpec)

/-- 'ratoonlaw05.ChainTrue', WHERE WHAT IT READS IS OF BULK AT MOST 1048576: true; the input reads as it did. -/
def chainTrueUptoRow : OpenClaim := { program := "ytgndnnpadkoagaa", sum := "f04d7e08d8d62d6f284d6b9a15f6a3a424799f091288188c47b3772e8a5e67ba", func := "ratoon/ratoonlaw05.ChainTrue", spec := "chainTrue", unfollowed := true, recurses := true, plainKeys := false, apart := false, narrowed := true }
def ChainTrueUptoSaid : Prop := chainTrueUptoRow.holds Try.pinned (OpenSpec.upto chainTrueSpec)

/-- 'ratoonlaw05.ChainFewest', WHERE WHAT IT READS IS OF BULK AT MOST 1048576: true; the input reads as it did. -/
def chainFewestUptoRow : OpenClaim := { program := "ytgndnnpadkoagaa", sum := "f04d7e08d8d62d6f284d6b9a15f6a3a424799f091288188c47b3772e8a5e67ba", func := "ratoon/ratoonlaw05.ChainFewest", spec := "chainFewest", unfollowed := true, recurses := true, plainKeys := false, apart := false, narrowed := true }
def ChainFewestUptoSaid : Prop := chainFewestUptoRow.holds Try.pinned (OpenSpec.upto chainFewestSpec)

/-- 'ratoonlaw05.ChainLooked', WHERE WHAT IT READS IS OF BULK AT MOST 1048576: true; the input reads as it did. -/
def chainLookedUptoRow : OpenClaim := { program := "ytgndnnpadkoagaa", sum := "f04d7e08d8d62d6f284d6b9a15f6a3a424799f091288188c47b3772e8a5e67ba", func := "ratoon/ratoonlaw05.ChainLooked", spec := "chainLooked", unfollowed := true, recurses := true, plainKeys := false, apart := false, narrowed := true }
def ChainLookedUptoSaid : Prop := chainLookedUptoRow.holds Try.pinned (OpenSpec.upto chainLookedSpec)

/-- 'ratoonlaw05.ChainHolds', WHERE WHAT IT READS IS OF BULK AT MOST 1048576: true; the input reads as it did. -/
def chainHoldsUptoRow : OpenClaim := { program := "ytgndnnpadkoagaa", sum := "f04d7e08d8d62d6f284d6b9a15f6a3a424799f091288188c47b3772e8a5e67ba", func := "ratoon/ratoonlaw05.ChainHolds", spec := "chainHolds", unfollowed := true, recurses := true, plainKeys := false, apart := false, narrowed := true }
def ChainHoldsUptoSaid : Prop := chainHoldsUptoRow.holds Try.pinned (OpenSpec.upto chainHoldsSpec)

/-- 'ratoonlaw05.ChainBetter', WHERE WHAT IT READS IS OF BULK AT MOST 1048576: true; the input reads as it did. -/
def chainBetterUptoRow : OpenClaim := { program := "ytgndnnpadkoagaa", sum := "f04d7e08d8d62d6f284d6b9a15f6a3a424799f091288188c47b3772e8a5e67ba", func := "ratoon/ratoonlaw05.ChainBetter", spec := "chainBetter", unfollowed := true, recurses := true, plainKeys := false, apart := false, narrowed := true }
def ChainBetterUptoSaid : Prop := chainBetterUptoRow.holds Try.pinned (OpenSpec.upto chainBetterSpec)

/-- 'ratoonlaw05.ChainTells', WHERE WHAT IT READS IS OF BULK AT MOST 1048576: true; the input reads as it did. -/
def chainTellsUptoRow : OpenClaim := { program := "ytgndnnpadkoagaa", sum := "f04d7e08d8d62d6f284d6b9a15f6a3a424799f091288188c47b3772e8a5e67ba", func := "ratoon/ratoonlaw05.ChainTells", spec := "chainTells", unfollowed := true, recurses := true, plainKeys := false, apart := false, narrowed := true }
def ChainTellsUptoSaid : Prop := chainTellsUptoRow.holds Try.pinned (OpenSpec.upto chainTellsSpec)

/-- 'ratoonlaw05.ChainWheel', WHERE WHAT IT READS IS OF BULK AT MOST 1048576: true; the input reads as it did. -/
def chainWheelUptoRow : OpenClaim := { program := "ytgndnnpadkoagaa", sum := "f04d7e08d8d62d6f284d6b9a15f6a3a424799f091288188c47b3772e8a5e67ba", func := "ratoon/ratoonlaw05.ChainWheel", spec := "chainWheel", unfollowed := true, recurses := true, plainKeys := false, apart := false, narrowed := true }
def ChainWheelUptoSaid : Prop := chainWheelUptoRow.holds Try.pinned (OpenSpec.upto chainWheelSpec)

/-- 'ratoonlaw05.ChainOne', WHERE WHAT IT READS IS OF BULK AT MOST 1048576: true; the input reads as it did. -/
def chainOneUptoRow : OpenClaim := { program := "ytgndnnpadkoagaa", sum := "f04d7e08d8d62d6f284d6b9a15f6a3a424799f091288188c47b3772e8a5e67ba", func := "ratoon/ratoonlaw05.ChainOne", spec := "chainOne", unfollowed := true, recurses := true, plainKeys := false, apart := false, narrowed := true }
def ChainOneUptoSaid : Prop := chainOneUptoRow.holds Try.pinned (OpenSpec.upto chainOneSpec)

end Rows
end Go.Proofs.Ytgndnnpadkoagaa
