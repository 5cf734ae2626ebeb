/-
  No cell of these rows narrows 'for every input' (looked for: loops, veiled, ifaces, maps, wideKeys, modest, calm, conditions, laid).
  DERIVED. THE GIVEN ROWS OF THIS SEAT. 13 by the template 'for every input the law returns true; each argument reads behind the call as it read before'; 0 by the template 'total and deterministic' (their statements: YtbnnmjfjibneaaaTotals.lean).
  GIVEN WITH THE SEED: the statements are not yours to turn. If you find one false, say at which input.
  Laid BY PROGRAM, IN A SANDBOX (cutbox-rows.mjs): the forced cells as the released guide's own fill.sh prints them over the translation e0fe24fcf5ff5fa9… (all of the seat's roots in one cut). By AI agents, Wed Nov 11 2026. No macro, syntax, notation, axiom, sorry.
-/
import Derived.Test.YtbnnmjfjibneaaaChecked
import GoSem.Claim
import GoSem.ClaimJoined
import GoSem.ClaimMapViews
import Derived.JoinedTies
import Derived.KernelRfl
namespace Go.Proofs.Ytbnnmjfjibneaaa
/- THE CELL 'sum', in the pinned program and in every row, IS THE sha256 OF THE DUMP (.gsa) THAT YtbnnmjfjibneaaaProg.lean LOADS. Nothing in Lean hashes anything: it is a label: what it is worth is what the hold of that sum in a sandbox is worth. -/
noncomputable def Try.pinned : Pinned := { name := "ytbnnmjfjibneaaa", sum := "e0fe24fcf5ff5fa941366915a45bf19006860ad63816c52f9cea638628ee0a12", checked := Try.checked }
namespace Rows
def none {H : Type} : Left H := { results := [], args := [] }

/-- 'ratoonlaw09.ShopGoes': WHATEVER THE INPUT: true; the input reads as it did. -/
def shopGoesSpec : ChangeSpec := { name := "shopGoes", fn := fun _ => fun
  | [d] => { results := [.lit (.bool true)], args := [d] }
  | _ => none }
def shopGoesRow : OpenClaim := { program := "ytbnnmjfjibneaaa", sum := "e0fe24fcf5ff5fa941366915a45bf19006860ad63816c52f9cea638628ee0a12", func := "ratoon/ratoonlaw09.ShopGoes", spec := "shopGoes", unfollowed := true, recurses := true, plainKeys := false, apart := false }
def ShopGoesSaid : Prop := shopGoesRow.holds Try.pinned (OpenSpec.ofChange shopGoesSpec)

/-- ITS FALSE NEIGHBOUR: 'it returns false'. Refute it at one input. -/
def shopGoesWrong : ChangeSpec := { name := "shopGoes", fn := fun _ => fun
  | [d] => { results := [.lit (.bool false)], args := [d] }
  | _ => none }
def ShopGoesWrongFalsely : Prop := shopGoesRow.holds Try.pinned (OpenSpec.ofChange shopGoesWrong)

/-- 'ratoonlaw09.ShopCans': WHATEVER THE INPUT: true; the input reads as it did. -/
def shopCansSpec : ChangeSpec := { name := "shopCans", fn := fun _ => fun
  | [d1, d2] => { results := [.lit (.bool true)], args := [d1, d2] }
  | _ => none }
def shopCansRow : OpenClaim := { program := "ytbnnmjfjibneaaa", sum := "e0fe24fcf5ff5fa941366915a45bf19006860ad63816c52f9cea638628ee0a12", func := "ratoon/ratoonlaw09.ShopCans", spec := "shopCans", unfollowed := true, recurses := true, plainKeys := false, apart := false }
def ShopCansSaid : Prop := shopCansRow.holds Try.pinned (OpenSpec.ofChange shopCansSpec)

/-- ITS FALSE NEIGHBOUR: 'it returns false'. Refute it at one input. -/
def shopCansWrong : ChangeSpec := { name := "shopCans", fn := fun _ => fun
  | [d1, d2] => { results := [.lit (.bool false)], args := [d1, d2] }
  | _ => none }
def ShopCansWrongFalsely : Prop := shopCansRow.holds Try.pinned (OpenSpec.ofChange shopCansWrong)

/-- 'ratoonlaw09.ShopGives': WHATEVER THE INPUT: true; the input reads as it did. -/
def shopGivesSpec : ChangeSpec := { name := "shopGives", fn := fun _ => fun
  | [d] => { results := [.lit (.bool true)], args := [d] }
  | _ => none }
def shopGivesRow : OpenClaim := { program := "ytbnnmjfjibneaaa", sum := "e0fe24fcf5ff5fa941366915a45bf19006860ad63816c52f9cea638628ee0a12", func := "ratoon/ratoonlaw09.ShopGives", spec := "shopGives", unfollowed := true, recurses := true, plainKeys := false, apart := false }
def ShopGivesSaid : Prop := shopGivesRow.holds Try.pinned (OpenSpec.ofChange shopGivesSpec)

/-- ITS FALSE NEIGHBOUR: 'it returns false'. Refute it at one input. -/
def shopGivesWrong : ChangeSpec := { name := "shopGives", fn := fun _ => fun
  | [d] => { results := [.lit (.bool false)], args := [d] }
  | _ => none }
def ShopGivesWrongFalsely : Prop := shopGivesRow.holds Try.pinned (OpenSpec.ofChange shopGivesWrong)

/-- 'ratoonlaw09.ShopMores': WHATEVER THE INPUT: true; the input reads as it did. -/
def shopMoresSpec : ChangeSpec := { name := "shopMores", fn := fun _ => fun
  | [d1, d2] => { results := [.lit (.bool true)], args := [d1, d2] }
  | _ => none }
def shopMoresRow : OpenClaim := { program := "ytbnnmjfjibneaaa", sum := "e0fe24fcf5ff5fa941366915a45bf19006860ad63816c52f9cea638628ee0a12", func := "ratoon/ratoonlaw09.ShopMores", spec := "shopMores", unfollowed := true, recurses := true, plainKeys := false, apart := false }
def ShopMoresSaid : Prop := shopMoresRow.holds Try.pinned (OpenSpec.ofChange shopMoresSpec)

/-- ITS FALSE NEIGHBOUR: 'it returns false'. Refute it at one input. -/
def shopMoresWrong : ChangeSpec := { name := "shopMores", fn := fun _ => fun
  | [d1, d2] => { results := [.lit (.bool false)], args := [d1, d2] }
  | _ => none }
def ShopMoresWrongFalsely : Prop := shopMoresRow.holds Try.pinned (OpenSpec.ofChange shopMoresWrong)

/-- 'ratoonlaw09.ShopKnown': WHATEVER THE INPUT: true; the input reads as it did. -/
def shopKnownSpec : ChangeSpec := { name := "shopKnown", fn := fun _ => fun
  | [] => { results := [.lit (.bool true)], args := [] }
  | _ => none }
def shopKnownRow : OpenClaim := { program := "ytbnnmjfjibneaaa", sum := "e0fe24fcf5ff5fa941366915a45bf19006860ad63816c52f9cea638628ee0a12", func := "ratoon/ratoonlaw09.ShopKnown", spec := "shopKnown", unfollowed := true, recurses := true, plainKeys := false, apart := false }
def ShopKnownSaid : Prop := shopKnownRow.holds Try.pinned (OpenSpec.ofChange shopKnownSpec)

/-- ITS FALSE NEIGHBOUR: 'it returns false'. Refute it at one input. -/
def shopKnownWrong : ChangeSpec := { name := "shopKnown", fn := fun _ => fun
  | [] => { results := [.lit (.bool false)], args := [] }
  | _ => none }
def ShopKnownWrongFalsely : Prop := shopKnownRow.holds Try.pinned (OpenSpec.ofChange shopKnownWrong)

/-- 'ratoonlaw09.ShopServed': WHATEVER THE INPUT: true; the input reads as it did. -/
def shopServedSpec : ChangeSpec := { name := "shopServed", fn := fun _ => fun
  | [d1, d2] => { results := [.lit (.bool true)], args := [d1, d2] }
  | _ => none }
def shopServedRow : OpenClaim := { program := "ytbnnmjfjibneaaa", sum := "e0fe24fcf5ff5fa941366915a45bf19006860ad63816c52f9cea638628ee0a12", func := "ratoon/ratoonlaw09.ShopServed", spec := "shopServed", unfollowed := true, recurses := true, plainKeys := false, apart := false }
def ShopServedSaid : Prop := shopServedRow.holds Try.pinned (OpenSpec.ofChange shopServedSpec)

/-- ITS FALSE NEIGHBOUR: 'it returns false'. Refute it at one input. -/
def shopServedWrong : ChangeSpec := { name := "shopServed", fn := fun _ => fun
  | [d1, d2] => { results := [.lit (.bool false)], args := [d1, d2] }
  | _ => none }
def ShopServedWrongFalsely : Prop := shopServedRow.holds Try.pinned (OpenSpec.ofChange shopServedWrong)

/-- 'ratoonlaw09.ShopProved': WHATEVER THE INPUT: true; the input reads as it did. -/
def shopProvedSpec : ChangeSpec := { name := "shopProved", fn := fun _ => fun
  | [d1, d2, d3] => { results := [.lit (.bool true)], args := [d1, d2, d3] }
  | _ => none }
def shopProvedRow : OpenClaim := { program := "ytbnnmjfjibneaaa", sum := "e0fe24fcf5ff5fa941366915a45bf19006860ad63816c52f9cea638628ee0a12", func := "ratoon/ratoonlaw09.ShopProved", spec := "shopProved", unfollowed := true, recurses := true, plainKeys := false, apart := false }
def ShopProvedSaid : Prop := shopProvedRow.holds Try.pinned (OpenSpec.ofChange shopProvedSpec)

/-- ITS FALSE NEIGHBOUR: 'it returns false'. Refute it at one input. -/
def shopProvedWrong : ChangeSpec := { name := "shopProved", fn := fun _ => fun
  | [d1, d2, d3] => { results := [.lit (.bool false)], args := [d1, d2, d3] }
  | _ => none }
def ShopProvedWrongFalsely : Prop := shopProvedRow.holds Try.pinned (OpenSpec.ofChange shopProvedWrong)

/-- 'ratoonlaw09.ShopFewest': WHATEVER THE INPUT: true; the input reads as it did. -/
def shopFewestSpec : ChangeSpec := { name := "shopFewest", fn := fun _ => fun
  | [d1, d2] => { results := [.lit (.bool true)], args := [d1, d2] }
  | _ => none }
def shopFewestRow : OpenClaim := { program := "ytbnnmjfjibneaaa", sum := "e0fe24fcf5ff5fa941366915a45bf19006860ad63816c52f9cea638628ee0a12", func := "ratoon/ratoonlaw09.ShopFewest", spec := "shopFewest", unfollowed := true, recurses := true, plainKeys := false, apart := false }
def ShopFewestSaid : Prop := shopFewestRow.holds Try.pinned (OpenSpec.ofChange shopFewestSpec)

/-- ITS FALSE NEIGHBOUR: 'it returns false'. Refute it at one input. -/
def shopFewestWrong : ChangeSpec := { name := "shopFewest", fn := fun _ => fun
  | [d1, d2] => { results := [.lit (.bool false)], args := [d1, d2] }
  | _ => none }
def ShopFewestWrongFalsely : Prop := shopFewestRow.holds Try.pinned (OpenSpec.ofChange shopFewestWrong)

/-- 'ratoonlaw09.ShopSome': WHATEVER THE INPUT: true; the input reads as it did. -/
def shopSomeSpec : ChangeSpec := { name := "shopSome", fn := fun _ => fun
  | [d1, d2, d3] => { results := [.lit (.bool true)], args := [d1, d2, d3] }
  | _ => none }
def shopSomeRow : OpenClaim := { program := "ytbnnmjfjibneaaa", sum := "e0fe24fcf5ff5fa941366915a45bf19006860ad63816c52f9cea638628ee0a12", func := "ratoon/ratoonlaw09.ShopSome", spec := "shopSome", unfollowed := true, recurses := true, plainKeys := false, apart := false }
def ShopSomeSaid : Prop := shopSomeRow.holds Try.pinned (OpenSpec.ofChange shopSomeSpec)

/-- ITS FALSE NEIGHBOUR: 'it returns false'. Refute it at one input. -/
def shopSomeWrong : ChangeSpec := { name := "shopSome", fn := fun _ => fun
  | [d1, d2, d3] => { results := [.lit (.bool false)], args := [d1, d2, d3] }
  | _ => none }
def ShopSomeWrongFalsely : Prop := shopSomeRow.holds Try.pinned (OpenSpec.ofChange shopSomeWrong)

/-- 'ratoonlaw09.ShopMore': WHATEVER THE INPUT: true; the input reads as it did. -/
def shopMoreSpec : ChangeSpec := { name := "shopMore", fn := fun _ => fun
  | [d1, d2] => { results := [.lit (.bool true)], args := [d1, d2] }
  | _ => none }
def shopMoreRow : OpenClaim := { program := "ytbnnmjfjibneaaa", sum := "e0fe24fcf5ff5fa941366915a45bf19006860ad63816c52f9cea638628ee0a12", func := "ratoon/ratoonlaw09.ShopMore", spec := "shopMore", unfollowed := true, recurses := true, plainKeys := false, apart := false }
def ShopMoreSaid : Prop := shopMoreRow.holds Try.pinned (OpenSpec.ofChange shopMoreSpec)

/-- ITS FALSE NEIGHBOUR: 'it returns false'. Refute it at one input. -/
def shopMoreWrong : ChangeSpec := { name := "shopMore", fn := fun _ => fun
  | [d1, d2] => { results := [.lit (.bool false)], args := [d1, d2] }
  | _ => none }
def ShopMoreWrongFalsely : Prop := shopMoreRow.holds Try.pinned (OpenSpec.ofChange shopMoreWrong)

/-- 'ratoonlaw09.ShopEasier': WHATEVER THE INPUT: true; the input reads as it did. -/
def shopEasierSpec : ChangeSpec := { name := "shopEasier", fn := fun _ => fun
  | [d1, d2] => { results := [.lit (.bool true)], args := [d1, d2] }
  | _ => none }
def shopEasierRow : OpenClaim := { program := "ytbnnmjfjibneaaa", sum := "e0fe24fcf5ff5fa941366915a45bf19006860ad63816c52f9cea638628ee0a12", func := "ratoon/ratoonlaw09.ShopEasier", spec := "shopEasier", unfollowed := true, recurses := true, plainKeys := false, apart := false }
def ShopEasierSaid : Prop := shopEasierRow.holds Try.pinned (OpenSpec.ofChange shopEasierSpec)

/-- ITS FALSE NEIGHBOUR: 'it returns false'. Refute it at one input. -/
def shopEasierWrong : ChangeSpec := { name := "shopEasier", fn := fun _ => fun
  | [d1, d2] => { results := [.lit (.bool false)], args := [d1, d2] }
  | _ => none }
def ShopEasierWrongFalsely : Prop := shopEasierRow.holds Try.pinned (OpenSpec.ofChange shopEasierWrong)

/-- 'ratoonlaw09.ShopLate': WHATEVER THE INPUT: true; the input reads as it did. -/
def shopLateSpec : ChangeSpec := { name := "shopLate", fn := fun _ => fun
  | [d1, d2] => { results := [.lit (.bool true)], args := [d1, d2] }
  | _ => none }
def shopLateRow : OpenClaim := { program := "ytbnnmjfjibneaaa", sum := "e0fe24fcf5ff5fa941366915a45bf19006860ad63816c52f9cea638628ee0a12", func := "ratoon/ratoonlaw09.ShopLate", spec := "shopLate", unfollowed := true, recurses := true, plainKeys := false, apart := false }
def ShopLateSaid : Prop := shopLateRow.holds Try.pinned (OpenSpec.ofChange shopLateSpec)

/-- ITS FALSE NEIGHBOUR: 'it returns false'. Refute it at one input. -/
def shopLateWrong : ChangeSpec := { name := "shopLate", fn := fun _ => fun
  | [d1, d2] => { results := [.lit (.bool false)], args := [d1, d2] }
  | _ => none }
def ShopLateWrongFalsely : Prop := shopLateRow.holds Try.pinned (OpenSpec.ofChange shopLateWrong)

/-- 'ratoonlaw09.ShopOrder': WHATEVER THE INPUT: true; the input reads as it did. -/
def shopOrderSpec : ChangeSpec := { name := "shopOrder", fn := fun _ => fun
  | [d1, d2] => { results := [.lit (.bool true)], args := [d1, d2] }
  | _ => none }
def shopOrderRow : OpenClaim := { program := "ytbnnmjfjibneaaa", sum := "e0fe24fcf5ff5fa941366915a45bf19006860ad63816c52f9cea638628ee0a12", func := "ratoon/ratoonlaw09.ShopOrder", spec := "shopOrder", unfollowed := true, recurses := true, plainKeys := false, apart := false }
def ShopOrderSaid : Prop := shopOrderRow.holds Try.pinned (OpenSpec.ofChange shopOrderSpec)

/-- ITS FALSE NEIGHBOUR: 'it returns false'. Refute it at one input. -/
def shopOrderWrong : ChangeSpec := { name := "shopOrder", fn := fun _ => fun
  | [d1, d2] => { results := [.lit (.bool false)], args := [d1, d2] }
  | _ => none }
def ShopOrderWrongFalsely : Prop := shopOrderRow.holds Try.pinned (OpenSpec.ofChange shopOrderWrong)

/- THE SECOND FORM. 'bulk': how many values and letters a reading holds, each counted each time it is reached (what is shared counts as often as it is met; a slice's spare places count too). A statement '..UptoSaid' is the law's where the arguments, and the package variables that the reading takes, are together of bulk at most 1048576: NARROWER than '..Said'. Prove '..Said' where nothing that the law and all that it calls make is longer than what came in: it says more and counts as full. Else prove '..UptoSaid'. A law counts once. -/
mutual
def uptoBulk {H : Type} : DataW H → Nat
  | .lit (.string bytes) => bytes.length + 1
  | .lit _ => 1
  | .nil => 1
  | .ptr d => uptoBulk d + 1
  | .slice elems spare => uptoBulkAll elems + uptoBulkAll spare + 1
  | .agg parts => uptoBulkAll parts + 1
  | .iface _ d => uptoBulk d + 1
  | .map entries => uptoBulkEntries entries + 1
  | .held _ => 1
def uptoBulkAll {H : Type} : List (DataW H) → Nat
  | [] => 0
  | d :: r => uptoBulk d + uptoBulkAll r
def uptoBulkEntries {H : Type} : List (Lit × DataW H) → Nat
  | [] => 0
  | x :: r => uptoBulkEntry x + uptoBulkEntries r
def uptoBulkEntry {H : Type} : Lit × DataW H → Nat
  | (.string bytes, d) => bytes.length + uptoBulk d + 1
  | (_, d) => uptoBulk d + 1
 end
def uptoSmall : (H : Type) → List (DataW H) → Bool := fun _ ds => decide (uptoBulkAll ds ≤ 1048576)
def OpenSpec.upto (s : _root_.Go.ChangeSpec) : _root_.Go.OpenSpec := { _root_.Go.OpenSpec.ofChange s with cond := some uptoSmall }

/-- 'ratoonlaw09.ShopGoes', WHERE WHAT IT READS IS OF BULK AT MOST 1048576: true; the input reads as it did. -/
def shopGoesUptoRow : OpenClaim := { program := "ytbnnmjfjibneaaa", sum := "e0fe24fcf5ff5fa941366915a45bf19006860ad63816c52f9cea638628ee0a12", func := "ratoon/ratoonlaw09.ShopGoes", spec := "shopGoes", unfollowed := true, recurses := true, plainKeys := false, apart := false, narrowed := true }
def ShopGoesUptoSaid : Prop := shopGoesUptoRow.holds Try.pinned (OpenSpec.upto shopGoesSpec)

/-- 'ratoonlaw09.ShopCans', WHERE WHAT IT READS IS OF BULK AT MOST 1048576: true; the input reads as it did. -/
def shopCansUptoRow : OpenClaim := { program := "ytbnnmjfjibneaaa", sum := "e0fe24fcf5ff5fa941366915a45bf19006860ad63816c52f9cea638628ee0a12", func := "ratoon/ratoonlaw09.ShopCans", spec := "shopCans", unfollowed := true, recurses := true, plainKeys := false, apart := false, narrowed := true }
def ShopCansUptoSaid : Prop := shopCansUptoRow.holds Try.pinned (OpenSpec.upto shopCansSpec)

/-- 'ratoonlaw09.ShopGives', WHERE WHAT IT READS IS OF BULK AT MOST 1048576: true; the input reads as it did. -/
def shopGivesUptoRow : OpenClaim := { program := "ytbnnmjfjibneaaa", sum := "e0fe24fcf5ff5fa941366915a45bf19006860ad63816c52f9cea638628ee0a12", func := "ratoon/ratoonlaw09.ShopGives", spec := "shopGives", unfollowed := true, recurses := true, plainKeys := false, apart := false, narrowed := true }
def ShopGivesUptoSaid : Prop := shopGivesUptoRow.holds Try.pinned (OpenSpec.upto shopGivesSpec)

/-- 'ratoonlaw09.ShopMores', WHERE WHAT IT READS IS OF BULK AT MOST 1048576: true; the input reads as it did. -/
def shopMoresUptoRow : OpenClaim := { program := "ytbnnmjfjibneaaa", sum := "e0fe24fcf5ff5fa941366915a45bf19006860ad63816c52f9cea638628ee0a12", func := "ratoon/ratoonlaw09.ShopMores", spec := "shopMores", unfollowed := true, recurses := true, plainKeys := false, apart := false, narrowed := true }
def ShopMoresUptoSaid : Prop := shopMoresUptoRow.holds Try.pinned (OpenSpec.upto shopMoresSpec)

/-- 'ratoonlaw09.ShopKnown', WHERE WHAT IT READS IS OF BULK AT MOST 1048576: true; the input reads as it did. -/
def shopKnownUptoRow : OpenClaim := { program := "ytbnnmjfjibneaaa", sum := "e0fe24fcf5ff5fa941366915a45bf19006860ad63816c52f9cea638628ee0a12", func := "ratoon/ratoonlaw09.ShopKnown", spec := "shopKnown", unfollowed := true, recurses := true, plainKeys := false, apart := false, narrowed := true }
def ShopKnownUptoSaid : Prop := shopKnownUptoRow.holds Try.pinned (OpenSpec.upto shopKnownSpec)

/-- 'ratoonlaw09.ShopServed', WHERE WHAT IT READS IS OF BULK AT MOST 1048576: true; the input reads as it did. -/
def shopServedUptoRow : OpenClaim := { program := "ytbnnmjfjibneaaa", sum := "e0fe24fcf5ff5fa941366915a45bf19006860ad63816c52f9cea638628ee0a12", func := "ratoon/ratoonlaw09.ShopServed", spec := "shopServed", unfollowed := true, recurses := true, plainKeys := false, apart := false, narrowed := true }
def ShopServedUptoSaid : Prop := shopServedUptoRow.holds Try.pinned (OpenSpec.upto shopServedSpec)

/-- 'ratoonlaw09.ShopProved', WHERE WHAT IT READS IS OF BULK AT MOST 1048576: true; the input reads as it did. -/
def shopProvedUptoRow : OpenClaim := { program := "ytbnnmjfjibneaaa", sum := "e0fe24fcf5ff5fa941366915a45bf19006860ad63816c52f9cea638628ee0a12", func := "ratoon/ratoonlaw09.ShopProved", spec := "shopProved", unfollowed := true, recurses := true, plainKeys := false, apart := false, narrowed := true }
def ShopProvedUptoSaid : Prop := shopProvedUptoRow.holds Try.pinned (OpenSpec.upto shopProvedSpec)

/-- 'ratoonlaw09.ShopFewest', WHERE WHAT IT READS IS OF BULK AT MOST 1048576: true; the input reads as it did. -/
def shopFewestUptoRow : OpenClaim := { program := "ytbnnmjfjibneaaa", sum := "e0fe24fcf5ff5fa941366915a45bf19006860ad63816c52f9cea638628ee0a12", func := "ratoon/ratoonlaw09.ShopFewest", spec := "shopFewest", unfollowed := true, recurses := true, plainKeys := false, apart := false, narrowed := true }
def ShopFewestUptoSaid : Prop := shopFewestUptoRow.holds Try.pinned (OpenSpec.upto shopFewestSpec)

/-- 'ratoonlaw09.ShopSome', WHERE WHAT IT READS IS OF BULK AT MOST 1048576: true; the input reads as it did. -/
def shopSomeUptoRow : OpenClaim := { program := "ytbnnmjfjibneaaa", sum := "e0fe24fcf5ff5fa941366915a45bf19006860ad63816c52f9cea638628ee0a12", func := "ratoon/ratoonlaw09.ShopSome", spec := "shopSome", unfollowed := true, recurses := true, plainKeys := false, apart := false, narrowed := true }
def ShopSomeUptoSaid : Prop := shopSomeUptoRow.holds Try.pinned (OpenSpec.upto shopSomeSpec)

/-- 'ratoonlaw09.ShopMore', WHERE WHAT IT READS IS OF BULK AT MOST 1048576: true; the input reads as it did. -/
def shopMoreUptoRow : OpenClaim := { program := "ytbnnmjfjibneaaa", sum := "e0fe24fcf5ff5fa941366915a45bf19006860ad63816c52f9cea638628ee0a12", func := "ratoon/ratoonlaw09.ShopMore", spec := "shopMore", unfollowed := true, recurses := true, plainKeys := false, apart := false, narrowed := true }
def ShopMoreUptoSaid : Prop := shopMoreUptoRow.holds Try.pinned (OpenSpec.upto shopMoreSpec)

/-- 'ratoonlaw09.ShopEasier', WHERE WHAT IT READS IS OF BULK AT MOST 1048576: true; the input reads as it did. -/
def shopEasierUptoRow : OpenClaim := { program := "ytbnnmjfjibneaaa", sum := "e0fe24fcf5ff5fa941366915a45bf19006860ad63816c52f9cea638628ee0a12", func := "ratoon/ratoonlaw09.ShopEasier", spec := "shopEasier", unfollowed := true, recurses := true, plainKeys := false, apart := false, narrowed := true }
def ShopEasierUptoSaid : Prop := shopEasierUptoRow.holds Try.pinned (OpenSpec.upto shopEasierSpec)

/-- 'ratoonlaw09.ShopLate', WHERE WHAT IT READS IS OF BULK AT MOST 1048576: true; the input reads as it did. -/
def shopLateUptoRow : OpenClaim := { program := "ytbnnmjfjibneaaa", sum := "e0fe24fcf5ff5fa941366915a45bf19006860ad63816c52f9cea638628ee0a12", func := "ratoon/ratoonlaw09.ShopLate", spec := "shopLate", unfollowed := true, recurses := true, plainKeys := false, apart := false, narrowed := true }
def ShopLateUptoSaid : Prop := shopLateUptoRow.holds Try.pinned (OpenSpec.upto shopLateSpec)

/-- 'ratoonlaw09.ShopOrder', WHERE WHAT IT READS IS OF BULK AT MOST 1048576: true; the input reads as it did. -/
def shopOrderUptoRow : OpenClaim := { program := "ytbnnmjfjibneaaa", sum := "e0fe24fcf5ff5fa941366915a45bf19006860ad63816c52f9cea638628ee0a12", func := "ratoon/ratoonlaw09.ShopOrder", spec := "shopOrder", unfollowed := true, recurses := true, plainKeys := false, apart := false, narrowed := true }
def ShopOrderUptoSaid : Prop := shopOrderUptoRow.holds Try.pinned (OpenSpec.upto shopOrderSpec)

end Rows
end Go.Proofs.Ytbnnmjfjibneaaa
