/-
  No cell of these rows narrows 'for every input' (looked for: loops, veiled, ifaces, maps, wideKeys, modest, calm, conditions, laid).
  DERIVED. THE GIVEN ROWS OF THIS SEAT. 6 by the template 'for every input the law returns true; each argument reads behind the call as it read before'; 0 by the template 'total and deterministic' (their statements: YtbcpfppiaeelbaaTotals.lean).
  GIVEN WITH THE SEED: the statements are not yours to turn. If you find one false, say at which input.
  Laid BY PROGRAM, IN A SANDBOX (cutbox-rows.mjs): the forced cells as the released guide's own fill.sh prints them over the translation f0b3e30bb9238f37… (all of the seat's roots in one cut). By AI agents, Wed Nov 11 2026. No macro, syntax, notation, axiom, sorry.
-/
import Derived.Test.YtbcpfppiaeelbaaChecked
import GoSem.Claim
import GoSem.ClaimJoined
import GoSem.ClaimMapViews
import Derived.JoinedTies
import Derived.KernelRfl
namespace Go.Proofs.Ytbcpfppiaeelbaa
/- THE CELL 'sum', in the pinned program and in every row, IS THE sha256 OF THE DUMP (.gsa) THAT YtbcpfppiaeelbaaProg.lean LOADS. Nothing in Lean hashes anything: it is a label: what it is worth is what the hold of that sum in a sandbox is worth. -/
noncomputable def Try.pinned : Pinned := { name := "ytbcpfppiaeelbaa", sum := "f0b3e30bb9238f37313f0483f92051558cbcc879be811845f3bdd8235aa086a6", checked := Try.checked }
namespace Rows
def none {H : Type} : Left H := { results := [], args := [] }

/-- 'laws.FnExactEqualBags': WHATEVER THE INPUT: true; the input reads as it did. -/
def fnExactEqualBagsSpec : ChangeSpec := { name := "fnExactEqualBags", fn := fun _ => fun
  | [d1, d2] => { results := [.lit (.bool true)], args := [d1, d2] }
  | _ => none }
def fnExactEqualBagsRow : OpenClaim := { program := "ytbcpfppiaeelbaa", sum := "f0b3e30bb9238f37313f0483f92051558cbcc879be811845f3bdd8235aa086a6", func := "loop.example/g01920/laws.FnExactEqualBags", spec := "fnExactEqualBags", unfollowed := true, recurses := true, plainKeys := false, apart := false }
def FnExactEqualBagsSaid : Prop := fnExactEqualBagsRow.holds Try.pinned (OpenSpec.ofChange fnExactEqualBagsSpec)

/-- ITS FALSE NEIGHBOUR: 'it returns false'. Refute it at one input. -/
def fnExactEqualBagsWrong : ChangeSpec := { name := "fnExactEqualBags", fn := fun _ => fun
  | [d1, d2] => { results := [.lit (.bool false)], args := [d1, d2] }
  | _ => none }
def FnExactEqualBagsWrongFalsely : Prop := fnExactEqualBagsRow.holds Try.pinned (OpenSpec.ofChange fnExactEqualBagsWrong)

/-- 'laws.FnExactSortRows': WHATEVER THE INPUT: true; the input reads as it did. -/
def fnExactSortRowsSpec : ChangeSpec := { name := "fnExactSortRows", fn := fun _ => fun
  | [d] => { results := [.lit (.bool true)], args := [d] }
  | _ => none }
def fnExactSortRowsRow : OpenClaim := { program := "ytbcpfppiaeelbaa", sum := "f0b3e30bb9238f37313f0483f92051558cbcc879be811845f3bdd8235aa086a6", func := "loop.example/g01920/laws.FnExactSortRows", spec := "fnExactSortRows", unfollowed := true, recurses := true, plainKeys := false, apart := false }
def FnExactSortRowsSaid : Prop := fnExactSortRowsRow.holds Try.pinned (OpenSpec.ofChange fnExactSortRowsSpec)

/-- ITS FALSE NEIGHBOUR: 'it returns false'. Refute it at one input. -/
def fnExactSortRowsWrong : ChangeSpec := { name := "fnExactSortRows", fn := fun _ => fun
  | [d] => { results := [.lit (.bool false)], args := [d] }
  | _ => none }
def FnExactSortRowsWrongFalsely : Prop := fnExactSortRowsRow.holds Try.pinned (OpenSpec.ofChange fnExactSortRowsWrong)

/-- 'laws.FnExactDistinctRows': WHATEVER THE INPUT: true; the input reads as it did. -/
def fnExactDistinctRowsSpec : ChangeSpec := { name := "fnExactDistinctRows", fn := fun _ => fun
  | [d] => { results := [.lit (.bool true)], args := [d] }
  | _ => none }
def fnExactDistinctRowsRow : OpenClaim := { program := "ytbcpfppiaeelbaa", sum := "f0b3e30bb9238f37313f0483f92051558cbcc879be811845f3bdd8235aa086a6", func := "loop.example/g01920/laws.FnExactDistinctRows", spec := "fnExactDistinctRows", unfollowed := true, recurses := true, plainKeys := false, apart := false }
def FnExactDistinctRowsSaid : Prop := fnExactDistinctRowsRow.holds Try.pinned (OpenSpec.ofChange fnExactDistinctRowsSpec)

/-- ITS FALSE NEIGHBOUR: 'it returns false'. Refute it at one input. -/
def fnExactDistinctRowsWrong : ChangeSpec := { name := "fnExactDistinctRows", fn := fun _ => fun
  | [d] => { results := [.lit (.bool false)], args := [d] }
  | _ => none }
def FnExactDistinctRowsWrongFalsely : Prop := fnExactDistinctRowsRow.holds Try.pinned (OpenSpec.ofChange fnExactDistinctRowsWrong)

/-- 'laws.FnExactBagDifference': WHATEVER THE INPUT: true; the input reads as it did. -/
def fnExactBagDifferenceSpec : ChangeSpec := { name := "fnExactBagDifference", fn := fun _ => fun
  | [d1, d2] => { results := [.lit (.bool true)], args := [d1, d2] }
  | _ => none }
def fnExactBagDifferenceRow : OpenClaim := { program := "ytbcpfppiaeelbaa", sum := "f0b3e30bb9238f37313f0483f92051558cbcc879be811845f3bdd8235aa086a6", func := "loop.example/g01920/laws.FnExactBagDifference", spec := "fnExactBagDifference", unfollowed := true, recurses := true, plainKeys := false, apart := false }
def FnExactBagDifferenceSaid : Prop := fnExactBagDifferenceRow.holds Try.pinned (OpenSpec.ofChange fnExactBagDifferenceSpec)

/-- ITS FALSE NEIGHBOUR: 'it returns false'. Refute it at one input. -/
def fnExactBagDifferenceWrong : ChangeSpec := { name := "fnExactBagDifference", fn := fun _ => fun
  | [d1, d2] => { results := [.lit (.bool false)], args := [d1, d2] }
  | _ => none }
def FnExactBagDifferenceWrongFalsely : Prop := fnExactBagDifferenceRow.holds Try.pinned (OpenSpec.ofChange fnExactBagDifferenceWrong)

/-- 'laws.FnSortRows': WHATEVER THE INPUT: true; the input reads as it did. -/
def fnSortRowsSpec : ChangeSpec := { name := "fnSortRows", fn := fun _ => fun
  | [d] => { results := [.lit (.bool true)], args := [d] }
  | _ => none }
def fnSortRowsRow : OpenClaim := { program := "ytbcpfppiaeelbaa", sum := "f0b3e30bb9238f37313f0483f92051558cbcc879be811845f3bdd8235aa086a6", func := "loop.example/g01920/laws.FnSortRows", spec := "fnSortRows", unfollowed := true, recurses := true, plainKeys := false, apart := false }
def FnSortRowsSaid : Prop := fnSortRowsRow.holds Try.pinned (OpenSpec.ofChange fnSortRowsSpec)

/-- ITS FALSE NEIGHBOUR: 'it returns false'. Refute it at one input. -/
def fnSortRowsWrong : ChangeSpec := { name := "fnSortRows", fn := fun _ => fun
  | [d] => { results := [.lit (.bool false)], args := [d] }
  | _ => none }
def FnSortRowsWrongFalsely : Prop := fnSortRowsRow.holds Try.pinned (OpenSpec.ofChange fnSortRowsWrong)

/-- 'laws.FnMultisets': WHATEVER THE INPUT: true; the input reads as it did. -/
def fnMultisetsSpec : ChangeSpec := { name := "fnMultisets", fn := fun _ => fun
  | [d] => { results := [.lit (.bool true)], args := [d] }
  | _ => none }
def fnMultisetsRow : OpenClaim := { program := "ytbcpfppiaeelbaa", sum := "f0b3e30bb9238f37313f0483f92051558cbcc879be811845f3bdd8235aa086a6", func := "loop.example/g01920/laws.FnMultisets", spec := "fnMultisets", unfollowed := true, recurses := true, plainKeys := false, apart := false }
def FnMultisetsSaid : Prop := fnMultisetsRow.holds Try.pinned (OpenSpec.ofChange fnMultisetsSpec)

/-- ITS FALSE NEIGHBOUR: 'it returns false'. Refute it at one input. -/
def fnMultisetsWrong : ChangeSpec := { name := "fnMultisets", fn := fun _ => fun
  | [d] => { results := [.lit (.bool false)], args := [d] }
  | _ => none }
def FnMultisetsWrongFalsely : Prop := fnMultisetsRow.holds Try.pinned (OpenSpec.ofChange fnMultisetsWrong)

/- THE SECOND FORM. 'bulk': how many values and letters a reading holds, each counted each time it is reached (what is shared counts as often as it is met; a slice's spare places count too). A statement '..UptoSaid' is the law's where the arguments, and the package variables that the reading takes, are together of bulk at most 1048576: NARROWER than '..Said'. Prove '..Said' where nothing that the law and all that it calls make is longer than what came in: it says more and counts as full. Else prove '..UptoSaid'. A law counts once. -/
mutual
def uptoBulk {H : Type} : DataW H → Nat
  | .lit (.string bytes) => bytes.length + 1
  | .lit _ => 1
  | .nil => 1
  | .ptr d => uptoBulk d + 1
  | .slice elems spare => uptoBulkAll elems + uptoBulkAll spare + 1
  | .agg parts => uptoBulkAll parts + 1
  | .iface _ d => uptoBulk d + 1
  | .map entries => uptoBulkEntries entries + 1
  | .held _ => 1
def uptoBulkAll {H : Type} : List (DataW H) → Nat
  | [] => 0
  | d :: r => uptoBulk d + uptoBulkAll r
def uptoBulkEntries {H : Type} : List (Lit × DataW H) → Nat
  | [] => 0
  | x :: r => uptoBulkEntry x + uptoBulkEntries r
def uptoBulkEntry {H : Type} : Lit × DataW H → Nat
  | (.string bytes, d) => bytes.length + uptoBulk d + 1
  | (_, d) => uptoBulk d + 1
 end
def uptoSmall : (H : Type) → List (DataW H) → Bool := fun _ ds => decide (uptoBulkAll ds ≤ 1048576)
def OpenSpec.upto (s : _root_.Go.ChangeSpec) : _root_.Go.OpenSpec := { _root_.Go.OpenSpec.ofChange s with cond := some uptoSmall }

/-- 'laws.FnExactEqualBags', WHERE WHAT IT READS IS OF BULK AT MOST 1048576: true; the input reads as it did. -/
def fnExactEqualBagsUptoRow : OpenClaim := { program := "ytbcpfppiaeelbaa", sum := "f0b3e30bb9238f37313f0483f92051558cbcc879be811845f3bdd8235aa086a6", func := "loop.example/g01920/laws.FnExactEqualBags", spec := "fnExactEqualBags", unfollowed := true, recurses := true, plainKeys := false, apart := false, narrowed := true }
def FnExactEqualBagsUptoSaid : Prop := fnExactEqualBagsUptoRow.holds Try.pinned (OpenSpec.upto fnExactEqualBagsSpec)

/-- 'laws.FnExactSortRows', WHERE WHAT IT READS IS OF BULK AT MOST 1048576: true; the input reads as it did. -/
def fnExactSortRowsUptoRow : OpenClaim := { program := "ytbcpfppiaeelbaa", sum := "f0b3e30bb9238f37313f0483f92051558cbcc879be811845f3bdd8235aa086a6", func := "loop.example/g01920/laws.FnExactSortRows", spec := "fnExactSortRows", unfollowed := true, recurses := true, plainKeys := false, apart := false, narrowed := true }
def FnExactSortRowsUptoSaid : Prop := fnExactSortRowsUptoRow.holds Try.pinned (OpenSpec.upto fnExactSortRowsSpec)

/-- 'laws.FnExactDistinctRows', WHERE WHAT IT READS IS OF BULK AT MOST 1048576: true; the input reads as it did. -/
def fnExactDistinctRowsUptoRow : OpenClaim := { program := "ytbcpfppiaeelbaa", sum := "f0b3e30bb9238f37313f0483f92051558cbcc879be811845f3bdd8235aa086a6", func := "loop.example/g01920/laws.FnExactDistinctRows", spec := "fnExactDistinctRows", unfollowed := true, recurses := true, plainKeys := false, apart := false, narrowed := true }
def FnExactDistinctRowsUptoSaid : Prop := fnExactDistinctRowsUptoRow.holds Try.pinned (OpenSpec.upto fnExactDistinctRowsSpec)

/-- 'laws.FnExactBagDifference', WHERE WHAT IT READS IS OF BULK AT MOST 1048576: true; the input reads as it did. -/
def fnExactBagDifferenceUptoRow : OpenClaim := { program := "ytbcpfppiaeelbaa", sum := "f0b3e30bb9238f37313f0483f92051558cbcc879be811845f3bdd8235aa086a6", func := "loop.example/g01920/laws.FnExactBagDifference", spec := "fnExactBagDifference", unfollowed := true, recurses := true, plainKeys := false, apart := false, narrowed := true }
def FnExactBagDifferenceUptoSaid : Prop := fnExactBagDifferenceUptoRow.holds Try.pinned (OpenSpec.upto fnExactBagDifferenceSpec)

/-- 'laws.FnSortRows', WHERE WHAT IT READS IS OF BULK AT MOST 1048576: true; the input reads as it did. -/
def fnSortRowsUptoRow : OpenClaim := { program := "ytbcpfppiaeelbaa", sum := "f0b3e30bb9238f37313f0483f92051558cbcc879be811845f3bdd8235aa086a6", func := "loop.example/g01920/laws.FnSortRows", spec := "fnSortRows", unfollowed := true, recurses := true, plainKeys := false, apart := false, narrowed := true }
def FnSortRowsUptoSaid : Prop := fnSortRowsUptoRow.holds Try.pinned (OpenSpec.upto fnSortRowsSpec)

/-- 'laws.FnMultisets', WHERE WHAT IT READS IS OF BULK AT MOST 1048576: true; the input reads as it did. -/
def fnMultisetsUptoRow : OpenClaim := { program := "ytbcpfppiaeelbaa", sum := "f0b3e30bb9238f37313f0483f92051558cbcc879be811845f3bdd8235aa086a6", func := "loop.example/g01920/laws.FnMultisets", spec := "fnMultisets", unfollowed := true, recurses := true, plainKeys := false, apart := false, narrowed := true }
def FnMultisetsUptoSaid : Prop := fnMultisetsUptoRow.holds Try.pinned (OpenSpec.upto fnMultisetsSpec)

end Rows
end Go.Proofs.Ytbcpfppiaeelbaa
