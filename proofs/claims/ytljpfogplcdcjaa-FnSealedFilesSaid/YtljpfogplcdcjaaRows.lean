/-
  No cell of these rows narrows 'for every input' (looked for: loops, veiled, ifaces, maps, wideKeys, modest, calm, conditions, laid).
  DERIVED. THE GIVEN ROWS OF THIS SEAT. 3 by the template 'for every input the law returns true; each argument reads behind the call as it read before'; 0 by the template 'total and deterministic' (their statements: YtljpfogplcdcjaaTotals.lean).
  GIVEN WITH THE SEED: the statements are not yours to turn. If you find one false, say at which input.
  Laid BY PROGRAM, IN A SANDBOX (cutbox-rows.mjs): the forced cells as the released guide's own fill.sh prints them over the translation 087630bfce57125c… (all of the seat's roots in one cut). By AI agents, Wed Nov 11 2026. No macro, syntax, notation, axiom, sorry.
-/
import Derived.Test.YtljpfogplcdcjaaChecked
import GoSem.Claim
import GoSem.ClaimJoined
import GoSem.ClaimMapViews
import Derived.JoinedTies
import Derived.KernelRfl
namespace Go.Proofs.Ytljpfogplcdcjaa
/- THE CELL 'sum', in the pinned program and in every row, IS THE sha256 OF THE DUMP (.gsa) THAT YtljpfogplcdcjaaProg.lean LOADS. Nothing in Lean hashes anything: it is a label: what it is worth is what the hold of that sum in a sandbox is worth. -/
noncomputable def Try.pinned : Pinned := { name := "ytljpfogplcdcjaa", sum := "087630bfce57125ced0d571504b4085d5c019cbfde6ac468ecaf4e299b4a89eb", checked := Try.checked }
namespace Rows
def none {H : Type} : Left H := { results := [], args := [] }

/-- 'laws.FnExactPackPages': WHATEVER THE INPUT: true; the input reads as it did. -/
def fnExactPackPagesSpec : ChangeSpec := { name := "fnExactPackPages", fn := fun _ => fun
  | [d] => { results := [.lit (.bool true)], args := [d] }
  | _ => none }
def fnExactPackPagesRow : OpenClaim := { program := "ytljpfogplcdcjaa", sum := "087630bfce57125ced0d571504b4085d5c019cbfde6ac468ecaf4e299b4a89eb", func := "loop.example/g01920/laws.FnExactPackPages", spec := "fnExactPackPages", apart := false }
def FnExactPackPagesSaid : Prop := fnExactPackPagesRow.holds Try.pinned (OpenSpec.ofChange fnExactPackPagesSpec)

/-- ITS FALSE NEIGHBOUR: 'it returns false'. Refute it at one input. -/
def fnExactPackPagesWrong : ChangeSpec := { name := "fnExactPackPages", fn := fun _ => fun
  | [d] => { results := [.lit (.bool false)], args := [d] }
  | _ => none }
def FnExactPackPagesWrongFalsely : Prop := fnExactPackPagesRow.holds Try.pinned (OpenSpec.ofChange fnExactPackPagesWrong)

/-- 'laws.FnPagePacking': WHATEVER THE INPUT: true; the input reads as it did. -/
def fnPagePackingSpec : ChangeSpec := { name := "fnPagePacking", fn := fun _ => fun
  | [d] => { results := [.lit (.bool true)], args := [d] }
  | _ => none }
def fnPagePackingRow : OpenClaim := { program := "ytljpfogplcdcjaa", sum := "087630bfce57125ced0d571504b4085d5c019cbfde6ac468ecaf4e299b4a89eb", func := "loop.example/g01920/laws.FnPagePacking", spec := "fnPagePacking", recurses := true, apart := false }
def FnPagePackingSaid : Prop := fnPagePackingRow.holds Try.pinned (OpenSpec.ofChange fnPagePackingSpec)

/-- ITS FALSE NEIGHBOUR: 'it returns false'. Refute it at one input. -/
def fnPagePackingWrong : ChangeSpec := { name := "fnPagePacking", fn := fun _ => fun
  | [d] => { results := [.lit (.bool false)], args := [d] }
  | _ => none }
def FnPagePackingWrongFalsely : Prop := fnPagePackingRow.holds Try.pinned (OpenSpec.ofChange fnPagePackingWrong)

/-- 'laws.FnSealedFiles': WHATEVER THE INPUT: true; the input reads as it did. -/
def fnSealedFilesSpec : ChangeSpec := { name := "fnSealedFiles", fn := fun _ => fun
  | [d] => { results := [.lit (.bool true)], args := [d] }
  | _ => none }
def fnSealedFilesRow : OpenClaim := { program := "ytljpfogplcdcjaa", sum := "087630bfce57125ced0d571504b4085d5c019cbfde6ac468ecaf4e299b4a89eb", func := "loop.example/g01920/laws.FnSealedFiles", spec := "fnSealedFiles", recurses := true, apart := false }
def FnSealedFilesSaid : Prop := fnSealedFilesRow.holds Try.pinned (OpenSpec.ofChange fnSealedFilesSpec)

/-- ITS FALSE NEIGHBOUR: 'it returns false'. Refute it at one input. -/
def fnSealedFilesWrong : ChangeSpec := { name := "fnSealedFiles", fn := fun _ => fun
  | [d] => { results := [.lit (.bool false)], args := [d] }
  | _ => none }
def FnSealedFilesWrongFalsely : Prop := fnSealedFilesRow.holds Try.pinned (OpenSpec.ofChange fnSealedFilesWrong)

/- THE SECOND FORM. 'bulk': how many values and letters a reading holds, each counted each time it is reached (what is shared counts as often as it is met; a slice's spare places count too). A statement '..UptoSaid' is the law's where the arguments, and the package variables that the reading takes, are together of bulk at most 1048576: NARROWER than '..Said'. Prove '..Said' where nothing that the law and all that it calls make is longer than what came in: it says more and counts as full. Else prove '..UptoSaid'. A law counts once. -/
mutual
def uptoBulk {H : Type} : DataW H → Nat
  | .lit (.string bytes) => bytes.length + 1
  | .lit _ => 1
  | .nil => 1
  | .ptr d => uptoBulk d + 1
  | .slice elems spare => uptoBulkAll elems + uptoBulkAll spare + 1
  | .agg parts => uptoBulkAll parts + 1
  | .iface _ d => uptoBulk d + 1
  | .map entries => uptoBulkEntries entries + 1
  | .held _ => 1
def uptoBulkAll {H : Type} : List (DataW H) → Nat
  | [] => 0
  | d :: r => uptoBulk d + uptoBulkAll r
def uptoBulkEntries {H : Type} : List (Lit × DataW H) → Nat
  | [] => 0
  | x :: r => uptoBulkEntry x + uptoBulkEntries r
def uptoBulkEntry {H : Type} : Lit × DataW H → Nat
  | (.string bytes, d) => bytes.length + uptoBulk d + 1
  | (_, d) => uptoBulk d + 1
 end
def uptoSmall : (H : Type) → List (DataW H) → Bool := fun _ ds => decide (uptoBulkAll ds ≤ 1048576)
def OpenSpec.upto (s : _root_.Go.ChangeSpec) : _root_.Go.OpenSpec := { _root_.Go.OpenSpec.ofChange s with cond := some uptoSmall }

/-- 'laws.FnExactPackPages', WHERE WHAT IT READS IS OF BULK AT MOST 1048576: true; the input reads as it did. -/
def fnExactPackPagesUptoRow : OpenClaim := { program := "ytljpfogplcdcjaa", sum := "087630bfce57125ced0d571504b4085d5c019cbfde6ac468ecaf4e299b4a89eb", func := "loop.example/g01920/laws.FnExactPackPages", spec := "fnExactPackPages", apart := false, narrowed := true }
def FnExactPackPagesUptoSaid : Prop := fnExactPackPagesUptoRow.holds Try.pinned (OpenSpec.upto fnExactPackPagesSpec)

/-- 'laws.FnPagePacking', WHERE WHAT IT READS IS OF BULK AT MOST 1048576: true; the input reads as it did. -/
def fnPagePackingUptoRow : OpenClaim := { program := "ytljpfogplcdcjaa", sum := "087630bfce57125ced0d571504b4085d5c019cbfde6ac468ecaf4e299b4a89eb", func := "loop.example/g01920/laws.FnPagePacking", spec := "fnPagePacking", recurses := true, apart := false, narrowed := true }
def FnPagePackingUptoSaid : Prop := fnPagePackingUptoRow.holds Try.pinned (OpenSpec.upto fnPagePackingSpec)

/-- 'laws.FnSealedFiles', WHERE WHAT IT READS IS OF BULK AT MOST 1048576: true; the input reads as it did. -/
def fnSealedFilesUptoRow : OpenClaim := { program := "ytljpfogplcdcjaa", sum := "087630bfce57125ced0d571504b4085d5c019cbfde6ac468ecaf4e299b4a89eb", func := "loop.example/g01920/laws.FnSealedFiles", spec := "fnSealedFiles", recurses := true, apart := false, narrowed := true }
def FnSealedFilesUptoSaid : Prop := fnSealedFilesUptoRow.holds Try.pinned (OpenSpec.upto fnSealedFilesSpec)

end Rows
end Go.Proofs.Ytljpfogplcdcjaa
