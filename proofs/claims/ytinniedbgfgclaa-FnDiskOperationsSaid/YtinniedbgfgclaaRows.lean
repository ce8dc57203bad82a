/-
  No cell of these rows narrows 'for every input' (looked for: loops, veiled, ifaces, maps, wideKeys, modest, calm, conditions, laid).
  DERIVED. THE GIVEN ROWS OF THIS SEAT. 10 by the template 'for every input the law returns true; each argument reads behind the call as it read before'; 0 by the template 'total and deterministic' (their statements: YtinniedbgfgclaaTotals.lean).
  GIVEN WITH THE SEED: the statements are not yours to turn. If you find one false, say at which input.
  Laid BY PROGRAM, IN A SANDBOX (cutbox-rows.mjs): the forced cells as the released guide's own fill.sh prints them over the translation c80975585c435d87… (all of the seat's roots in one cut). By AI agents, Wed Nov 11 2026. No macro, syntax, notation, axiom, sorry.
-/
import Derived.Test.YtinniedbgfgclaaChecked
import GoSem.Claim
import GoSem.ClaimJoined
import GoSem.ClaimMapViews
import Derived.JoinedTies
import Derived.KernelRfl
namespace Go.Proofs.Ytinniedbgfgclaa
/- THE CELL 'sum', in the pinned program and in every row, IS THE sha256 OF THE DUMP (.gsa) THAT YtinniedbgfgclaaProg.lean LOADS. Nothing in Lean hashes anything: it is a label: what it is worth is what the hold of that sum in a sandbox is worth. -/
noncomputable def Try.pinned : Pinned := { name := "ytinniedbgfgclaa", sum := "c80975585c435d871f43bbab80d452f43587cc1ea38443f9b61143f113d7d8c5", checked := Try.checked }
namespace Rows
def none {H : Type} : Left H := { results := [], args := [] }

/-- 'laws.FnExactSealFile': WHATEVER THE INPUT: true; the input reads as it did. -/
def fnExactSealFileSpec : ChangeSpec := { name := "fnExactSealFile", fn := fun _ => fun
  | [d1, d2] => { results := [.lit (.bool true)], args := [d1, d2] }
  | _ => none }
def fnExactSealFileRow : OpenClaim := { program := "ytinniedbgfgclaa", sum := "c80975585c435d871f43bbab80d452f43587cc1ea38443f9b61143f113d7d8c5", func := "loop.example/g01920/laws.FnExactSealFile", spec := "fnExactSealFile", recurses := true, apart := false }
def FnExactSealFileSaid : Prop := fnExactSealFileRow.holds Try.pinned (OpenSpec.ofChange fnExactSealFileSpec)

/-- ITS FALSE NEIGHBOUR: 'it returns false'. Refute it at one input. -/
def fnExactSealFileWrong : ChangeSpec := { name := "fnExactSealFile", fn := fun _ => fun
  | [d1, d2] => { results := [.lit (.bool false)], args := [d1, d2] }
  | _ => none }
def FnExactSealFileWrongFalsely : Prop := fnExactSealFileRow.holds Try.pinned (OpenSpec.ofChange fnExactSealFileWrong)

/-- 'laws.FnDiskOperations': WHATEVER THE INPUT: true; the input reads as it did. -/
def fnDiskOperationsSpec : ChangeSpec := { name := "fnDiskOperations", fn := fun _ => fun
  | [d] => { results := [.lit (.bool true)], args := [d] }
  | _ => none }
def fnDiskOperationsRow : OpenClaim := { program := "ytinniedbgfgclaa", sum := "c80975585c435d871f43bbab80d452f43587cc1ea38443f9b61143f113d7d8c5", func := "loop.example/g01920/laws.FnDiskOperations", spec := "fnDiskOperations", recurses := true, apart := false }
def FnDiskOperationsSaid : Prop := fnDiskOperationsRow.holds Try.pinned (OpenSpec.ofChange fnDiskOperationsSpec)

/-- ITS FALSE NEIGHBOUR: 'it returns false'. Refute it at one input. -/
def fnDiskOperationsWrong : ChangeSpec := { name := "fnDiskOperations", fn := fun _ => fun
  | [d] => { results := [.lit (.bool false)], args := [d] }
  | _ => none }
def FnDiskOperationsWrongFalsely : Prop := fnDiskOperationsRow.holds Try.pinned (OpenSpec.ofChange fnDiskOperationsWrong)

/-- 'laws.FnExactDeleteUnreadableFiles': WHATEVER THE INPUT: true; the input reads as it did. -/
def fnExactDeleteUnreadableFilesSpec : ChangeSpec := { name := "fnExactDeleteUnreadableFiles", fn := fun _ => fun
  | [d] => { results := [.lit (.bool true)], args := [d] }
  | _ => none }
def fnExactDeleteUnreadableFilesRow : OpenClaim := { program := "ytinniedbgfgclaa", sum := "c80975585c435d871f43bbab80d452f43587cc1ea38443f9b61143f113d7d8c5", func := "loop.example/g01920/laws.FnExactDeleteUnreadableFiles", spec := "fnExactDeleteUnreadableFiles", recurses := true, apart := false }
def FnExactDeleteUnreadableFilesSaid : Prop := fnExactDeleteUnreadableFilesRow.holds Try.pinned (OpenSpec.ofChange fnExactDeleteUnreadableFilesSpec)

/-- ITS FALSE NEIGHBOUR: 'it returns false'. Refute it at one input. -/
def fnExactDeleteUnreadableFilesWrong : ChangeSpec := { name := "fnExactDeleteUnreadableFiles", fn := fun _ => fun
  | [d] => { results := [.lit (.bool false)], args := [d] }
  | _ => none }
def FnExactDeleteUnreadableFilesWrongFalsely : Prop := fnExactDeleteUnreadableFilesRow.holds Try.pinned (OpenSpec.ofChange fnExactDeleteUnreadableFilesWrong)

/-- 'laws.FnExactFormatPages': WHATEVER THE INPUT: true; the input reads as it did. -/
def fnExactFormatPagesSpec : ChangeSpec := { name := "fnExactFormatPages", fn := fun _ => fun
  | [d] => { results := [.lit (.bool true)], args := [d] }
  | _ => none }
def fnExactFormatPagesRow : OpenClaim := { program := "ytinniedbgfgclaa", sum := "c80975585c435d871f43bbab80d452f43587cc1ea38443f9b61143f113d7d8c5", func := "loop.example/g01920/laws.FnExactFormatPages", spec := "fnExactFormatPages", recurses := true, apart := false }
def FnExactFormatPagesSaid : Prop := fnExactFormatPagesRow.holds Try.pinned (OpenSpec.ofChange fnExactFormatPagesSpec)

/-- ITS FALSE NEIGHBOUR: 'it returns false'. Refute it at one input. -/
def fnExactFormatPagesWrong : ChangeSpec := { name := "fnExactFormatPages", fn := fun _ => fun
  | [d] => { results := [.lit (.bool false)], args := [d] }
  | _ => none }
def FnExactFormatPagesWrongFalsely : Prop := fnExactFormatPagesRow.holds Try.pinned (OpenSpec.ofChange fnExactFormatPagesWrong)

/-- 'laws.FnExactIsValidDisk': WHATEVER THE INPUT: true; the input reads as it did. -/
def fnExactIsValidDiskSpec : ChangeSpec := { name := "fnExactIsValidDisk", fn := fun _ => fun
  | [d] => { results := [.lit (.bool true)], args := [d] }
  | _ => none }
def fnExactIsValidDiskRow : OpenClaim := { program := "ytinniedbgfgclaa", sum := "c80975585c435d871f43bbab80d452f43587cc1ea38443f9b61143f113d7d8c5", func := "loop.example/g01920/laws.FnExactIsValidDisk", spec := "fnExactIsValidDisk", apart := false }
def FnExactIsValidDiskSaid : Prop := fnExactIsValidDiskRow.holds Try.pinned (OpenSpec.ofChange fnExactIsValidDiskSpec)

/-- ITS FALSE NEIGHBOUR: 'it returns false'. Refute it at one input. -/
def fnExactIsValidDiskWrong : ChangeSpec := { name := "fnExactIsValidDisk", fn := fun _ => fun
  | [d] => { results := [.lit (.bool false)], args := [d] }
  | _ => none }
def FnExactIsValidDiskWrongFalsely : Prop := fnExactIsValidDiskRow.holds Try.pinned (OpenSpec.ofChange fnExactIsValidDiskWrong)

/-- 'laws.FnExactCreateFile': WHATEVER THE INPUT: true; the input reads as it did. -/
def fnExactCreateFileSpec : ChangeSpec := { name := "fnExactCreateFile", fn := fun _ => fun
  | [d] => { results := [.lit (.bool true)], args := [d] }
  | _ => none }
def fnExactCreateFileRow : OpenClaim := { program := "ytinniedbgfgclaa", sum := "c80975585c435d871f43bbab80d452f43587cc1ea38443f9b61143f113d7d8c5", func := "loop.example/g01920/laws.FnExactCreateFile", spec := "fnExactCreateFile", apart := false }
def FnExactCreateFileSaid : Prop := fnExactCreateFileRow.holds Try.pinned (OpenSpec.ofChange fnExactCreateFileSpec)

/-- ITS FALSE NEIGHBOUR: 'it returns false'. Refute it at one input. -/
def fnExactCreateFileWrong : ChangeSpec := { name := "fnExactCreateFile", fn := fun _ => fun
  | [d] => { results := [.lit (.bool false)], args := [d] }
  | _ => none }
def FnExactCreateFileWrongFalsely : Prop := fnExactCreateFileRow.holds Try.pinned (OpenSpec.ofChange fnExactCreateFileWrong)

/-- 'laws.FnExactDeleteFile': WHATEVER THE INPUT: true; the input reads as it did. -/
def fnExactDeleteFileSpec : ChangeSpec := { name := "fnExactDeleteFile", fn := fun _ => fun
  | [d1, d2] => { results := [.lit (.bool true)], args := [d1, d2] }
  | _ => none }
def fnExactDeleteFileRow : OpenClaim := { program := "ytinniedbgfgclaa", sum := "c80975585c435d871f43bbab80d452f43587cc1ea38443f9b61143f113d7d8c5", func := "loop.example/g01920/laws.FnExactDeleteFile", spec := "fnExactDeleteFile", apart := false }
def FnExactDeleteFileSaid : Prop := fnExactDeleteFileRow.holds Try.pinned (OpenSpec.ofChange fnExactDeleteFileSpec)

/-- ITS FALSE NEIGHBOUR: 'it returns false'. Refute it at one input. -/
def fnExactDeleteFileWrong : ChangeSpec := { name := "fnExactDeleteFile", fn := fun _ => fun
  | [d1, d2] => { results := [.lit (.bool false)], args := [d1, d2] }
  | _ => none }
def FnExactDeleteFileWrongFalsely : Prop := fnExactDeleteFileRow.holds Try.pinned (OpenSpec.ofChange fnExactDeleteFileWrong)

/-- 'laws.FnExactAppendPage': WHATEVER THE INPUT: true; the input reads as it did. -/
def fnExactAppendPageSpec : ChangeSpec := { name := "fnExactAppendPage", fn := fun _ => fun
  | [d1, d2, d3] => { results := [.lit (.bool true)], args := [d1, d2, d3] }
  | _ => none }
def fnExactAppendPageRow : OpenClaim := { program := "ytinniedbgfgclaa", sum := "c80975585c435d871f43bbab80d452f43587cc1ea38443f9b61143f113d7d8c5", func := "loop.example/g01920/laws.FnExactAppendPage", spec := "fnExactAppendPage", apart := false }
def FnExactAppendPageSaid : Prop := fnExactAppendPageRow.holds Try.pinned (OpenSpec.ofChange fnExactAppendPageSpec)

/-- ITS FALSE NEIGHBOUR: 'it returns false'. Refute it at one input. -/
def fnExactAppendPageWrong : ChangeSpec := { name := "fnExactAppendPage", fn := fun _ => fun
  | [d1, d2, d3] => { results := [.lit (.bool false)], args := [d1, d2, d3] }
  | _ => none }
def FnExactAppendPageWrongFalsely : Prop := fnExactAppendPageRow.holds Try.pinned (OpenSpec.ofChange fnExactAppendPageWrong)

/-- 'laws.FnExactReadFile': WHATEVER THE INPUT: true; the input reads as it did. -/
def fnExactReadFileSpec : ChangeSpec := { name := "fnExactReadFile", fn := fun _ => fun
  | [d1, d2] => { results := [.lit (.bool true)], args := [d1, d2] }
  | _ => none }
def fnExactReadFileRow : OpenClaim := { program := "ytinniedbgfgclaa", sum := "c80975585c435d871f43bbab80d452f43587cc1ea38443f9b61143f113d7d8c5", func := "loop.example/g01920/laws.FnExactReadFile", spec := "fnExactReadFile", recurses := true, apart := false }
def FnExactReadFileSaid : Prop := fnExactReadFileRow.holds Try.pinned (OpenSpec.ofChange fnExactReadFileSpec)

/-- ITS FALSE NEIGHBOUR: 'it returns false'. Refute it at one input. -/
def fnExactReadFileWrong : ChangeSpec := { name := "fnExactReadFile", fn := fun _ => fun
  | [d1, d2] => { results := [.lit (.bool false)], args := [d1, d2] }
  | _ => none }
def FnExactReadFileWrongFalsely : Prop := fnExactReadFileRow.holds Try.pinned (OpenSpec.ofChange fnExactReadFileWrong)

/-- 'laws.FnExactParsePages': WHATEVER THE INPUT: true; the input reads as it did. -/
def fnExactParsePagesSpec : ChangeSpec := { name := "fnExactParsePages", fn := fun _ => fun
  | [d] => { results := [.lit (.bool true)], args := [d] }
  | _ => none }
def fnExactParsePagesRow : OpenClaim := { program := "ytinniedbgfgclaa", sum := "c80975585c435d871f43bbab80d452f43587cc1ea38443f9b61143f113d7d8c5", func := "loop.example/g01920/laws.FnExactParsePages", spec := "fnExactParsePages", recurses := true, apart := false }
def FnExactParsePagesSaid : Prop := fnExactParsePagesRow.holds Try.pinned (OpenSpec.ofChange fnExactParsePagesSpec)

/-- ITS FALSE NEIGHBOUR: 'it returns false'. Refute it at one input. -/
def fnExactParsePagesWrong : ChangeSpec := { name := "fnExactParsePages", fn := fun _ => fun
  | [d] => { results := [.lit (.bool false)], args := [d] }
  | _ => none }
def FnExactParsePagesWrongFalsely : Prop := fnExactParsePagesRow.holds Try.pinned (OpenSpec.ofChange fnExactParsePagesWrong)

/- THE SECOND FORM. 'bulk': how many values and letters a reading holds, each counted each time it is reached (what is shared counts as often as it is met; a slice's spare places count too). A statement '..UptoSaid' is the law's where the arguments, and the package variables that the reading takes, are together of bulk at most 1048576: NARROWER than '..Said'. Prove '..Said' where nothing that the law and all that it calls make is longer than what came in: it says more and counts as full. Else prove '..UptoSaid'. A law counts once. -/
mutual
def uptoBulk {H : Type} : DataW H → Nat
  | .lit (.string bytes) => bytes.length + 1
  | .lit _ => 1
  | .nil => 1
  | .ptr d => uptoBulk d + 1
  | .slice elems spare => uptoBulkAll elems + uptoBulkAll spare + 1
  | .agg parts => uptoBulkAll parts + 1
  | .iface _ d => uptoBulk d + 1
  | .map entries => uptoBulkEntries entries + 1
  | .held _ => 1
def uptoBulkAll {H : Type} : List (DataW H) → Nat
  | [] => 0
  | d :: r => uptoBulk d + uptoBulkAll r
def uptoBulkEntries {H : Type} : List (Lit × DataW H) → Nat
  | [] => 0
  | x :: r => uptoBulkEntry x + uptoBulkEntries r
def uptoBulkEntry {H : Type} : Lit × DataW H → Nat
  | (.string bytes, d) => bytes.length + uptoBulk d + 1
  | (_, d) => uptoBulk d + 1
 end
def uptoSmall : (H : Type) → List (DataW H) → Bool := fun _ ds => decide (uptoBulkAll ds ≤ 1048576)
def OpenSpec.upto (s : _root_.Go.ChangeSpec) : _root_.Go.OpenSpec := { _root_.Go.OpenSpec.ofChange s with cond := some uptoSmall }

/-- 'laws.FnExactSealFile', WHERE WHAT IT READS IS OF BULK AT MOST 1048576: true; the input reads as it did. -/
def fnExactSealFileUptoRow : OpenClaim := { program := "ytinniedbgfgclaa", sum := "c80975585c435d871f43bbab80d452f43587cc1ea38443f9b61143f113d7d8c5", func := "loop.example/g01920/laws.FnExactSealFile", spec := "fnExactSealFile", recurses := true, apart := false, narrowed := true }
def FnExactSealFileUptoSaid : Prop := fnExactSealFileUptoRow.holds Try.pinned (OpenSpec.upto fnExactSealFileSpec)

/-- 'laws.FnDiskOperations', WHERE WHAT IT READS IS OF BULK AT MOST 1048576: true; the input reads as it did. -/
def fnDiskOperationsUptoRow : OpenClaim := { program := "ytinniedbgfgclaa", sum := "c80975585c435d871f43bbab80d452f43587cc1ea38443f9b61143f113d7d8c5", func := "loop.example/g01920/laws.FnDiskOperations", spec := "fnDiskOperations", recurses := true, apart := false, narrowed := true }
def FnDiskOperationsUptoSaid : Prop := fnDiskOperationsUptoRow.holds Try.pinned (OpenSpec.upto fnDiskOperationsSpec)

/-- 'laws.FnExactDeleteUnreadableFiles', WHERE WHAT IT READS IS OF BULK AT MOST 1048576: true; the input reads as it did. -/
def fnExactDeleteUnreadableFilesUptoRow : OpenClaim := { program := "ytinniedbgfgclaa", sum := "c80975585c435d871f43bbab80d452f43587cc1ea38443f9b61143f113d7d8c5", func := "loop.example/g01920/laws.FnExactDeleteUnreadableFiles", spec := "fnExactDeleteUnreadableFiles", recurses := true, apart := false, narrowed := true }
def FnExactDeleteUnreadableFilesUptoSaid : Prop := fnExactDeleteUnreadableFilesUptoRow.holds Try.pinned (OpenSpec.upto fnExactDeleteUnreadableFilesSpec)

/-- 'laws.FnExactFormatPages', WHERE WHAT IT READS IS OF BULK AT MOST 1048576: true; the input reads as it did. -/
def fnExactFormatPagesUptoRow : OpenClaim := { program := "ytinniedbgfgclaa", sum := "c80975585c435d871f43bbab80d452f43587cc1ea38443f9b61143f113d7d8c5", func := "loop.example/g01920/laws.FnExactFormatPages", spec := "fnExactFormatPages", recurses := true, apart := false, narrowed := true }
def FnExactFormatPagesUptoSaid : Prop := fnExactFormatPagesUptoRow.holds Try.pinned (OpenSpec.upto fnExactFormatPagesSpec)

/-- 'laws.FnExactIsValidDisk', WHERE WHAT IT READS IS OF BULK AT MOST 1048576: true; the input reads as it did. -/
def fnExactIsValidDiskUptoRow : OpenClaim := { program := "ytinniedbgfgclaa", sum := "c80975585c435d871f43bbab80d452f43587cc1ea38443f9b61143f113d7d8c5", func := "loop.example/g01920/laws.FnExactIsValidDisk", spec := "fnExactIsValidDisk", apart := false, narrowed := true }
def FnExactIsValidDiskUptoSaid : Prop := fnExactIsValidDiskUptoRow.holds Try.pinned (OpenSpec.upto fnExactIsValidDiskSpec)

/-- 'laws.FnExactCreateFile', WHERE WHAT IT READS IS OF BULK AT MOST 1048576: true; the input reads as it did. -/
def fnExactCreateFileUptoRow : OpenClaim := { program := "ytinniedbgfgclaa", sum := "c80975585c435d871f43bbab80d452f43587cc1ea38443f9b61143f113d7d8c5", func := "loop.example/g01920/laws.FnExactCreateFile", spec := "fnExactCreateFile", apart := false, narrowed := true }
def FnExactCreateFileUptoSaid : Prop := fnExactCreateFileUptoRow.holds Try.pinned (OpenSpec.upto fnExactCreateFileSpec)

/-- 'laws.FnExactDeleteFile', WHERE WHAT IT READS IS OF BULK AT MOST 1048576: true; the input reads as it did. -/
def fnExactDeleteFileUptoRow : OpenClaim := { program := "ytinniedbgfgclaa", sum := "c80975585c435d871f43bbab80d452f43587cc1ea38443f9b61143f113d7d8c5", func := "loop.example/g01920/laws.FnExactDeleteFile", spec := "fnExactDeleteFile", apart := false, narrowed := true }
def FnExactDeleteFileUptoSaid : Prop := fnExactDeleteFileUptoRow.holds Try.pinned (OpenSpec.upto fnExactDeleteFileSpec)

/-- 'laws.FnExactAppendPage', WHERE WHAT IT READS IS OF BULK AT MOST 1048576: true; the input reads as it did. -/
def fnExactAppendPageUptoRow : OpenClaim := { program := "ytinniedbgfgclaa", sum := "c80975585c435d871f43bbab80d452f43587cc1ea38443f9b61143f113d7d8c5", func := "loop.example/g01920/laws.FnExactAppendPage", spec := "fnExactAppendPage", apart := false, narrowed := true }
def FnExactAppendPageUptoSaid : Prop := fnExactAppendPageUptoRow.holds Try.pinned (OpenSpec.upto fnExactAppendPageSpec)

/-- 'laws.FnExactReadFile', WHERE WHAT IT READS IS OF BULK AT MOST 1048576: true; the input reads as it did. -/
def fnExactReadFileUptoRow : OpenClaim := { program := "ytinniedbgfgclaa", sum := "c80975585c435d871f43bbab80d452f43587cc1ea38443f9b61143f113d7d8c5", func := "loop.example/g01920/laws.FnExactReadFile", spec := "fnExactReadFile", recurses := true, apart := false, narrowed := true }
def FnExactReadFileUptoSaid : Prop := fnExactReadFileUptoRow.holds Try.pinned (OpenSpec.upto fnExactReadFileSpec)

/-- 'laws.FnExactParsePages', WHERE WHAT IT READS IS OF BULK AT MOST 1048576: true; the input reads as it did. -/
def fnExactParsePagesUptoRow : OpenClaim := { program := "ytinniedbgfgclaa", sum := "c80975585c435d871f43bbab80d452f43587cc1ea38443f9b61143f113d7d8c5", func := "loop.example/g01920/laws.FnExactParsePages", spec := "fnExactParsePages", recurses := true, apart := false, narrowed := true }
def FnExactParsePagesUptoSaid : Prop := fnExactParsePagesUptoRow.holds Try.pinned (OpenSpec.upto fnExactParsePagesSpec)

end Rows
end Go.Proofs.Ytinniedbgfgclaa
