/-
  No cell of these rows narrows 'for every input' (looked for: loops, veiled, ifaces, maps, wideKeys, modest, calm, conditions, laid).
  DERIVED. THE GIVEN ROWS OF THIS SEAT. 12 by the template 'for every input the law returns true; each argument reads behind the call as it read before'; 0 by the template 'total and deterministic' (their statements: YtkipmmkjbeeemaaTotals.lean).
  GIVEN WITH THE SEED: the statements are not yours to turn. If you find one false, say at which input.
  Laid BY PROGRAM, IN A SANDBOX (cutbox-rows.mjs): the forced cells as the released guide's own fill.sh prints them over the translation c56a2c330864b8ae… (all of the seat's roots in one cut). By AI agents, Wed Nov 11 2026. No macro, syntax, notation, axiom, sorry.
-/
import Derived.Test.YtkipmmkjbeeemaaChecked
import GoSem.Claim
import GoSem.ClaimJoined
import GoSem.ClaimMapViews
import Derived.JoinedTies
import Derived.KernelRfl
namespace Go.Proofs.Ytkipmmkjbeeemaa
/- THE CELL 'sum', in the pinned program and in every row, IS THE sha256 OF THE DUMP (.gsa) THAT YtkipmmkjbeeemaaProg.lean LOADS. Nothing in Lean hashes anything: it is a label: what it is worth is what the hold of that sum in a sandbox is worth. -/
noncomputable def Try.pinned : Pinned := { name := "ytkipmmkjbeeemaa", sum := "c56a2c330864b8ae5429c21264a8ea108d228e7cbec5d6ea0a7bf2aae313ef6a", checked := Try.checked }
namespace Rows
def none {H : Type} : Left H := { results := [], args := [] }

/-- 'laws.FnExactWouldOverflow': WHATEVER THE INPUT: true; the input reads as it did. -/
def fnExactWouldOverflowSpec : ChangeSpec := { name := "fnExactWouldOverflow", fn := fun _ => fun
  | [d1, d2] => { results := [.lit (.bool true)], args := [d1, d2] }
  | _ => none }
def fnExactWouldOverflowRow : OpenClaim := { program := "ytkipmmkjbeeemaa", sum := "c56a2c330864b8ae5429c21264a8ea108d228e7cbec5d6ea0a7bf2aae313ef6a", func := "loop.example/g01920/laws.FnExactWouldOverflow", spec := "fnExactWouldOverflow", apart := false }
def FnExactWouldOverflowSaid : Prop := fnExactWouldOverflowRow.holds Try.pinned (OpenSpec.ofChange fnExactWouldOverflowSpec)

/-- ITS FALSE NEIGHBOUR: 'it returns false'. Refute it at one input. -/
def fnExactWouldOverflowWrong : ChangeSpec := { name := "fnExactWouldOverflow", fn := fun _ => fun
  | [d1, d2] => { results := [.lit (.bool false)], args := [d1, d2] }
  | _ => none }
def FnExactWouldOverflowWrongFalsely : Prop := fnExactWouldOverflowRow.holds Try.pinned (OpenSpec.ofChange fnExactWouldOverflowWrong)

/-- 'laws.FnExactSplitByHashBit': WHATEVER THE INPUT: true; the input reads as it did. -/
def fnExactSplitByHashBitSpec : ChangeSpec := { name := "fnExactSplitByHashBit", fn := fun _ => fun
  | [d1, d2] => { results := [.lit (.bool true)], args := [d1, d2] }
  | _ => none }
def fnExactSplitByHashBitRow : OpenClaim := { program := "ytkipmmkjbeeemaa", sum := "c56a2c330864b8ae5429c21264a8ea108d228e7cbec5d6ea0a7bf2aae313ef6a", func := "loop.example/g01920/laws.FnExactSplitByHashBit", spec := "fnExactSplitByHashBit", apart := false }
def FnExactSplitByHashBitSaid : Prop := fnExactSplitByHashBitRow.holds Try.pinned (OpenSpec.ofChange fnExactSplitByHashBitSpec)

/-- ITS FALSE NEIGHBOUR: 'it returns false'. Refute it at one input. -/
def fnExactSplitByHashBitWrong : ChangeSpec := { name := "fnExactSplitByHashBit", fn := fun _ => fun
  | [d1, d2] => { results := [.lit (.bool false)], args := [d1, d2] }
  | _ => none }
def FnExactSplitByHashBitWrongFalsely : Prop := fnExactSplitByHashBitRow.holds Try.pinned (OpenSpec.ofChange fnExactSplitByHashBitWrong)

/-- 'laws.FnExactIsValidPage': WHATEVER THE INPUT: true; the input reads as it did. -/
def fnExactIsValidPageSpec : ChangeSpec := { name := "fnExactIsValidPage", fn := fun _ => fun
  | [d] => { results := [.lit (.bool true)], args := [d] }
  | _ => none }
def fnExactIsValidPageRow : OpenClaim := { program := "ytkipmmkjbeeemaa", sum := "c56a2c330864b8ae5429c21264a8ea108d228e7cbec5d6ea0a7bf2aae313ef6a", func := "loop.example/g01920/laws.FnExactIsValidPage", spec := "fnExactIsValidPage", apart := false }
def FnExactIsValidPageSaid : Prop := fnExactIsValidPageRow.holds Try.pinned (OpenSpec.ofChange fnExactIsValidPageSpec)

/-- ITS FALSE NEIGHBOUR: 'it returns false'. Refute it at one input. -/
def fnExactIsValidPageWrong : ChangeSpec := { name := "fnExactIsValidPage", fn := fun _ => fun
  | [d] => { results := [.lit (.bool false)], args := [d] }
  | _ => none }
def FnExactIsValidPageWrongFalsely : Prop := fnExactIsValidPageRow.holds Try.pinned (OpenSpec.ofChange fnExactIsValidPageWrong)

/-- 'laws.FnExactUnpackPages': WHATEVER THE INPUT: true; the input reads as it did. -/
def fnExactUnpackPagesSpec : ChangeSpec := { name := "fnExactUnpackPages", fn := fun _ => fun
  | [d] => { results := [.lit (.bool true)], args := [d] }
  | _ => none }
def fnExactUnpackPagesRow : OpenClaim := { program := "ytkipmmkjbeeemaa", sum := "c56a2c330864b8ae5429c21264a8ea108d228e7cbec5d6ea0a7bf2aae313ef6a", func := "loop.example/g01920/laws.FnExactUnpackPages", spec := "fnExactUnpackPages", apart := false }
def FnExactUnpackPagesSaid : Prop := fnExactUnpackPagesRow.holds Try.pinned (OpenSpec.ofChange fnExactUnpackPagesSpec)

/-- ITS FALSE NEIGHBOUR: 'it returns false'. Refute it at one input. -/
def fnExactUnpackPagesWrong : ChangeSpec := { name := "fnExactUnpackPages", fn := fun _ => fun
  | [d] => { results := [.lit (.bool false)], args := [d] }
  | _ => none }
def FnExactUnpackPagesWrongFalsely : Prop := fnExactUnpackPagesRow.holds Try.pinned (OpenSpec.ofChange fnExactUnpackPagesWrong)

/-- 'laws.FnExactFormatRows': WHATEVER THE INPUT: true; the input reads as it did. -/
def fnExactFormatRowsSpec : ChangeSpec := { name := "fnExactFormatRows", fn := fun _ => fun
  | [d] => { results := [.lit (.bool true)], args := [d] }
  | _ => none }
def fnExactFormatRowsRow : OpenClaim := { program := "ytkipmmkjbeeemaa", sum := "c56a2c330864b8ae5429c21264a8ea108d228e7cbec5d6ea0a7bf2aae313ef6a", func := "loop.example/g01920/laws.FnExactFormatRows", spec := "fnExactFormatRows", recurses := true, apart := false }
def FnExactFormatRowsSaid : Prop := fnExactFormatRowsRow.holds Try.pinned (OpenSpec.ofChange fnExactFormatRowsSpec)

/-- ITS FALSE NEIGHBOUR: 'it returns false'. Refute it at one input. -/
def fnExactFormatRowsWrong : ChangeSpec := { name := "fnExactFormatRows", fn := fun _ => fun
  | [d] => { results := [.lit (.bool false)], args := [d] }
  | _ => none }
def FnExactFormatRowsWrongFalsely : Prop := fnExactFormatRowsRow.holds Try.pinned (OpenSpec.ofChange fnExactFormatRowsWrong)

/-- 'laws.FnExactParseRow': WHATEVER THE INPUT: true; the input reads as it did. -/
def fnExactParseRowSpec : ChangeSpec := { name := "fnExactParseRow", fn := fun _ => fun
  | [d] => { results := [.lit (.bool true)], args := [d] }
  | _ => none }
def fnExactParseRowRow : OpenClaim := { program := "ytkipmmkjbeeemaa", sum := "c56a2c330864b8ae5429c21264a8ea108d228e7cbec5d6ea0a7bf2aae313ef6a", func := "loop.example/g01920/laws.FnExactParseRow", spec := "fnExactParseRow", recurses := true, apart := false }
def FnExactParseRowSaid : Prop := fnExactParseRowRow.holds Try.pinned (OpenSpec.ofChange fnExactParseRowSpec)

/-- ITS FALSE NEIGHBOUR: 'it returns false'. Refute it at one input. -/
def fnExactParseRowWrong : ChangeSpec := { name := "fnExactParseRow", fn := fun _ => fun
  | [d] => { results := [.lit (.bool false)], args := [d] }
  | _ => none }
def FnExactParseRowWrongFalsely : Prop := fnExactParseRowRow.holds Try.pinned (OpenSpec.ofChange fnExactParseRowWrong)

/-- 'laws.FnExactCountPages': WHATEVER THE INPUT: true; the input reads as it did. -/
def fnExactCountPagesSpec : ChangeSpec := { name := "fnExactCountPages", fn := fun _ => fun
  | [d] => { results := [.lit (.bool true)], args := [d] }
  | _ => none }
def fnExactCountPagesRow : OpenClaim := { program := "ytkipmmkjbeeemaa", sum := "c56a2c330864b8ae5429c21264a8ea108d228e7cbec5d6ea0a7bf2aae313ef6a", func := "loop.example/g01920/laws.FnExactCountPages", spec := "fnExactCountPages", apart := false }
def FnExactCountPagesSaid : Prop := fnExactCountPagesRow.holds Try.pinned (OpenSpec.ofChange fnExactCountPagesSpec)

/-- ITS FALSE NEIGHBOUR: 'it returns false'. Refute it at one input. -/
def fnExactCountPagesWrong : ChangeSpec := { name := "fnExactCountPages", fn := fun _ => fun
  | [d] => { results := [.lit (.bool false)], args := [d] }
  | _ => none }
def FnExactCountPagesWrongFalsely : Prop := fnExactCountPagesRow.holds Try.pinned (OpenSpec.ofChange fnExactCountPagesWrong)

/-- 'laws.FnHashSplit': WHATEVER THE INPUT: true; the input reads as it did. -/
def fnHashSplitSpec : ChangeSpec := { name := "fnHashSplit", fn := fun _ => fun
  | [d] => { results := [.lit (.bool true)], args := [d] }
  | _ => none }
def fnHashSplitRow : OpenClaim := { program := "ytkipmmkjbeeemaa", sum := "c56a2c330864b8ae5429c21264a8ea108d228e7cbec5d6ea0a7bf2aae313ef6a", func := "loop.example/g01920/laws.FnHashSplit", spec := "fnHashSplit", apart := false }
def FnHashSplitSaid : Prop := fnHashSplitRow.holds Try.pinned (OpenSpec.ofChange fnHashSplitSpec)

/-- ITS FALSE NEIGHBOUR: 'it returns false'. Refute it at one input. -/
def fnHashSplitWrong : ChangeSpec := { name := "fnHashSplit", fn := fun _ => fun
  | [d] => { results := [.lit (.bool false)], args := [d] }
  | _ => none }
def FnHashSplitWrongFalsely : Prop := fnHashSplitRow.holds Try.pinned (OpenSpec.ofChange fnHashSplitWrong)

/-- 'laws.FnEncodings': WHATEVER THE INPUT: true; the input reads as it did. -/
def fnEncodingsSpec : ChangeSpec := { name := "fnEncodings", fn := fun _ => fun
  | [d] => { results := [.lit (.bool true)], args := [d] }
  | _ => none }
def fnEncodingsRow : OpenClaim := { program := "ytkipmmkjbeeemaa", sum := "c56a2c330864b8ae5429c21264a8ea108d228e7cbec5d6ea0a7bf2aae313ef6a", func := "loop.example/g01920/laws.FnEncodings", spec := "fnEncodings", recurses := true, apart := false }
def FnEncodingsSaid : Prop := fnEncodingsRow.holds Try.pinned (OpenSpec.ofChange fnEncodingsSpec)

/-- ITS FALSE NEIGHBOUR: 'it returns false'. Refute it at one input. -/
def fnEncodingsWrong : ChangeSpec := { name := "fnEncodings", fn := fun _ => fun
  | [d] => { results := [.lit (.bool false)], args := [d] }
  | _ => none }
def FnEncodingsWrongFalsely : Prop := fnEncodingsRow.holds Try.pinned (OpenSpec.ofChange fnEncodingsWrong)

/-- 'laws.FnExactEqualDisks': WHATEVER THE INPUT: true; the input reads as it did. -/
def fnExactEqualDisksSpec : ChangeSpec := { name := "fnExactEqualDisks", fn := fun _ => fun
  | [d1, d2] => { results := [.lit (.bool true)], args := [d1, d2] }
  | _ => none }
def fnExactEqualDisksRow : OpenClaim := { program := "ytkipmmkjbeeemaa", sum := "c56a2c330864b8ae5429c21264a8ea108d228e7cbec5d6ea0a7bf2aae313ef6a", func := "loop.example/g01920/laws.FnExactEqualDisks", spec := "fnExactEqualDisks", apart := false }
def FnExactEqualDisksSaid : Prop := fnExactEqualDisksRow.holds Try.pinned (OpenSpec.ofChange fnExactEqualDisksSpec)

/-- ITS FALSE NEIGHBOUR: 'it returns false'. Refute it at one input. -/
def fnExactEqualDisksWrong : ChangeSpec := { name := "fnExactEqualDisks", fn := fun _ => fun
  | [d1, d2] => { results := [.lit (.bool false)], args := [d1, d2] }
  | _ => none }
def FnExactEqualDisksWrongFalsely : Prop := fnExactEqualDisksRow.holds Try.pinned (OpenSpec.ofChange fnExactEqualDisksWrong)

/-- 'laws.FnExactParseRows': WHATEVER THE INPUT: true; the input reads as it did. -/
def fnExactParseRowsSpec : ChangeSpec := { name := "fnExactParseRows", fn := fun _ => fun
  | [d] => { results := [.lit (.bool true)], args := [d] }
  | _ => none }
def fnExactParseRowsRow : OpenClaim := { program := "ytkipmmkjbeeemaa", sum := "c56a2c330864b8ae5429c21264a8ea108d228e7cbec5d6ea0a7bf2aae313ef6a", func := "loop.example/g01920/laws.FnExactParseRows", spec := "fnExactParseRows", recurses := true, apart := false }
def FnExactParseRowsSaid : Prop := fnExactParseRowsRow.holds Try.pinned (OpenSpec.ofChange fnExactParseRowsSpec)

/-- ITS FALSE NEIGHBOUR: 'it returns false'. Refute it at one input. -/
def fnExactParseRowsWrong : ChangeSpec := { name := "fnExactParseRows", fn := fun _ => fun
  | [d] => { results := [.lit (.bool false)], args := [d] }
  | _ => none }
def FnExactParseRowsWrongFalsely : Prop := fnExactParseRowsRow.holds Try.pinned (OpenSpec.ofChange fnExactParseRowsWrong)

/-- 'laws.FnRowFormat': WHATEVER THE INPUT: true; the input reads as it did. -/
def fnRowFormatSpec : ChangeSpec := { name := "fnRowFormat", fn := fun _ => fun
  | [d] => { results := [.lit (.bool true)], args := [d] }
  | _ => none }
def fnRowFormatRow : OpenClaim := { program := "ytkipmmkjbeeemaa", sum := "c56a2c330864b8ae5429c21264a8ea108d228e7cbec5d6ea0a7bf2aae313ef6a", func := "loop.example/g01920/laws.FnRowFormat", spec := "fnRowFormat", recurses := true, apart := false }
def FnRowFormatSaid : Prop := fnRowFormatRow.holds Try.pinned (OpenSpec.ofChange fnRowFormatSpec)

/-- ITS FALSE NEIGHBOUR: 'it returns false'. Refute it at one input. -/
def fnRowFormatWrong : ChangeSpec := { name := "fnRowFormat", fn := fun _ => fun
  | [d] => { results := [.lit (.bool false)], args := [d] }
  | _ => none }
def FnRowFormatWrongFalsely : Prop := fnRowFormatRow.holds Try.pinned (OpenSpec.ofChange fnRowFormatWrong)

/- THE SECOND FORM. 'bulk': how many values and letters a reading holds, each counted each time it is reached (what is shared counts as often as it is met; a slice's spare places count too). A statement '..UptoSaid' is the law's where the arguments, and the package variables that the reading takes, are together of bulk at most 1048576: NARROWER than '..Said'. Prove '..Said' where nothing that the law and all that it calls make is longer than what came in: it says more and counts as full. Else prove '..UptoSaid'. A law counts once. -/
mutual
def uptoBulk {H : Type} : DataW H → Nat
  | .lit (.string bytes) => bytes.length + 1
  | .lit _ => 1
  | .nil => 1
  | .ptr d => uptoBulk d + 1
  | .slice elems spare => uptoBulkAll elems + uptoBulkAll spare + 1
  | .agg parts => uptoBulkAll parts + 1
  | .iface _ d => uptoBulk d + 1
  | .map entries => uptoBulkEntries entries + 1
  | .held _ => 1
def uptoBulkAll {H : Type} : List (DataW H) → Nat
  | [] => 0
  | d :: r => uptoBulk d + uptoBulkAll r
def uptoBulkEntries {H : Type} : List (Lit × DataW H) → Nat
  | [] => 0
  | x :: r => uptoBulkEntry x + uptoBulkEntries r
def uptoBulkEntry {H : Type} : Lit × DataW H → Nat
  | (.string bytes, d) => bytes.length + uptoBulk d + 1
  | (_, d) => uptoBulk d + 1
 end
def uptoSmall : (H : Type) → List (DataW H) → Bool := fun _ ds => decide (uptoBulkAll ds ≤ 1048576)
def OpenSpec.upto (s : _root_.Go.ChangeSpec) : _root_.Go.OpenSpec := { _root_.Go.OpenSpec.ofChange s with cond := some uptoSmall }

/-- 'laws.FnExactWouldOverflow', WHERE WHAT IT READS IS OF BULK AT MOST 1048576: true; the input reads as it did. -/
def fnExactWouldOverflowUptoRow : OpenClaim := { program := "ytkipmmkjbeeemaa", sum := "c56a2c330864b8ae5429c21264a8ea108d228e7cbec5d6ea0a7bf2aae313ef6a", func := "loop.example/g01920/laws.FnExactWouldOverflow", spec := "fnExactWouldOverflow", apart := false, narrowed := true }
def FnExactWouldOverflowUptoSaid : Prop := fnExactWouldOverflowUptoRow.holds Try.pinned (OpenSpec.upto fnExactWouldOverflowSpec)

/-- 'laws.FnExactSplitByHashBit', WHERE WHAT IT READS IS OF BULK AT MOST 1048576: true; the input reads as it did. -/
def fnExactSplitByHashBitUptoRow : OpenClaim := { program := "ytkipmmkjbeeemaa", sum := "c56a2c330864b8ae5429c21264a8ea108d228e7cbec5d6ea0a7bf2aae313ef6a", func := "loop.example/g01920/laws.FnExactSplitByHashBit", spec := "fnExactSplitByHashBit", apart := false, narrowed := true }
def FnExactSplitByHashBitUptoSaid : Prop := fnExactSplitByHashBitUptoRow.holds Try.pinned (OpenSpec.upto fnExactSplitByHashBitSpec)

/-- 'laws.FnExactIsValidPage', WHERE WHAT IT READS IS OF BULK AT MOST 1048576: true; the input reads as it did. -/
def fnExactIsValidPageUptoRow : OpenClaim := { program := "ytkipmmkjbeeemaa", sum := "c56a2c330864b8ae5429c21264a8ea108d228e7cbec5d6ea0a7bf2aae313ef6a", func := "loop.example/g01920/laws.FnExactIsValidPage", spec := "fnExactIsValidPage", apart := false, narrowed := true }
def FnExactIsValidPageUptoSaid : Prop := fnExactIsValidPageUptoRow.holds Try.pinned (OpenSpec.upto fnExactIsValidPageSpec)

/-- 'laws.FnExactUnpackPages', WHERE WHAT IT READS IS OF BULK AT MOST 1048576: true; the input reads as it did. -/
def fnExactUnpackPagesUptoRow : OpenClaim := { program := "ytkipmmkjbeeemaa", sum := "c56a2c330864b8ae5429c21264a8ea108d228e7cbec5d6ea0a7bf2aae313ef6a", func := "loop.example/g01920/laws.FnExactUnpackPages", spec := "fnExactUnpackPages", apart := false, narrowed := true }
def FnExactUnpackPagesUptoSaid : Prop := fnExactUnpackPagesUptoRow.holds Try.pinned (OpenSpec.upto fnExactUnpackPagesSpec)

/-- 'laws.FnExactFormatRows', WHERE WHAT IT READS IS OF BULK AT MOST 1048576: true; the input reads as it did. -/
def fnExactFormatRowsUptoRow : OpenClaim := { program := "ytkipmmkjbeeemaa", sum := "c56a2c330864b8ae5429c21264a8ea108d228e7cbec5d6ea0a7bf2aae313ef6a", func := "loop.example/g01920/laws.FnExactFormatRows", spec := "fnExactFormatRows", recurses := true, apart := false, narrowed := true }
def FnExactFormatRowsUptoSaid : Prop := fnExactFormatRowsUptoRow.holds Try.pinned (OpenSpec.upto fnExactFormatRowsSpec)

/-- 'laws.FnExactParseRow', WHERE WHAT IT READS IS OF BULK AT MOST 1048576: true; the input reads as it did. -/
def fnExactParseRowUptoRow : OpenClaim := { program := "ytkipmmkjbeeemaa", sum := "c56a2c330864b8ae5429c21264a8ea108d228e7cbec5d6ea0a7bf2aae313ef6a", func := "loop.example/g01920/laws.FnExactParseRow", spec := "fnExactParseRow", recurses := true, apart := false, narrowed := true }
def FnExactParseRowUptoSaid : Prop := fnExactParseRowUptoRow.holds Try.pinned (OpenSpec.upto fnExactParseRowSpec)

/-- 'laws.FnExactCountPages', WHERE WHAT IT READS IS OF BULK AT MOST 1048576: true; the input reads as it did. -/
def fnExactCountPagesUptoRow : OpenClaim := { program := "ytkipmmkjbeeemaa", sum := "c56a2c330864b8ae5429c21264a8ea108d228e7cbec5d6ea0a7bf2aae313ef6a", func := "loop.example/g01920/laws.FnExactCountPages", spec := "fnExactCountPages", apart := false, narrowed := true }
def FnExactCountPagesUptoSaid : Prop := fnExactCountPagesUptoRow.holds Try.pinned (OpenSpec.upto fnExactCountPagesSpec)

/-- 'laws.FnHashSplit', WHERE WHAT IT READS IS OF BULK AT MOST 1048576: true; the input reads as it did. -/
def fnHashSplitUptoRow : OpenClaim := { program := "ytkipmmkjbeeemaa", sum := "c56a2c330864b8ae5429c21264a8ea108d228e7cbec5d6ea0a7bf2aae313ef6a", func := "loop.example/g01920/laws.FnHashSplit", spec := "fnHashSplit", apart := false, narrowed := true }
def FnHashSplitUptoSaid : Prop := fnHashSplitUptoRow.holds Try.pinned (OpenSpec.upto fnHashSplitSpec)

/-- 'laws.FnEncodings', WHERE WHAT IT READS IS OF BULK AT MOST 1048576: true; the input reads as it did. -/
def fnEncodingsUptoRow : OpenClaim := { program := "ytkipmmkjbeeemaa", sum := "c56a2c330864b8ae5429c21264a8ea108d228e7cbec5d6ea0a7bf2aae313ef6a", func := "loop.example/g01920/laws.FnEncodings", spec := "fnEncodings", recurses := true, apart := false, narrowed := true }
def FnEncodingsUptoSaid : Prop := fnEncodingsUptoRow.holds Try.pinned (OpenSpec.upto fnEncodingsSpec)

/-- 'laws.FnExactEqualDisks', WHERE WHAT IT READS IS OF BULK AT MOST 1048576: true; the input reads as it did. -/
def fnExactEqualDisksUptoRow : OpenClaim := { program := "ytkipmmkjbeeemaa", sum := "c56a2c330864b8ae5429c21264a8ea108d228e7cbec5d6ea0a7bf2aae313ef6a", func := "loop.example/g01920/laws.FnExactEqualDisks", spec := "fnExactEqualDisks", apart := false, narrowed := true }
def FnExactEqualDisksUptoSaid : Prop := fnExactEqualDisksUptoRow.holds Try.pinned (OpenSpec.upto fnExactEqualDisksSpec)

/-- 'laws.FnExactParseRows', WHERE WHAT IT READS IS OF BULK AT MOST 1048576: true; the input reads as it did. -/
def fnExactParseRowsUptoRow : OpenClaim := { program := "ytkipmmkjbeeemaa", sum := "c56a2c330864b8ae5429c21264a8ea108d228e7cbec5d6ea0a7bf2aae313ef6a", func := "loop.example/g01920/laws.FnExactParseRows", spec := "fnExactParseRows", recurses := true, apart := false, narrowed := true }
def FnExactParseRowsUptoSaid : Prop := fnExactParseRowsUptoRow.holds Try.pinned (OpenSpec.upto fnExactParseRowsSpec)

/-- 'laws.FnRowFormat', WHERE WHAT IT READS IS OF BULK AT MOST 1048576: true; the input reads as it did. -/
def fnRowFormatUptoRow : OpenClaim := { program := "ytkipmmkjbeeemaa", sum := "c56a2c330864b8ae5429c21264a8ea108d228e7cbec5d6ea0a7bf2aae313ef6a", func := "loop.example/g01920/laws.FnRowFormat", spec := "fnRowFormat", recurses := true, apart := false, narrowed := true }
def FnRowFormatUptoSaid : Prop := fnRowFormatUptoRow.holds Try.pinned (OpenSpec.upto fnRowFormatSpec)

end Rows
end Go.Proofs.Ytkipmmkjbeeemaa
