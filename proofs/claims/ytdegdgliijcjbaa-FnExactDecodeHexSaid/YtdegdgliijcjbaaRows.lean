/-
  No cell of these rows narrows 'for every input' (looked for: loops, veiled, ifaces, maps, wideKeys, modest, calm, conditions, laid).
  DERIVED. THE GIVEN ROWS OF THIS SEAT. 12 by the template 'for every input the law returns true; each argument reads behind the call as it read before'; 0 by the template 'total and deterministic' (their statements: YtdegdgliijcjbaaTotals.lean).
  GIVEN WITH THE SEED: the statements are not yours to turn. If you find one false, say at which input.
  Laid BY PROGRAM, IN A SANDBOX (cutbox-rows.mjs): the forced cells as the released guide's own fill.sh prints them over the translation 97a2b35ab5f9eef0… (all of the seat's roots in one cut). By AI agents, Wed Nov 11 2026. No macro, syntax, notation, axiom, sorry.
-/
import Derived.Test.YtdegdgliijcjbaaChecked
import GoSem.Claim
import GoSem.ClaimJoined
import GoSem.ClaimMapViews
import Derived.JoinedTies
import Derived.KernelRfl
namespace Go.Proofs.Ytdegdgliijcjbaa
/- THE CELL 'sum', in the pinned program and in every row, IS THE sha256 OF THE DUMP (.gsa) THAT YtdegdgliijcjbaaProg.lean LOADS. Nothing in Lean hashes anything: it is a label: what it is worth is what the hold of that sum in a sandbox is worth. -/
noncomputable def Try.pinned : Pinned := { name := "ytdegdgliijcjbaa", sum := "97a2b35ab5f9eef0451aae37197ea7bb341c555566c0df7980ae88ea58f9c97a", checked := Try.checked }
namespace Rows
def none {H : Type} : Left H := { results := [], args := [] }

/-- 'laws.FnExactDecodeHex': WHATEVER THE INPUT: true; the input reads as it did. -/
def fnExactDecodeHexSpec : ChangeSpec := { name := "fnExactDecodeHex", fn := fun _ => fun
  | [d] => { results := [.lit (.bool true)], args := [d] }
  | _ => none }
def fnExactDecodeHexRow : OpenClaim := { program := "ytdegdgliijcjbaa", sum := "97a2b35ab5f9eef0451aae37197ea7bb341c555566c0df7980ae88ea58f9c97a", func := "loop.example/g01920/laws.FnExactDecodeHex", spec := "fnExactDecodeHex", apart := false }
def FnExactDecodeHexSaid : Prop := fnExactDecodeHexRow.holds Try.pinned (OpenSpec.ofChange fnExactDecodeHexSpec)

/-- ITS FALSE NEIGHBOUR: 'it returns false'. Refute it at one input. -/
def fnExactDecodeHexWrong : ChangeSpec := { name := "fnExactDecodeHex", fn := fun _ => fun
  | [d] => { results := [.lit (.bool false)], args := [d] }
  | _ => none }
def FnExactDecodeHexWrongFalsely : Prop := fnExactDecodeHexRow.holds Try.pinned (OpenSpec.ofChange fnExactDecodeHexWrong)

/-- 'laws.FnExactDecodeVarint': WHATEVER THE INPUT: true; the input reads as it did. -/
def fnExactDecodeVarintSpec : ChangeSpec := { name := "fnExactDecodeVarint", fn := fun _ => fun
  | [d] => { results := [.lit (.bool true)], args := [d] }
  | _ => none }
def fnExactDecodeVarintRow : OpenClaim := { program := "ytdegdgliijcjbaa", sum := "97a2b35ab5f9eef0451aae37197ea7bb341c555566c0df7980ae88ea58f9c97a", func := "loop.example/g01920/laws.FnExactDecodeVarint", spec := "fnExactDecodeVarint", apart := false }
def FnExactDecodeVarintSaid : Prop := fnExactDecodeVarintRow.holds Try.pinned (OpenSpec.ofChange fnExactDecodeVarintSpec)

/-- ITS FALSE NEIGHBOUR: 'it returns false'. Refute it at one input. -/
def fnExactDecodeVarintWrong : ChangeSpec := { name := "fnExactDecodeVarint", fn := fun _ => fun
  | [d] => { results := [.lit (.bool false)], args := [d] }
  | _ => none }
def FnExactDecodeVarintWrongFalsely : Prop := fnExactDecodeVarintRow.holds Try.pinned (OpenSpec.ofChange fnExactDecodeVarintWrong)

/-- 'laws.FnExactFormatRow': WHATEVER THE INPUT: true; the input reads as it did. -/
def fnExactFormatRowSpec : ChangeSpec := { name := "fnExactFormatRow", fn := fun _ => fun
  | [d] => { results := [.lit (.bool true)], args := [d] }
  | _ => none }
def fnExactFormatRowRow : OpenClaim := { program := "ytdegdgliijcjbaa", sum := "97a2b35ab5f9eef0451aae37197ea7bb341c555566c0df7980ae88ea58f9c97a", func := "loop.example/g01920/laws.FnExactFormatRow", spec := "fnExactFormatRow", recurses := true, apart := false }
def FnExactFormatRowSaid : Prop := fnExactFormatRowRow.holds Try.pinned (OpenSpec.ofChange fnExactFormatRowSpec)

/-- ITS FALSE NEIGHBOUR: 'it returns false'. Refute it at one input. -/
def fnExactFormatRowWrong : ChangeSpec := { name := "fnExactFormatRow", fn := fun _ => fun
  | [d] => { results := [.lit (.bool false)], args := [d] }
  | _ => none }
def FnExactFormatRowWrongFalsely : Prop := fnExactFormatRowRow.holds Try.pinned (OpenSpec.ofChange fnExactFormatRowWrong)

/-- 'laws.FnExactAllSameKey': WHATEVER THE INPUT: true; the input reads as it did. -/
def fnExactAllSameKeySpec : ChangeSpec := { name := "fnExactAllSameKey", fn := fun _ => fun
  | [d] => { results := [.lit (.bool true)], args := [d] }
  | _ => none }
def fnExactAllSameKeyRow : OpenClaim := { program := "ytdegdgliijcjbaa", sum := "97a2b35ab5f9eef0451aae37197ea7bb341c555566c0df7980ae88ea58f9c97a", func := "loop.example/g01920/laws.FnExactAllSameKey", spec := "fnExactAllSameKey", apart := false }
def FnExactAllSameKeySaid : Prop := fnExactAllSameKeyRow.holds Try.pinned (OpenSpec.ofChange fnExactAllSameKeySpec)

/-- ITS FALSE NEIGHBOUR: 'it returns false'. Refute it at one input. -/
def fnExactAllSameKeyWrong : ChangeSpec := { name := "fnExactAllSameKey", fn := fun _ => fun
  | [d] => { results := [.lit (.bool false)], args := [d] }
  | _ => none }
def FnExactAllSameKeyWrongFalsely : Prop := fnExactAllSameKeyRow.holds Try.pinned (OpenSpec.ofChange fnExactAllSameKeyWrong)

/-- 'laws.FnExactCountMatches': WHATEVER THE INPUT: true; the input reads as it did. -/
def fnExactCountMatchesSpec : ChangeSpec := { name := "fnExactCountMatches", fn := fun _ => fun
  | [d1, d2] => { results := [.lit (.bool true)], args := [d1, d2] }
  | _ => none }
def fnExactCountMatchesRow : OpenClaim := { program := "ytdegdgliijcjbaa", sum := "97a2b35ab5f9eef0451aae37197ea7bb341c555566c0df7980ae88ea58f9c97a", func := "loop.example/g01920/laws.FnExactCountMatches", spec := "fnExactCountMatches", apart := false }
def FnExactCountMatchesSaid : Prop := fnExactCountMatchesRow.holds Try.pinned (OpenSpec.ofChange fnExactCountMatchesSpec)

/-- ITS FALSE NEIGHBOUR: 'it returns false'. Refute it at one input. -/
def fnExactCountMatchesWrong : ChangeSpec := { name := "fnExactCountMatches", fn := fun _ => fun
  | [d1, d2] => { results := [.lit (.bool false)], args := [d1, d2] }
  | _ => none }
def FnExactCountMatchesWrongFalsely : Prop := fnExactCountMatchesRow.holds Try.pinned (OpenSpec.ofChange fnExactCountMatchesWrong)

/-- 'laws.FnExactCountRow': WHATEVER THE INPUT: true; the input reads as it did. -/
def fnExactCountRowSpec : ChangeSpec := { name := "fnExactCountRow", fn := fun _ => fun
  | [d1, d2] => { results := [.lit (.bool true)], args := [d1, d2] }
  | _ => none }
def fnExactCountRowRow : OpenClaim := { program := "ytdegdgliijcjbaa", sum := "97a2b35ab5f9eef0451aae37197ea7bb341c555566c0df7980ae88ea58f9c97a", func := "loop.example/g01920/laws.FnExactCountRow", spec := "fnExactCountRow", apart := false }
def FnExactCountRowSaid : Prop := fnExactCountRowRow.holds Try.pinned (OpenSpec.ofChange fnExactCountRowSpec)

/-- ITS FALSE NEIGHBOUR: 'it returns false'. Refute it at one input. -/
def fnExactCountRowWrong : ChangeSpec := { name := "fnExactCountRow", fn := fun _ => fun
  | [d1, d2] => { results := [.lit (.bool false)], args := [d1, d2] }
  | _ => none }
def FnExactCountRowWrongFalsely : Prop := fnExactCountRowRow.holds Try.pinned (OpenSpec.ofChange fnExactCountRowWrong)

/-- 'laws.FnExactAreValidRows': WHATEVER THE INPUT: true; the input reads as it did. -/
def fnExactAreValidRowsSpec : ChangeSpec := { name := "fnExactAreValidRows", fn := fun _ => fun
  | [d] => { results := [.lit (.bool true)], args := [d] }
  | _ => none }
def fnExactAreValidRowsRow : OpenClaim := { program := "ytdegdgliijcjbaa", sum := "97a2b35ab5f9eef0451aae37197ea7bb341c555566c0df7980ae88ea58f9c97a", func := "loop.example/g01920/laws.FnExactAreValidRows", spec := "fnExactAreValidRows", apart := false }
def FnExactAreValidRowsSaid : Prop := fnExactAreValidRowsRow.holds Try.pinned (OpenSpec.ofChange fnExactAreValidRowsSpec)

/-- ITS FALSE NEIGHBOUR: 'it returns false'. Refute it at one input. -/
def fnExactAreValidRowsWrong : ChangeSpec := { name := "fnExactAreValidRows", fn := fun _ => fun
  | [d] => { results := [.lit (.bool false)], args := [d] }
  | _ => none }
def FnExactAreValidRowsWrongFalsely : Prop := fnExactAreValidRowsRow.holds Try.pinned (OpenSpec.ofChange fnExactAreValidRowsWrong)

/-- 'laws.FnExactComparePairs': WHATEVER THE INPUT: true; the input reads as it did. -/
def fnExactComparePairsSpec : ChangeSpec := { name := "fnExactComparePairs", fn := fun _ => fun
  | [d1, d2] => { results := [.lit (.bool true)], args := [d1, d2] }
  | _ => none }
def fnExactComparePairsRow : OpenClaim := { program := "ytdegdgliijcjbaa", sum := "97a2b35ab5f9eef0451aae37197ea7bb341c555566c0df7980ae88ea58f9c97a", func := "loop.example/g01920/laws.FnExactComparePairs", spec := "fnExactComparePairs", apart := false }
def FnExactComparePairsSaid : Prop := fnExactComparePairsRow.holds Try.pinned (OpenSpec.ofChange fnExactComparePairsSpec)

/-- ITS FALSE NEIGHBOUR: 'it returns false'. Refute it at one input. -/
def fnExactComparePairsWrong : ChangeSpec := { name := "fnExactComparePairs", fn := fun _ => fun
  | [d1, d2] => { results := [.lit (.bool false)], args := [d1, d2] }
  | _ => none }
def FnExactComparePairsWrongFalsely : Prop := fnExactComparePairsRow.holds Try.pinned (OpenSpec.ofChange fnExactComparePairsWrong)

/-- 'laws.FnExactParseInt': WHATEVER THE INPUT: true; the input reads as it did. -/
def fnExactParseIntSpec : ChangeSpec := { name := "fnExactParseInt", fn := fun _ => fun
  | [d] => { results := [.lit (.bool true)], args := [d] }
  | _ => none }
def fnExactParseIntRow : OpenClaim := { program := "ytdegdgliijcjbaa", sum := "97a2b35ab5f9eef0451aae37197ea7bb341c555566c0df7980ae88ea58f9c97a", func := "loop.example/g01920/laws.FnExactParseInt", spec := "fnExactParseInt", recurses := true, apart := false }
def FnExactParseIntSaid : Prop := fnExactParseIntRow.holds Try.pinned (OpenSpec.ofChange fnExactParseIntSpec)

/-- ITS FALSE NEIGHBOUR: 'it returns false'. Refute it at one input. -/
def fnExactParseIntWrong : ChangeSpec := { name := "fnExactParseInt", fn := fun _ => fun
  | [d] => { results := [.lit (.bool false)], args := [d] }
  | _ => none }
def FnExactParseIntWrongFalsely : Prop := fnExactParseIntRow.holds Try.pinned (OpenSpec.ofChange fnExactParseIntWrong)

/-- 'laws.FnExactTotalCost': WHATEVER THE INPUT: true; the input reads as it did. -/
def fnExactTotalCostSpec : ChangeSpec := { name := "fnExactTotalCost", fn := fun _ => fun
  | [d] => { results := [.lit (.bool true)], args := [d] }
  | _ => none }
def fnExactTotalCostRow : OpenClaim := { program := "ytdegdgliijcjbaa", sum := "97a2b35ab5f9eef0451aae37197ea7bb341c555566c0df7980ae88ea58f9c97a", func := "loop.example/g01920/laws.FnExactTotalCost", spec := "fnExactTotalCost", apart := false }
def FnExactTotalCostSaid : Prop := fnExactTotalCostRow.holds Try.pinned (OpenSpec.ofChange fnExactTotalCostSpec)

/-- ITS FALSE NEIGHBOUR: 'it returns false'. Refute it at one input. -/
def fnExactTotalCostWrong : ChangeSpec := { name := "fnExactTotalCost", fn := fun _ => fun
  | [d] => { results := [.lit (.bool false)], args := [d] }
  | _ => none }
def FnExactTotalCostWrongFalsely : Prop := fnExactTotalCostRow.holds Try.pinned (OpenSpec.ofChange fnExactTotalCostWrong)

/-- 'laws.FnExactIsSorted': WHATEVER THE INPUT: true; the input reads as it did. -/
def fnExactIsSortedSpec : ChangeSpec := { name := "fnExactIsSorted", fn := fun _ => fun
  | [d] => { results := [.lit (.bool true)], args := [d] }
  | _ => none }
def fnExactIsSortedRow : OpenClaim := { program := "ytdegdgliijcjbaa", sum := "97a2b35ab5f9eef0451aae37197ea7bb341c555566c0df7980ae88ea58f9c97a", func := "loop.example/g01920/laws.FnExactIsSorted", spec := "fnExactIsSorted", apart := false }
def FnExactIsSortedSaid : Prop := fnExactIsSortedRow.holds Try.pinned (OpenSpec.ofChange fnExactIsSortedSpec)

/-- ITS FALSE NEIGHBOUR: 'it returns false'. Refute it at one input. -/
def fnExactIsSortedWrong : ChangeSpec := { name := "fnExactIsSorted", fn := fun _ => fun
  | [d] => { results := [.lit (.bool false)], args := [d] }
  | _ => none }
def FnExactIsSortedWrongFalsely : Prop := fnExactIsSortedRow.holds Try.pinned (OpenSpec.ofChange fnExactIsSortedWrong)

/-- 'laws.FnExactFirstSplittingLevel': WHATEVER THE INPUT: true; the input reads as it did. -/
def fnExactFirstSplittingLevelSpec : ChangeSpec := { name := "fnExactFirstSplittingLevel", fn := fun _ => fun
  | [d] => { results := [.lit (.bool true)], args := [d] }
  | _ => none }
def fnExactFirstSplittingLevelRow : OpenClaim := { program := "ytdegdgliijcjbaa", sum := "97a2b35ab5f9eef0451aae37197ea7bb341c555566c0df7980ae88ea58f9c97a", func := "loop.example/g01920/laws.FnExactFirstSplittingLevel", spec := "fnExactFirstSplittingLevel", apart := false }
def FnExactFirstSplittingLevelSaid : Prop := fnExactFirstSplittingLevelRow.holds Try.pinned (OpenSpec.ofChange fnExactFirstSplittingLevelSpec)

/-- ITS FALSE NEIGHBOUR: 'it returns false'. Refute it at one input. -/
def fnExactFirstSplittingLevelWrong : ChangeSpec := { name := "fnExactFirstSplittingLevel", fn := fun _ => fun
  | [d] => { results := [.lit (.bool false)], args := [d] }
  | _ => none }
def FnExactFirstSplittingLevelWrongFalsely : Prop := fnExactFirstSplittingLevelRow.holds Try.pinned (OpenSpec.ofChange fnExactFirstSplittingLevelWrong)

/- THE SECOND FORM. 'bulk': how many values and letters a reading holds, each counted each time it is reached (what is shared counts as often as it is met; a slice's spare places count too). A statement '..UptoSaid' is the law's where the arguments, and the package variables that the reading takes, are together of bulk at most 1048576: NARROWER than '..Said'. Prove '..Said' where nothing that the law and all that it calls make is longer than what came in: it says more and counts as full. Else prove '..UptoSaid'. A law counts once. -/
mutual
def uptoBulk {H : Type} : DataW H → Nat
  | .lit (.string bytes) => bytes.length + 1
  | .lit _ => 1
  | .nil => 1
  | .ptr d => uptoBulk d + 1
  | .slice elems spare => uptoBulkAll elems + uptoBulkAll spare + 1
  | .agg parts => uptoBulkAll parts + 1
  | .iface _ d => uptoBulk d + 1
  | .map entries => uptoBulkEntries entries + 1
  | .held _ => 1
def uptoBulkAll {H : Type} : List (DataW H) → Nat
  | [] => 0
  | d :: r => uptoBulk d + uptoBulkAll r
def uptoBulkEntries {H : Type} : List (Lit × DataW H) → Nat
  | [] => 0
  | x :: r => uptoBulkEntry x + uptoBulkEntries r
def uptoBulkEntry {H : Type} : Lit × DataW H → Nat
  | (.string bytes, d) => bytes.length + uptoBulk d + 1
  | (_, d) => uptoBulk d + 1
 end
def uptoSmall : (H : Type) → List (DataW H) → Bool := fun _ ds => decide (uptoBulkAll ds ≤ 1048576)
def OpenSpec.upto (s : _root_.Go.ChangeSpec) : _root_.Go.OpenSpec := { _root_.Go.OpenSpec.ofChange s with cond := some uptoSmall }

/-- 'laws.FnExactDecodeHex', WHERE WHAT IT READS IS OF BULK AT MOST 1048576: true; the input reads as it did. -/
def fnExactDecodeHexUptoRow : OpenClaim := { program := "ytdegdgliijcjbaa", sum := "97a2b35ab5f9eef0451aae37197ea7bb341c555566c0df7980ae88ea58f9c97a", func := "loop.example/g01920/laws.FnExactDecodeHex", spec := "fnExactDecodeHex", apart := false, narrowed := true }
def FnExactDecodeHexUptoSaid : Prop := fnExactDecodeHexUptoRow.holds Try.pinned (OpenSpec.upto fnExactDecodeHexSpec)

/-- 'laws.FnExactDecodeVarint', WHERE WHAT IT READS IS OF BULK AT MOST 1048576: true; the input reads as it did. -/
def fnExactDecodeVarintUptoRow : OpenClaim := { program := "ytdegdgliijcjbaa", sum := "97a2b35ab5f9eef0451aae37197ea7bb341c555566c0df7980ae88ea58f9c97a", func := "loop.example/g01920/laws.FnExactDecodeVarint", spec := "fnExactDecodeVarint", apart := false, narrowed := true }
def FnExactDecodeVarintUptoSaid : Prop := fnExactDecodeVarintUptoRow.holds Try.pinned (OpenSpec.upto fnExactDecodeVarintSpec)

/-- 'laws.FnExactFormatRow', WHERE WHAT IT READS IS OF BULK AT MOST 1048576: true; the input reads as it did. -/
def fnExactFormatRowUptoRow : OpenClaim := { program := "ytdegdgliijcjbaa", sum := "97a2b35ab5f9eef0451aae37197ea7bb341c555566c0df7980ae88ea58f9c97a", func := "loop.example/g01920/laws.FnExactFormatRow", spec := "fnExactFormatRow", recurses := true, apart := false, narrowed := true }
def FnExactFormatRowUptoSaid : Prop := fnExactFormatRowUptoRow.holds Try.pinned (OpenSpec.upto fnExactFormatRowSpec)

/-- 'laws.FnExactAllSameKey', WHERE WHAT IT READS IS OF BULK AT MOST 1048576: true; the input reads as it did. -/
def fnExactAllSameKeyUptoRow : OpenClaim := { program := "ytdegdgliijcjbaa", sum := "97a2b35ab5f9eef0451aae37197ea7bb341c555566c0df7980ae88ea58f9c97a", func := "loop.example/g01920/laws.FnExactAllSameKey", spec := "fnExactAllSameKey", apart := false, narrowed := true }
def FnExactAllSameKeyUptoSaid : Prop := fnExactAllSameKeyUptoRow.holds Try.pinned (OpenSpec.upto fnExactAllSameKeySpec)

/-- 'laws.FnExactCountMatches', WHERE WHAT IT READS IS OF BULK AT MOST 1048576: true; the input reads as it did. -/
def fnExactCountMatchesUptoRow : OpenClaim := { program := "ytdegdgliijcjbaa", sum := "97a2b35ab5f9eef0451aae37197ea7bb341c555566c0df7980ae88ea58f9c97a", func := "loop.example/g01920/laws.FnExactCountMatches", spec := "fnExactCountMatches", apart := false, narrowed := true }
def FnExactCountMatchesUptoSaid : Prop := fnExactCountMatchesUptoRow.holds Try.pinned (OpenSpec.upto fnExactCountMatchesSpec)

/-- 'laws.FnExactCountRow', WHERE WHAT IT READS IS OF BULK AT MOST 1048576: true; the input reads as it did. -/
def fnExactCountRowUptoRow : OpenClaim := { program := "ytdegdgliijcjbaa", sum := "97a2b35ab5f9eef0451aae37197ea7bb341c555566c0df7980ae88ea58f9c97a", func := "loop.example/g01920/laws.FnExactCountRow", spec := "fnExactCountRow", apart := false, narrowed := true }
def FnExactCountRowUptoSaid : Prop := fnExactCountRowUptoRow.holds Try.pinned (OpenSpec.upto fnExactCountRowSpec)

/-- 'laws.FnExactAreValidRows', WHERE WHAT IT READS IS OF BULK AT MOST 1048576: true; the input reads as it did. -/
def fnExactAreValidRowsUptoRow : OpenClaim := { program := "ytdegdgliijcjbaa", sum := "97a2b35ab5f9eef0451aae37197ea7bb341c555566c0df7980ae88ea58f9c97a", func := "loop.example/g01920/laws.FnExactAreValidRows", spec := "fnExactAreValidRows", apart := false, narrowed := true }
def FnExactAreValidRowsUptoSaid : Prop := fnExactAreValidRowsUptoRow.holds Try.pinned (OpenSpec.upto fnExactAreValidRowsSpec)

/-- 'laws.FnExactComparePairs', WHERE WHAT IT READS IS OF BULK AT MOST 1048576: true; the input reads as it did. -/
def fnExactComparePairsUptoRow : OpenClaim := { program := "ytdegdgliijcjbaa", sum := "97a2b35ab5f9eef0451aae37197ea7bb341c555566c0df7980ae88ea58f9c97a", func := "loop.example/g01920/laws.FnExactComparePairs", spec := "fnExactComparePairs", apart := false, narrowed := true }
def FnExactComparePairsUptoSaid : Prop := fnExactComparePairsUptoRow.holds Try.pinned (OpenSpec.upto fnExactComparePairsSpec)

/-- 'laws.FnExactParseInt', WHERE WHAT IT READS IS OF BULK AT MOST 1048576: true; the input reads as it did. -/
def fnExactParseIntUptoRow : OpenClaim := { program := "ytdegdgliijcjbaa", sum := "97a2b35ab5f9eef0451aae37197ea7bb341c555566c0df7980ae88ea58f9c97a", func := "loop.example/g01920/laws.FnExactParseInt", spec := "fnExactParseInt", recurses := true, apart := false, narrowed := true }
def FnExactParseIntUptoSaid : Prop := fnExactParseIntUptoRow.holds Try.pinned (OpenSpec.upto fnExactParseIntSpec)

/-- 'laws.FnExactTotalCost', WHERE WHAT IT READS IS OF BULK AT MOST 1048576: true; the input reads as it did. -/
def fnExactTotalCostUptoRow : OpenClaim := { program := "ytdegdgliijcjbaa", sum := "97a2b35ab5f9eef0451aae37197ea7bb341c555566c0df7980ae88ea58f9c97a", func := "loop.example/g01920/laws.FnExactTotalCost", spec := "fnExactTotalCost", apart := false, narrowed := true }
def FnExactTotalCostUptoSaid : Prop := fnExactTotalCostUptoRow.holds Try.pinned (OpenSpec.upto fnExactTotalCostSpec)

/-- 'laws.FnExactIsSorted', WHERE WHAT IT READS IS OF BULK AT MOST 1048576: true; the input reads as it did. -/
def fnExactIsSortedUptoRow : OpenClaim := { program := "ytdegdgliijcjbaa", sum := "97a2b35ab5f9eef0451aae37197ea7bb341c555566c0df7980ae88ea58f9c97a", func := "loop.example/g01920/laws.FnExactIsSorted", spec := "fnExactIsSorted", apart := false, narrowed := true }
def FnExactIsSortedUptoSaid : Prop := fnExactIsSortedUptoRow.holds Try.pinned (OpenSpec.upto fnExactIsSortedSpec)

/-- 'laws.FnExactFirstSplittingLevel', WHERE WHAT IT READS IS OF BULK AT MOST 1048576: true; the input reads as it did. -/
def fnExactFirstSplittingLevelUptoRow : OpenClaim := { program := "ytdegdgliijcjbaa", sum := "97a2b35ab5f9eef0451aae37197ea7bb341c555566c0df7980ae88ea58f9c97a", func := "loop.example/g01920/laws.FnExactFirstSplittingLevel", spec := "fnExactFirstSplittingLevel", apart := false, narrowed := true }
def FnExactFirstSplittingLevelUptoSaid : Prop := fnExactFirstSplittingLevelUptoRow.holds Try.pinned (OpenSpec.upto fnExactFirstSplittingLevelSpec)

end Rows
end Go.Proofs.Ytdegdgliijcjbaa
