/-
  No cell of these rows narrows 'for every input' (looked for: loops, veiled, ifaces, maps, wideKeys, modest, calm, conditions, laid).
  DERIVED. THE GIVEN ROWS OF THIS SEAT. 12 by the template 'for every input the law returns true; each argument reads behind the call as it read before'; 0 by the template 'total and deterministic' (their statements: YtolbgaaelkepkaaTotals.lean).
  GIVEN WITH THE SEED: the statements are not yours to turn. If you find one false, say at which input.
  Laid BY PROGRAM, IN A SANDBOX (cutbox-rows.mjs): the forced cells as the released guide's own fill.sh prints them over the translation feb26dc899e8e0b4… (all of the seat's roots in one cut). By AI agents, Wed Nov 11 2026. No macro, syntax, notation, axiom, sorry.
-/
import Derived.Test.YtolbgaaelkepkaaChecked
import GoSem.Claim
import GoSem.ClaimJoined
import GoSem.ClaimMapViews
import Derived.JoinedTies
import Derived.KernelRfl
namespace Go.Proofs.Ytolbgaaelkepkaa
/- THE CELL 'sum', in the pinned program and in every row, IS THE sha256 OF THE DUMP (.gsa) THAT YtolbgaaelkepkaaProg.lean LOADS. Nothing in Lean hashes anything: it is a label: what it is worth is what the hold of that sum in a sandbox is worth. -/
noncomputable def Try.pinned : Pinned := { name := "ytolbgaaelkepkaa", sum := "feb26dc899e8e0b414661f6548fa5e41163652c34b384df2778103d5a33f5dde", checked := Try.checked }
namespace Rows
def none {H : Type} : Left H := { results := [], args := [] }

/-- 'laws.FnExactConstants': WHATEVER THE INPUT: true; the input reads as it did. -/
def fnExactConstantsSpec : ChangeSpec := { name := "fnExactConstants", fn := fun _ => fun
  | [] => { results := [.lit (.bool true)], args := [] }
  | _ => none }
def fnExactConstantsRow : OpenClaim := { program := "ytolbgaaelkepkaa", sum := "feb26dc899e8e0b414661f6548fa5e41163652c34b384df2778103d5a33f5dde", func := "loop.example/g01920/laws.FnExactConstants", spec := "fnExactConstants", apart := false }
def FnExactConstantsSaid : Prop := fnExactConstantsRow.holds Try.pinned (OpenSpec.ofChange fnExactConstantsSpec)

/-- ITS FALSE NEIGHBOUR: 'it returns false'. Refute it at one input. -/
def fnExactConstantsWrong : ChangeSpec := { name := "fnExactConstants", fn := fun _ => fun
  | [] => { results := [.lit (.bool false)], args := [] }
  | _ => none }
def FnExactConstantsWrongFalsely : Prop := fnExactConstantsRow.holds Try.pinned (OpenSpec.ofChange fnExactConstantsWrong)

/-- 'laws.FnExactIsValidJoinKind': WHATEVER THE INPUT: true; the input reads as it did. -/
def fnExactIsValidJoinKindSpec : ChangeSpec := { name := "fnExactIsValidJoinKind", fn := fun _ => fun
  | [d] => { results := [.lit (.bool true)], args := [d] }
  | _ => none }
def fnExactIsValidJoinKindRow : OpenClaim := { program := "ytolbgaaelkepkaa", sum := "feb26dc899e8e0b414661f6548fa5e41163652c34b384df2778103d5a33f5dde", func := "loop.example/g01920/laws.FnExactIsValidJoinKind", spec := "fnExactIsValidJoinKind", apart := false }
def FnExactIsValidJoinKindSaid : Prop := fnExactIsValidJoinKindRow.holds Try.pinned (OpenSpec.ofChange fnExactIsValidJoinKindSpec)

/-- ITS FALSE NEIGHBOUR: 'it returns false'. Refute it at one input. -/
def fnExactIsValidJoinKindWrong : ChangeSpec := { name := "fnExactIsValidJoinKind", fn := fun _ => fun
  | [d] => { results := [.lit (.bool false)], args := [d] }
  | _ => none }
def FnExactIsValidJoinKindWrongFalsely : Prop := fnExactIsValidJoinKindRow.holds Try.pinned (OpenSpec.ofChange fnExactIsValidJoinKindWrong)

/-- 'laws.FnExactChecksumOf': WHATEVER THE INPUT: true; the input reads as it did. -/
def fnExactChecksumOfSpec : ChangeSpec := { name := "fnExactChecksumOf", fn := fun _ => fun
  | [d] => { results := [.lit (.bool true)], args := [d] }
  | _ => none }
def fnExactChecksumOfRow : OpenClaim := { program := "ytolbgaaelkepkaa", sum := "feb26dc899e8e0b414661f6548fa5e41163652c34b384df2778103d5a33f5dde", func := "loop.example/g01920/laws.FnExactChecksumOf", spec := "fnExactChecksumOf", apart := false }
def FnExactChecksumOfSaid : Prop := fnExactChecksumOfRow.holds Try.pinned (OpenSpec.ofChange fnExactChecksumOfSpec)

/-- ITS FALSE NEIGHBOUR: 'it returns false'. Refute it at one input. -/
def fnExactChecksumOfWrong : ChangeSpec := { name := "fnExactChecksumOf", fn := fun _ => fun
  | [d] => { results := [.lit (.bool false)], args := [d] }
  | _ => none }
def FnExactChecksumOfWrongFalsely : Prop := fnExactChecksumOfRow.holds Try.pinned (OpenSpec.ofChange fnExactChecksumOfWrong)

/-- 'laws.FnExactHashBit': WHATEVER THE INPUT: true; the input reads as it did. -/
def fnExactHashBitSpec : ChangeSpec := { name := "fnExactHashBit", fn := fun _ => fun
  | [d1, d2] => { results := [.lit (.bool true)], args := [d1, d2] }
  | _ => none }
def fnExactHashBitRow : OpenClaim := { program := "ytolbgaaelkepkaa", sum := "feb26dc899e8e0b414661f6548fa5e41163652c34b384df2778103d5a33f5dde", func := "loop.example/g01920/laws.FnExactHashBit", spec := "fnExactHashBit", apart := false }
def FnExactHashBitSaid : Prop := fnExactHashBitRow.holds Try.pinned (OpenSpec.ofChange fnExactHashBitSpec)

/-- ITS FALSE NEIGHBOUR: 'it returns false'. Refute it at one input. -/
def fnExactHashBitWrong : ChangeSpec := { name := "fnExactHashBit", fn := fun _ => fun
  | [d1, d2] => { results := [.lit (.bool false)], args := [d1, d2] }
  | _ => none }
def FnExactHashBitWrongFalsely : Prop := fnExactHashBitRow.holds Try.pinned (OpenSpec.ofChange fnExactHashBitWrong)

/-- 'laws.FnExactEncodeHex': WHATEVER THE INPUT: true; the input reads as it did. -/
def fnExactEncodeHexSpec : ChangeSpec := { name := "fnExactEncodeHex", fn := fun _ => fun
  | [d] => { results := [.lit (.bool true)], args := [d] }
  | _ => none }
def fnExactEncodeHexRow : OpenClaim := { program := "ytolbgaaelkepkaa", sum := "feb26dc899e8e0b414661f6548fa5e41163652c34b384df2778103d5a33f5dde", func := "loop.example/g01920/laws.FnExactEncodeHex", spec := "fnExactEncodeHex", apart := false }
def FnExactEncodeHexSaid : Prop := fnExactEncodeHexRow.holds Try.pinned (OpenSpec.ofChange fnExactEncodeHexSpec)

/-- ITS FALSE NEIGHBOUR: 'it returns false'. Refute it at one input. -/
def fnExactEncodeHexWrong : ChangeSpec := { name := "fnExactEncodeHex", fn := fun _ => fun
  | [d] => { results := [.lit (.bool false)], args := [d] }
  | _ => none }
def FnExactEncodeHexWrongFalsely : Prop := fnExactEncodeHexRow.holds Try.pinned (OpenSpec.ofChange fnExactEncodeHexWrong)

/-- 'laws.FnExactIsValidRow': WHATEVER THE INPUT: true; the input reads as it did. -/
def fnExactIsValidRowSpec : ChangeSpec := { name := "fnExactIsValidRow", fn := fun _ => fun
  | [d] => { results := [.lit (.bool true)], args := [d] }
  | _ => none }
def fnExactIsValidRowRow : OpenClaim := { program := "ytolbgaaelkepkaa", sum := "feb26dc899e8e0b414661f6548fa5e41163652c34b384df2778103d5a33f5dde", func := "loop.example/g01920/laws.FnExactIsValidRow", spec := "fnExactIsValidRow", apart := false }
def FnExactIsValidRowSaid : Prop := fnExactIsValidRowRow.holds Try.pinned (OpenSpec.ofChange fnExactIsValidRowSpec)

/-- ITS FALSE NEIGHBOUR: 'it returns false'. Refute it at one input. -/
def fnExactIsValidRowWrong : ChangeSpec := { name := "fnExactIsValidRow", fn := fun _ => fun
  | [d] => { results := [.lit (.bool false)], args := [d] }
  | _ => none }
def FnExactIsValidRowWrongFalsely : Prop := fnExactIsValidRowRow.holds Try.pinned (OpenSpec.ofChange fnExactIsValidRowWrong)

/-- 'laws.FnExactDecodeFixed': WHATEVER THE INPUT: true; the input reads as it did. -/
def fnExactDecodeFixedSpec : ChangeSpec := { name := "fnExactDecodeFixed", fn := fun _ => fun
  | [d1, d2] => { results := [.lit (.bool true)], args := [d1, d2] }
  | _ => none }
def fnExactDecodeFixedRow : OpenClaim := { program := "ytolbgaaelkepkaa", sum := "feb26dc899e8e0b414661f6548fa5e41163652c34b384df2778103d5a33f5dde", func := "loop.example/g01920/laws.FnExactDecodeFixed", spec := "fnExactDecodeFixed", apart := false }
def FnExactDecodeFixedSaid : Prop := fnExactDecodeFixedRow.holds Try.pinned (OpenSpec.ofChange fnExactDecodeFixedSpec)

/-- ITS FALSE NEIGHBOUR: 'it returns false'. Refute it at one input. -/
def fnExactDecodeFixedWrong : ChangeSpec := { name := "fnExactDecodeFixed", fn := fun _ => fun
  | [d1, d2] => { results := [.lit (.bool false)], args := [d1, d2] }
  | _ => none }
def FnExactDecodeFixedWrongFalsely : Prop := fnExactDecodeFixedRow.holds Try.pinned (OpenSpec.ofChange fnExactDecodeFixedWrong)

/-- 'laws.FnExactEncodeVarint': WHATEVER THE INPUT: true; the input reads as it did. -/
def fnExactEncodeVarintSpec : ChangeSpec := { name := "fnExactEncodeVarint", fn := fun _ => fun
  | [d] => { results := [.lit (.bool true)], args := [d] }
  | _ => none }
def fnExactEncodeVarintRow : OpenClaim := { program := "ytolbgaaelkepkaa", sum := "feb26dc899e8e0b414661f6548fa5e41163652c34b384df2778103d5a33f5dde", func := "loop.example/g01920/laws.FnExactEncodeVarint", spec := "fnExactEncodeVarint", apart := false }
def FnExactEncodeVarintSaid : Prop := fnExactEncodeVarintRow.holds Try.pinned (OpenSpec.ofChange fnExactEncodeVarintSpec)

/-- ITS FALSE NEIGHBOUR: 'it returns false'. Refute it at one input. -/
def fnExactEncodeVarintWrong : ChangeSpec := { name := "fnExactEncodeVarint", fn := fun _ => fun
  | [d] => { results := [.lit (.bool false)], args := [d] }
  | _ => none }
def FnExactEncodeVarintWrongFalsely : Prop := fnExactEncodeVarintRow.holds Try.pinned (OpenSpec.ofChange fnExactEncodeVarintWrong)

/-- 'laws.FnExactEncodeFixed': WHATEVER THE INPUT: true; the input reads as it did. -/
def fnExactEncodeFixedSpec : ChangeSpec := { name := "fnExactEncodeFixed", fn := fun _ => fun
  | [d1, d2] => { results := [.lit (.bool true)], args := [d1, d2] }
  | _ => none }
def fnExactEncodeFixedRow : OpenClaim := { program := "ytolbgaaelkepkaa", sum := "feb26dc899e8e0b414661f6548fa5e41163652c34b384df2778103d5a33f5dde", func := "loop.example/g01920/laws.FnExactEncodeFixed", spec := "fnExactEncodeFixed", apart := false }
def FnExactEncodeFixedSaid : Prop := fnExactEncodeFixedRow.holds Try.pinned (OpenSpec.ofChange fnExactEncodeFixedSpec)

/-- ITS FALSE NEIGHBOUR: 'it returns false'. Refute it at one input. -/
def fnExactEncodeFixedWrong : ChangeSpec := { name := "fnExactEncodeFixed", fn := fun _ => fun
  | [d1, d2] => { results := [.lit (.bool false)], args := [d1, d2] }
  | _ => none }
def FnExactEncodeFixedWrongFalsely : Prop := fnExactEncodeFixedRow.holds Try.pinned (OpenSpec.ofChange fnExactEncodeFixedWrong)

/-- 'laws.FnExactRowCost': WHATEVER THE INPUT: true; the input reads as it did. -/
def fnExactRowCostSpec : ChangeSpec := { name := "fnExactRowCost", fn := fun _ => fun
  | [d] => { results := [.lit (.bool true)], args := [d] }
  | _ => none }
def fnExactRowCostRow : OpenClaim := { program := "ytolbgaaelkepkaa", sum := "feb26dc899e8e0b414661f6548fa5e41163652c34b384df2778103d5a33f5dde", func := "loop.example/g01920/laws.FnExactRowCost", spec := "fnExactRowCost", apart := false }
def FnExactRowCostSaid : Prop := fnExactRowCostRow.holds Try.pinned (OpenSpec.ofChange fnExactRowCostSpec)

/-- ITS FALSE NEIGHBOUR: 'it returns false'. Refute it at one input. -/
def fnExactRowCostWrong : ChangeSpec := { name := "fnExactRowCost", fn := fun _ => fun
  | [d] => { results := [.lit (.bool false)], args := [d] }
  | _ => none }
def FnExactRowCostWrongFalsely : Prop := fnExactRowCostRow.holds Try.pinned (OpenSpec.ofChange fnExactRowCostWrong)

/-- 'laws.FnExactFormatInt': WHATEVER THE INPUT: true; the input reads as it did. -/
def fnExactFormatIntSpec : ChangeSpec := { name := "fnExactFormatInt", fn := fun _ => fun
  | [d] => { results := [.lit (.bool true)], args := [d] }
  | _ => none }
def fnExactFormatIntRow : OpenClaim := { program := "ytolbgaaelkepkaa", sum := "feb26dc899e8e0b414661f6548fa5e41163652c34b384df2778103d5a33f5dde", func := "loop.example/g01920/laws.FnExactFormatInt", spec := "fnExactFormatInt", recurses := true, apart := false }
def FnExactFormatIntSaid : Prop := fnExactFormatIntRow.holds Try.pinned (OpenSpec.ofChange fnExactFormatIntSpec)

/-- ITS FALSE NEIGHBOUR: 'it returns false'. Refute it at one input. -/
def fnExactFormatIntWrong : ChangeSpec := { name := "fnExactFormatInt", fn := fun _ => fun
  | [d] => { results := [.lit (.bool false)], args := [d] }
  | _ => none }
def FnExactFormatIntWrongFalsely : Prop := fnExactFormatIntRow.holds Try.pinned (OpenSpec.ofChange fnExactFormatIntWrong)

/-- 'laws.FnExactCompareRows': WHATEVER THE INPUT: true; the input reads as it did. -/
def fnExactCompareRowsSpec : ChangeSpec := { name := "fnExactCompareRows", fn := fun _ => fun
  | [d1, d2] => { results := [.lit (.bool true)], args := [d1, d2] }
  | _ => none }
def fnExactCompareRowsRow : OpenClaim := { program := "ytolbgaaelkepkaa", sum := "feb26dc899e8e0b414661f6548fa5e41163652c34b384df2778103d5a33f5dde", func := "loop.example/g01920/laws.FnExactCompareRows", spec := "fnExactCompareRows", apart := false }
def FnExactCompareRowsSaid : Prop := fnExactCompareRowsRow.holds Try.pinned (OpenSpec.ofChange fnExactCompareRowsSpec)

/-- ITS FALSE NEIGHBOUR: 'it returns false'. Refute it at one input. -/
def fnExactCompareRowsWrong : ChangeSpec := { name := "fnExactCompareRows", fn := fun _ => fun
  | [d1, d2] => { results := [.lit (.bool false)], args := [d1, d2] }
  | _ => none }
def FnExactCompareRowsWrongFalsely : Prop := fnExactCompareRowsRow.holds Try.pinned (OpenSpec.ofChange fnExactCompareRowsWrong)

/- THE SECOND FORM. 'bulk': how many values and letters a reading holds, each counted each time it is reached (what is shared counts as often as it is met; a slice's spare places count too). A statement '..UptoSaid' is the law's where the arguments, and the package variables that the reading takes, are together of bulk at most 1048576: NARROWER than '..Said'. Prove '..Said' where nothing that the law and all that it calls make is longer than what came in: it says more and counts as full. Else prove '..UptoSaid'. A law counts once. -/
mutual
def uptoBulk {H : Type} : DataW H → Nat
  | .lit (.string bytes) => bytes.length + 1
  | .lit _ => 1
  | .nil => 1
  | .ptr d => uptoBulk d + 1
  | .slice elems spare => uptoBulkAll elems + uptoBulkAll spare + 1
  | .agg parts => uptoBulkAll parts + 1
  | .iface _ d => uptoBulk d + 1
  | .map entries => uptoBulkEntries entries + 1
  | .held _ => 1
def uptoBulkAll {H : Type} : List (DataW H) → Nat
  | [] => 0
  | d :: r => uptoBulk d + uptoBulkAll r
def uptoBulkEntries {H : Type} : List (Lit × DataW H) → Nat
  | [] => 0
  | x :: r => uptoBulkEntry x + uptoBulkEntries r
def uptoBulkEntry {H : Type} : Lit × DataW H → Nat
  | (.string bytes, d) => bytes.length + uptoBulk d + 1
  | (_, d) => uptoBulk d + 1
 end
def uptoSmall : (H : Type) → List (DataW H) → Bool := fun _ ds => decide (uptoBulkAll ds ≤ 1048576)
def OpenSpec.upto (s : _root_.Go.ChangeSpec) : _root_.Go.OpenSpec := { _root_.Go.OpenSpec.ofChange s with cond := some uptoSmall }

/-- 'laws.FnExactConstants', WHERE WHAT IT READS IS OF BULK AT MOST 1048576: true; the input reads as it did. -/
def fnExactConstantsUptoRow : OpenClaim := { program := "ytolbgaaelkepkaa", sum := "feb26dc899e8e0b414661f6548fa5e41163652c34b384df2778103d5a33f5dde", func := "loop.example/g01920/laws.FnExactConstants", spec := "fnExactConstants", apart := false, narrowed := true }
def FnExactConstantsUptoSaid : Prop := fnExactConstantsUptoRow.holds Try.pinned (OpenSpec.upto fnExactConstantsSpec)

/-- 'laws.FnExactIsValidJoinKind', WHERE WHAT IT READS IS OF BULK AT MOST 1048576: true; the input reads as it did. -/
def fnExactIsValidJoinKindUptoRow : OpenClaim := { program := "ytolbgaaelkepkaa", sum := "feb26dc899e8e0b414661f6548fa5e41163652c34b384df2778103d5a33f5dde", func := "loop.example/g01920/laws.FnExactIsValidJoinKind", spec := "fnExactIsValidJoinKind", apart := false, narrowed := true }
def FnExactIsValidJoinKindUptoSaid : Prop := fnExactIsValidJoinKindUptoRow.holds Try.pinned (OpenSpec.upto fnExactIsValidJoinKindSpec)

/-- 'laws.FnExactChecksumOf', WHERE WHAT IT READS IS OF BULK AT MOST 1048576: true; the input reads as it did. -/
def fnExactChecksumOfUptoRow : OpenClaim := { program := "ytolbgaaelkepkaa", sum := "feb26dc899e8e0b414661f6548fa5e41163652c34b384df2778103d5a33f5dde", func := "loop.example/g01920/laws.FnExactChecksumOf", spec := "fnExactChecksumOf", apart := false, narrowed := true }
def FnExactChecksumOfUptoSaid : Prop := fnExactChecksumOfUptoRow.holds Try.pinned (OpenSpec.upto fnExactChecksumOfSpec)

/-- 'laws.FnExactHashBit', WHERE WHAT IT READS IS OF BULK AT MOST 1048576: true; the input reads as it did. -/
def fnExactHashBitUptoRow : OpenClaim := { program := "ytolbgaaelkepkaa", sum := "feb26dc899e8e0b414661f6548fa5e41163652c34b384df2778103d5a33f5dde", func := "loop.example/g01920/laws.FnExactHashBit", spec := "fnExactHashBit", apart := false, narrowed := true }
def FnExactHashBitUptoSaid : Prop := fnExactHashBitUptoRow.holds Try.pinned (OpenSpec.upto fnExactHashBitSpec)

/-- 'laws.FnExactEncodeHex', WHERE WHAT IT READS IS OF BULK AT MOST 1048576: true; the input reads as it did. -/
def fnExactEncodeHexUptoRow : OpenClaim := { program := "ytolbgaaelkepkaa", sum := "feb26dc899e8e0b414661f6548fa5e41163652c34b384df2778103d5a33f5dde", func := "loop.example/g01920/laws.FnExactEncodeHex", spec := "fnExactEncodeHex", apart := false, narrowed := true }
def FnExactEncodeHexUptoSaid : Prop := fnExactEncodeHexUptoRow.holds Try.pinned (OpenSpec.upto fnExactEncodeHexSpec)

/-- 'laws.FnExactIsValidRow', WHERE WHAT IT READS IS OF BULK AT MOST 1048576: true; the input reads as it did. -/
def fnExactIsValidRowUptoRow : OpenClaim := { program := "ytolbgaaelkepkaa", sum := "feb26dc899e8e0b414661f6548fa5e41163652c34b384df2778103d5a33f5dde", func := "loop.example/g01920/laws.FnExactIsValidRow", spec := "fnExactIsValidRow", apart := false, narrowed := true }
def FnExactIsValidRowUptoSaid : Prop := fnExactIsValidRowUptoRow.holds Try.pinned (OpenSpec.upto fnExactIsValidRowSpec)

/-- 'laws.FnExactDecodeFixed', WHERE WHAT IT READS IS OF BULK AT MOST 1048576: true; the input reads as it did. -/
def fnExactDecodeFixedUptoRow : OpenClaim := { program := "ytolbgaaelkepkaa", sum := "feb26dc899e8e0b414661f6548fa5e41163652c34b384df2778103d5a33f5dde", func := "loop.example/g01920/laws.FnExactDecodeFixed", spec := "fnExactDecodeFixed", apart := false, narrowed := true }
def FnExactDecodeFixedUptoSaid : Prop := fnExactDecodeFixedUptoRow.holds Try.pinned (OpenSpec.upto fnExactDecodeFixedSpec)

/-- 'laws.FnExactEncodeVarint', WHERE WHAT IT READS IS OF BULK AT MOST 1048576: true; the input reads as it did. -/
def fnExactEncodeVarintUptoRow : OpenClaim := { program := "ytolbgaaelkepkaa", sum := "feb26dc899e8e0b414661f6548fa5e41163652c34b384df2778103d5a33f5dde", func := "loop.example/g01920/laws.FnExactEncodeVarint", spec := "fnExactEncodeVarint", apart := false, narrowed := true }
def FnExactEncodeVarintUptoSaid : Prop := fnExactEncodeVarintUptoRow.holds Try.pinned (OpenSpec.upto fnExactEncodeVarintSpec)

/-- 'laws.FnExactEncodeFixed', WHERE WHAT IT READS IS OF BULK AT MOST 1048576: true; the input reads as it did. -/
def fnExactEncodeFixedUptoRow : OpenClaim := { program := "ytolbgaaelkepkaa", sum := "feb26dc899e8e0b414661f6548fa5e41163652c34b384df2778103d5a33f5dde", func := "loop.example/g01920/laws.FnExactEncodeFixed", spec := "fnExactEncodeFixed", apart := false, narrowed := true }
def FnExactEncodeFixedUptoSaid : Prop := fnExactEncodeFixedUptoRow.holds Try.pinned (OpenSpec.upto fnExactEncodeFixedSpec)

/-- 'laws.FnExactRowCost', WHERE WHAT IT READS IS OF BULK AT MOST 1048576: true; the input reads as it did. -/
def fnExactRowCostUptoRow : OpenClaim := { program := "ytolbgaaelkepkaa", sum := "feb26dc899e8e0b414661f6548fa5e41163652c34b384df2778103d5a33f5dde", func := "loop.example/g01920/laws.FnExactRowCost", spec := "fnExactRowCost", apart := false, narrowed := true }
def FnExactRowCostUptoSaid : Prop := fnExactRowCostUptoRow.holds Try.pinned (OpenSpec.upto fnExactRowCostSpec)

/-- 'laws.FnExactFormatInt', WHERE WHAT IT READS IS OF BULK AT MOST 1048576: true; the input reads as it did. -/
def fnExactFormatIntUptoRow : OpenClaim := { program := "ytolbgaaelkepkaa", sum := "feb26dc899e8e0b414661f6548fa5e41163652c34b384df2778103d5a33f5dde", func := "loop.example/g01920/laws.FnExactFormatInt", spec := "fnExactFormatInt", recurses := true, apart := false, narrowed := true }
def FnExactFormatIntUptoSaid : Prop := fnExactFormatIntUptoRow.holds Try.pinned (OpenSpec.upto fnExactFormatIntSpec)

/-- 'laws.FnExactCompareRows', WHERE WHAT IT READS IS OF BULK AT MOST 1048576: true; the input reads as it did. -/
def fnExactCompareRowsUptoRow : OpenClaim := { program := "ytolbgaaelkepkaa", sum := "feb26dc899e8e0b414661f6548fa5e41163652c34b384df2778103d5a33f5dde", func := "loop.example/g01920/laws.FnExactCompareRows", spec := "fnExactCompareRows", apart := false, narrowed := true }
def FnExactCompareRowsUptoSaid : Prop := fnExactCompareRowsUptoRow.holds Try.pinned (OpenSpec.upto fnExactCompareRowsSpec)

end Rows
end Go.Proofs.Ytolbgaaelkepkaa
