/- Helper texts of this seat; nothing is claimed here. -/import Derived.Test.YtinniedbgfgclaaVWWords
import Derived.Laws.StructEq
namespace Go.Proofs.YtinniedbgfgclaaW.PrintWords
open Go.RowKit
section
variable {P : Program} {d : Nat} {xs ys : Array Value} {f : Field} {fs : List Field} {a b : Value} {r s : Bool} {w : World}
end
end Go.Proofs.YtinniedbgfgclaaW.PrintWords
