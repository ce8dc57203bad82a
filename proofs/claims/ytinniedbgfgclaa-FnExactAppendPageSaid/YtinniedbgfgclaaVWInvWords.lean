/- Helper texts of this seat; nothing is claimed here. -/import Derived.Test.YtinniedbgfgclaaVWInv
import Derived.Test.YtinniedbgfgclaaVWFootNe
namespace Go.Proofs.YtinniedbgfgclaaW.PrintWords
open Go.RowKit
end Go.Proofs.YtinniedbgfgclaaW.PrintWords
namespace Go.Proofs.YtinniedbgfgclaaW.PrintLast
section
variable {ops : Array Oper} {a : Act} {o og : Oper} {g : Nat} {t : Tmp} {u : Bool}
end
end Go.Proofs.YtinniedbgfgclaaW.PrintLast
