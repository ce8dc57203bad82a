/- Helper texts of this seat; nothing is claimed here. -/import Derived.Test.YtljpfogplcdcjaaVWInv
import Derived.Test.YtljpfogplcdcjaaVWFootNe
namespace Go.Proofs.YtljpfogplcdcjaaW.PrintWords
open Go.RowKit
end Go.Proofs.YtljpfogplcdcjaaW.PrintWords
namespace Go.Proofs.YtljpfogplcdcjaaW.PrintLast
section
variable {ops : Array Oper} {a : Act} {o og : Oper} {g : Nat} {t : Tmp} {u : Bool}
end
end Go.Proofs.YtljpfogplcdcjaaW.PrintLast
