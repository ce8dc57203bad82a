/- Helper texts of this seat; nothing is claimed here. -/import Derived.Test.YtbcpfppiaeelbaaVWInv
import Derived.Test.YtbcpfppiaeelbaaVWFootNe
namespace Go.Proofs.YtbcpfppiaeelbaaW.PrintWords
open Go.RowKit
end Go.Proofs.YtbcpfppiaeelbaaW.PrintWords
namespace Go.Proofs.YtbcpfppiaeelbaaW.PrintLast
section
variable {ops : Array Oper} {a : Act} {o og : Oper} {g : Nat} {t : Tmp} {u : Bool}
end
end Go.Proofs.YtbcpfppiaeelbaaW.PrintLast
