/- Helper texts of this seat; nothing is claimed here. -/import Derived.Test.YtbcpfppiaeelbaaVWWords
namespace Go.Proofs.YtbcpfppiaeelbaaW.PrintWords
open Go.RowKit
section
variable {P : Program} {ops : Array Oper} {rest : List Oper} {o : Oper} {a : Act} {Q : Exit → Act → World → Prop} {W : World}
end
end Go.Proofs.YtbcpfppiaeelbaaW.PrintWords
