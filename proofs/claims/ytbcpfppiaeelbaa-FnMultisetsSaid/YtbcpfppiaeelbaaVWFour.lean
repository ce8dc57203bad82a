/- Helper texts of this seat; nothing is claimed here. -/import Derived.Test.YtbcpfppiaeelbaaVWTab
namespace Go.Proofs.YtbcpfppiaeelbaaW.PrintLast
section
variable {P : Program} {ops : Array Oper} {Q : Exit → Act → World → Prop} {md : Region.Mode} {S : World → Prop} {ds : List Nat} {T : Bool × List (List Nat × List Nat)}
end
end Go.Proofs.YtbcpfppiaeelbaaW.PrintLast
