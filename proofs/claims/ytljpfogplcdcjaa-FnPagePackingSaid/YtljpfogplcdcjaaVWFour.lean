/- Helper texts of this seat; nothing is claimed here. -/import Derived.Test.YtljpfogplcdcjaaVWTab
namespace Go.Proofs.YtljpfogplcdcjaaW.PrintLast
section
variable {P : Program} {ops : Array Oper} {Q : Exit → Act → World → Prop} {md : Region.Mode} {S : World → Prop} {ds : List Nat} {T : Bool × List (List Nat × List Nat)}
end
end Go.Proofs.YtljpfogplcdcjaaW.PrintLast
