/- Helper texts of this seat; nothing is claimed here. -/import Derived.Test.YtljpfogplcdcjaaVWTab
namespace Go.Proofs.YtljpfogplcdcjaaW.PrintLast
section
variable {P : Program} {ops : Array Oper} {Q : Exit → Act → World → Prop} {md : Region.Mode} {T : Bool × List (List Nat × List Nat)} {B : List Nat} {O : List Nat} {b : Nat → Bool} {i j n : Nat}
end
end Go.Proofs.YtljpfogplcdcjaaW.PrintLast
