/- Helper texts of this seat; nothing is claimed here. -/import Derived.Test.YtinniedbgfgclaaVWWords
/-! ### 58. A guarded operation whose guard is known to want it: the same goal without the guard -/
namespace Go.Proofs.YtinniedbgfgclaaW.PrintWords
open Go.RowKit
section
variable {P : Program} {ops : Array Oper} {rest : List Oper} {o : Oper} {a : Act} {Q : Exit → Act → World → Prop} {W : World}
end
end Go.Proofs.YtinniedbgfgclaaW.PrintWords
