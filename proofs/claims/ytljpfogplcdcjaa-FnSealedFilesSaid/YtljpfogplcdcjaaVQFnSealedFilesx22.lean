/- Out of a copy of the print, with function values told: nothing is claimed here. -/
import Derived.Test.YtljpfogplcdcjaaVQFnSealedFilesx0
import Derived.Test.YtljpfogplcdcjaaVQFnSealedFilesx14
import Derived.Test.YtljpfogplcdcjaaVQFnSealedFilesx18
import Derived.Test.YtljpfogplcdcjaaVShort
import Derived.Test.YtljpfogplcdcjaaVFoldT
namespace Go.Proofs.Ytljpfogplcdcjaa.PFnSealedFiles
open Go.RowKit Go.Proofs.YtljpfogplcdcjaaW.PrintWords Go.Proofs.YtljpfogplcdcjaaW.PrintLast Go.Proofs.YtljpfogplcdcjaaW.PrintMore Go.Proofs.Ytljpfogplcdcjaa.Short Go.Proofs.Ytljpfogplcdcjaa.Fold
attribute [local go_sem] max2_int min2_int max_two min_two max_three min_three max_four min_four   -- for this text's walks alone
set_option linter.unusedVariables false
set_option linter.unusedSimpArgs false
def impl_DeleteUnreadableFiles.l0 : Nat → List (S87) → List (S87) → Int → Int → List (S87) → Int → List (S87) → Int → Option ((List (S87)) × Int)
 | 0, _, _, _, _, _, _, _, _ => none
 | k + 1, x4, x13, x14, x15, x617000, x617001, x623000, x623001 => if x15 < x14 then (if 0 ≤ x15 then (if x15 < (x13.length : Int) then ((impl_ReadFile.f k x617000 x617001 ((rd_T87 x13 x15).f0)).bind fun bt628 => (if bt628.2 = true then (if x4.length < 2932031007402 then (impl_DeleteUnreadableFiles.l0 k (x4 ++ [(⟨(rd_T87 x13 x15).f0, (rd_T87 x13 x15).f1, (rd_T87 x13 x15).f2, (rd_T87 x13 x15).f3⟩ : S87)]) x13 x14 (wrap64 (x15 + 1)) x617000 x617001 x623000 x623001) else (none)) else (impl_DeleteUnreadableFiles.l0 k x4 x13 x14 (wrap64 (x15 + 1)) x617000 x617001 x623000 x623001))) else (none)) else (none)) else (some (x4, x623001))
def impl_DeleteUnreadableFiles.f (k : Nat) (l0_0 : List (S87)) (a0_1 : Int) : Option ((List (S87)) × Int) := (impl_cloneDisk.f k l0_0 a0_1).bind fun bt618 => (impl_DeleteUnreadableFiles.l0 k (([] : List (S87))) bt618.1 (bt618.1.length : Int) 0 l0_0 a0_1 bt618.1 bt618.2)
end Go.Proofs.Ytljpfogplcdcjaa.PFnSealedFiles
