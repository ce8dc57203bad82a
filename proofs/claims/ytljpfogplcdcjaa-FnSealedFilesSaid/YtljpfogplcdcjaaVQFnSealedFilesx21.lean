/- Out of a copy of the print, with function values told: nothing is claimed here. -/
import Derived.Test.YtljpfogplcdcjaaVQFnSealedFilesx0
import Derived.Test.YtljpfogplcdcjaaVQFnSealedFilesx13
import Derived.Test.YtljpfogplcdcjaaVQFnSealedFilesx14
import Derived.Test.YtljpfogplcdcjaaVQFnSealedFilesx17
import Derived.Test.YtljpfogplcdcjaaVShort
import Derived.Test.YtljpfogplcdcjaaVFoldT
namespace Go.Proofs.Ytljpfogplcdcjaa.PFnSealedFiles
open Go.RowKit Go.Proofs.YtljpfogplcdcjaaW.PrintWords Go.Proofs.YtljpfogplcdcjaaW.PrintLast Go.Proofs.YtljpfogplcdcjaaW.PrintMore Go.Proofs.Ytljpfogplcdcjaa.Short Go.Proofs.Ytljpfogplcdcjaa.Fold
attribute [local go_sem] max2_int min2_int max_two min_two max_three min_three max_four min_four   -- for this text's walks alone
set_option linter.unusedVariables false
set_option linter.unusedSimpArgs false
def impl_SealFile.j0 : Nat → Int → Bool → List (S87) → Int → Option ((List (S87)) × Int × Bool)
 | 0, _, _, _, _ => none
 | k + 1, x7, x27, x609000, x609001 => if x27 = true then (some (x609000, x609001, false)) else (if 0 ≤ x7 then (if x7 < (x609000.length : Int) then ((some (x609000.set (x7 : Int).toNat (⟨(rd_T87 x609000 x7).f0, (rd_T87 x609000 x7).f1, (rd_T87 x609000 x7).f2, true⟩ : S87) : List (S87))).bind fun y611 => ((impl_FormatPages.f k ((rd_T87 y611 x7).f1)).bind fun t613 => ((impl_ChecksumOf.f k t613).bind fun t614 => (some ((y611.set (x7 : Int).toNat (⟨(rd_T87 y611 x7).f0, (rd_T87 y611 x7).f1, t614, (rd_T87 y611 x7).f3⟩ : S87)), x609001, true))))) else (none)) else (none))
def impl_SealFile.f (k : Nat) (l0_0 : List (S87)) (a0_1 : Int) (a1 : Int) : Option ((List (S87)) × Int × Bool) := (impl_cloneDisk.f k l0_0 a0_1).bind fun bt603 => ((impl_fileAt.f k l0_0 a0_1 a1).bind fun t607 => ((impl_IsValidDisk.f k l0_0 a0_1).bind fun t609 => (if t609 = true then (if t607 < 0 then (impl_SealFile.j0 k t607 true bt603.1 bt603.2) else (if 0 ≤ t607 then (if t607 < (bt603.1.length : Int) then (impl_SealFile.j0 k t607 ((rd_T87 bt603.1 t607).f3) bt603.1 bt603.2) else (none)) else (none))) else (impl_SealFile.j0 k t607 true bt603.1 bt603.2))))
def impl_SealFile.T1 : Bool × List (List Nat × List Nat) := (true, [([], []), ([0], [0]), ([], []), ([], []), ([2, 3, 1], [2, 3]), ([], []), ([5, 1, 4, 0, 1, 5], [1, 5]), ([4, 6, 0, 1, 2, 3, 4, 5, 6], [4])])
def impl_SealFile.B1 : List Nat := [0, 1, 0, 0, 15, 0, 63, 127]
theorem impl_SealFile.tab1 : rtab .any (opsOf Try.f39 1) = impl_SealFile.T1 := by kernel_rfl
theorem impl_SealFile.bits1 : waitsOk impl_SealFile.T1.2 impl_SealFile.B1 = true := by kernel_rfl
def impl_SealFile.T5 : Bool × List (List Nat × List Nat) := (true, [([], []), ([0], [0]), ([], []), ([], []), ([3], [3]), ([], []), ([4, 5], [4, 5]), ([6], [6]), ([7], [7]), ([8], [8]), ([9, 9], [9]), ([1, 2, 0, 1, 2, 3, 4, 5, 6, 7, 8, 9, 10], [1, 2]), ([11, 0, 1, 2, 3, 4, 5, 6, 7, 8, 9, 10], [11]), ([12, 10, 10, 0, 1, 2, 3, 4, 5, 6, 7, 8, 9, 10], [10, 12])])
def impl_SealFile.B5 : List Nat := [0, 1, 0, 0, 8, 0, 56, 120, 248, 504, 1016, 2047, 4095, 8191]
theorem impl_SealFile.tab5 : rtab .any (opsOf Try.f39 5) = impl_SealFile.T5 := by kernel_rfl
theorem impl_SealFile.bits5 : waitsOk impl_SealFile.T5.2 impl_SealFile.B5 = true := by kernel_rfl
end Go.Proofs.Ytljpfogplcdcjaa.PFnSealedFiles
