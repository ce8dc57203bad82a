/- Out of a copy of the print, with function values told: nothing is claimed here. -/
import Derived.Test.YtinniedbgfgclaaVQFnExactDeleteFilex0
import Derived.Test.YtinniedbgfgclaaVQFnExactDeleteFilex7
import Derived.Test.YtinniedbgfgclaaVQFnExactDeleteFilex8
import Derived.Test.YtinniedbgfgclaaVShort
namespace Go.Proofs.Ytinniedbgfgclaa.PFnExactDeleteFile
open Go.RowKit Go.Proofs.YtinniedbgfgclaaW.PrintWords Go.Proofs.YtinniedbgfgclaaW.PrintLast Go.Proofs.YtinniedbgfgclaaW.PrintMore Go.Proofs.Ytinniedbgfgclaa.Short
attribute [local go_sem] max2_int min2_int max_two min_two max_three min_three max_four min_four   -- for this text's walks alone
set_option linter.unusedVariables false
set_option linter.unusedSimpArgs false
/-! ### impl_DeleteFile: function 26 -/
def impl_DeleteFile.f (k : Nat) (l0_0 : List (S80)) (a0_1 : Int) (a1 : Int) : Option ((List (S80)) × Int × Bool) := (impl_cloneDisk.f k l0_0 a0_1).bind fun bt252 => ((impl_fileAt.f k l0_0 a0_1 a1).bind fun t256 => ((impl_IsValidDisk.f k l0_0 a0_1).bind fun t258 => (if t258 = true then (if t256 < 0 then (some (bt252.1, bt252.2, false)) else (if 0 ≤ t256 then (if t256 ≤ (bt252.1.length : Int) then (if 0 ≤ (wrap64 (t256 + 1)) then (if (wrap64 (t256 + 1)) ≤ (bt252.1.length : Int) then (some ((bt252.1.eraseIdx (t256 : Int).toNat), bt252.2, true)) else (none)) else (none)) else (none)) else (none))) else (some (bt252.1, bt252.2, false)))))
theorem impl_DeleteFile.mono : ∀ a0 a1 a2 k, LeO (impl_DeleteFile.f k a0 a1 a2) (impl_DeleteFile.f (k + 1) a0 a1 a2) := by
 intro a0 a1 a2 k
 unfold impl_DeleteFile.f
 repeat' first
   | (with_reducible exact impl_IsValidDisk.mono _ _ _)
   | (with_reducible exact impl_cloneDisk.mono _ _ _)
   | (with_reducible exact impl_fileAt.mono _ _ _ _)
   | (with_reducible exact LeO.refl _)
   | (with_reducible exact LeO.none _)
   | (with_reducible refine LeO.ite ?_ ?_)
   | (with_reducible refine LeO.bind ?_ (fun _ => ?_))
   | exact impl_IsValidDisk.mono _ _ _
   | exact impl_cloneDisk.mono _ _ _
   | exact impl_fileAt.mono _ _ _ _
   | exact LeO.none _
   | refine LeO.ite ?_ ?_
   | refine LeO.bind ?_ (fun _ => ?_)
def impl_DeleteFile.T1 : Bool × List (List Nat × List Nat) := (true, [([], []), ([0], [0]), ([], []), ([], []), ([2, 3, 1], [2, 3]), ([], []), ([5, 1, 4, 0, 1, 5], [1, 5]), ([4, 6, 0, 1, 2, 3, 4, 5, 6], [4])])
def impl_DeleteFile.B1 : List Nat := [0, 1, 0, 0, 15, 0, 63, 127]
theorem impl_DeleteFile.tab1 : rtab .any (opsOf Try.f26 1) = impl_DeleteFile.T1 := by kernel_rfl
theorem impl_DeleteFile.bits1 : waitsOk impl_DeleteFile.T1.2 impl_DeleteFile.B1 = true := by kernel_rfl
def impl_DeleteFile.T4 : Bool × List (List Nat × List Nat) := (true, [([], []), ([0], [0]), ([], []), ([1, 2], [1, 2]), ([], []), ([4], [4]), ([], []), ([6], [6]), ([5, 7], [5, 7]), ([3, 8], [3, 8]), ([0, 1, 2, 3, 4, 5, 6, 7, 8, 9], []), ([10, 9, 9, 0, 1, 2, 3, 4, 5, 6, 7, 8, 9], [9, 10])])
def impl_DeleteFile.B4 : List Nat := [0, 1, 0, 7, 0, 16, 0, 64, 240, 511, 1023, 2047]
theorem impl_DeleteFile.tab4 : rtab .any (opsOf Try.f26 4) = impl_DeleteFile.T4 := by kernel_rfl
theorem impl_DeleteFile.bits4 : waitsOk impl_DeleteFile.T4.2 impl_DeleteFile.B4 = true := by kernel_rfl
end Go.Proofs.Ytinniedbgfgclaa.PFnExactDeleteFile
