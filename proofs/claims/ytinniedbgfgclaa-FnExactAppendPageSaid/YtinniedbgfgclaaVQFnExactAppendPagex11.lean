/- Out of a copy of the print, with function values told: nothing is claimed here. -/
import Derived.Test.YtinniedbgfgclaaVQFnExactAppendPagex0
import Derived.Test.YtinniedbgfgclaaVShort
namespace Go.Proofs.Ytinniedbgfgclaa.PFnExactAppendPage
open Go.RowKit Go.Proofs.YtinniedbgfgclaaW.PrintWords Go.Proofs.YtinniedbgfgclaaW.PrintLast Go.Proofs.YtinniedbgfgclaaW.PrintMore Go.Proofs.Ytinniedbgfgclaa.Short
attribute [local go_sem] max2_int min2_int max_two min_two max_three min_three max_four min_four   -- for this text's walks alone
set_option linter.unusedVariables false
set_option linter.unusedSimpArgs false
mutual
def spec_l6Copy.l0 : Nat → Int → List (S80) → Int → List (S80) → Int → Option ((List (S80)) × Int)
 | 0, _, _, _, _, _ => none
 | k + 1, x4, x301000, x301001, x303000, x303001 => if x4 < (x301000.length : Int) then (if 0 ≤ x4 then (spec_l6Copy.l1 k x4 0 x301000 x301001 x303000 x303001 ((rd_T80 x301000 x4).f0) ([] : List (S39)) ((rd_T80 x301000 x4).f2) ((rd_T80 x301000 x4).f3)) else (none)) else (some (x303000, x303001))
def spec_l6Copy.l1 : Nat → Int → Int → List (S80) → Int → List (S80) → Int → Int → List (S39) → Int → Bool → Option ((List (S80)) × Int)
 | 0, _, _, _, _, _, _, _, _, _, _ => none
 | k + 1, x4, x6, x301000, x301001, x303000, x303001, x307000, x307001, x307002, x307003 => if 0 ≤ x4 then (if x4 < (x301000.length : Int) then (if x6 < (((rd_T80 x301000 x4).f1).length : Int) then ((some (([] : List (S95)) : List (S95))).bind fun y308 => (if 0 ≤ x6 then (if y308.length + ((rd_T39 ((rd_T80 x301000 x4).f1) x6).f0).length < 5864062014805 then (if x307001.length < 5864062014805 then (spec_l6Copy.l1 k x4 (wrap64 (x6 + 1)) x301000 x301001 x303000 x303001 x307000 (x307001 ++ [(⟨(y308 ++ ((rd_T39 ((rd_T80 x301000 x4).f1) x6).f0))⟩ : S39)]) x307002 x307003) else (none)) else (none)) else (none))) else (if x303000.length < 2932031007402 then (spec_l6Copy.l0 k (wrap64 (x4 + 1)) x301000 x301001 (x303000 ++ [(⟨x307000, x307001, x307002, x307003⟩ : S80)]) x303001) else (none))) else (none)) else (none)
end
def spec_l6Copy.f (k : Nat) (l0_0 : List (S80)) (a0_1 : Int) : Option ((List (S80)) × Int) := spec_l6Copy.l0 k 0 l0_0 a0_1 ([] : List (S80)) a0_1
def spec_l6Copy.T5 : Bool × List (List Nat × List Nat) := (true, [([], []), ([0], [0]), ([], []), ([1, 2], [1, 2]), ([3], [3]), ([4], [4]), ([], []), ([6], [6]), ([], []), ([7, 8], [7, 8]), ([9], [9]), ([10], [10]), ([], []), ([12], [12]), ([], []), ([13, 14], [13, 14]), ([15], [15]), ([16], [16]), ([5, 11, 17], [5, 11, 17]), ([], []), ([19, 18, 0, 1, 2, 3, 4, 5, 6, 7, 8, 9, 10, 11, 12, 13, 14, 15, 16, 17, 18, 19], [18, 19])])
def spec_l6Copy.B5 : List Nat := [0, 1, 0, 7, 15, 31, 0, 64, 0, 448, 960, 1984, 0, 4096, 0, 28672, 61440, 126976, 262143, 0, 1048575]
theorem spec_l6Copy.tab5 : rtab .any (opsOf Try.f61 5) = spec_l6Copy.T5 := by kernel_rfl
theorem spec_l6Copy.bits5 : waitsOk spec_l6Copy.T5.2 spec_l6Copy.B5 = true := by kernel_rfl
def spec_l6Copy.T9 : Bool × List (List Nat × List Nat) := (true, [([], []), ([0], [0]), ([], []), ([], []), ([3], [3]), ([], []), ([4, 5], [4, 5]), ([6], [6]), ([7], [7]), ([], []), ([8, 9], [8, 9]), ([10], [10]), ([11], [11]), ([2, 12], [2, 12]), ([13], [13]), ([14], [14]), ([1, 15, 13], [1, 15]), ([0, 1, 2, 3, 4, 5, 6, 7, 8, 9, 10, 11, 12, 13, 14, 15, 16], []), ([17, 16, 16, 0, 1, 2, 3, 4, 5, 6, 7, 8, 9, 10, 11, 12, 13, 14, 15, 16], [16, 17])])
def spec_l6Copy.B9 : List Nat := [0, 1, 0, 0, 8, 0, 56, 120, 248, 0, 1016, 2040, 4088, 8188, 16380, 32764, 65535, 131071, 262143]
theorem spec_l6Copy.tab9 : rtab .any (opsOf Try.f61 9) = spec_l6Copy.T9 := by kernel_rfl
theorem spec_l6Copy.bits9 : waitsOk spec_l6Copy.T9.2 spec_l6Copy.B9 = true := by kernel_rfl
end Go.Proofs.Ytinniedbgfgclaa.PFnExactAppendPage
