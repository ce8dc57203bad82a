/- The program's RowCost answers as the reference's does, for all arguments that the statement lets in; no further condition. -/
import Derived.Test.YtolbgaaelkepkaaPFnExactRowCostx1
import Derived.Test.YtolbgaaelkepkaaCore
namespace Go.Proofs.Ytolbgaaelkepkaa.Pure
open Go.RowKit Go.Proofs.Ytolbgaaelkepkaa.PFnExactRowCost Go.Proofs.YtolbgaaelkepkaaW.PrintWords Go.Proofs.YtolbgaaelkepkaaW.PrintLast Go.Proofs.YtolbgaaelkepkaaW.PrintMore Go.Proofs.Ytolbgaaelkepkaa.Core
set_option linter.unusedVariables false
set_option linter.unusedSimpArgs false

theorem within_f (a b c : Int) : impl_within.f a b c = some (decide (b ≤ a) && decide (a ≤ c)) := by
  by_cases h : b ≤ a <;> simp [impl_within.f, h]
theorem l1In_f (a b c : Int) : spec_l1In.f a b c = some (decide (b ≤ a) && decide (a ≤ c)) := by
  by_cases h : b ≤ a <;> simp [spec_l1In.f, h]
def vrow (r : Int × Int × Int) : Bool := (decide (0 ≤ r.1) && decide (r.1 ≤ 9)) && ((decide (0 ≤ r.2.1) && decide (r.2.1 ≤ 99)) && (decide (0 ≤ r.2.2) && decide (r.2.2 ≤ 3)))
theorem impl_IsValidRow_f (a b c : Int) : impl_IsValidRow.f a b c = some (vrow (a, b, c)) := by
  simp only [impl_IsValidRow.f, within_f, Option.bind_some, vrow]
  cases (decide (0 ≤ a) && decide (a ≤ 9)) <;> cases (decide (0 ≤ b) && decide (b ≤ 99)) <;> simp
theorem spec_IsValidRow_f (a b c : Int) : spec_IsValidRow.f a b c = some (vrow (a, b, c)) := by
  simp only [spec_IsValidRow.f, l1In_f, Option.bind_some, vrow]
  cases (decide (0 ≤ a) && decide (a ≤ 9)) <;> cases (decide (0 ≤ b) && decide (b ≤ 99)) <;> simp
theorem vrow_iff {a b c : Int} : vrow (a, b, c) = true ↔ (0 ≤ a ∧ a ≤ 9) ∧ (0 ≤ b ∧ b ≤ 99) ∧ 0 ≤ c ∧ c ≤ 3 := by simp [vrow]
def cost (r : Int × Int × Int) : Int := if vrow r = true then 1 + r.2.2 else 0
theorem impl_RowCost_f (a b c : Int) : impl_RowCost.f a b c = some (cost (a, b, c)) := by
  simp only [impl_RowCost.f, impl_IsValidRow_f, Option.bind_some, cost]
  by_cases h : vrow (a, b, c) = true
  · have := vrow_iff.1 h
    rw [if_pos h, if_pos h, w64 (by omega) (by omega)]
  · rw [if_neg h, if_neg h]
theorem spec_RowCost_f (a b c : Int) : spec_RowCost.f a b c = some (cost (a, b, c)) := by
  simp only [spec_RowCost.f, spec_IsValidRow_f, Option.bind_some, cost]
  by_cases h : vrow (a, b, c) = true
  · have := vrow_iff.1 h
    rw [if_pos h, if_pos h, w64 (by omega) (by omega)]
  · rw [if_neg h, if_neg h]
theorem cost_bd (r : Int × Int × Int) : 0 ≤ cost r ∧ cost r ≤ 4 := by
  obtain ⟨a, b, c⟩ := r
  unfold cost
  by_cases h : vrow (a, b, c) = true
  · have := vrow_iff.1 h
    rw [if_pos h]; simp only; omega
  · rw [if_neg h]; omega
theorem toRow_f (a b c : Int) : laws_toRow.f a b c = some (a, b, c) := rfl
theorem FnExactRowCost {G0 : Prop} (a b c : Int) (g0 : G0) : laws_FnExactRowCost.f a b c = some true := by
  simp [laws_FnExactRowCost.f, toRow_f, spec_RowCost_f, impl_RowCost_f]

end Go.Proofs.Ytolbgaaelkepkaa.Pure
