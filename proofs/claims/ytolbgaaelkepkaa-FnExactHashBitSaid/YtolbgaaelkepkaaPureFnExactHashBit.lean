/- The program's HashBit answers as the reference's does, for all arguments that the statement lets in; no further condition. -/
import Derived.Test.YtolbgaaelkepkaaPFnExactHashBitx1
import Derived.Test.YtolbgaaelkepkaaCore
namespace Go.Proofs.Ytolbgaaelkepkaa.Pure
open Go.RowKit Go.Proofs.Ytolbgaaelkepkaa.PFnExactHashBit Go.Proofs.YtolbgaaelkepkaaW.PrintWords Go.Proofs.YtolbgaaelkepkaaW.PrintLast Go.Proofs.YtolbgaaelkepkaaW.PrintMore Go.Proofs.Ytolbgaaelkepkaa.Core
set_option linter.unusedVariables false
set_option linter.unusedSimpArgs false

theorem within_f (a b c : Int) : impl_within.f a b c = some (decide (b ≤ a) && decide (a ≤ c)) := by
  by_cases h : b ≤ a <;> simp [impl_within.f, h]
theorem l1In_f (a b c : Int) : spec_l1In.f a b c = some (decide (b ≤ a) && decide (a ≤ c)) := by
  by_cases h : b ≤ a <;> simp [spec_l1In.f, h]
theorem hashbit_eq (a b : Int) : impl_HashBit.f a b = spec_HashBit.f a b := by
  unfold impl_HashBit.f spec_HashBit.f
  simp only [within_f, l1In_f, Int.mul_comm 7 a]
theorem hashbit_some (a b : Int) : ∃ r, spec_HashBit.f a b = some r := by
  unfold spec_HashBit.f
  rw [l1In_f, l1In_f]
  simp only [Option.bind_some]
  split
  · rename_i h
    split
    · rw [if_pos (by simp at h; omega)]; exact ⟨_, rfl⟩
    · exact ⟨_, rfl⟩
  · exact ⟨_, rfl⟩
theorem FnExactHashBit : laws_FnExactHashBit.Pure := by
  intro a b ha hb
  obtain ⟨r, hr⟩ := hashbit_some a b
  unfold laws_FnExactHashBit.f
  rw [hashbit_eq, hr]
  simp

end Go.Proofs.Ytolbgaaelkepkaa.Pure
