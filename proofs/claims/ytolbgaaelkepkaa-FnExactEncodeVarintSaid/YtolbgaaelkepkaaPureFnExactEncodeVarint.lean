/- The program's EncodeVarint answers as the reference's does, for all arguments that the statement lets in; no further condition. -/
import Derived.Test.YtolbgaaelkepkaaQFnExactEncodeVarintx1
import Derived.Test.YtolbgaaelkepkaaCore
namespace Go.Proofs.Ytolbgaaelkepkaa.Pure
open Go.RowKit Go.Proofs.Ytolbgaaelkepkaa.PFnExactEncodeVarint Go.Proofs.YtolbgaaelkepkaaW.PrintWords Go.Proofs.YtolbgaaelkepkaaW.PrintLast Go.Proofs.YtolbgaaelkepkaaW.PrintMore Go.Proofs.Ytolbgaaelkepkaa.Core
set_option linter.unusedVariables false
set_option linter.unusedSimpArgs false

theorem l1In_f (a b c : Int) : spec_l1In.f a b c = some (decide (b ≤ a) && decide (a ≤ c)) := by
  by_cases h : b ≤ a <;> simp [spec_l1In.f, h]
def vrI (n : Nat) : List Int := if h : n < 128 then [(n : Int)] else (((n % 128 : Nat) : Int) + 128) :: vrI (n / 128)
termination_by n
decreasing_by omega
theorem vrI_lt {n : Nat} (h : n < 128) : vrI n = [(n : Int)] := by rw [vrI, dif_pos h]
theorem vrI_ge {n : Nat} (h : ¬ n < 128) : vrI n = (((n % 128 : Nat) : Int) + 128) :: vrI (n / 128) := by rw [vrI, dif_neg h]
theorem vr_div (n : Nat) (hn : n ≤ 562949953421311) : wrap64 (Int.tdiv (n : Int) 128) = ((n / 128 : Nat) : Int) := by
  rw [Int.tdiv_eq_ediv_of_nonneg (by omega), w64 (by omega) (by omega)]; omega
theorem spec_vr : ∀ (n : Nat) (x : List Int), n ≤ 562949953421311 → x.length + n / 128 < 140737488355328 → Ev (fun k => spec_EncodeVarint.l0 k (n : Int) x) (strOfNums (x ++ vrI n)) := by
  intro n
  induction n using Nat.strongRecOn with
  | _ n ih =>
    intro x hn hx
    refine Ev.succ ?_
    by_cases h : n < 128
    · simp only [spec_EncodeVarint.l0, if_neg (show ¬ (n : Int) ≥ 128 by omega), if_pos (show x.length < 140737488355328 by omega), vrI_lt h, Int.emod_eq_of_lt (show (0 : Int) ≤ n by omega) (show (n : Int) < 256 by omega)]
      exact Ev.now _
    · have e : (wrap64 (128 + Int.tmod (n : Int) 128)) % 256 = ((n % 128 : Nat) : Int) + 128 := by
        rw [Int.tmod_eq_emod_of_nonneg (by omega), w64 (by omega) (by omega)]; omega
      simp only [spec_EncodeVarint.l0, if_pos (show (n : Int) ≥ 128 by omega), if_pos (show x.length < 140737488355328 by omega), vrI_ge h, vr_div n hn, e]
      have := ih (n / 128) (by omega) (x ++ [((n % 128 : Nat) : Int) + 128]) (by omega) (by simp only [List.length_append, List.length_cons, List.length_nil]; omega)
      simpa using this
theorem impl_vr : ∀ (n : Nat) (x : List Int), n ≤ 562949953421311 → x.length + n / 128 < 140737488355328 → Ev (fun k => impl_EncodeVarint.l0 k (n : Int) x) (strOfNums (x ++ vrI n)) := by
  intro n
  induction n using Nat.strongRecOn with
  | _ n ih =>
    intro x hn hx
    refine Ev.succ ?_
    by_cases h : n < 128
    · simp only [impl_EncodeVarint.l0, if_neg (show ¬ (n : Int) ≥ 128 by omega), if_pos (show x.length < 140737488355328 by omega), vrI_lt h, Int.emod_eq_of_lt (show (0 : Int) ≤ n by omega) (show (n : Int) < 256 by omega)]
      exact Ev.now _
    · have e : ((Int.tmod (n : Int) 128) % 256 + 128) % 256 = ((n % 128 : Nat) : Int) + 128 := by
        rw [Int.tmod_eq_emod_of_nonneg (by omega)]; omega
      have e' : ((Int.tmod (n : Int) 128) + 128) % 256 = ((n % 128 : Nat) : Int) + 128 := by
        rw [Int.tmod_eq_emod_of_nonneg (by omega)]; omega
      simp only [impl_EncodeVarint.l0, if_pos (show (n : Int) ≥ 128 by omega), if_pos (show x.length < 140737488355328 by omega), vrI_ge h, vr_div n hn, e, e']
      have := ih (n / 128) (by omega) (x ++ [((n % 128 : Nat) : Int) + 128]) (by omega) (by simp only [List.length_append, List.length_cons, List.length_nil]; omega)
      simpa using this
def vrM (n : Int) : ByteArray := if 0 ≤ n ∧ n ≤ 562949953421311 then strOfNums (vrI n.toNat) else ⟨#[]⟩
theorem spec_EncodeVarint_ev (n : Int) : Ev (fun k => spec_EncodeVarint.f k n) (vrM n) := by
  simp only [spec_EncodeVarint.f, l1In_f, Option.bind_some]
  unfold vrM
  by_cases h : 0 ≤ n ∧ n ≤ 562949953421311
  · rw [if_pos h]
    refine Ev.pos (by simp; exact h) ?_
    obtain ⟨n, rfl⟩ := Int.eq_ofNat_of_zero_le h.1
    exact spec_vr n [] (by omega) (by simp only [List.length_nil]; omega)
  · rw [if_neg h]
    exact Ev.neg (by simp; omega) (Ev.now _)
theorem impl_EncodeVarint_ev (n : Int) : Ev (fun k => impl_EncodeVarint.f k n) (vrM n) := by
  simp only [impl_EncodeVarint.f]
  unfold vrM
  by_cases h0 : n < 0
  · rw [if_neg (by omega)]
    refine Ev.pos h0 (Ev.succ ?_)
    simp only [impl_EncodeVarint.j0]
    exact Ev.pos (by trivial) (Ev.now _)
  · refine Ev.neg h0 (Ev.succ ?_)
    simp only [impl_EncodeVarint.j0]
    by_cases h : n ≤ 562949953421311
    · rw [if_pos ⟨by omega, h⟩]
      refine Ev.neg (by simp; omega) ?_
      obtain ⟨n, rfl⟩ := Int.eq_ofNat_of_zero_le (show 0 ≤ n by omega)
      exact impl_vr n [] (by omega) (by simp only [List.length_nil]; omega)
    · rw [if_neg (by omega)]
      exact Ev.pos (by simp; omega) (Ev.now _)
theorem FnExactEncodeVarint : laws_FnExactEncodeVarint.Pure := by
  intro n hn
  refine Ev.rounds ?_
  simp only [laws_FnExactEncodeVarint.f]
  refine Ev.bind (spec_EncodeVarint_ev n) ?_
  refine Ev.tl (impl_EncodeVarint_ev n) ?_
  simp

end Go.Proofs.Ytolbgaaelkepkaa.Pure
