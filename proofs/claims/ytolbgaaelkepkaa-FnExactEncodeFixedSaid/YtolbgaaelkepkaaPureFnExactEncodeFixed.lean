/- The program's EncodeFixed answers as the reference's does, for all arguments that the statement lets in; no further condition. -/
import Derived.Test.YtolbgaaelkepkaaPFnExactEncodeFixedx1
import Derived.Test.YtolbgaaelkepkaaCore
namespace Go.Proofs.Ytolbgaaelkepkaa.Pure
open Go.RowKit Go.Proofs.Ytolbgaaelkepkaa.PFnExactEncodeFixed Go.Proofs.YtolbgaaelkepkaaW.PrintWords Go.Proofs.YtolbgaaelkepkaaW.PrintLast Go.Proofs.YtolbgaaelkepkaaW.PrintMore Go.Proofs.Ytolbgaaelkepkaa.Core
set_option linter.unusedVariables false
set_option linter.unusedSimpArgs false

theorem l1In_f (a b c : Int) : spec_l1In.f a b c = some (decide (b ≤ a) && decide (a ≤ c)) := by
  by_cases h : b ≤ a <;> simp [spec_l1In.f, h]
def fxI : Nat → Nat → List Int
  | 0, _ => []
  | w + 1, n => fxI w (n / 256) ++ [((n % 256 : Nat) : Int)]
theorem fxI_length : ∀ (w n : Nat), (fxI w n).length = w
  | 0, _ => rfl
  | w + 1, n => by simp [fxI, fxI_length w]
theorem div_pow_succ (n i : Nat) : n / 256 / 256 ^ i = n / 256 ^ (i + 1) := by rw [Nat.div_div_eq_div_mul, Nat.pow_succ, Nat.mul_comm]
theorem spec_fx (w : Nat) (hw : w ≤ 7) : ∀ (d i n : Nat) (s : List Int), i + d = w → n ≤ 9223372036854775807 → s.length = i →
    Ev (fun k => spec_EncodeFixed.l0 k (n : Int) (w : Int) (strOfNums s) (i : Int)) (if n / 256 ^ d > 0 then ⟨#[]⟩ else strOfNums (fxI d n ++ s)) := by
  intro d
  induction d with
  | zero =>
    intro i n s hi hn hl
    refine Ev.succ ?_
    simp only [spec_EncodeFixed.l0, if_neg (show ¬ (i : Int) < (w : Int) by omega), fxI, List.nil_append, Nat.pow_zero, Nat.div_one]
    by_cases h : n > 0
    · rw [if_pos h]; exact Ev.pos (by omega) (Ev.now _)
    · rw [if_neg h]; exact Ev.neg (by omega) (Ev.now _)
  | succ d ih =>
    intro i n s hi hn hl
    refine Ev.succ ?_
    have e1 : (Int.tmod (n : Int) 256) % 256 = ((n % 256 : Nat) : Int) := by rw [Int.tmod_eq_emod_of_nonneg (by omega)]; omega
    have e2 : wrap64 (Int.tdiv (n : Int) 256) = ((n / 256 : Nat) : Int) := by rw [Int.tdiv_eq_ediv_of_nonneg (by omega), w64 (by omega) (by omega)]; omega
    have e3 : wrap64 ((i : Int) + 1) = ((i + 1 : Nat) : Int) := by rw [w64 (by omega) (by omega)]; omega
    have e4 : strOfNums [((n % 256 : Nat) : Int)] ++ strOfNums s = strOfNums (((n % 256 : Nat) : Int) :: s) := by
      rw [str_mkB, str_mkB, str_mkB, mkB_append]; rfl
    simp only [spec_EncodeFixed.l0, if_pos (show (i : Int) < (w : Int) by omega), e1, e2, e3, Option.bind_some, e4]
    refine Ev.pos (by rw [strOfNums_size, strOfNums_size]; simp only [List.length_cons, List.length_nil]; omega) ?_
    have := ih (i + 1) (n / 256) (((n % 256 : Nat) : Int) :: s) (by omega) (by omega) (by simp only [List.length_cons]; omega)
    rw [div_pow_succ] at this
    simpa [fxI] using this
theorem impl_fx : ∀ (d n : Nat) (s : List Int), d + s.length ≤ 7 →
    Ev (fun k => impl_EncodeFixed.l0 k (n : Int) (List.replicate d 0 ++ s) ((d : Int) - 1)) (strOfNums (fxI d n ++ s)) := by
  intro d
  induction d with
  | zero =>
    intro n s hd
    refine Ev.succ ?_
    simp only [impl_EncodeFixed.l0, fxI, List.replicate_zero]
    exact Ev.neg (by omega) (Ev.now _)
  | succ d ih =>
    intro n s hd
    refine Ev.succ ?_
    have e0 : ((d + 1 : Nat) : Int) - 1 = (d : Int) := by omega
    have e1 : (List.replicate (d + 1) (0 : Int) ++ s).set d (((n : Int)) % 256) = List.replicate d 0 ++ (((n % 256 : Nat) : Int) :: s) := by
      rw [List.replicate_succ', List.append_assoc, List.set_append_right _ _ (by simp)]
      simp
    have e2 : ((n : Int) / 256) = ((n / 256 : Nat) : Int) := by omega
    simp only [impl_EncodeFixed.l0, e0, Int.toNat_natCast, e1, e2, if_pos (Int.natCast_nonneg d), if_pos (show (d : Int) ≥ 0 by omega)]
    refine Ev.pos (by simp only [List.length_append, List.length_replicate]; omega) ?_
    rw [w64 (by omega) (by omega)]
    have := ih (n / 256) (((n % 256 : Nat) : Int) :: s) (by simp only [List.length_cons]; omega)
    simpa [fxI] using this
def fxM (n w : Int) : ByteArray := if 1 ≤ w ∧ w ≤ 7 ∧ 0 ≤ n ∧ n.toNat / 256 ^ w.toNat = 0 then strOfNums (fxI w.toNat n.toNat) else ⟨#[]⟩
theorem spec_EncodeFixed_ev (n w : Int) (hn : n ≤ 9223372036854775807) : Ev (fun k => spec_EncodeFixed.f k n w) (fxM n w) := by
  simp only [spec_EncodeFixed.f, l1In_f, Option.bind_some]
  unfold fxM
  by_cases h : 1 ≤ w ∧ w ≤ 7
  · refine Ev.pos (by simp; exact h) (Ev.succ ?_)
    simp only [spec_EncodeFixed.j0]
    by_cases h0 : n < 0
    · rw [if_neg (by omega)]
      exact Ev.pos (by simp; omega) (Ev.now _)
    · refine Ev.neg (by simp; omega) ?_
      obtain ⟨w, rfl⟩ := Int.eq_ofNat_of_zero_le (show 0 ≤ w by omega)
      obtain ⟨n, rfl⟩ := Int.eq_ofNat_of_zero_le (show 0 ≤ n by omega)
      have := spec_fx w (by omega) w 0 n [] (by omega) (by omega) rfl
      simp only [Int.toNat_natCast]
      by_cases hz : n / 256 ^ w = 0
      · rw [if_pos ⟨h.1, h.2, by omega, hz⟩]
        rw [if_neg (by omega), List.append_nil] at this
        exact this
      · rw [if_neg (fun hh => hz hh.2.2.2)]
        rw [if_pos (Nat.pos_of_ne_zero hz)] at this
        exact this
  · rw [if_neg (by omega)]
    refine Ev.neg (by simp; omega) (Ev.succ ?_)
    simp only [spec_EncodeFixed.j0]
    exact Ev.pos (by trivial) (Ev.now _)
theorem shr_fx (n w : Nat) (hw : w ≤ 7) : shr .i64 (n : Int) (wrap64 (8 * (w : Int))) = ((n / 256 ^ w : Nat) : Int) := by
  rw [w64 (by omega) (by omega)]
  unfold shr
  have e : (8 * (w : Int)).toNat = 8 * w := by omega
  have e2 : (256 : Nat) ^ w = 2 ^ (8 * w) := by rw [Nat.pow_mul]
  rw [e, Nat.min_eq_left (by simp [IntKind.bits]; omega), e2, Int.natCast_ediv]
  simp
theorem impl_EncodeFixed_ev (n w : Int) (hn : n ≤ 9223372036854775807) : Ev (fun k => impl_EncodeFixed.f k n w) (fxM n w) := by
  simp only [impl_EncodeFixed.f]
  unfold fxM
  by_cases h1 : w < 1
  · rw [if_neg (by omega)]
    refine Ev.pos h1 (Ev.succ ?_)
    simp only [impl_EncodeFixed.j0]
    exact Ev.pos (by trivial) (Ev.now _)
  refine Ev.neg h1 ?_
  by_cases h2 : w > 7
  · rw [if_neg (by omega)]
    refine Ev.pos h2 (Ev.succ ?_)
    simp only [impl_EncodeFixed.j0]
    exact Ev.pos (by trivial) (Ev.now _)
  refine Ev.neg h2 ?_
  by_cases h0 : n < 0
  · rw [if_neg (by omega)]
    refine Ev.pos h0 (Ev.succ ?_)
    simp only [impl_EncodeFixed.j0]
    exact Ev.pos (by trivial) (Ev.now _)
  refine Ev.neg h0 ?_
  obtain ⟨w, rfl⟩ := Int.eq_ofNat_of_zero_le (show 0 ≤ w by omega)
  obtain ⟨n, rfl⟩ := Int.eq_ofNat_of_zero_le (show 0 ≤ n by omega)
  simp only [shr_fx n w (by omega), Int.toNat_natCast]
  refine Ev.pos (by rw [w64 (by omega) (by omega)]; omega) (Ev.succ ?_)
  simp only [impl_EncodeFixed.j0]
  by_cases hz : n / 256 ^ w = 0
  · rw [if_pos ⟨by omega, by omega, by omega, hz⟩]
    refine Ev.neg (by simp [hz]) (Ev.pos (by omega) (Ev.pos (by simp only [Int.toNat_natCast]; omega) ?_))
    have := impl_fx w n [] (by simp only [List.length_nil]; omega)
    rw [w64 (by omega) (by omega)]
    simpa using this
  · rw [if_neg (fun hh => hz hh.2.2.2)]
    exact Ev.pos (bne_iff_ne.2 (fun hh => hz (Int.ofNat.inj hh))) (Ev.now _)
theorem FnExactEncodeFixed : laws_FnExactEncodeFixed.Pure := by
  intro n w hn hw
  refine Ev.rounds ?_
  simp only [laws_FnExactEncodeFixed.f]
  refine Ev.bind (spec_EncodeFixed_ev n w (wf_hi hn)) ?_
  refine Ev.tl (impl_EncodeFixed_ev n w (wf_hi hn)) ?_
  simp

end Go.Proofs.Ytolbgaaelkepkaa.Pure
