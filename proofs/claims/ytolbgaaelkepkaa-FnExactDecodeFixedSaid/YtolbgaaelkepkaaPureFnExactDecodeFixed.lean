/- The program's DecodeFixed answers as the reference's does, for all arguments that the statement lets in; no further condition. -/
import Derived.Test.YtolbgaaelkepkaaPFnExactDecodeFixedx1
import Derived.Test.YtolbgaaelkepkaaCore
namespace Go.Proofs.Ytolbgaaelkepkaa.Pure
open Go.RowKit Go.Proofs.Ytolbgaaelkepkaa.PFnExactDecodeFixed Go.Proofs.YtolbgaaelkepkaaW.PrintWords Go.Proofs.YtolbgaaelkepkaaW.PrintLast Go.Proofs.YtolbgaaelkepkaaW.PrintMore Go.Proofs.Ytolbgaaelkepkaa.Core
set_option linter.unusedVariables false
set_option linter.unusedSimpArgs false

theorem l1In_f (a b c : Int) : spec_l1In.f a b c = some (decide (b ≤ a) && decide (a ≤ c)) := by
  by_cases h : b ≤ a <;> simp [spec_l1In.f, h]
def decV (s : ByteArray) : Nat → Nat → Int → Int
  | 0, _, n => n
  | d + 1, i, n => decV s d (i + 1) (n * 256 + bt s (i : Int))
theorem dec_bound {n c : Int} {d : Nat} (h0 : 0 ≤ n) (hc : 0 ≤ c ∧ c ≤ 255) (hp : (n + 1) * 256 ^ (d + 1) ≤ 72057594037927936) : 0 ≤ n * 256 + c ∧ (n * 256 + c + 1) * 256 ^ d ≤ 72057594037927936 ∧ n * 256 + c < 72057594037927936 := by
  have h1 : (0 : Int) < 256 ^ d := Int.pow_pos (by decide)
  have e : (n + 1) * 256 ^ (d + 1) = ((n + 1) * 256) * 256 ^ d := by rw [Int.pow_succ, Int.mul_comm (256 ^ d) 256, Int.mul_assoc]
  have h2 : (n * 256 + c + 1) * 256 ^ d ≤ ((n + 1) * 256) * 256 ^ d := Int.mul_le_mul_of_nonneg_right (by omega) (Int.le_of_lt h1)
  have h3 : (n * 256 + c + 1) * 1 ≤ (n * 256 + c + 1) * 256 ^ d := Int.mul_le_mul_of_nonneg_left (by omega) (by omega)
  refine ⟨by omega, by omega, by omega⟩
theorem wraps_i64' (n : Int) (h0 : 0 ≤ n) (h1 : n < 2 ^ 63) : IntKind.i64.wrap n = n := by rw [IntKind.wrap_i64]; omega
theorem dec_or (n c : Int) (h0 : 0 ≤ n) (h1 : n * 256 + c < 72057594037927936) (hc : 0 ≤ c ∧ c ≤ 255) : Go.bits .or .i64 (wrap64 (n * 256)) (wrap64 c) = n * 256 + c := by
  rw [w64 (x := n * 256) (by omega) (by omega), w64 (x := c) (by omega) (by omega)]
  exact bits_join .i64 63 (by decide) wraps_i64' 8 (n * 256) c (by omega) (by omega) (by omega) (by omega) (by omega) (by omega)
theorem spec_dec (s : ByteArray) (w : Nat) (hw : w ≤ 7) (hs : w ≤ s.size) : ∀ (d i : Nat) (n : Int), i + d = w → 0 ≤ n → (n + 1) * 256 ^ d ≤ 72057594037927936 →
    Ev (fun k => spec_DecodeFixed.l0 k s (w : Int) n (i : Int)) (decV s d i n, true) := by
  intro d
  induction d with
  | zero =>
    intro i n hi h0 hp
    refine Ev.succ ?_
    simp only [spec_DecodeFixed.l0]
    exact Ev.neg (by omega) (Ev.now _)
  | succ d ih =>
    intro i n hi h0 hp
    have hb := bt_range s i
    obtain ⟨b1, b2, b3⟩ := dec_bound h0 hb hp
    refine Ev.succ ?_
    simp only [spec_DecodeFixed.l0, bt_w]
    refine Ev.pos (by omega) (Ev.pos (by omega) (Ev.pos (by omega) ?_))
    rw [w64 (x := n * 256) (by omega) (by omega), w64 (x := n * 256 + bt s i) (by omega) (by omega), w64 (x := (i : Int) + 1) (by omega) (by omega)]
    exact ih (i + 1) _ (by omega) b1 b2
theorem impl_dec (s : ByteArray) (w : Nat) (hw : w ≤ 7) (hs : w ≤ s.size) : ∀ (d i : Nat) (n : Int), i + d = w → 0 ≤ n → (n + 1) * 256 ^ d ≤ 72057594037927936 →
    Ev (fun k => impl_DecodeFixed.l0 k s n (w : Int) (i : Int)) (decV s d i n, true) := by
  intro d
  induction d with
  | zero =>
    intro i n hi h0 hp
    refine Ev.succ ?_
    simp only [impl_DecodeFixed.l0]
    exact Ev.neg (by omega) (Ev.now _)
  | succ d ih =>
    intro i n hi h0 hp
    have hb := bt_range s i
    obtain ⟨b1, b2, b3⟩ := dec_bound h0 hb hp
    refine Ev.succ ?_
    simp only [impl_DecodeFixed.l0, dec_or n (bt s i) h0 b3 hb]
    refine Ev.pos (by omega) (Ev.pos (by omega) (Ev.pos (by omega) ?_))
    rw [w64 (x := (i : Int) + 1) (by omega) (by omega)]
    exact ih (i + 1) _ (by omega) b1 b2
def decM (s : ByteArray) (w : Int) : Int × Bool := if 1 ≤ w ∧ w ≤ 7 ∧ w ≤ s.size then (decV s w.toNat 0 0, true) else (0, false)
theorem spec_DecodeFixed_ev (s : ByteArray) (w : Int) : Ev (fun k => spec_DecodeFixed.f k s w) (decM s w) := by
  simp only [spec_DecodeFixed.f, l1In_f, Option.bind_some]
  unfold decM
  by_cases h : 1 ≤ w ∧ w ≤ 7
  · refine Ev.pos (by simp; exact h) (Ev.succ ?_)
    simp only [spec_DecodeFixed.j0]
    by_cases h2 : w ≤ s.size
    · obtain ⟨w, rfl⟩ := Int.eq_ofNat_of_zero_le (show 0 ≤ w by omega)
      rw [if_pos ⟨h.1, h.2, h2⟩]
      refine Ev.neg (by simp; omega) ?_
      simp only [Int.toNat_natCast]
      have hp : (0 + 1) * 256 ^ w ≤ (72057594037927936 : Int) := by
        have : (256 : Nat) ^ w ≤ 256 ^ 7 := Nat.pow_le_pow_right (by decide) (by omega)
        have : ((256 ^ w : Nat) : Int) ≤ ((256 ^ 7 : Nat) : Int) := by exact_mod_cast this
        simpa using this
      exact spec_dec s w (by omega) (by omega) w 0 0 (by omega) (by omega) hp
    · rw [if_neg (by omega)]
      exact Ev.pos (by simp; omega) (Ev.now _)
  · rw [if_neg (by omega)]
    refine Ev.neg (by simp; omega) (Ev.succ ?_)
    simp only [spec_DecodeFixed.j0]
    exact Ev.pos (by trivial) (Ev.now _)
theorem impl_DecodeFixed_ev (s : ByteArray) (w : Int) : Ev (fun k => impl_DecodeFixed.f k s w) (decM s w) := by
  simp only [impl_DecodeFixed.f]
  unfold decM
  by_cases h1 : w < 1
  · rw [if_neg (by omega)]
    refine Ev.pos h1 (Ev.succ ?_)
    simp only [impl_DecodeFixed.j0]
    exact Ev.pos (by trivial) (Ev.now _)
  refine Ev.neg h1 ?_
  by_cases h3 : w > 7
  · rw [if_neg (by omega)]
    refine Ev.pos h3 (Ev.succ ?_)
    simp only [impl_DecodeFixed.j0]
    exact Ev.pos (by trivial) (Ev.now _)
  refine Ev.neg h3 (Ev.succ ?_)
  simp only [impl_DecodeFixed.j0]
  by_cases h2 : w ≤ s.size
  · obtain ⟨w, rfl⟩ := Int.eq_ofNat_of_zero_le (show 0 ≤ w by omega)
    rw [if_pos ⟨by omega, by omega, h2⟩]
    refine Ev.neg (by simp; omega) ?_
    simp only [Int.toNat_natCast]
    have hp : (0 + 1) * 256 ^ w ≤ (72057594037927936 : Int) := by
      have : (256 : Nat) ^ w ≤ 256 ^ 7 := Nat.pow_le_pow_right (by decide) (by omega)
      have : ((256 ^ w : Nat) : Int) ≤ ((256 ^ 7 : Nat) : Int) := by exact_mod_cast this
      simpa using this
    exact impl_dec s w (by omega) (by omega) w 0 0 (by omega) (by omega) hp
  · rw [if_neg (by omega)]
    exact Ev.pos (by simp; omega) (Ev.now _)
theorem FnExactDecodeFixed : laws_FnExactDecodeFixed.Pure := by
  intro s w hs hw
  refine Ev.rounds ?_
  simp only [laws_FnExactDecodeFixed.f]
  by_cases h : (s.size : Int) > 1048576
  · simp only [if_pos h]; exact Ev.now _
  · simp only [if_neg h]
    refine Ev.bind (spec_DecodeFixed_ev s w) ?_
    refine Ev.tl (impl_DecodeFixed_ev s w) ?_
    simp

end Go.Proofs.Ytolbgaaelkepkaa.Pure
