/- The program's FormatRow answers as the reference's does, for all arguments that the statement lets in; no further condition. -/
import Derived.Test.YtdegdgliijcjbaaQFnExactFormatRowx2
import Derived.Test.YtdegdgliijcjbaaCore
namespace Go.Proofs.Ytdegdgliijcjbaa.Pure
open Go.RowKit Go.Proofs.Ytdegdgliijcjbaa.PFnExactFormatRow Go.Proofs.YtdegdgliijcjbaaW.PrintWords Go.Proofs.YtdegdgliijcjbaaW.PrintLast Go.Proofs.YtdegdgliijcjbaaW.PrintMore Go.Proofs.Ytdegdgliijcjbaa.Core
set_option linter.unusedVariables false
set_option linter.unusedSimpArgs false

theorem within_f (a b c : Int) : impl_within.f a b c = some (decide (b ≤ a) && decide (a ≤ c)) := by
  by_cases h : b ≤ a <;> simp [impl_within.f, h]
theorem l1In_f (a b c : Int) : spec_l1In.f a b c = some (decide (b ≤ a) && decide (a ≤ c)) := by
  by_cases h : b ≤ a <;> simp [spec_l1In.f, h]
def vrow (r : Int × Int × Int) : Bool := (decide (0 ≤ r.1) && decide (r.1 ≤ 9)) && ((decide (0 ≤ r.2.1) && decide (r.2.1 ≤ 99)) && (decide (0 ≤ r.2.2) && decide (r.2.2 ≤ 3)))
theorem impl_IsValidRow_f (a b c : Int) : impl_IsValidRow.f a b c = some (vrow (a, b, c)) := by
  simp only [impl_IsValidRow.f, within_f, Option.bind_some, vrow]
  cases (decide (0 ≤ a) && decide (a ≤ 9)) <;> cases (decide (0 ≤ b) && decide (b ≤ 99)) <;> simp
theorem spec_IsValidRow_f (a b c : Int) : spec_IsValidRow.f a b c = some (vrow (a, b, c)) := by
  simp only [spec_IsValidRow.f, l1In_f, Option.bind_some, vrow]
  cases (decide (0 ≤ a) && decide (a ≤ 9)) <;> cases (decide (0 ≤ b) && decide (b ≤ 99)) <;> simp
theorem vrow_iff {a b c : Int} : vrow (a, b, c) = true ↔ (0 ≤ a ∧ a ≤ 9) ∧ (0 ≤ b ∧ b ≤ 99) ∧ 0 ≤ c ∧ c ≤ 3 := by simp [vrow]
def dgs (n : Nat) : List Int := if h : n = 0 then [] else dgs (n / 10) ++ [48 + ((n % 10 : Nat) : Int)]
termination_by n
decreasing_by omega
theorem dgs_zero : dgs 0 = [] := by rw [dgs, dif_pos rfl]
theorem dgs_pos {n : Nat} (h : n ≠ 0) : dgs n = dgs (n / 10) ++ [48 + ((n % 10 : Nat) : Int)] := by rw [dgs, dif_neg h]
theorem dgs_length : ∀ (k n : Nat), n < 10 ^ k → (dgs n).length ≤ k
  | 0, n, h => by
    have : n = 0 := by simpa using h
    subst this; rw [dgs_zero]; exact Nat.le_refl _
  | k + 1, n, h => by
    by_cases h0 : n = 0
    · subst h0; rw [dgs_zero]; exact Nat.zero_le _
    · rw [dgs_pos h0]
      have := dgs_length k (n / 10) (by rw [Nat.pow_succ] at h; omega)
      simp only [List.length_append, List.length_cons, List.length_nil]; omega
def dec (n : Nat) : List Int := if n = 0 then [48] else dgs n
def fmtI (n : Int) : List Int := if n < 0 then 45 :: dec n.natAbs else dec n.natAbs
theorem str_cons (c : Int) (s : List Int) : strOfNums [c] ++ strOfNums s = strOfNums (c :: s) := by
  rw [str_mkB, str_mkB, str_mkB, mkB_append]; rfl
theorem str_append (a b : List Int) : strOfNums a ++ strOfNums b = strOfNums (a ++ b) := by
  rw [str_mkB, str_mkB, str_mkB, mkB_append, List.map_append]
theorem str_minus (s : List Int) : (⟨#[45]⟩ : ByteArray) ++ strOfNums s = strOfNums (45 :: s) := str_cons 45 s
theorem dec_len (n : Nat) (hn : n ≤ 9223372036854775808) : (dec n).length ≤ 19 := by
  unfold dec
  split
  · decide
  · exact dgs_length 19 n (by omega)
theorem spec_dig (x : Int) (n : Nat) (hx : x.natAbs = n) (hn : n ≤ 9223372036854775808) :
    (if Int.tmod x 10 < 0 then (wrap64 (48 + wrap64 (-(Int.tmod x 10)))) % 256 else (wrap64 (48 + Int.tmod x 10)) % 256) = 48 + ((n % 10 : Nat) : Int) ∧ (Int.tdiv x 10).natAbs = n / 10 ∧ (wrap64 (Int.tdiv x 10) = Int.tdiv x 10) := by
  rcases Int.le_total 0 x with h | h
  · have e1 : Int.tmod x 10 = x % 10 := Int.tmod_eq_emod_of_nonneg h
    have e2 : Int.tdiv x 10 = x / 10 := Int.tdiv_eq_ediv_of_nonneg h
    rw [e1, e2, if_neg (by omega)]
    refine ⟨?_, by omega, w64 (by omega) (by omega)⟩
    rw [w64 (by omega) (by omega)]; omega
  · obtain ⟨m, rfl⟩ : ∃ m : Nat, x = -(m : Int) := ⟨n, by omega⟩
    have e1 : Int.tmod (-(m : Int)) 10 = -((m : Int) % 10) := by rw [Int.neg_tmod, Int.tmod_eq_emod_of_nonneg (by omega)]
    have e2 : Int.tdiv (-(m : Int)) 10 = -((m : Int) / 10) := by rw [Int.neg_tdiv, Int.tdiv_eq_ediv_of_nonneg (by omega)]
    rw [e1, e2]
    refine ⟨?_, by omega, w64 (by omega) (by omega)⟩
    split
    · rw [w64 (x := -(-((m : Int) % 10))) (by omega) (by omega), w64 (by omega) (by omega)]; omega
    · rw [w64 (by omega) (by omega)]; omega
theorem spec_fmt : ∀ (n : Nat) (x : Int) (s : List Int) (neg : Bool), x.natAbs = n → n ≤ 9223372036854775808 → s.length + (dgs n).length ≤ 40 →
    Ev (fun k => spec_FormatInt.l0 k x (strOfNums s) neg) (if neg = true then strOfNums (45 :: (dgs n ++ s)) else strOfNums (dgs n ++ s)) := by
  intro n
  induction n using Nat.strongRecOn with
  | _ n ih =>
    intro x s neg hx hn hl
    refine Ev.succ ?_
    by_cases h : n = 0
    · subst h
      simp only [spec_FormatInt.l0, if_pos (show x = 0 by omega), dgs_zero, List.nil_append, str_minus]
      simp only [dgs_zero, List.length_nil] at hl
      cases neg
      · exact Ev.neg (by decide) (Ev.now _)
      · refine Ev.pos (by trivial) ?_
        exact Ev.pos (by rw [strOfNums_size]; omega) (Ev.now _)
    · obtain ⟨d1, d2, d3⟩ := spec_dig x n hx hn
      rw [dgs_pos h] at hl
      simp only [List.length_append, List.length_cons, List.length_nil] at hl
      have step := ih (n / 10) (by omega) (Int.tdiv x 10) ((48 + ((n % 10 : Nat) : Int)) :: s) neg d2 (by omega) (by simp only [List.length_cons]; omega)
      simp only [spec_FormatInt.l0, if_neg (show ¬ x = 0 by omega), d3, Option.bind_some]
      have e : dgs n ++ s = dgs (n / 10) ++ ((48 + ((n % 10 : Nat) : Int)) :: s) := by rw [dgs_pos h]; simp
      rw [e]
      by_cases hm : Int.tmod x 10 < 0
      · rw [if_pos hm] at d1
        refine Ev.pos hm ?_
        simp only [d1, str_cons]
        exact Ev.pos (by rw [strOfNums_size, strOfNums_size]; simp only [List.length_cons, List.length_nil]; omega) step
      · rw [if_neg hm] at d1
        refine Ev.neg hm ?_
        simp only [d1, str_cons]
        exact Ev.pos (by rw [strOfNums_size, strOfNums_size]; simp only [List.length_cons, List.length_nil]; omega) step
theorem spec_FormatInt_ev (n : Int) (h1 : -9223372036854775808 ≤ n) (h2 : n ≤ 9223372036854775807) : Ev (fun k => spec_FormatInt.f k n) (strOfNums (fmtI n)) := by
  simp only [spec_FormatInt.f]
  by_cases h0 : n = 0
  · subst h0
    exact Ev.pos rfl (Ev.now' rfl)
  · refine Ev.neg h0 ?_
    have := spec_fmt n.natAbs n [] (decide (n < 0)) rfl (by omega) (by have := dgs_length 19 n.natAbs (by omega); simp only [List.length_nil]; omega)
    have e : strOfNums (fmtI n) = (if decide (n < 0) = true then strOfNums (45 :: (dgs n.natAbs ++ [])) else strOfNums (dgs n.natAbs ++ [])) := by
      unfold fmtI dec
      rw [if_neg (show ¬ n.natAbs = 0 by omega)]
      by_cases hn : n < 0 <;> simp [hn]
    rw [e]
    exact this
theorem u64w (x : Int) : IntKind.u64.wrap x = x % 18446744073709551616 := by simp [IntKind.wrap, IntKind.bits, IntKind.signed]
theorem impl_dec : ∀ (n : Nat), n ≤ 9223372036854775808 → Ev (fun k => impl_decimal.f k (n : Int)) (strOfNums (dec n)) := by
  intro n
  induction n using Nat.strongRecOn with
  | _ n ih =>
    intro hn
    refine Ev.succ ?_
    simp only [impl_decimal.f]
    by_cases h : n < 10
    · refine Ev.pos (by omega) (Ev.now' ?_)
      have e : IntKind.u64.wrap (48 + (n : Int)) % 256 = 48 + (n : Int) := by rw [u64w]; omega
      rw [e]
      unfold dec
      by_cases h0 : n = 0
      · subst h0; rfl
      · rw [if_neg h0, dgs_pos h0, show n / 10 = 0 by omega, dgs_zero, show n % 10 = n by omega]; rfl
    · refine Ev.neg (by omega) ?_
      have e1 : IntKind.u64.wrap (Int.tdiv (n : Int) 10) = ((n / 10 : Nat) : Int) := by rw [Int.tdiv_eq_ediv_of_nonneg (by omega), u64w]; omega
      have e2 : IntKind.u64.wrap (48 + Int.tmod (n : Int) 10) % 256 = 48 + ((n % 10 : Nat) : Int) := by rw [Int.tmod_eq_emod_of_nonneg (by omega), u64w]; omega
      simp only [e1, e2, Option.bind_some]
      refine Ev.tl (ih (n / 10) (by omega) (by omega)) ?_
      have hl := dec_len (n / 10) (by omega)
      rw [if_pos (by rw [strOfNums_size, strOfNums_size]; simp only [List.length_cons, List.length_nil]; omega), str_append]
      have e3 : dec n = dec (n / 10) ++ [48 + ((n % 10 : Nat) : Int)] := by
        unfold dec
        rw [if_neg (show ¬ n = 0 by omega), if_neg (show ¬ n / 10 = 0 by omega), dgs_pos (show n ≠ 0 by omega)]
      rw [e3]
theorem impl_FormatInt_ev (n : Int) (h1 : -9223372036854775808 ≤ n) (h2 : n ≤ 9223372036854775807) : Ev (fun k => impl_FormatInt.f k n) (strOfNums (fmtI n)) := by
  simp only [impl_FormatInt.f]
  have hl := dec_len n.natAbs (by omega)
  by_cases h : n < 0
  · refine Ev.pos h ?_
    have e : IntKind.u64.wrap (-(IntKind.u64.wrap n)) = (n.natAbs : Int) := by rw [u64w, u64w]; omega
    simp only [e]
    refine Ev.tl (impl_dec n.natAbs (by omega)) ?_
    rw [if_pos (by rw [strOfNums_size]; omega), str_minus]
    unfold fmtI
    rw [if_pos h]
  · refine Ev.neg h ?_
    have e : IntKind.u64.wrap n = (n.natAbs : Int) := by rw [u64w]; omega
    simp only [e]
    refine Ev.tl (impl_dec n.natAbs (by omega)) ?_
    unfold fmtI
    rw [if_neg h]
def frI (a b c : Int) : List Int := if vrow (a, b, c) = true then fmtI a ++ 46 :: (fmtI b ++ 46 :: fmtI c) else []
theorem fmtI_len (n : Int) (h1 : -9223372036854775808 ≤ n) (h2 : n ≤ 9223372036854775807) : (fmtI n).length ≤ 20 := by
  have := dec_len n.natAbs (by omega)
  unfold fmtI
  split
  · simp only [List.length_cons]; omega
  · omega
theorem str_dot (s : List Int) : strOfNums s ++ (⟨#[46]⟩ : ByteArray) = strOfNums (s ++ [46]) := str_append s [46]
theorem spec_FormatRow_ev (a b c : Int) : Ev (fun k => spec_FormatRow.f k a b c) (strOfNums (frI a b c)) := by
  simp only [spec_FormatRow.f, spec_IsValidRow_f, Option.bind_some]
  unfold frI
  by_cases h : vrow (a, b, c) = true
  · have hv := vrow_iff.1 h
    have l1 := fmtI_len a (by omega) (by omega)
    have l2 := fmtI_len b (by omega) (by omega)
    have l3 := fmtI_len c (by omega) (by omega)
    rw [if_pos h]
    refine Ev.pos h (Ev.bind (spec_FormatInt_ev a (by omega) (by omega)) (Ev.pos (by rw [strOfNums_size]; omega) (Ev.bind (spec_FormatInt_ev b (by omega) (by omega)) ?_)))
    simp only [str_dot, str_append]
    refine Ev.pos ?_ (Ev.pos ?_ (Ev.bind (spec_FormatInt_ev c (by omega) (by omega)) ?_))
    · rw [strOfNums_size, strOfNums_size]; simp only [List.length_append, List.length_cons, List.length_nil]; omega
    · rw [strOfNums_size]; simp only [List.length_append, List.length_cons, List.length_nil]; omega
    · simp only [str_append]
      refine Ev.pos ?_ (Ev.now' ?_)
      · rw [strOfNums_size, strOfNums_size]; simp only [List.length_append, List.length_cons, List.length_nil]; omega
      · simp
  · rw [if_neg h]
    exact Ev.neg h (Ev.now' rfl)
theorem impl_FormatRow_ev (a b c : Int) : Ev (fun k => impl_FormatRow.f k a b c) (strOfNums (frI a b c)) := by
  simp only [impl_FormatRow.f, impl_IsValidRow_f, Option.bind_some]
  unfold frI
  by_cases h : vrow (a, b, c) = true
  · have hv := vrow_iff.1 h
    have l1 := fmtI_len a (by omega) (by omega)
    have l2 := fmtI_len b (by omega) (by omega)
    have l3 := fmtI_len c (by omega) (by omega)
    rw [if_pos h]
    refine Ev.pos h (Ev.bind (impl_FormatInt_ev a (by omega) (by omega)) (Ev.pos (by rw [strOfNums_size]; omega) (Ev.bind (impl_FormatInt_ev b (by omega) (by omega)) ?_)))
    simp only [str_dot, str_append]
    refine Ev.pos ?_ (Ev.pos ?_ (Ev.bind (impl_FormatInt_ev c (by omega) (by omega)) ?_))
    · rw [strOfNums_size, strOfNums_size]; simp only [List.length_append, List.length_cons, List.length_nil]; omega
    · rw [strOfNums_size]; simp only [List.length_append, List.length_cons, List.length_nil]; omega
    · simp only [str_append]
      refine Ev.pos ?_ (Ev.now' ?_)
      · rw [strOfNums_size, strOfNums_size]; simp only [List.length_append, List.length_cons, List.length_nil]; omega
      · simp
  · rw [if_neg h]
    exact Ev.neg h (Ev.now' rfl)
theorem toRow_f (a b c : Int) : laws_toRow.f a b c = some (a, b, c) := rfl
theorem FnExactFormatRow {G0 : Prop} (a b c : Int) (g0 : G0) : ∃ k, laws_FnExactFormatRow.f k a b c = some true := by
  refine Ev.rounds ?_
  simp only [laws_FnExactFormatRow.f, toRow_f, Option.bind_some]
  refine Ev.bind (spec_FormatRow_ev a b c) (Ev.tl (impl_FormatRow_ev a b c) ?_)
  simp

end Go.Proofs.Ytdegdgliijcjbaa.Pure
