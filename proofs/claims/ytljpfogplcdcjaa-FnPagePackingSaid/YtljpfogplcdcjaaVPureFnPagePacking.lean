/- pages packed out of drawn rows are valid and no row of the next would fit, unpacking gives the rows back, ParsePages takes back what FormatPages writes; no further condition. -/
import Derived.Test.YtljpfogplcdcjaaVQFnPagePackingx16
import Derived.Test.YtljpfogplcdcjaaVCore
namespace Go.Proofs.Ytljpfogplcdcjaa.Pure
open Go.RowKit Go.Proofs.Ytljpfogplcdcjaa.PFnPagePacking Go.Proofs.YtljpfogplcdcjaaW.PrintWords Go.Proofs.YtljpfogplcdcjaaW.PrintLast Go.Proofs.YtljpfogplcdcjaaW.PrintMore Go.Proofs.Ytljpfogplcdcjaa.Core
set_option linter.unusedVariables false
set_option linter.unusedSimpArgs false
def dgs (n : Nat) : List Int := if h : n = 0 then [] else dgs (n / 10) ++ [48 + ((n % 10 : Nat) : Int)]
termination_by n
decreasing_by omega
theorem dgs_zero : dgs 0 = [] := by rw [dgs, dif_pos rfl]
theorem dgs_pos {n : Nat} (h : n ≠ 0) : dgs n = dgs (n / 10) ++ [48 + ((n % 10 : Nat) : Int)] := by rw [dgs, dif_neg h]
theorem dgs_length : ∀ (k n : Nat), n < 10 ^ k → (dgs n).length ≤ k
 | 0, n, h => by
  have : n = 0 := by simpa using h
  subst this; rw [dgs_zero]; exact Nat.le_refl _
 | k + 1, n, h => by
  by_cases h0 : n = 0
  ·subst h0; rw [dgs_zero]; exact Nat.zero_le _
  ·rw [dgs_pos h0]
   have := dgs_length k (n / 10) (by rw [Nat.pow_succ] at h; omega)
   simp only [List.length_append, List.length_cons, List.length_nil]; omega
def dec (n : Nat) : List Int := if n = 0 then [48] else dgs n
def fmtI (n : Int) : List Int := if n < 0 then 45 :: dec n.natAbs else dec n.natAbs
theorem str_cons (c : Int) (s : List Int) : strOfNums [c] ++ strOfNums s = strOfNums (c :: s) := by
 rw [str_mkB, str_mkB, str_mkB, mkB_append]; rfl
theorem str_append (a b : List Int) : strOfNums a ++ strOfNums b = strOfNums (a ++ b) := by
 rw [str_mkB, str_mkB, str_mkB, mkB_append, List.map_append]
theorem str_minus (s : List Int) : (⟨#[45]⟩ : ByteArray) ++ strOfNums s = strOfNums (45 :: s) := str_cons 45 s
theorem dec_len (n : Nat) (hn : n ≤ 9223372036854775808) : (dec n).length ≤ 19 := by
 unfold dec
 split
 ·decide
 ·exact dgs_length 19 n (by omega)
def dval : List Int → Int → Int
 | [], n => n
 | c :: r, n => if 48 ≤ c ∧ c ≤ 57 then dval r (n * 10 + (c - 48)) else dval r n
def dcnt : List Int → Int → Int
 | [], n => n
 | c :: r, n => if 48 ≤ c ∧ c ≤ 57 then dcnt r (n + 1) else dcnt r n
theorem dval_append : ∀ (a b : List Int) (n : Int), dval (a ++ b) n = dval b (dval a n)
 | [], b, n => rfl
 | c :: a, b, n => by
  simp only [List.cons_append, dval]
  split <;> exact dval_append a b _
theorem dgs_dig : ∀ (n : Nat), ∀ c ∈ dgs n, 48 ≤ c ∧ c ≤ 57 := by
 intro n
 induction n using Nat.strongRecOn with
 | _ n ih =>
  intro c hc
  by_cases h : n = 0
  ·subst h; rw [dgs_zero] at hc; simp at hc
  ·rw [dgs_pos h] at hc
   rcases List.mem_append.1 hc with hc | hc
   ·exact ih (n / 10) (by omega) c hc
   ·have : c = 48 + ((n % 10 : Nat) : Int) := by simpa using hc
    omega
theorem dec_dig (n : Nat) : ∀ c ∈ dec n, 48 ≤ c ∧ c ≤ 57 := by
 intro c hc
 unfold dec at hc
 split at hc
 ·have : c = 48 := by simpa using hc
  omega
 ·exact dgs_dig n c hc
theorem dgs_val : ∀ (n : Nat), dval (dgs n) 0 = n := by
 intro n
 induction n using Nat.strongRecOn with
 | _ n ih =>
  by_cases h : n = 0
  ·subst h; rw [dgs_zero]; rfl
  ·rw [dgs_pos h, dval_append, ih (n / 10) (by omega)]
   simp only [dval]
   rw [if_pos (by omega)]
   omega
theorem dec_val (n : Nat) : dval (dec n) 0 = n := by
 unfold dec
 split
 ·rename_i h; subst h; rfl
 ·exact dgs_val n
theorem dcnt_dig : ∀ (l : List Int) (n : Int), (∀ c ∈ l, 48 ≤ c ∧ c ≤ 57) → dcnt l n = n + l.length
 | [], n, _ => by simp [dcnt]
 | c :: r, n, h => by
  simp only [dcnt]
  rw [if_pos (h c (by simp)), dcnt_dig r (n + 1) (fun d hd => h d (by simp [hd]))]
  simp only [List.length_cons]; omega
theorem dec_pos (n : Nat) : 1 ≤ (dec n).length := by
 unfold dec
 split
 ·decide
 ·rename_i h; rw [dgs_pos h]; simp
theorem dgs_len_lt (n : Nat) (h : n < 1000000000) : (dgs n).length ≤ 9 := dgs_length 9 n h
theorem dec_len9 (n : Nat) (h : n < 1000000000) : (dec n).length ≤ 9 := by
 unfold dec
 split
 ·decide
 ·exact dgs_len_lt n h
theorem dgs_len_ge : ∀ (k n : Nat), 10 ^ k ≤ n → k + 1 ≤ (dgs n).length
 | 0, n, h => by
  have : n ≠ 0 := by
   have : (1 : Nat) ≤ n := by simpa using h
   omega
  rw [dgs_pos this]; simp
 | k + 1, n, h => by
  have h0 : n ≠ 0 := by have := Nat.pow_pos (n := k + 1) (show 0 < 10 by decide); omega
  have := dgs_len_ge k (n / 10) (by rw [Nat.pow_succ] at h; omega)
  rw [dgs_pos h0]; simp only [List.length_append, List.length_cons, List.length_nil]; omega
theorem dec_small (n : Nat) (h : (dec n).length ≤ 9) : n < 1000000000 := by
 rcases Nat.lt_or_ge n 1000000000 with h' | h'
 ·exact h'
 ·have := dgs_len_ge 9 n h'
  unfold dec at h
  rw [if_neg (by omega)] at h
  omega
theorem dec_range (n : Nat) : ∀ c ∈ dec n, 0 ≤ c ∧ c ≤ 255 := fun c hc => by have := dec_dig n c hc; omega
theorem fmtI_range (n : Int) : ∀ c ∈ fmtI n, 0 ≤ c ∧ c ≤ 255 := by
 intro c hc
 unfold fmtI at hc
 split at hc
 ·rcases List.mem_cons.1 hc with rfl | hc
  ·omega
  ·exact dec_range _ c hc
 ·exact dec_range _ c hc
def numsB (s : ByteArray) : List Int := s.data.toList.map fun b => (b.toNat : Int)
theorem numsB_len (s : ByteArray) : (numsB s).length = s.size := by unfold numsB; rw [List.length_map, ← ba_size]
theorem numsB_str (l : List Int) (h : ∀ c ∈ l, 0 ≤ c ∧ c ≤ 255) : numsB (strOfNums l) = l := by
 unfold numsB
 rw [strOfNums_data, List.map_map]
 have : ∀ c ∈ l, ((fun b : UInt8 => (b.toNat : Int)) ∘ fun n : Int => UInt8.ofNat n.toNat) c = id c := by
  intro c hc
  have := h c hc
  simp; omega
 rw [List.map_congr_left this, List.map_id]
theorem str_numsB (s : ByteArray) : strOfNums (numsB s) = s := by
 unfold numsB strOfNums
 rw [List.map_map]
 have : ((fun n : Int => UInt8.ofNat n.toNat) ∘ fun b : UInt8 => (b.toNat : Int)) = id := by funext b; simp
 rw [this, List.map_id]
theorem str_eq (l : List Int) (s : ByteArray) (h : ∀ c ∈ l, 0 ≤ c ∧ c ≤ 255) : (strOfNums l).toList = s.toList ↔ numsB s = l := by
 rw [toL, toL]
 constructor
 ·intro he
  have : strOfNums l = s := by apply ByteArray.ext; exact Array.toList_inj.1 he
  rw [← this, numsB_str l h]
 ·intro he
  rw [← he, str_numsB]
theorem numsB_drop_nil {s : ByteArray} {i : Nat} (h : (numsB s).drop i = []) : ¬ (i : Int) < (s.size : Int) := by
 have := List.drop_eq_nil_iff.1 h
 rw [numsB_len] at this
 omega
theorem numsB_drop_cons {s : ByteArray} {i : Nat} {b : Int} {l : List Int} (h : (numsB s).drop i = b :: l) : (i : Int) < (s.size : Int) ∧ bt s (i : Int) = b ∧ (numsB s).drop (i + 1) = l ∧ 0 ≤ b ∧ b ≤ 255 := by
 obtain ⟨hi, h1, h2⟩ := drop_split h
 have hi' : i < s.data.toList.length := by rw [numsB_len] at hi; rw [← ba_size]; exact hi
 have e : bt s (i : Int) = b := by
  rw [bt_list s i hi', ← h1]; simp [numsB]
 refine ⟨by rw [numsB_len] at hi; omega, e, h2, ?_⟩
 have := bt_range s i
 omega
def PInt (s : ByteArray) (r : Int × Bool) : Prop := (r.2 = true ∧ numsB s = fmtI r.1 ∧ r.1.natAbs < 1000000000) ∨ (r = (0, false) ∧ ∀ n : Int, n.natAbs < 1000000000 → numsB s ≠ fmtI n)
theorem fmtI_inj {a b : Int} (h : fmtI a = fmtI b) : a = b := by
 have hd : ∀ n : Nat, ∀ c r, dec n = c :: r → c ≠ 45 := fun n c r he hc => by have := dec_dig n c (by rw [he]; simp); omega
 have hne : ∀ n : Nat, dec n ≠ [] := fun n he => by have := dec_pos n; rw [he] at this; simp at this
 have hv : ∀ m n : Nat, dec m = dec n → m = n := fun m n he => by
  have h1 := dec_val m
  rw [he, dec_val n] at h1
  omega
 unfold fmtI at h
 by_cases ha : a < 0 <;> by_cases hb : b < 0
 ·rw [if_pos ha, if_pos hb] at h
  have := hv _ _ (List.cons.inj h).2
  omega
 ·rw [if_pos ha, if_neg hb] at h
  exact absurd rfl (hd b.natAbs 45 _ h.symm)
 ·rw [if_neg ha, if_pos hb] at h
  exact absurd rfl (hd a.natAbs 45 _ h)
 ·rw [if_neg ha, if_neg hb] at h
  have := hv _ _ h
  omega
theorem PInt_unique {s : ByteArray} {r q : Int × Bool} (h : PInt s r) (k : PInt s q) : r = q := by
 rcases h with ⟨h1, h2, h3⟩ | ⟨h1, h2⟩ <;> rcases k with ⟨k1, k2, k3⟩ | ⟨k1, k2⟩
 ·have : r.1 = q.1 := fmtI_inj (h2.symm.trans k2)
  exact Prod.ext this (h1.trans k1.symm)
 ·exact absurd h2 (k2 _ h3)
 ·exact absurd k2 (h2 _ k3)
 ·rw [h1, k1]
theorem pi_bound {n c : Int} {d : Nat} (h0 : 0 ≤ n) (hc : 0 ≤ c ∧ c ≤ 9) (hp : (n + 1) * 10 ^ (d + 1) ≤ 100000000000) : 0 ≤ n * 10 + c ∧ (n * 10 + c + 1) * 10 ^ d ≤ 100000000000 ∧ n * 10 + c < 100000000000 ∧ n < 100000000000 := by
 have h1 : (0 : Int) < 10 ^ d := Int.pow_pos (by decide)
 have e : (n + 1) * 10 ^ (d + 1) = ((n + 1) * 10) * 10 ^ d := by rw [Int.pow_succ, Int.mul_comm (10 ^ d) 10, Int.mul_assoc]
 have h2 : (n * 10 + c + 1) * 10 ^ d ≤ ((n + 1) * 10) * 10 ^ d := Int.mul_le_mul_of_nonneg_right (by omega) (Int.le_of_lt h1)
 have h3 : (n * 10 + c + 1) * 1 ≤ (n * 10 + c + 1) * 10 ^ d := Int.mul_le_mul_of_nonneg_left (by omega) (by omega)
 refine ⟨by omega, by omega, by omega, by omega⟩
theorem pi_bound0 {n : Int} {d : Nat} (h0 : 0 ≤ n) (hp : (n + 1) * 10 ^ (d + 1) ≤ 100000000000) : (n + 1) * 10 ^ d ≤ 100000000000 ∧ n < 100000000000 := by
 have h1 : (0 : Int) < 10 ^ d := Int.pow_pos (by decide)
 have e : (n + 1) * 10 ^ (d + 1) = ((n + 1) * 10 ^ d) * 10 := by rw [Int.pow_succ, Int.mul_assoc]
 have h3 : (n + 1) * 1 ≤ (n + 1) * 10 ^ d := Int.mul_le_mul_of_nonneg_left (by omega) (by omega)
 omega
theorem pi_ten {d : Nat} (h : d ≤ 11) : ((0 : Int) + 1) * 10 ^ d ≤ 100000000000 := by
 have : (10 : Nat) ^ d ≤ 10 ^ 11 := Nat.pow_le_pow_right (by decide) h
 have : ((10 ^ d : Nat) : Int) ≤ ((10 ^ 11 : Nat) : Int) := by exact_mod_cast this
 simpa using this
theorem pi_less {n : Int} {d : Nat} (h0 : 0 ≤ n) (hp : (n + 1) * 10 ^ d ≤ 100000000000) : n < 100000000000 := by
 have h1 : (0 : Int) < 10 ^ d := Int.pow_pos (by decide)
 have h3 : (n + 1) * 1 ≤ (n + 1) * 10 ^ d := Int.mul_le_mul_of_nonneg_left (by omega) (by omega)
 omega
theorem dval_fmtI (m : Int) : dval (fmtI m) 0 = m.natAbs := by
 unfold fmtI
 split
 ·simp only [dval]; rw [if_neg (by omega)]; exact dec_val _
 ·exact dec_val _
theorem dcnt_fmtI (m : Int) : dcnt (fmtI m) 0 = (dec m.natAbs).length := by
 unfold fmtI
 split
 ·simp only [dcnt]; rw [if_neg (by omega), dcnt_dig _ _ (dec_dig _)]; omega
 ·rw [dcnt_dig _ _ (dec_dig _)]; omega
def negB (s : ByteArray) : Bool := decide (0 < (s.size : Int)) && (bt s 0 == 45)
theorem bt0_hd {s : ByteArray} {c : Int} {r : List Int} (h : numsB s = c :: r) : 0 < (s.size : Int) ∧ bt s 0 = c := by
 have := numsB_drop_cons (s := s) (i := 0) (b := c) (l := r) h
 exact ⟨this.1, this.2.1⟩
theorem negB_fmtI {s : ByteArray} {m : Int} (h : numsB s = fmtI m) : negB s = decide (m < 0) := by
 unfold negB
 by_cases hm : m < 0
 ·unfold fmtI at h
  rw [if_pos hm] at h
  obtain ⟨h1, h2⟩ := bt0_hd h
  rw [decide_eq_true h1, h2, decide_eq_true hm]; rfl
 ·unfold fmtI at h
  rw [if_neg hm] at h
  have hp := dec_pos m.natAbs
  cases hd : dec m.natAbs with
  | nil => rw [hd] at hp; simp at hp
  | cons c r =>
   rw [hd] at h
   obtain ⟨h1, h2⟩ := bt0_hd h
   have := dec_dig m.natAbs c (by rw [hd]; simp)
   have e : (bt s 0 == 45) = false := by rw [h2]; simp; omega
   simp [e, hm]
theorem fmtI_len9 {m : Int} (h : m.natAbs < 1000000000) : (fmtI m).length ≤ 10 := by
 have := dec_len9 _ h
 unfold fmtI
 split
 ·simp only [List.length_cons]; omega
 ·omega
def cutL (sep : Int) : List Int → List Int → List (List Int)
 | [], cur => [cur]
 | c :: r, cur => if c = sep then cur :: cutL sep r [] else cutL sep r (cur ++ [c])
theorem numsB_extract (s : ByteArray) (a b : Nat) : numsB (s.extract a b) = ((numsB s).take b).drop a := by
 unfold numsB
 rw [ByteArray.data_extract, Array.toList_extract, List.extract_eq_take_drop, ← List.map_take, ← List.map_drop, List.drop_take]
theorem ext_eq (s : ByteArray) (a b : Nat) : s.extract a b = strOfNums (((numsB s).take b).drop a) := by rw [← numsB_extract, str_numsB]
theorem ext_end (s : ByteArray) (a : Nat) : s.extract a s.size = strOfNums ((numsB s).drop a) := by
 rw [ext_eq, List.take_of_length_le (by rw [numsB_len]; omega)]
theorem take_drop_snoc {l : List Int} {i f : Nat} {c : Int} {r : List Int} (h : l.drop i = c :: r) (hf : f ≤ i) : (l.take (i + 1)).drop f = (l.take i).drop f ++ [c] := by
 obtain ⟨hi, h1, h2⟩ := drop_split h
 rw [List.take_succ_eq_append_getElem hi, List.drop_append_of_le_length (by rw [List.length_take]; omega), h1]
def cutM (sep : Int) (s : ByteArray) : List ByteArray := (cutL sep (numsB s) []).map strOfNums
theorem rdB {l : List ByteArray} {i : Nat} {b : ByteArray} {r : List ByteArray} (h : l.drop i = b :: r) : (i : Int) < (l.length : Int) ∧ rdOf ByteArray.empty l (i : Int) = b ∧ l.drop (i + 1) = r := by
 obtain ⟨hi, h1, h2⟩ := drop_split h
 refine ⟨by omega, ?_, h2⟩
 unfold rdOf
 rw [Int.toNat_natCast, List.getD_eq_getElem?_getD, List.getElem?_eq_getElem hi, h1]; rfl
theorem cutL_len (sep : Int) : ∀ (l cur : List Int), (cutL sep l cur).length ≤ l.length + 1
 | [], cur => by simp [cutL]
 | c :: r, cur => by
  simp only [cutL]
  split
  ·have := cutL_len sep r []; simp only [List.length_cons]; omega
  ·have := cutL_len sep r (cur ++ [c]); simp only [List.length_cons]; omega
theorem cutL_mem (sep : Int) : ∀ (l cur : List Int), ∀ p ∈ cutL sep l cur, p.length ≤ cur.length + l.length
 | [], cur, p, h => by
  have : p = cur := by simpa [cutL] using h
  subst this; simp
 | c :: r, cur, p, h => by
  simp only [cutL] at h
  split at h
  ·rcases List.mem_cons.1 h with rfl | h
   ·simp
   ·have := cutL_mem sep r [] p h; simp only [List.length_cons, List.length_nil] at this ⊢; omega
  ·have := cutL_mem sep r (cur ++ [c]) p h
   simp only [List.length_append, List.length_cons, List.length_nil] at this ⊢; omega
theorem cutL_range (sep : Int) (P : Int → Prop) : ∀ (l cur : List Int), (∀ c ∈ l, P c) → (∀ c ∈ cur, P c) → ∀ p ∈ cutL sep l cur, ∀ c ∈ p, P c
 | [], cur, _, hc, p, h => by
  have : p = cur := by simpa [cutL] using h
  subst this; exact hc
 | c :: r, cur, hl, hc, p, h => by
  simp only [cutL] at h
  split at h
  ·rcases List.mem_cons.1 h with rfl | h
   ·exact hc
   ·exact cutL_range sep P r [] (fun d hd => hl d (by simp [hd])) (fun d hd => by simp at hd) p h
  ·refine cutL_range sep P r (cur ++ [c]) (fun d hd => hl d (by simp [hd])) (fun d hd => ?_) p h
   rcases List.mem_append.1 hd with hd | hd
   ·exact hc d hd
   ·have : d = c := by simpa using hd
    subst this; exact hl d (by simp)
theorem numsB_range (s : ByteArray) : ∀ c ∈ numsB s, 0 ≤ c ∧ c ≤ 255 := by
 intro c hc
 unfold numsB at hc
 obtain ⟨b, _, rfl⟩ := List.mem_map.1 hc
 have := b.toNat_lt
 omega
theorem cutL_none (sep : Int) : ∀ (l cur : List Int), (∀ c ∈ l, c ≠ sep) → cutL sep l cur = [cur ++ l]
 | [], cur, _ => by simp [cutL]
 | c :: r, cur, h => by
  simp only [cutL]
  rw [if_neg (h c (by simp)), cutL_none sep r (cur ++ [c]) (fun d hd => h d (by simp [hd]))]
  simp
theorem cutL_at (sep : Int) (r : List Int) : ∀ (l cur : List Int), (∀ c ∈ l, c ≠ sep) → cutL sep (l ++ sep :: r) cur = (cur ++ l) :: cutL sep r []
 | [], cur, _ => by simp [cutL]
 | c :: l, cur, h => by
  simp only [List.cons_append, cutL]
  rw [if_neg (h c (by simp)), cutL_at sep r l (cur ++ [c]) (fun d hd => h d (by simp [hd]))]
  simp
def joinL (sep : Int) : List (List Int) → List Int
 | [] => []
 | [p] => p
 | p :: q :: r => p ++ sep :: joinL sep (q :: r)
theorem cutL_ne (sep : Int) : ∀ (l cur : List Int), cutL sep l cur ≠ []
 | [], cur => by simp [cutL]
 | c :: r, cur => by
  simp only [cutL]
  split
  ·simp
  ·exact cutL_ne sep r _
theorem join_cut (sep : Int) : ∀ (l cur : List Int), joinL sep (cutL sep l cur) = cur ++ l
 | [], cur => by simp [cutL, joinL]
 | c :: r, cur => by
  simp only [cutL]
  split
  ·rename_i h
   have ih := join_cut sep r []
   cases hd : cutL sep r [] with
   | nil => exact absurd hd (cutL_ne sep r [])
   | cons q s =>
    rw [hd] at ih
    simp only [joinL, ih, h, List.nil_append]
  ·rw [join_cut sep r (cur ++ [c])]; simp
theorem cut_nums {sep : Int} {s p : ByteArray} (h : p ∈ cutM sep s) : numsB p ∈ cutL sep (numsB s) [] ∧ p.size ≤ s.size := by
 unfold cutM at h
 obtain ⟨q, hq, rfl⟩ := List.mem_map.1 h
 have hr := cutL_range sep (fun c => 0 ≤ c ∧ c ≤ 255) (numsB s) [] (numsB_range s) (fun c hc => by simp at hc) q hq
 have hl := cutL_mem sep (numsB s) [] q hq
 rw [numsB_str q hr, strOfNums_size]
 rw [numsB_len] at hl
 exact ⟨hq, by simpa using hl⟩
theorem cutM_nums (sep : Int) (s : ByteArray) : (cutM sep s).map numsB = cutL sep (numsB s) [] := by
 unfold cutM
 rw [List.map_map]
 have : ∀ q ∈ cutL sep (numsB s) [], (numsB ∘ strOfNums) q = id q := fun q hq => numsB_str q (cutL_range sep (fun c => 0 ≤ c ∧ c ≤ 255) (numsB s) [] (numsB_range s) (fun c hc => by simp at hc) q hq)
 rw [List.map_congr_left this, List.map_id]
def vrow (r : Int × Int × Int) : Bool := (decide (0 ≤ r.1) && decide (r.1 ≤ 9)) && ((decide (0 ≤ r.2.1) && decide (r.2.1 ≤ 99)) && (decide (0 ≤ r.2.2) && decide (r.2.2 ≤ 3)))
theorem vrow_iff {a b c : Int} : vrow (a, b, c) = true ↔ (0 ≤ a ∧ a ≤ 9) ∧ (0 ≤ b ∧ b ≤ 99) ∧ 0 ≤ c ∧ c ≤ 3 := by simp [vrow]
def frI (a b c : Int) : List Int := if vrow (a, b, c) = true then fmtI a ++ 46 :: (fmtI b ++ 46 :: fmtI c) else []
theorem fmtI_len (n : Int) (h1 : -9223372036854775808 ≤ n) (h2 : n ≤ 9223372036854775807) : (fmtI n).length ≤ 20 := by
 have := dec_len n.natAbs (by omega)
 unfold fmtI
 split
 ·simp only [List.length_cons]; omega
 ·omega
theorem str_dot (s : List Int) : strOfNums s ++ (⟨#[46]⟩ : ByteArray) = strOfNums (s ++ [46]) := str_append s [46]
theorem dec_no (n : Nat) (c : Int) (h : c < 48 ∨ 57 < c) : ∀ d ∈ dec n, d ≠ c := fun d hd he => by have := dec_dig n d hd; omega
theorem fmtI_no (n : Int) (c : Int) (h : c < 48 ∨ 57 < c) (h2 : c ≠ 45) : ∀ d ∈ fmtI n, d ≠ c := by
 intro d hd
 unfold fmtI at hd
 split at hd
 ·rcases List.mem_cons.1 hd with rfl | hd
  ·exact fun hh => h2 hh.symm
  ·exact dec_no _ c h d hd
 ·exact dec_no _ c h d hd
theorem frI_range (a b c : Int) : ∀ d ∈ frI a b c, 0 ≤ d ∧ d ≤ 255 := by
 intro d hd
 unfold frI at hd
 split at hd
 ·rcases List.mem_append.1 hd with hd | hd
  ·exact fmtI_range a d hd
  ·rcases List.mem_cons.1 hd with rfl | hd
   ·omega
   ·rcases List.mem_append.1 hd with hd | hd
    ·exact fmtI_range b d hd
    ·rcases List.mem_cons.1 hd with rfl | hd
     ·omega
     ·exact fmtI_range c d hd
 ·simp at hd
theorem cut_frI {a b c : Int} (h : vrow (a, b, c) = true) : cutL 46 (frI a b c) [] = [fmtI a, fmtI b, fmtI c] := by
 unfold frI
 rw [if_pos h, cutL_at _ _ _ _ (fmtI_no a 46 (by omega) (by omega)), cutL_at _ _ _ _ (fmtI_no b 46 (by omega) (by omega)), cutL_none _ _ _ (fmtI_no c 46 (by omega) (by omega))]
 rfl
def PRow (s : ByteArray) (r : Int × Int × Int × Bool) : Prop :=
 (r.2.2.2 = true ∧ vrow (r.1, r.2.1, r.2.2.1) = true ∧ numsB s = frI r.1 r.2.1 r.2.2.1) ∨ (r = (0, 0, 0, false) ∧ ∀ a b c : Int, vrow (a, b, c) = true → numsB s ≠ frI a b c)
theorem frI_inj {a b c a' b' c' : Int} (h : vrow (a, b, c) = true) (h' : vrow (a', b', c') = true) (he : frI a b c = frI a' b' c') : a = a' ∧ b = b' ∧ c = c' := by
 have := cut_frI h
 rw [he, cut_frI h'] at this
 injection this with e1 this
 injection this with e2 this
 injection this with e3 this
 exact ⟨(fmtI_inj e1).symm, (fmtI_inj e2).symm, (fmtI_inj e3).symm⟩
theorem PRow_unique {s : ByteArray} {r q : Int × Int × Int × Bool} (h : PRow s r) (k : PRow s q) : r = q := by
 obtain ⟨a, b, c, o⟩ := r
 obtain ⟨a', b', c', o'⟩ := q
 rcases h with ⟨h1, h2, h3⟩ | ⟨h1, h2⟩ <;> rcases k with ⟨k1, k2, k3⟩ | ⟨k1, k2⟩
 ·simp only at h1 h2 h3 k1 k2 k3
  obtain ⟨e1, e2, e3⟩ := frI_inj h2 k2 (h3.symm.trans k3)
  rw [e1, e2, e3, h1, k1]
 ·exact absurd h3 (k2 _ _ _ h2)
 ·exact absurd k3 (h2 _ _ _ k2)
 ·rw [h1, k1]
theorem vrow_small {a b c : Int} (h : vrow (a, b, c) = true) : a.natAbs < 1000000000 ∧ b.natAbs < 1000000000 ∧ c.natAbs < 1000000000 := by
 have := vrow_iff.1 h
 omega
theorem cutM_of {s : ByteArray} {a b c : Int} (h : vrow (a, b, c) = true) (hs : numsB s = frI a b c) : cutM 46 s = [strOfNums (fmtI a), strOfNums (fmtI b), strOfNums (fmtI c)] := by
 unfold cutM
 rw [hs, cut_frI h]; rfl
theorem PInt_of {n : Int} (h : n.natAbs < 1000000000) : PInt (strOfNums (fmtI n)) (n, true) := .inl ⟨rfl, numsB_str _ (fmtI_range n), h⟩
theorem three_of (s : ByteArray) (l : List ByteArray) (hl : cutM 46 s = l) (V : ByteArray → Int × Bool) (hV : ∀ t, PInt t (V t)) (r : Int × Int × Int × Bool)
  (h3 : ∀ p q w, l = [p, q, w] → (numsB s = frI (V p).1 (V q).1 (V w).1 → vrow ((V p).1, (V q).1, (V w).1) = true → r = ((V p).1, (V q).1, (V w).1, true)) ∧ ((numsB s = frI (V p).1 (V q).1 (V w).1 ∧ vrow ((V p).1, (V q).1, (V w).1) = true) ∨ r = (0, 0, 0, false)))
  (hn : (∀ p q w, l ≠ [p, q, w]) → r = (0, 0, 0, false)) : PRow s r := by
 by_cases hex : ∃ a b c, vrow (a, b, c) = true ∧ numsB s = frI a b c
 ·obtain ⟨a, b, c, hv, he⟩ := hex
  have hc := cutM_of hv he
  rw [hl] at hc
  obtain ⟨s1, s2, s3⟩ := vrow_small hv
  have va : V (strOfNums (fmtI a)) = (a, true) := PInt_unique (hV _) (PInt_of s1)
  have vb : V (strOfNums (fmtI b)) = (b, true) := PInt_unique (hV _) (PInt_of s2)
  have vc : V (strOfNums (fmtI c)) = (c, true) := PInt_unique (hV _) (PInt_of s3)
  have := (h3 _ _ _ hc).1
  rw [va, vb, vc] at this
  have := this he hv
  rw [this]
  exact .inl ⟨rfl, hv, he⟩
 ·refine .inr ⟨?_, fun a b c hv he => hex ⟨a, b, c, hv, he⟩⟩
  by_cases h : ∃ p q w, l = [p, q, w]
  ·obtain ⟨p, q, w, hp⟩ := h
   rcases (h3 p q w hp).2 with ⟨he, hv⟩ | h'
   ·exact absurd ⟨_, _, _, hv, he⟩ hex
   ·exact h'
  ·exact hn (fun p q w hp => h ⟨p, q, w, hp⟩)
theorem spec_cut_ev (s : ByteArray) (hs : s.size ≤ 8000000000000) (sep : Int) : Ev (fun k => spec_l2Cut.f k s sep) (cutM sep s) := by
 have key : ∀ (r : List Int) (i f : Nat) (acc : List ByteArray), (numsB s).drop i = r → f ≤ i → i ≤ s.size → acc.length ≤ i → Ev (fun k => spec_l2Cut.l0 k s sep acc (f : Int) (i : Int)) (acc ++ (cutL sep r (((numsB s).take i).drop f)).map strOfNums) := by
  intro r
  induction r with
  | nil =>
   intro i f acc h hf hi ha
   have e : ((numsB s).take i).drop f = (numsB s).drop f := by
    rw [List.take_of_length_le]
    exact List.drop_eq_nil_iff.1 h
   refine Ev.succ ?_
   simp only [spec_l2Cut.l0, Int.toNat_natCast, ext_end, e, cutL, List.map_cons, List.map_nil]
   exact Ev.neg (numsB_drop_nil h) (Ev.pos (Int.natCast_nonneg _) (Ev.pos (by omega) (Ev.pos (by omega) (Ev.now _))))
  | cons c r ih =>
   intro i f acc h hf hi ha
   obtain ⟨h1, h2, h3, _, _⟩ := numsB_drop_cons h
   have e1 : wrap64 ((i : Int) + 1) = ((i + 1 : Nat) : Int) := by rw [w64 (by omega) (by omega)]; omega
   refine Ev.succ ?_
   simp only [spec_l2Cut.l0, h2, e1, Int.toNat_natCast, ext_eq, cutL]
   refine Ev.pos h1 (Ev.pos (Int.natCast_nonneg _) ?_)
   by_cases hc : c = sep
   ·rw [if_pos hc, List.map_cons]
    refine Ev.pos hc (Ev.pos (Int.natCast_nonneg _) (Ev.pos (by omega) (Ev.pos (by omega) (Ev.pos (by omega) ?_))))
    have := ih (i + 1) (i + 1) (acc ++ [strOfNums (((numsB s).take i).drop f)]) h3 (Nat.le_refl _) (by omega) (by simp only [List.length_append, List.length_cons, List.length_nil]; omega)
    rw [List.drop_of_length_le (i := i + 1) (by rw [List.length_take]; omega)] at this
    simpa using this
   ·rw [if_neg hc]
    refine Ev.neg hc ?_
    have := ih (i + 1) f acc h3 (by omega) (by omega) (by omega)
    rw [take_drop_snoc h hf] at this
    exact this
 have := key (numsB s) 0 0 [] rfl (Nat.le_refl _) (Nat.zero_le _) (Nat.le_refl _)
 exact this
theorem spec_dig (x : Int) (n : Nat) (hx : x.natAbs = n) (hn : n ≤ 9223372036854775808) :
  (if Int.tmod x 10 < 0 then (wrap64 (48 + wrap64 (-(Int.tmod x 10)))) % 256 else (wrap64 (48 + Int.tmod x 10)) % 256) = 48 + ((n % 10 : Nat) : Int) ∧ (Int.tdiv x 10).natAbs = n / 10 ∧ (wrap64 (Int.tdiv x 10) = Int.tdiv x 10) := by
 rcases Int.le_total 0 x with h | h
 ·have e1 : Int.tmod x 10 = x % 10 := Int.tmod_eq_emod_of_nonneg h
  have e2 : Int.tdiv x 10 = x / 10 := Int.tdiv_eq_ediv_of_nonneg h
  rw [e1, e2, if_neg (by omega)]
  refine ⟨?_, by omega, w64 (by omega) (by omega)⟩
  rw [w64 (by omega) (by omega)]; omega
 ·obtain ⟨m, rfl⟩ : ∃ m : Nat, x = -(m : Int) := ⟨n, by omega⟩
  have e1 : Int.tmod (-(m : Int)) 10 = -((m : Int) % 10) := by rw [Int.neg_tmod, Int.tmod_eq_emod_of_nonneg (by omega)]
  have e2 : Int.tdiv (-(m : Int)) 10 = -((m : Int) / 10) := by rw [Int.neg_tdiv, Int.tdiv_eq_ediv_of_nonneg (by omega)]
  rw [e1, e2]
  refine ⟨?_, by omega, w64 (by omega) (by omega)⟩
  split
  ·rw [w64 (x := -(-((m : Int) % 10))) (by omega) (by omega), w64 (by omega) (by omega)]; omega
  ·rw [w64 (by omega) (by omega)]; omega
theorem spec_fmt : ∀ (n : Nat) (x : Int) (s : List Int) (neg : Bool), x.natAbs = n → n ≤ 9223372036854775808 → s.length + (dgs n).length ≤ 40 →
  Ev (fun k => spec_FormatInt.l0 k x (strOfNums s) neg) (if neg = true then strOfNums (45 :: (dgs n ++ s)) else strOfNums (dgs n ++ s)) := by
 intro n
 induction n using Nat.strongRecOn with
 | _ n ih =>
  intro x s neg hx hn hl
  refine Ev.succ ?_
  by_cases h : n = 0
  ·subst h
   simp only [spec_FormatInt.l0, if_pos (show x = 0 by omega), dgs_zero, List.nil_append, str_minus]
   simp only [dgs_zero, List.length_nil] at hl
   cases neg
   ·exact Ev.neg (by decide) (Ev.now _)
   ·refine Ev.pos (by trivial) ?_
    exact Ev.pos (by rw [strOfNums_size]; omega) (Ev.now _)
  ·obtain ⟨d1, d2, d3⟩ := spec_dig x n hx hn
   rw [dgs_pos h] at hl
   simp only [List.length_append, List.length_cons, List.length_nil] at hl
   have step := ih (n / 10) (by omega) (Int.tdiv x 10) ((48 + ((n % 10 : Nat) : Int)) :: s) neg d2 (by omega) (by simp only [List.length_cons]; omega)
   simp only [spec_FormatInt.l0, if_neg (show ¬ x = 0 by omega), d3, Option.bind_some]
   have e : dgs n ++ s = dgs (n / 10) ++ ((48 + ((n % 10 : Nat) : Int)) :: s) := by rw [dgs_pos h]; simp
   rw [e]
   by_cases hm : Int.tmod x 10 < 0
   ·rw [if_pos hm] at d1
    refine Ev.pos hm ?_
    simp only [d1, str_cons]
    exact Ev.pos (by rw [strOfNums_size, strOfNums_size]; simp only [List.length_cons, List.length_nil]; omega) step
   ·rw [if_neg hm] at d1
    refine Ev.neg hm ?_
    simp only [d1, str_cons]
    exact Ev.pos (by rw [strOfNums_size, strOfNums_size]; simp only [List.length_cons, List.length_nil]; omega) step
theorem spec_FormatInt_ev (n : Int) (h1 : -9223372036854775808 ≤ n) (h2 : n ≤ 9223372036854775807) : Ev (fun k => spec_FormatInt.f k n) (strOfNums (fmtI n)) := by
 simp only [spec_FormatInt.f]
 by_cases h0 : n = 0
 ·subst h0
  exact Ev.pos rfl (Ev.now' rfl)
 ·refine Ev.neg h0 ?_
  have := spec_fmt n.natAbs n [] (decide (n < 0)) rfl (by omega) (by have := dgs_length 19 n.natAbs (by omega); simp only [List.length_nil]; omega)
  have e : strOfNums (fmtI n) = (if decide (n < 0) = true then strOfNums (45 :: (dgs n.natAbs ++ [])) else strOfNums (dgs n.natAbs ++ [])) := by
   unfold fmtI dec
   rw [if_neg (show ¬ n.natAbs = 0 by omega)]
   by_cases hn : n < 0 <;> simp [hn]
  rw [e]
  exact this
def piS (s : ByteArray) : Int × Bool :=
 if dcnt ((numsB s).take 11) 0 > 9 then (0, false) else if (s.size : Int) > 10 then (0, false) else
  (if numsB s = fmtI (if negB s = true then -(dval ((numsB s).take 11) 0) else dval ((numsB s).take 11) 0) then ((if negB s = true then -(dval ((numsB s).take 11) 0) else dval ((numsB s).take 11) 0), true) else (0, false))
theorem piS_ok (s : ByteArray) : PInt s (piS s) := by
 have low : ∀ m : Int, m.natAbs < 1000000000 → numsB s = fmtI m → piS s = (m, true) := by
  intro m hm h
  have hl := fmtI_len9 hm
  have ht : (numsB s).take 11 = fmtI m := by rw [h, List.take_of_length_le (by omega)]
  have hs : s.size ≤ 10 := by rw [← numsB_len, h]; exact hl
  have hv : (if negB s = true then -(dval ((numsB s).take 11) 0) else dval ((numsB s).take 11) 0) = m := by
   rw [ht, dval_fmtI, negB_fmtI h]
   by_cases hn : m < 0
   ·rw [if_pos (by simpa using hn)]; omega
   ·rw [if_neg (by simpa using hn)]; omega
  unfold piS
  rw [hv, ht, dcnt_fmtI]
  have := dec_len9 _ hm
  rw [if_neg (by omega), if_neg (by omega), if_pos h]
 by_cases hex : ∃ m : Int, m.natAbs < 1000000000 ∧ numsB s = fmtI m
 ·obtain ⟨m, hm, h⟩ := hex
  rw [low m hm h]
  exact .inl ⟨rfl, h, hm⟩
 ·refine .inr ⟨?_, fun n hn h => hex ⟨n, hn, h⟩⟩
  unfold piS
  split
  ·rfl
  ·rename_i hc
   split
   ·rfl
   ·rename_i hz
    generalize hv : (if negB s = true then -(dval ((numsB s).take 11) 0) else dval ((numsB s).take 11) 0) = v
    split
    ·rename_i h
     have ht : (numsB s).take 11 = fmtI v := by rw [h, List.take_of_length_le (by rw [← h, numsB_len]; omega)]
     rw [ht, dcnt_fmtI] at hc
     exact absurd ⟨v, dec_small _ (by omega), h⟩ hex
    ·rfl
theorem spec_ParseInt_ev (s : ByteArray) (hs : s.size ≤ 140737488351232) : Ev (fun k => spec_ParseInt.f k s) (piS s) := by
 have tail : ∀ (n c : Int) (i : Int), 0 ≤ n → n < 100000000000 → Aside0 (n = dval ((numsB s).take 11) 0) → Aside0 (c = dcnt ((numsB s).take 11) 0) → Ev (fun k => spec_ParseInt.j1 k s n c i false) (piS s) := by
  intro n c i h0 hn en ec
  have j2 : ∀ b, b = negB s → Ev (fun k => spec_ParseInt.j2 k s n c b) (piS s) := by
   intro b hb
   refine Ev.succ ?_
   simp only [spec_ParseInt.j2, w64 (x := -n) (by omega) (by omega)]
   unfold piS
   rw [← en.out, ← ec.out, ← hb]
   cases b with
   | true =>
    refine Ev.pos (by trivial) ?_
    by_cases h1 : c > 9
    ·rw [if_pos h1]; exact Ev.pos h1 (Ev.now _)
    ·rw [if_neg h1]
     refine Ev.neg h1 ?_
     by_cases h2 : (s.size : Int) > 10
     ·rw [if_pos h2]; exact Ev.pos h2 (Ev.now _)
     ·rw [if_neg h2]
      refine Ev.neg h2 (Ev.bind (spec_FormatInt_ev (-n) (by omega) (by omega)) ?_)
      simp only [str_eq _ s (fmtI_range (-n)), if_true]
      by_cases h3 : numsB s = fmtI (-n)
      ·simp only [if_pos h3]; exact Ev.now _
      ·simp only [if_neg h3]; exact Ev.now _
   | false =>
    refine Ev.neg (by decide) ?_
    by_cases h1 : c > 9
    ·rw [if_pos h1]; exact Ev.pos h1 (Ev.now _)
    ·rw [if_neg h1]
     refine Ev.neg h1 ?_
     by_cases h2 : (s.size : Int) > 10
     ·rw [if_pos h2]; exact Ev.pos h2 (Ev.now _)
     ·rw [if_neg h2]
      refine Ev.neg h2 (Ev.bind (spec_FormatInt_ev n (by omega) (by omega)) ?_)
      simp only [str_eq _ s (fmtI_range n), Bool.false_eq_true, if_false]
      by_cases h3 : numsB s = fmtI n
      ·simp only [if_pos h3]; exact Ev.now _
      ·simp only [if_neg h3]; exact Ev.now _
  refine Ev.succ ?_
  simp only [spec_ParseInt.j1]
  refine Ev.neg (by decide) ?_
  by_cases h : (s.size : Int) > 0
  ·refine Ev.pos h (Ev.pos h (j2 _ ?_))
   unfold negB
   rw [decide_eq_true (show 0 < (s.size : Int) from h)]; rfl
  ·refine Ev.neg h (j2 _ ?_)
   unfold negB
   rw [decide_eq_false (show ¬ 0 < (s.size : Int) from h)]; rfl
 have key : ∀ (d i : Nat) (n c : Int), i + d = 11 → 0 ≤ n → (n + 1) * 10 ^ d ≤ 100000000000 → 0 ≤ c → c ≤ i → Aside0 (dval (((numsB s).drop i).take d) n = dval ((numsB s).take 11) 0) → Aside0 (dcnt (((numsB s).drop i).take d) c = dcnt ((numsB s).take 11) 0) →
   Ev (fun k => spec_ParseInt.l0 k s n c (i : Int)) (piS s) := by
  intro d
  induction d with
  | zero =>
   intro i n c hi h0 hp hc hci hv hk
   have hn := pi_less h0 hp
   refine Ev.succ ?_
   simp only [spec_ParseInt.l0]
   by_cases h : (i : Int) < (s.size : Int)
   ·refine Ev.pos h ?_
    rw [decide_eq_false (by omega)]
    exact tail n c _ h0 hn ⟨by simpa [dval] using hv.out⟩ ⟨by simpa [dcnt] using hk.out⟩
   ·exact Ev.neg h (tail n c _ h0 hn ⟨by simpa [dval] using hv.out⟩ ⟨by simpa [dcnt] using hk.out⟩)
  | succ d ih =>
   intro i n c hi h0 hp hc hci hv hk
   obtain ⟨hp0, hn⟩ := pi_bound0 h0 hp
   refine Ev.succ ?_
   simp only [spec_ParseInt.l0]
   cases hd : (numsB s).drop i with
   | nil =>
    have hv := Aside0.mk (hd ▸ hv.out)
    have hk := Aside0.mk (hd ▸ hk.out)
    refine Ev.neg (numsB_drop_nil hd) (tail n c _ h0 hn ⟨by simpa [dval] using hv.out⟩ ⟨by simpa [dcnt] using hk.out⟩)
   | cons b r =>
    obtain ⟨h1, h2, h3, h4, h5⟩ := numsB_drop_cons hd
    have hv0 : (if 48 ≤ b ∧ b ≤ 57 then dval (((numsB s).drop (i + 1)).take d) (n * 10 + (b - 48)) else dval (((numsB s).drop (i + 1)).take d) n) = dval ((numsB s).take 11) 0 := by
     have := hv.out
     rw [hd, List.take_succ_cons] at this
     rw [h3]; exact this
    have hk0 : (if 48 ≤ b ∧ b ≤ 57 then dcnt (((numsB s).drop (i + 1)).take d) (c + 1) else dcnt (((numsB s).drop (i + 1)).take d) c) = dcnt ((numsB s).take 11) 0 := by
     have := hk.out
     rw [hd, List.take_succ_cons] at this
     rw [h3]; exact this
    clear hv hk
    have hv1 := Aside0.mk hv0
    have hk1 := Aside0.mk hk0
    clear hv0 hk0
    refine Ev.pos h1 ?_
    rw [decide_eq_true (show (i : Int) < 11 by omega)]
    refine Ev.succ ?_
    have e1 : wrap64 ((i : Int) + 1) = ((i + 1 : Nat) : Int) := nx hs h1
    simp only [spec_ParseInt.j1, h2, e1]
    refine Ev.pos (by trivial) (Ev.pos (Int.natCast_nonneg _) (Ev.pos h1 ?_))
    by_cases hg : b ≥ 48
    ·refine Ev.pos hg ?_
     by_cases hl : b ≤ 57
     ·refine Ev.pos hl ?_
      have hv := Aside0.mk ((if_pos ⟨hg, hl⟩).symm.trans hv1.out)
      have hk := Aside0.mk ((if_pos ⟨hg, hl⟩).symm.trans hk1.out)
      obtain ⟨b1, b2, b3, b4⟩ := pi_bound (c := b - 48) h0 (by omega) hp
      have e2 : wrap64 (wrap64 (n * 10) + (b - 48) % 256) = n * 10 + (b - 48) := by
       rw [w64 (x := n * 10) (by omega) (by omega), Int.emod_eq_of_lt (by omega) (by omega), w64 (by omega) (by omega)]
      rw [e2, w64 (x := c + 1) (by omega) (by omega)]
      exact ih (i + 1) _ _ (by omega) b1 b2 (by omega) (by omega) hv hk
     ·have hv := Aside0.mk ((if_neg (fun hh => hl hh.2)).symm.trans hv1.out)
      have hk := Aside0.mk ((if_neg (fun hh => hl hh.2)).symm.trans hk1.out)
      exact Ev.neg hl (ih (i + 1) _ _ (by omega) h0 hp0 hc (by omega) hv hk)
    ·have hv := Aside0.mk ((if_neg (fun hh => hg hh.1)).symm.trans hv1.out)
     have hk := Aside0.mk ((if_neg (fun hh => hg hh.1)).symm.trans hk1.out)
     exact Ev.neg hg (ih (i + 1) _ _ (by omega) h0 hp0 hc (by omega) hv hk)
 exact key 11 0 0 0 (by omega) (by omega) (pi_ten (Nat.le_refl _)) (by omega) (by omega) ⟨by rw [List.drop_zero]⟩ ⟨by rw [List.drop_zero]⟩
theorem l1In_f (a b c : Int) : spec_l1In.f a b c = some (decide (b ≤ a) && decide (a ≤ c)) := by
 by_cases h : b ≤ a <;> simp [spec_l1In.f, h]
theorem spec_IsValidRow_f (a b c : Int) : spec_IsValidRow.f a b c = some (vrow (a, b, c)) := by
 simp only [spec_IsValidRow.f, l1In_f, Option.bind_some, vrow]
 cases (decide (0 ≤ a) && decide (a ≤ 9)) <;> cases (decide (0 ≤ b) && decide (b ≤ 99)) <;> simp
theorem spec_FormatRow_ev (a b c : Int) : Ev (fun k => spec_FormatRow.f k a b c) (strOfNums (frI a b c)) := by
 simp only [spec_FormatRow.f, spec_IsValidRow_f, Option.bind_some]
 unfold frI
 by_cases h : vrow (a, b, c) = true
 ·have hv := vrow_iff.1 h
  have l1 := fmtI_len a (by omega) (by omega)
  have l2 := fmtI_len b (by omega) (by omega)
  have l3 := fmtI_len c (by omega) (by omega)
  rw [if_pos h]
  refine Ev.pos h (Ev.bind (spec_FormatInt_ev a (by omega) (by omega)) (Ev.pos (by rw [strOfNums_size]; omega) (Ev.bind (spec_FormatInt_ev b (by omega) (by omega)) ?_)))
  simp only [str_dot, str_append]
  refine Ev.pos ?_ (Ev.pos ?_ (Ev.bind (spec_FormatInt_ev c (by omega) (by omega)) ?_))
  ·rw [strOfNums_size, strOfNums_size]; simp only [List.length_append, List.length_cons, List.length_nil]; omega
  ·rw [strOfNums_size]; simp only [List.length_append, List.length_cons, List.length_nil]; omega
  ·simp only [str_append]
   refine Ev.pos ?_ (Ev.now' ?_)
   ·rw [strOfNums_size, strOfNums_size]; simp only [List.length_append, List.length_cons, List.length_nil]; omega
   ·simp
 ·rw [if_neg h]
  exact Ev.neg h (Ev.now' rfl)
def prSl (s : ByteArray) : List ByteArray → Int × Int × Int × Bool
 | [p, q, w] => if numsB s = frI (piS p).1 (piS q).1 (piS w).1 then ((piS p).1, (piS q).1, (piS w).1, true) else (0, 0, 0, false)
 | _ => (0, 0, 0, false)
def prS (s : ByteArray) : Int × Int × Int × Bool := prSl s (cutM 46 s)
theorem prS_ok (s : ByteArray) : PRow s (prS s) := by
 refine three_of s (cutM 46 s) rfl piS piS_ok (prS s) ?_ ?_
 ·intro p q w h
  have e : prS s = if numsB s = frI (piS p).1 (piS q).1 (piS w).1 then ((piS p).1, (piS q).1, (piS w).1, true) else (0, 0, 0, false) := by unfold prS; rw [h]; rfl
  rw [e]
  refine ⟨fun he _ => if_pos he, ?_⟩
  by_cases he : numsB s = frI (piS p).1 (piS q).1 (piS w).1
  ·refine .inl ⟨he, ?_⟩
   by_cases hv : vrow ((piS p).1, (piS q).1, (piS w).1) = true
   ·exact hv
   ·have e0 : frI (piS p).1 (piS q).1 (piS w).1 = [] := by unfold frI; rw [if_neg hv]
    rw [e0] at he
    unfold cutM at h
    rw [he] at h
    simp [cutL] at h
  ·exact .inr (if_neg he)
 ·intro h
  unfold prS
  generalize cutM 46 s = l at h
  match l, h with
  | [], _ => rfl
  | [_], _ => rfl
  | [_, _], _ => rfl
  | [p, q, w], h => exact absurd rfl (h p q w)
  | _ :: _ :: _ :: _ :: _, _ => rfl
theorem spec_ParseRow_ev (s : ByteArray) (hs : s.size ≤ 8000000000000) : Ev (fun k => spec_ParseRow.f k s) (prS s) := by
 simp only [spec_ParseRow.f]
 refine Ev.bind (spec_cut_ev s hs 46) ?_
 unfold prS
 have hm : ∀ p ∈ cutM 46 s, p.size ≤ 140737488351232 := fun p hp => by have := (cut_nums hp).2; omega
 generalize cutM 46 s = l at hm
 match l, hm with
 | [], _ => exact Ev.neg (by simp) (Ev.now _)
 | [_], _ => exact Ev.neg (by simp) (Ev.now _)
 | [_, _], _ => exact Ev.neg (by simp) (Ev.now _)
 | [p, q, w], hm =>
  refine Ev.pos (by simp) (Ev.pos (by simp) (Ev.bind (spec_ParseInt_ev p (hm p (by simp))) (Ev.pos (by simp) (Ev.bind (spec_ParseInt_ev q (hm q (by simp))) (Ev.pos (by simp) (Ev.bind (spec_ParseInt_ev w (hm w (by simp))) (Ev.bind (spec_FormatRow_ev _ _ _) ?_)))))))
  simp only [str_eq _ s (frI_range _ _ _), prSl]
  by_cases h : numsB s = frI (piS p).1 (piS q).1 (piS w).1
  ·simp only [if_pos h]; exact Ev.now _
  ·simp only [if_neg h]; exact Ev.now _
 | a :: b :: c :: d :: r, _ => exact Ev.neg (by simp only [List.length_cons]; omega) (Ev.now _)
theorem impl_cut_ev (s : ByteArray) (hs : s.size ≤ 8000000000000) (sep : Int) : Ev (fun k => impl_cut.f k s sep) (cutM sep s) := by
 have key : ∀ (r : List Int) (i f : Nat) (acc : List ByteArray), (numsB s).drop i = r → f ≤ i → i ≤ s.size → acc.length ≤ i → Ev (fun k => impl_cut.l0 k s sep acc (f : Int) (s.size : Int) (i : Int)) (acc ++ (cutL sep r (((numsB s).take i).drop f)).map strOfNums) := by
  intro r
  induction r with
  | nil =>
   intro i f acc h hf hi ha
   have e : ((numsB s).take i).drop f = (numsB s).drop f := by
    rw [List.take_of_length_le]
    exact List.drop_eq_nil_iff.1 h
   refine Ev.succ ?_
   simp only [impl_cut.l0, Int.toNat_natCast, ext_end, e, cutL, List.map_cons, List.map_nil]
   exact Ev.neg (numsB_drop_nil h) (Ev.pos (Int.natCast_nonneg _) (Ev.pos (by omega) (Ev.pos (by omega) (Ev.now _))))
  | cons c r ih =>
   intro i f acc h hf hi ha
   obtain ⟨h1, h2, h3, _, _⟩ := numsB_drop_cons h
   have e1 : wrap64 ((i : Int) + 1) = ((i + 1 : Nat) : Int) := by rw [w64 (by omega) (by omega)]; omega
   refine Ev.succ ?_
   simp only [impl_cut.l0, h2, e1, Int.toNat_natCast, ext_eq, cutL]
   refine Ev.pos h1 (Ev.pos (Int.natCast_nonneg _) (Ev.pos h1 ?_))
   by_cases hc : c = sep
   ·rw [if_pos hc, List.map_cons]
    refine Ev.pos hc (Ev.pos (Int.natCast_nonneg _) (Ev.pos (by omega) (Ev.pos (by omega) (Ev.pos (by omega) ?_))))
    have := ih (i + 1) (i + 1) (acc ++ [strOfNums (((numsB s).take i).drop f)]) h3 (Nat.le_refl _) (by omega) (by simp only [List.length_append, List.length_cons, List.length_nil]; omega)
    rw [List.drop_of_length_le (i := i + 1) (by rw [List.length_take]; omega)] at this
    simpa using this
   ·rw [if_neg hc]
    refine Ev.neg hc ?_
    have := ih (i + 1) f acc h3 (by omega) (by omega) (by omega)
    rw [take_drop_snoc h hf] at this
    exact this
 have := key (numsB s) 0 0 [] rfl (Nat.le_refl _) (Nat.zero_le _) (Nat.le_refl _)
 exact this
theorem u64w (x : Int) : IntKind.u64.wrap x = x % 18446744073709551616 := by simp [IntKind.wrap, IntKind.bits, IntKind.signed]
theorem impl_dec : ∀ (n : Nat), n ≤ 9223372036854775808 → Ev (fun k => impl_decimal.f k (n : Int)) (strOfNums (dec n)) := by
 intro n
 induction n using Nat.strongRecOn with
 | _ n ih =>
  intro hn
  refine Ev.succ ?_
  simp only [impl_decimal.f]
  by_cases h : n < 10
  ·refine Ev.pos (by omega) (Ev.now' ?_)
   have e : IntKind.u64.wrap (48 + (n : Int)) % 256 = 48 + (n : Int) := by rw [u64w]; omega
   rw [e]
   unfold dec
   by_cases h0 : n = 0
   ·subst h0; rfl
   ·rw [if_neg h0, dgs_pos h0, show n / 10 = 0 by omega, dgs_zero, show n % 10 = n by omega]; rfl
  ·refine Ev.neg (by omega) ?_
   have e1 : IntKind.u64.wrap (Int.tdiv (n : Int) 10) = ((n / 10 : Nat) : Int) := by rw [Int.tdiv_eq_ediv_of_nonneg (by omega), u64w]; omega
   have e2 : IntKind.u64.wrap (48 + Int.tmod (n : Int) 10) % 256 = 48 + ((n % 10 : Nat) : Int) := by rw [Int.tmod_eq_emod_of_nonneg (by omega), u64w]; omega
   simp only [e1, e2, Option.bind_some]
   refine Ev.tl (ih (n / 10) (by omega) (by omega)) ?_
   have hl := dec_len (n / 10) (by omega)
   rw [if_pos (by rw [strOfNums_size, strOfNums_size]; simp only [List.length_cons, List.length_nil]; omega), str_append]
   have e3 : dec n = dec (n / 10) ++ [48 + ((n % 10 : Nat) : Int)] := by
    unfold dec
    rw [if_neg (show ¬ n = 0 by omega), if_neg (show ¬ n / 10 = 0 by omega), dgs_pos (show n ≠ 0 by omega)]
   rw [e3]
theorem impl_FormatInt_ev (n : Int) (h1 : -9223372036854775808 ≤ n) (h2 : n ≤ 9223372036854775807) : Ev (fun k => impl_FormatInt.f k n) (strOfNums (fmtI n)) := by
 simp only [impl_FormatInt.f]
 have hl := dec_len n.natAbs (by omega)
 by_cases h : n < 0
 ·refine Ev.pos h ?_
  have e : IntKind.u64.wrap (-(IntKind.u64.wrap n)) = (n.natAbs : Int) := by rw [u64w, u64w]; omega
  simp only [e]
  refine Ev.tl (impl_dec n.natAbs (by omega)) ?_
  rw [if_pos (by rw [strOfNums_size]; omega), str_minus]
  unfold fmtI
  rw [if_pos h]
 ·refine Ev.neg h ?_
  have e : IntKind.u64.wrap n = (n.natAbs : Int) := by rw [u64w]; omega
  simp only [e]
  refine Ev.tl (impl_dec n.natAbs (by omega)) ?_
  unfold fmtI
  rw [if_neg h]
theorem numsB_tail (s : ByteArray) : numsB (s.extract 1 s.size) = (numsB s).drop 1 := by
 unfold numsB
 rw [ByteArray.data_extract, Array.toList_extract, ← List.map_drop]
 congr 1
 rw [ba_size, List.extract_eq_take_drop, List.take_of_length_le (by rw [List.length_drop]; omega)]
def digs (s : ByteArray) : List Int := if negB s = true then (numsB s).drop 1 else numsB s
def allDig (l : List Int) : Bool := l.all fun c => decide (48 ≤ c) && decide (c ≤ 57)
def piI (s : ByteArray) : Int × Bool :=
 if (digs s).length < 1 ∨ (digs s).length > 9 then (0, false) else if allDig (digs s) = true then
  (if numsB s = fmtI (if negB s = true then -(dval (digs s) 0) else dval (digs s) 0) then ((if negB s = true then -(dval (digs s) 0) else dval (digs s) 0), true) else (0, false)) else (0, false)
theorem piI_ok (s : ByteArray) : PInt s (piI s) := by
 have low : ∀ m : Int, m.natAbs < 1000000000 → numsB s = fmtI m → piI s = (m, true) := by
  intro m hm h
  have hn := negB_fmtI h
  have hd : digs s = dec m.natAbs := by
   unfold digs
   rw [hn, h]
   unfold fmtI
   by_cases hh : m < 0
   ·rw [if_pos (by simpa using hh), if_pos hh]; rfl
   ·rw [if_neg (by simpa using hh), if_neg hh]
  have hv : (if negB s = true then -(dval (digs s) 0) else dval (digs s) 0) = m := by
   rw [hd, dec_val, hn]
   by_cases hh : m < 0
   ·rw [if_pos (by simpa using hh)]; omega
   ·rw [if_neg (by simpa using hh)]; omega
  have h9 := dec_len9 _ hm
  have h1 := dec_pos m.natAbs
  have ha : allDig (dec m.natAbs) = true := by
   unfold allDig
   rw [List.all_eq_true]
   intro c hc
   have := dec_dig _ c hc
   simp; omega
  unfold piI
  rw [hv, hd, if_neg (by omega), if_pos ha, if_pos h]
 by_cases hex : ∃ m : Int, m.natAbs < 1000000000 ∧ numsB s = fmtI m
 ·obtain ⟨m, hm, h⟩ := hex
  rw [low m hm h]
  exact .inl ⟨rfl, h, hm⟩
 ·refine .inr ⟨?_, fun n hn h => hex ⟨n, hn, h⟩⟩
  unfold piI
  split
  ·rfl
  ·rename_i hl
   split
   ·generalize hv : (if negB s = true then -(dval (digs s) 0) else dval (digs s) 0) = v
    split
    ·rename_i h
     have hd : digs s = dec v.natAbs := by
      unfold digs
      rw [negB_fmtI h, h]
      unfold fmtI
      by_cases hh : v < 0
      ·rw [if_pos (by simpa using hh), if_pos hh]; rfl
      ·rw [if_neg (by simpa using hh), if_neg hh]
     rw [hd] at hl
     exact absurd ⟨v, dec_small _ (by omega), h⟩ hex
    ·rfl
   ·rfl
theorem impl_pil (s d : ByteArray) (hd : d.size ≤ 9) (r : Int × Bool)
  (hr : allDig (numsB d) = false → r = (0, false))
  (ht : allDig (numsB d) = true → (if (d.size : Int) < (s.size : Int) then (if numsB s = fmtI (-(dval (numsB d) 0)) then r = (-(dval (numsB d) 0), true) else r = (0, false)) else (if numsB s = fmtI (dval (numsB d) 0) then r = (dval (numsB d) 0, true) else r = (0, false)))) :
  Ev (fun k => impl_ParseInt.l0 k s d 0 (d.size : Int) 0) r := by
 have key : ∀ (l : List Int) (i : Nat) (n : Int), (numsB d).drop i = l → 0 ≤ n → (n + 1) * 10 ^ l.length ≤ 100000000000 → Aside0 (dval l n = dval (numsB d) 0) → allDig l = allDig (numsB d) → Ev (fun k => impl_ParseInt.l0 k s d n (d.size : Int) (i : Int)) r := by
  intro l
  induction l with
  | nil =>
   intro i n h h0 hp hv ha
   have hn := pi_less h0 hp
   have ht' := ht (by rw [← ha]; rfl)
   rw [← (show n = dval (numsB d) 0 from hv.out)] at ht'
   clear hv
   refine Ev.succ ?_
   simp only [impl_ParseInt.l0]
   refine Ev.neg (numsB_drop_nil h) ?_
   by_cases hz : (d.size : Int) < (s.size : Int)
   ·rw [if_pos hz] at ht'
    simp only [w64 (x := -n) (by omega) (by omega)]
    refine Ev.pos hz (Ev.bind (impl_FormatInt_ev (-n) (by omega) (by omega)) ?_)
    simp only [str_eq _ s (fmtI_range (-n))]
    by_cases h3 : numsB s = fmtI (-n)
    ·rw [if_pos h3] at ht'; exact Ev.pos h3 (Ev.now' ht'.symm)
    ·rw [if_neg h3] at ht'; exact Ev.neg h3 (Ev.now' ht'.symm)
   ·rw [if_neg hz] at ht'
    refine Ev.neg hz (Ev.bind (impl_FormatInt_ev n (by omega) (by omega)) ?_)
    simp only [str_eq _ s (fmtI_range n)]
    by_cases h3 : numsB s = fmtI n
    ·rw [if_pos h3] at ht'; exact Ev.pos h3 (Ev.now' ht'.symm)
    ·rw [if_neg h3] at ht'; exact Ev.neg h3 (Ev.now' ht'.symm)
  | cons b l ih =>
   intro i n h h0 hp hv ha
   obtain ⟨h1, h2, h3, h4, h5⟩ := numsB_drop_cons h
   rw [List.length_cons] at hp
   have e1 : wrap64 ((i : Int) + 1) = ((i + 1 : Nat) : Int) := by rw [w64 (by omega) (by omega)]; omega
   refine Ev.succ ?_
   simp only [impl_ParseInt.l0, h2, e1]
   refine Ev.pos h1 (Ev.pos (Int.natCast_nonneg _) (Ev.pos h1 ?_))
   by_cases hg : b < 48
   ·refine Ev.pos hg (Ev.now' ?_)
    refine (hr ?_).symm
    rw [← ha]
    simp [allDig, show ¬ 48 ≤ b by omega]
   ·refine Ev.neg hg ?_
    by_cases hl : b > 57
    ·refine Ev.pos hl (Ev.now' ?_)
     refine (hr ?_).symm
     rw [← ha]
     simp [allDig, show ¬ b ≤ 57 by omega]
    ·refine Ev.neg hl ?_
     obtain ⟨b1, b2, b3, b4⟩ := pi_bound (c := b - 48) h0 (by omega) hp
     have e2 : wrap64 (wrap64 (10 * n) + (b - 48) % 256) = n * 10 + (b - 48) := by
      rw [w64 (x := 10 * n) (by omega) (by omega), Int.emod_eq_of_lt (by omega) (by omega), w64 (by omega) (by omega)]; omega
     rw [e2]
     refine ih (i + 1) _ h3 b1 b2 ?_ ?_
     ·have hb : 48 ≤ b ∧ b ≤ 57 := ⟨by omega, by omega⟩
      refine ⟨?_⟩
      rw [← hv.out]
      simp only [dval]
      rw [if_pos hb]
     ·rw [← ha]
      simp [allDig, show 48 ≤ b by omega, show b ≤ 57 by omega]
 exact key (numsB d) 0 0 rfl (by omega) (pi_ten (by rw [numsB_len]; omega)) ⟨rfl⟩ rfl
theorem impl_ParseInt_ev (s : ByteArray) (hs : s.size ≤ 140737488351232) : Ev (fun k => impl_ParseInt.f k s) (piI s) := by
 have j1 : ∀ d : ByteArray, numsB d = digs s → ((d.size : Int) < (s.size : Int) ↔ negB s = true) → Ev (fun k => impl_ParseInt.j1 k s d) (piI s) := by
  intro d hd hlt
  have hl : (digs s).length = d.size := by rw [← hd, numsB_len]
  have j2 : ∀ b, b = decide ((digs s).length < 1 ∨ (digs s).length > 9) → Ev (fun k => impl_ParseInt.j2 k s d b) (piI s) := by
   intro b hb
   refine Ev.succ ?_
   simp only [impl_ParseInt.j2]
   by_cases h : (digs s).length < 1 ∨ (digs s).length > 9
   ·rw [decide_eq_true h] at hb
    subst hb
    refine Ev.pos (by trivial) (Ev.now' ?_)
    unfold piI
    rw [if_pos h]
   ·rw [decide_eq_false h] at hb
    subst hb
    refine Ev.neg (by decide) ?_
    refine impl_pil s d (by omega) _ ?_ ?_
    ·intro ha
     rw [hd] at ha
     unfold piI
     rw [if_neg h, if_neg (by rw [ha]; decide)]
    ·intro ha
     rw [hd] at ha ⊢
     unfold piI
     rw [if_neg h, if_pos ha]
     by_cases hn : negB s = true
     ·rw [if_pos (hlt.2 hn), if_pos hn]
      split <;> rfl
     ·rw [if_neg (fun hh => hn (hlt.1 hh)), if_neg hn]
      split <;> rfl
  refine Ev.succ ?_
  simp only [impl_ParseInt.j1]
  by_cases h : (d.size : Int) < 1
  ·exact Ev.pos h (j2 true (by rw [decide_eq_true (Or.inl (by omega))]))
  ·refine Ev.neg h (j2 _ ?_)
   rw [decide_eq_decide]
   omega
 have j0 : ∀ b, b = negB s → Ev (fun k => impl_ParseInt.j0 k s s b) (piI s) := by
  intro b hb
  refine Ev.succ ?_
  simp only [impl_ParseInt.j0]
  cases b with
  | true =>
   have hz : 0 < (s.size : Int) := by
    have := hb.symm
    unfold negB at this
    simp at this
    omega
   refine Ev.pos (by trivial) (Ev.pos (by omega) (j1 _ ?_ ?_))
   ·rw [numsB_tail]; unfold digs; rw [← hb]; rfl
   ·rw [← hb]
    have : (s.extract 1 s.size).size = s.size - 1 := by rw [← numsB_len, numsB_tail, List.length_drop, numsB_len]
    rw [this]
    simp; omega
  | false =>
   refine Ev.neg (by decide) (j1 _ ?_ ?_)
   ·unfold digs; rw [← hb]; rfl
   ·rw [← hb]; simp
 simp only [impl_ParseInt.f]
 by_cases h : (s.size : Int) > 0
 ·refine Ev.pos h (Ev.pos h (j0 _ ?_))
  unfold negB
  rw [decide_eq_true (show 0 < (s.size : Int) from h)]; rfl
 ·refine Ev.neg h (j0 _ ?_)
  unfold negB
  rw [decide_eq_false (show ¬ 0 < (s.size : Int) from h)]; rfl
theorem within_f (a b c : Int) : impl_within.f a b c = some (decide (b ≤ a) && decide (a ≤ c)) := by
 by_cases h : b ≤ a <;> simp [impl_within.f, h]
theorem impl_IsValidRow_f (a b c : Int) : impl_IsValidRow.f a b c = some (vrow (a, b, c)) := by
 simp only [impl_IsValidRow.f, within_f, Option.bind_some, vrow]
 cases (decide (0 ≤ a) && decide (a ≤ 9)) <;> cases (decide (0 ≤ b) && decide (b ≤ 99)) <;> simp
def prIl : List ByteArray → Int × Int × Int × Bool
 | [p, q, w] => if (piI p).2 = true ∧ (piI q).2 = true ∧ (piI w).2 = true ∧ vrow ((piI p).1, (piI q).1, (piI w).1) = true then ((piI p).1, (piI q).1, (piI w).1, true) else (0, 0, 0, false)
 | _ => (0, 0, 0, false)
def prI (s : ByteArray) : Int × Int × Int × Bool := prIl (cutM 46 s)
theorem PInt_nums {s : ByteArray} {r : Int × Bool} (h : PInt s r) (hr : r.2 = true) : numsB s = fmtI r.1 := by
 rcases h with ⟨_, h, _⟩ | ⟨h, _⟩
 ·exact h
 ·rw [h] at hr; cases hr
theorem ok_of {p : ByteArray} {n : Int} (hn : n.natAbs < 1000000000) (h : p = strOfNums (fmtI n)) : (piI p).2 = true := by
 subst h
 rw [PInt_unique (piI_ok _) (PInt_of hn)]
theorem prI_ok (s : ByteArray) : PRow s (prI s) := by
 have hj := join_cut 46 (numsB s) []
 rw [← cutM_nums] at hj
 refine three_of s (cutM 46 s) rfl piI piI_ok (prI s) ?_ ?_
 ·intro p q w h
  have e : prI s = if (piI p).2 = true ∧ (piI q).2 = true ∧ (piI w).2 = true ∧ vrow ((piI p).1, (piI q).1, (piI w).1) = true then ((piI p).1, (piI q).1, (piI w).1, true) else (0, 0, 0, false) := by unfold prI; rw [h]; rfl
  rw [h] at hj
  have hsn : numsB p ++ 46 :: (numsB q ++ 46 :: numsB w) = numsB s := hj
  rw [e]
  constructor
  ·intro he hv
   have hc := cutM_of hv he
   rw [h] at hc
   injection hc with c1 hc
   injection hc with c2 hc
   injection hc with c3 hc
   obtain ⟨s1, s2, s3⟩ := vrow_small hv
   have o1 : (piI p).2 = true := ok_of s1 c1
   have o2 : (piI q).2 = true := ok_of s2 c2
   have o3 : (piI w).2 = true := ok_of s3 c3
   exact if_pos ⟨o1, o2, o3, hv⟩
  ·by_cases hk : (piI p).2 = true ∧ (piI q).2 = true ∧ (piI w).2 = true ∧ vrow ((piI p).1, (piI q).1, (piI w).1) = true
   ·refine .inl ⟨?_, hk.2.2.2⟩
    rw [← hsn, PInt_nums (piI_ok p) hk.1, PInt_nums (piI_ok q) hk.2.1, PInt_nums (piI_ok w) hk.2.2.1]
    unfold frI
    rw [if_pos hk.2.2.2]
   ·exact .inr (if_neg hk)
 ·intro h
  unfold prI
  generalize cutM 46 s = l at h
  match l, h with
  | [], _ => rfl
  | [_], _ => rfl
  | [_, _], _ => rfl
  | [p, q, w], h => exact absurd rfl (h p q w)
  | _ :: _ :: _ :: _ :: _, _ => rfl
theorem impl_ParseRow_ev (s : ByteArray) (hs : s.size ≤ 8000000000000) : Ev (fun k => impl_ParseRow.f k s) (prI s) := by
 simp only [impl_ParseRow.f]
 refine Ev.bind (impl_cut_ev s hs 46) ?_
 unfold prI
 have hm : ∀ p ∈ cutM 46 s, p.size ≤ 140737488351232 := fun p hp => by have := (cut_nums hp).2; omega
 generalize cutM 46 s = l at hm
 match l, hm with
 | [], _ => exact Ev.neg (by simp) (Ev.now _)
 | [_], _ => exact Ev.neg (by simp) (Ev.now _)
 | [_, _], _ => exact Ev.neg (by simp) (Ev.now _)
 | [p, q, w], hm =>
  refine Ev.pos (by simp) (Ev.pos (by simp) (Ev.bind (impl_ParseInt_ev p (hm p (by simp))) (Ev.pos (by simp) (Ev.bind (impl_ParseInt_ev q (hm q (by simp))) (Ev.pos (by simp) (Ev.bind (impl_ParseInt_ev w (hm w (by simp))) ?_))))))
  show Ev (fun _ => _) (prIl [p, q, w])
  simp only [rdOf, impl_IsValidRow_f, Option.bind_some]
  have no : ¬ ((piI p).2 = true ∧ (piI q).2 = true ∧ (piI w).2 = true ∧ vrow ((piI p).1, (piI q).1, (piI w).1) = true) → prIl [p, q, w] = (0, 0, 0, false) := fun hh => if_neg hh
  by_cases o1 : (piI p).2 = true
  ·by_cases o2 : (piI q).2 = true
   ·by_cases o3 : (piI w).2 = true
    ·by_cases hv : vrow ((piI p).1, (piI q).1, (piI w).1) = true
     ·have e : prIl [p, q, w] = ((piI p).1, (piI q).1, (piI w).1, true) := if_pos ⟨o1, o2, o3, hv⟩
      rw [e]; exact Ev.pos o1 (Ev.pos o2 (Ev.pos o3 (Ev.pos hv (Ev.now _))))
     ·rw [no (fun hh => hv hh.2.2.2)]; exact Ev.pos o1 (Ev.pos o2 (Ev.pos o3 (Ev.neg hv (Ev.now _))))
    ·rw [no (fun hh => o3 hh.2.2.1)]; exact Ev.pos o1 (Ev.pos o2 (Ev.neg o3 (Ev.now _)))
   ·rw [no (fun hh => o2 hh.2.1)]; exact Ev.pos o1 (Ev.neg o2 (Ev.now _))
  ·rw [no (fun hh => o1 hh.1)]; exact Ev.neg o1 (Ev.now _)
 | a :: b :: c :: d :: r, _ => exact Ev.neg (by simp only [List.length_cons]; omega) (Ev.now _)
theorem drop_nil_lt {α : Type} {l : List α} {i : Nat} (h : l.drop i = []) : ¬ (i : Int) < (l.length : Int) := by
 have := List.drop_eq_nil_iff.1 h
 omega
theorem rdI {l : List S42} {i : Nat} {b : S42} {r : List S42} (h : l.drop i = b :: r) : (i : Int) < (l.length : Int) ∧ rd_T42 l (i : Int) = b ∧ l.drop (i + 1) = r := by
 obtain ⟨hi, h1, h2⟩ := drop_split h
 refine ⟨by omega, ?_, h2⟩
 unfold rd_T42
 rw [Int.toNat_natCast, List.getD_eq_getElem?_getD, List.getElem?_eq_getElem hi, h1]; rfl
theorem nxt {n i : Nat} (hn : n ≤ 4611686018427387904) (h : (i : Int) < (n : Int)) : wrap64 ((i : Int) + 1) = ((i + 1 : Nat) : Int) := by
 rw [w64 (by omega) (by omega)]; omega
def allV (l : List S42) : Bool := l.all fun x => vrow (x.f0, x.f1, x.f2)
def avM (l : List S42) : Bool := allV l && decide ((l.length : Int) ≤ 24)
theorem spec_AreValidRows_ev (l : List S42) (hl : l.length ≤ 4611686018427387904) : Ev (fun k => spec_AreValidRows.f k l) (avM l) := by
 have key : ∀ (r : List S42) (i : Nat), l.drop i = r → Ev (fun k => spec_AreValidRows.l0 k l (i : Int)) (allV r && decide ((l.length : Int) ≤ 24)) := by
  intro r
  induction r with
  | nil =>
   intro i h
   refine Ev.succ ?_
   simp only [spec_AreValidRows.l0]
   exact Ev.neg (drop_nil_lt h) (Ev.now' (by simp [allV]))
  | cons x r ih =>
   intro i h
   obtain ⟨h1, h2, h3⟩ := rdI h
   refine Ev.succ ?_
   simp only [spec_AreValidRows.l0, h2, nxt hl h1, spec_IsValidRow_f, Option.bind_some]
   refine Ev.pos h1 (Ev.pos (Int.natCast_nonneg _) ?_)
   by_cases hv : vrow (x.f0, x.f1, x.f2) = true
   ·refine Ev.pos hv ?_
    have e : allV (x :: r) = allV r := by simp [allV, hv]
    rw [e]; exact ih (i + 1) h3
   ·exact Ev.neg hv (Ev.now' (by simp [allV, hv]))
 exact key l 0 rfl
theorem impl_allValid_ev (l : List S42) (hl : l.length ≤ 4611686018427387904) : Ev (fun k => impl_allValid.f k l) (allV l) := by
 have key : ∀ (r : List S42) (i : Nat), l.drop i = r → Ev (fun k => impl_allValid.l0 k l (l.length : Int) (i : Int)) (allV r) := by
  intro r
  induction r with
  | nil =>
   intro i h
   refine Ev.succ ?_
   simp only [impl_allValid.l0]
   exact Ev.neg (drop_nil_lt h) (Ev.now' (by simp [allV]))
  | cons x r ih =>
   intro i h
   obtain ⟨h1, h2, h3⟩ := rdI h
   refine Ev.succ ?_
   simp only [impl_allValid.l0, h2, nxt hl h1, impl_IsValidRow_f, Option.bind_some]
   refine Ev.pos h1 (Ev.pos (Int.natCast_nonneg _) (Ev.pos h1 ?_))
   by_cases hv : vrow (x.f0, x.f1, x.f2) = true
   ·refine Ev.pos hv ?_
    have e : allV (x :: r) = allV r := by simp [allV, hv]
    rw [e]; exact ih (i + 1) h3
   ·exact Ev.neg hv (Ev.now' (by simp [allV, hv]))
 exact key l 0 rfl
theorem impl_AreValidRows_ev (l : List S42) (hl : l.length ≤ 4611686018427387904) : Ev (fun k => impl_AreValidRows.f k l) (avM l) := by
 simp only [impl_AreValidRows.f]
 unfold avM
 by_cases h : (l.length : Int) ≤ 24
 ·refine Ev.pos h (Ev.tl (impl_allValid_ev l hl) ?_)
  simp [h]
 ·exact Ev.neg h (Ev.now' (by simp [h]))
theorem prI_eq (s : ByteArray) : prI s = prS s := PRow_unique (prI_ok s) (prS_ok s)
def psM : List ByteArray → List S42 → List S42 × Bool
 | [], acc => if avM acc = true then (acc, true) else ([], false)
 | p :: r, acc => if (prS p).2.2.2 = true then psM r (acc ++ [⟨(prS p).1, (prS p).2.1, (prS p).2.2.1⟩]) else ([], false)
def psR (s : ByteArray) : List S42 × Bool := if numsB s = [] then ([], true) else psM (cutM 32 s) []
theorem nums_nil (s : ByteArray) : s.toList = ([] : List UInt8) ↔ numsB s = [] := by
 rw [toL]; unfold numsB; rw [List.map_eq_nil_iff]
theorem cutM_len (sep : Int) (s : ByteArray) : (cutM sep s).length ≤ s.size + 1 := by
 unfold cutM
 rw [List.length_map, ← numsB_len]
 exact cutL_len sep _ _
theorem psM_len : ∀ (l : List ByteArray) (acc : List S42), (psM l acc).1.length ≤ acc.length + l.length
 | [], acc => by
  unfold psM
  split <;> simp
 | p :: r, acc => by
  unfold psM
  split
  ·have := psM_len r (acc ++ [⟨(prS p).1, (prS p).2.1, (prS p).2.2.1⟩])
   simp only [List.length_append, List.length_cons, List.length_nil] at this ⊢
   omega
  ·simp
theorem spec_ParseRows_ev (s : ByteArray) (hs : s.size ≤ 8000000000) : Ev (fun k => spec_ParseRows.f k s) (psR s) := by
 have hlen := cutM_len 32 s
 have hm : ∀ p ∈ cutM 32 s, p.size ≤ 8000000000000 := fun p hp => by have := (cut_nums hp).2; omega
 simp only [spec_ParseRows.f]
 refine Ev.bind (spec_cut_ev s (by omega) 32) ?_
 have key : ∀ (w : List ByteArray), w.length ≤ 8000000001 → ∀ (r : List ByteArray) (i : Nat) (acc : List S42), numsB s ≠ [] → w.drop i = r → (∀ p ∈ r, p.size ≤ 8000000000000) → acc.length ≤ i → i ≤ w.length → Ev (fun k => spec_ParseRows.l0 k s acc w (i : Int)) (psM r acc) := by
  intro w hw r
  induction r with
  | nil =>
   intro i acc hn h hr ha hi
   refine Ev.succ ?_
   simp only [spec_ParseRows.l0]
   refine Ev.neg (drop_nil_lt h) (Ev.succ ?_)
   simp only [spec_ParseRows.j1, psM]
   refine Ev.neg (by decide) (Ev.bind (spec_AreValidRows_ev acc (by omega)) ?_)
   by_cases hv : avM acc = true
   ·simp only [if_pos hv]; exact Ev.now _
   ·simp only [if_neg hv]; exact Ev.now _
  | cons p r ih =>
   intro i acc hn h hr ha hi
   obtain ⟨h1, h2, h3⟩ := rdB h
   have hne : (s.toList != ([] : List UInt8)) = true := by
    rw [bne_iff_ne]; exact fun hh => hn ((nums_nil s).1 hh)
   refine Ev.succ ?_
   simp only [spec_ParseRows.l0, hne]
   refine Ev.pos h1 (Ev.succ ?_)
   simp only [spec_ParseRows.j1, h2, psM, nxt (show w.length ≤ 4611686018427387904 by omega) h1]
   refine Ev.pos (by trivial) (Ev.pos (Int.natCast_nonneg _) (Ev.pos h1 (Ev.bind (spec_ParseRow_ev p (hr p (by simp))) ?_)))
   by_cases ho : (prS p).2.2.2 = true
   ·rw [if_pos ho]
    exact Ev.pos ho (Ev.pos (by omega) (ih (i + 1) _ hn h3 (fun q hq => hr q (by simp [hq])) (by simp only [List.length_append, List.length_cons, List.length_nil]; omega) (by omega)))
   ·rw [if_neg ho]
    exact Ev.neg ho (Ev.now _)
 unfold psR
 by_cases hn : numsB s = []
 ·rw [if_pos hn]
  have hne : (s.toList != ([] : List UInt8)) = false := by
   rw [bne_eq_false_iff_eq]; exact (nums_nil s).2 hn
  have hj : Ev (fun k => spec_ParseRows.j1 k s [] (cutM 32 s) 0 false) ([], true) := by
   refine Ev.succ ?_
   simp only [spec_ParseRows.j1]
   refine Ev.neg (by decide) (Ev.bind (spec_AreValidRows_ev [] (by simp)) ?_)
   exact Ev.pos (by simp [avM, allV]) (Ev.now _)
  refine Ev.succ ?_
  simp only [spec_ParseRows.l0, hne]
  by_cases h0 : (0 : Int) < ((cutM 32 s).length : Int)
  ·exact Ev.pos h0 hj
  ·exact Ev.neg h0 hj
 ·rw [if_neg hn]
  exact key (cutM 32 s) (by omega) (cutM 32 s) 0 [] hn rfl hm (by simp) (by simp)
theorem impl_ParseRows_ev (s : ByteArray) (hs : s.size ≤ 8000000000) : Ev (fun k => impl_ParseRows.f k s) (psR s) := by
 have hlen := cutM_len 32 s
 have hm : ∀ p ∈ cutM 32 s, p.size ≤ 8000000000000 := fun p hp => by have := (cut_nums hp).2; omega
 have key : ∀ (w : List ByteArray), w.length ≤ 8000000001 → ∀ (r : List ByteArray) (i : Nat) (acc : List S42), w.drop i = r → (∀ p ∈ r, p.size ≤ 8000000000000) → acc.length ≤ i → i ≤ w.length → Ev (fun k => impl_ParseRows.l0 k acc w (w.length : Int) (i : Int)) (psM r acc) := by
  intro w hw r
  induction r with
  | nil =>
   intro i acc h hr ha hi
   refine Ev.succ ?_
   simp only [impl_ParseRows.l0, psM]
   refine Ev.neg (drop_nil_lt h) (Ev.bind (impl_AreValidRows_ev acc (by omega)) ?_)
   by_cases hv : avM acc = true
   ·simp only [if_pos hv]; exact Ev.now _
   ·simp only [if_neg hv]; exact Ev.now _
  | cons p r ih =>
   intro i acc h hr ha hi
   obtain ⟨h1, h2, h3⟩ := rdB h
   refine Ev.succ ?_
   simp only [impl_ParseRows.l0, h2, psM, nxt (show w.length ≤ 4611686018427387904 by omega) h1]
   refine Ev.pos h1 (Ev.pos (Int.natCast_nonneg _) (Ev.pos h1 (Ev.bind (impl_ParseRow_ev p (hr p (by simp))) ?_)))
   rw [prI_eq]
   by_cases ho : (prS p).2.2.2 = true
   ·rw [if_pos ho]
    exact Ev.pos ho (Ev.pos (by omega) (ih (i + 1) _ h3 (fun q hq => hr q (by simp [hq])) (by simp only [List.length_append, List.length_cons, List.length_nil]; omega) (by omega)))
   ·rw [if_neg ho]
    exact Ev.neg ho (Ev.now _)
 simp only [impl_ParseRows.f]
 unfold psR
 by_cases hn : numsB s = []
 ·rw [if_pos hn]
  exact Ev.pos ((nums_nil s).2 hn) (Ev.now _)
 ·rw [if_neg hn]
  exact Ev.neg (fun hh => hn ((nums_nil s).1 hh)) (Ev.bind (impl_cut_ev s (by omega) 32) (key (cutM 32 s) (by omega) (cutM 32 s) 0 [] rfl hm (by simp) (by simp)))
theorem psM_small : ∀ (l : List ByteArray) (acc : List S42), (psM l acc).1.length ≤ 24
 | [], acc => by
  unfold psM
  split
  ·rename_i h
   unfold avM at h
   simp at h
   show acc.length ≤ 24
   omega
  ·simp
 | p :: r, acc => by
  unfold psM
  split
  ·exact psM_small r _
  ·simp
theorem psR_small (s : ByteArray) : (psR s).1.length ≤ 24 := by
 unfold psR
 split
 ·simp
 ·exact psM_small _ _
def tailI : List S42 → List Int
 | [] => []
 | x :: r => 32 :: (frI x.f0 x.f1 x.f2 ++ tailI r)
def rowsI : List S42 → List Int
 | [] => []
 | x :: r => frI x.f0 x.f1 x.f2 ++ tailI r
def frsI (l : List S42) : List Int := if avM l = true then rowsI l else []
theorem frI_len (a b c : Int) : (frI a b c).length ≤ 62 := by
 unfold frI
 by_cases h : vrow (a, b, c) = true
 ·have hv := vrow_iff.1 h
  have l1 := fmtI_len a (by omega) (by omega)
  have l2 := fmtI_len b (by omega) (by omega)
  have l3 := fmtI_len c (by omega) (by omega)
  rw [if_pos h]
  simp only [List.length_append, List.length_cons]; omega
 ·rw [if_neg h]; simp
theorem tailI_len : ∀ l, (tailI l).length ≤ 63 * l.length
 | [] => by simp [tailI]
 | x :: r => by
  have h1 := frI_len x.f0 x.f1 x.f2
  have h2 := tailI_len r
  simp only [tailI, List.length_cons, List.length_append]; omega
theorem avM_len {l : List S42} (h : avM l = true) : l.length ≤ 24 := by
 unfold avM at h
 simp at h
 omega
theorem str_sp (s : List Int) : strOfNums s ++ (⟨#[32]⟩ : ByteArray) = strOfNums (s ++ [32]) := str_append s [32]
theorem frsI_len (l : List S42) : (frsI l).length ≤ 2000 := by
 unfold frsI
 by_cases h : avM l = true
 ·have h1 := avM_len h
  rw [if_pos h]
  cases l with
  | nil => simp [rowsI]
  | cons x r =>
   have h2 := frI_len x.f0 x.f1 x.f2
   have h3 := tailI_len r
   simp only [List.length_cons] at h1
   simp only [rowsI, List.length_append]; omega
 ·rw [if_neg h]; simp
theorem psM_ok : ∀ (l : List ByteArray) (acc : List S42), (psM l acc).2 = true → ∃ rs, (psM l acc).1 = acc ++ rs ∧ avM (acc ++ rs) = true ∧ rs.map (fun x => frI x.f0 x.f1 x.f2) = l.map numsB
 | [], acc => by
  unfold psM
  intro h
  split at h
  ·rename_i hv
   exact ⟨[], by rw [if_pos hv]; simp, by simpa using hv, rfl⟩
  ·simp at h
 | p :: r, acc => by
  unfold psM
  intro h
  split at h
  ·rename_i hv
   rw [if_pos hv]
   obtain ⟨rs, h1, h2, h3⟩ := psM_ok r _ h
   have hp : numsB p = frI (prS p).1 (prS p).2.1 (prS p).2.2.1 := by
    rcases prS_ok p with ⟨_, _, k⟩ | ⟨k, _⟩
    ·exact k
    ·rw [k] at hv; simp at hv
   refine ⟨⟨(prS p).1, (prS p).2.1, (prS p).2.2.1⟩ :: rs, by rw [h1]; simp, by simpa using h2, ?_⟩
   simp only [List.map_cons, h3, hp]
  ·simp at h
theorem rows_join : ∀ (rs : List S42), rowsI rs = joinL 32 (rs.map (fun x => frI x.f0 x.f1 x.f2))
 | [] => rfl
 | [x] => by simp [rowsI, tailI, joinL]
 | x :: y :: r => by
  have := rows_join (y :: r)
  simp only [rowsI, tailI, joinL, List.map_cons] at this ⊢
  rw [← this]
theorem psR_trip (s : ByteArray) (h : (psR s).2 = true) : frsI (psR s).1 = numsB s := by
 unfold psR at h ⊢
 split at h
 ·rename_i hn
  rw [if_pos hn, hn]
  simp [frsI, rowsI]
 ·rename_i hn
  rw [if_neg hn]
  obtain ⟨rs, h1, h2, h3⟩ := psM_ok _ _ h
  simp only [List.nil_append] at h1 h2
  rw [h1]
  unfold frsI
  rw [if_pos h2, rows_join, h3, cutM_nums, join_cut]
  simp
theorem spec_FormatRows_ev (l : List S42) (hl : l.length ≤ 4611686018427387904) : Ev (fun k => spec_FormatRows.f k l) (strOfNums (frsI l)) := by
 by_cases hv : avM l = true
 ·have hl24 := avM_len hv
  have key : ∀ (r : List S42) (i : Nat) (acc : List Int), l.drop i = r → 1 ≤ i → acc.length + 63 * r.length ≤ 10000 → Ev (fun k => spec_FormatRows.l0 k l (strOfNums acc) (i : Int)) (strOfNums (acc ++ tailI r)) := by
   intro r
   induction r with
   | nil =>
    intro i acc h hi ha
    refine Ev.succ ?_
    simp only [spec_FormatRows.l0]
    refine Ev.neg (drop_nil_lt h) (Ev.succ ?_)
    simp only [spec_FormatRows.j1]
    exact Ev.neg (by decide) (Ev.now' (by simp [tailI]))
   | cons x r ih =>
    intro i acc h hi ha
    obtain ⟨h1, h2, h3⟩ := rdI h
    have hf := frI_len x.f0 x.f1 x.f2
    simp only [List.length_cons] at ha
    refine Ev.succ ?_
    simp only [spec_FormatRows.l0]
    refine Ev.pos h1 (Ev.bind (spec_AreValidRows_ev l hl) (Ev.succ ?_))
    simp only [spec_FormatRows.j1, h2, nxt hl h1, hv]
    refine Ev.pos (by trivial) (Ev.pos (by omega) (Ev.pos (by rw [strOfNums_size]; omega) (Ev.pos (Int.natCast_nonneg _) (Ev.pos h1 (Ev.bind (spec_FormatRow_ev _ _ _) ?_)))))
    simp only [str_sp, str_append]
    refine Ev.pos (by rw [strOfNums_size, strOfNums_size]; simp only [List.length_append, List.length_cons, List.length_nil]; omega) ?_
    have := ih (i + 1) ((acc ++ [32]) ++ frI x.f0 x.f1 x.f2) h3 (by omega) (by simp only [List.length_append, List.length_cons, List.length_nil]; omega)
    simpa [tailI] using this
  have e : frsI l = rowsI l := if_pos hv
  rw [e]
  cases hd : l with
  | nil =>
   refine Ev.succ (g := fun k => spec_FormatRows.l0 k [] (⟨#[]⟩ : ByteArray) 0) ?_
   simp only [spec_FormatRows.l0]
   refine Ev.neg (by simp) (Ev.succ ?_)
   simp only [spec_FormatRows.j1]
   exact Ev.neg (by decide) (Ev.now' rfl)
  | cons x r =>
   rw [← hd]
   have h0 : l.drop 0 = x :: r := by rw [List.drop_zero, hd]
   obtain ⟨h1, h2, h3⟩ := rdI h0
   have hf := frI_len x.f0 x.f1 x.f2
   have hlr : r.length ≤ 24 := by rw [hd] at hl24; simp only [List.length_cons] at hl24; omega
   have e1 : wrap64 (0 + 1) = ((0 + 1 : Nat) : Int) := by rw [w64 (by omega) (by omega)]; rfl
   have h1' : (0 : Int) < (l.length : Int) := h1
   have h2' : rd_T42 l 0 = x := h2
   refine Ev.succ (g := fun k => spec_FormatRows.l0 k l (⟨#[]⟩ : ByteArray) 0) ?_
   simp only [spec_FormatRows.l0]
   refine Ev.pos h1' (Ev.bind (spec_AreValidRows_ev l hl) (Ev.succ ?_))
   simp only [spec_FormatRows.j1, h2', hv, e1]
   refine Ev.pos (by trivial) (Ev.neg (by omega) (Ev.pos (by omega) (Ev.pos h1' (Ev.bind (spec_FormatRow_ev _ _ _) ?_))))
   have e2 : (⟨#[]⟩ : ByteArray) ++ strOfNums (frI x.f0 x.f1 x.f2) = strOfNums (frI x.f0 x.f1 x.f2) := str_append [] _
   have e3 : (⟨#[]⟩ : ByteArray).size = 0 := rfl
   simp only [e2]
   refine Ev.pos (by rw [strOfNums_size, e3]; omega) ?_
   have := key r (0 + 1) (frI x.f0 x.f1 x.f2) h3 (by omega) (by omega)
   rw [hd]
   rw [hd] at this
   exact this
 ·have e : frsI l = [] := if_neg hv
  rw [e]
  have hj : ∀ b, b = false → Ev (fun k => spec_FormatRows.j1 k l (⟨#[]⟩ : ByteArray) 0 b) (strOfNums []) := by
   intro b hb
   subst hb
   refine Ev.succ ?_
   simp only [spec_FormatRows.j1]
   exact Ev.neg (by decide) (Ev.now' rfl)
  refine Ev.succ (g := fun k => spec_FormatRows.l0 k l (⟨#[]⟩ : ByteArray) 0) ?_
  simp only [spec_FormatRows.l0]
  by_cases h0 : (0 : Int) < (l.length : Int)
  ·exact Ev.pos h0 (Ev.bind (spec_AreValidRows_ev l hl) (hj _ (by simpa using hv)))
  ·exact Ev.neg h0 (hj _ rfl)
theorem impl_FormatRow_ev (a b c : Int) : Ev (fun k => impl_FormatRow.f k a b c) (strOfNums (frI a b c)) := by
 simp only [impl_FormatRow.f, impl_IsValidRow_f, Option.bind_some]
 unfold frI
 by_cases h : vrow (a, b, c) = true
 ·have hv := vrow_iff.1 h
  have l1 := fmtI_len a (by omega) (by omega)
  have l2 := fmtI_len b (by omega) (by omega)
  have l3 := fmtI_len c (by omega) (by omega)
  rw [if_pos h]
  refine Ev.pos h (Ev.bind (impl_FormatInt_ev a (by omega) (by omega)) (Ev.pos (by rw [strOfNums_size]; omega) (Ev.bind (impl_FormatInt_ev b (by omega) (by omega)) ?_)))
  simp only [str_dot, str_append]
  refine Ev.pos ?_ (Ev.pos ?_ (Ev.bind (impl_FormatInt_ev c (by omega) (by omega)) ?_))
  ·rw [strOfNums_size, strOfNums_size]; simp only [List.length_append, List.length_cons, List.length_nil]; omega
  ·rw [strOfNums_size]; simp only [List.length_append, List.length_cons, List.length_nil]; omega
  ·simp only [str_append]
   refine Ev.pos ?_ (Ev.now' ?_)
   ·rw [strOfNums_size, strOfNums_size]; simp only [List.length_append, List.length_cons, List.length_nil]; omega
   ·simp
 ·rw [if_neg h]
  exact Ev.neg h (Ev.now' rfl)
def tailT : List ByteArray → List Int
 | [] => []
 | t :: r => 32 :: (numsB t ++ tailT r)
def joinT : List ByteArray → List Int
 | [] => []
 | t :: r => numsB t ++ tailT r
theorem impl_joined_ev (w : List ByteArray) (hw : w.length ≤ 100) (ht : ∀ t ∈ w, t.size ≤ 100) : Ev (fun k => impl_joined.f k w (⟨#[32]⟩ : ByteArray)) (strOfNums (joinT w)) := by
 have es : (⟨#[32]⟩ : ByteArray).size = 1 := rfl
 have key : ∀ (r : List ByteArray) (i : Nat) (acc : List Int), w.drop i = r → 1 ≤ i → (∀ t ∈ r, t.size ≤ 100) → acc.length + 101 * r.length ≤ 20000 → Ev (fun k => impl_joined.l0 k (⟨#[32]⟩ : ByteArray) (strOfNums acc) w (w.length : Int) (i : Int)) (strOfNums (acc ++ tailT r)) := by
  intro r
  induction r with
  | nil =>
   intro i acc h hi hr ha
   refine Ev.succ ?_
   simp only [impl_joined.l0]
   exact Ev.neg (drop_nil_lt h) (Ev.now' (by simp [tailT]))
  | cons t r ih =>
   intro i acc h hi hr ha
   obtain ⟨h1, h2, h3⟩ := rdB h
   have hz := hr t (by simp)
   simp only [List.length_cons] at ha
   refine Ev.succ ?_
   simp only [impl_joined.l0, h2, nxt (show w.length ≤ 4611686018427387904 by omega) h1]
   refine Ev.pos h1 (Ev.pos (Int.natCast_nonneg _) (Ev.pos h1 (Ev.pos (by omega) (Ev.pos (by rw [strOfNums_size, es]; omega) ?_))))
   simp only [str_sp]
   refine Ev.pos (by rw [strOfNums_size]; simp only [List.length_append, List.length_cons, List.length_nil]; omega) ?_
   have e : strOfNums (acc ++ [32]) ++ t = strOfNums ((acc ++ [32]) ++ numsB t) := by
    have := str_append (acc ++ [32]) (numsB t)
    rw [str_numsB] at this
    exact this
   rw [e]
   have := ih (i + 1) ((acc ++ [32]) ++ numsB t) h3 (by omega) (fun q hq => hr q (by simp [hq])) (by simp only [List.length_append, List.length_cons, List.length_nil, numsB_len]; omega)
   simpa [tailT] using this
 cases hd : w with
 | nil =>
  refine Ev.succ (g := fun k => impl_joined.l0 k (⟨#[32]⟩ : ByteArray) (⟨#[]⟩ : ByteArray) [] (([] : List ByteArray).length : Int) 0) ?_
  simp only [impl_joined.l0]
  exact Ev.neg (by simp) (Ev.now' rfl)
 | cons t r =>
  rw [← hd]
  have h0 : w.drop 0 = t :: r := by rw [List.drop_zero, hd]
  obtain ⟨h1, h2, h3⟩ := rdB h0
  have hz := ht t (by rw [hd]; simp)
  have h1' : (0 : Int) < (w.length : Int) := h1
  have h2' : rdOf ByteArray.empty w 0 = t := h2
  have e1 : wrap64 (0 + 1) = ((0 + 1 : Nat) : Int) := by rw [w64 (by omega) (by omega)]; rfl
  refine Ev.succ (g := fun k => impl_joined.l0 k (⟨#[32]⟩ : ByteArray) (⟨#[]⟩ : ByteArray) w (w.length : Int) 0) ?_
  simp only [impl_joined.l0, h2', e1]
  have e2 : (⟨#[]⟩ : ByteArray) ++ t = strOfNums (numsB t) := by
   have := str_append [] (numsB t)
   rw [List.nil_append] at this
   rw [← this, str_numsB]; rfl
  have e3 : (⟨#[]⟩ : ByteArray).size = 0 := rfl
  simp only [e2]
  refine Ev.pos h1' (Ev.pos (by omega) (Ev.pos h1' (Ev.neg (by omega) (Ev.pos (by rw [e3]; omega) ?_))))
  have hlr : r.length ≤ 99 := by rw [hd] at hw; simp only [List.length_cons] at hw; omega
  have := key r (0 + 1) (numsB t) h3 (by omega) (fun q hq => ht q (by rw [hd]; simp [hq])) (by rw [numsB_len]; omega)
  rw [hd]
  rw [hd] at this
  exact this
theorem frI_rg (a b c : Int) : ∀ d ∈ frI a b c, 0 ≤ d ∧ d ≤ 255 := by
 intro d hd
 unfold frI at hd
 split at hd
 ·rcases List.mem_append.1 hd with hd | hd
  ·exact fmtI_range a d hd
  ·rcases List.mem_cons.1 hd with rfl | hd
   ·omega
   ·rcases List.mem_append.1 hd with hd | hd
    ·exact fmtI_range b d hd
    ·rcases List.mem_cons.1 hd with rfl | hd
     ·omega
     ·exact fmtI_range c d hd
 ·simp at hd
theorem tailT_map : ∀ (r : List S42), tailT (r.map fun x => strOfNums (frI x.f0 x.f1 x.f2)) = tailI r
 | [] => rfl
 | x :: r => by
  simp only [List.map_cons, tailT, tailI, tailT_map r, numsB_str _ (frI_rg x.f0 x.f1 x.f2)]
theorem joinT_map (l : List S42) : joinT (l.map fun x => strOfNums (frI x.f0 x.f1 x.f2)) = rowsI l := by
 cases l with
 | nil => rfl
 | cons x r => simp only [List.map_cons, joinT, rowsI, tailT_map r, numsB_str _ (frI_rg x.f0 x.f1 x.f2)]
theorem impl_rowTexts_ev (l : List S42) (hl : l.length ≤ 24) : Ev (fun k => impl_rowTexts.f k l) (strOfNums (rowsI l)) := by
 have key : ∀ (r : List S42) (i : Nat) (acc : List ByteArray), l.drop i = r → acc.length + r.length ≤ 24 → (∀ t ∈ acc, t.size ≤ 100) → Ev (fun k => impl_rowTexts.l0 k acc l (l.length : Int) (i : Int)) (strOfNums (joinT (acc ++ r.map fun x => strOfNums (frI x.f0 x.f1 x.f2)))) := by
  intro r
  induction r with
  | nil =>
   intro i acc h ha ht
   refine Ev.succ ?_
   simp only [impl_rowTexts.l0, List.map_nil, List.append_nil]
   simp only [List.length_nil] at ha
   exact Ev.neg (drop_nil_lt h) (Ev.tl (impl_joined_ev acc (by omega) ht) rfl)
  | cons x r ih =>
   intro i acc h ha ht
   obtain ⟨h1, h2, h3⟩ := rdI h
   have hf := frI_len x.f0 x.f1 x.f2
   simp only [List.length_cons] at ha
   refine Ev.succ ?_
   simp only [impl_rowTexts.l0, h2, nxt (show l.length ≤ 4611686018427387904 by omega) h1]
   refine Ev.pos h1 (Ev.pos (Int.natCast_nonneg _) (Ev.pos h1 (Ev.bind (impl_FormatRow_ev _ _ _) (Ev.pos (by omega) ?_))))
   have := ih (i + 1) (acc ++ [strOfNums (frI x.f0 x.f1 x.f2)]) h3 (by simp only [List.length_append, List.length_cons, List.length_nil]; omega) (fun t htm => by
    rcases List.mem_append.1 htm with htm | htm
    ·exact ht t htm
    ·have : t = strOfNums (frI x.f0 x.f1 x.f2) := by simpa using htm
     rw [this, strOfNums_size]; omega)
   simpa using this
 have := key l 0 [] rfl (by simpa using hl) (fun t ht => by simp at ht)
 rw [List.nil_append, joinT_map] at this
 exact this
theorem impl_FormatRows_ev (l : List S42) (hl : l.length ≤ 4611686018427387904) : Ev (fun k => impl_FormatRows.f k l) (strOfNums (frsI l)) := by
 simp only [impl_FormatRows.f]
 refine Ev.bind (impl_AreValidRows_ev l hl) ?_
 by_cases hv : avM l = true
 ·have e : frsI l = rowsI l := if_pos hv
  rw [e]
  exact Ev.pos hv (Ev.tl (impl_rowTexts_ev l (avM_len hv)) rfl)
 ·have e : frsI l = [] := if_neg hv
  rw [e]
  exact Ev.neg hv (Ev.now' rfl)
theorem bits_and_le (y : Int) (m : Nat) (hm : m < 1000) : 0 ≤ Go.bits .and .i64 y (m : Int) ∧ Go.bits .and .i64 y (m : Int) ≤ m := by
 have h : (BitVec.ofInt 64 y &&& BitVec.ofInt 64 (m : Int)).toNat ≤ m := by
  rw [BitVec.toNat_and]
  refine Nat.le_trans Nat.and_le_right ?_
  rw [BitVec.ofInt_natCast, BitVec.toNat_ofNat]
  exact Nat.mod_le _ _
 have e : Go.bits .and .i64 y (m : Int) = IntKind.i64.wrap (((BitVec.ofInt 64 y &&& BitVec.ofInt 64 (m : Int)).toNat : Nat) : Int) := rfl
 rw [e, IntKind.wrap_i64]
 omega
theorem l1Byte_some (b : List Int) (i h : Int) (hb : b.length ≤ 140737488351232) (hi : 0 ≤ i) : ∃ x i' h', spec_l1Byte.f b i h = some (x, i', h') ∧ (0 ≤ x ∧ x ≤ 255) ∧ 0 ≤ i' := by
 unfold spec_l1Byte.f
 by_cases h1 : i < (b.length : Int)
 ·rw [if_pos h1, if_pos hi]
  refine ⟨_, _, _, rfl, bits_and_le _ 255 (by decide), ?_⟩
  rw [w64 (by omega) (by omega)]; omega
 ·rw [if_neg h1]
  exact ⟨_, _, _, rfl, bits_and_le _ 255 (by decide), hi⟩
theorem tmod_bd (x n : Int) (h0 : 0 ≤ x) (hn : 0 < n) : 0 ≤ Int.tmod x n ∧ Int.tmod x n < n := by
 rw [Int.tmod_eq_emod_of_nonneg h0]
 exact ⟨Int.emod_nonneg _ (by omega), Int.emod_lt_of_pos _ hn⟩
theorem l1Below_some (b : List Int) (i h n : Int) (hb : b.length ≤ 140737488351232) (hi : 0 ≤ i) : ∃ x i' h', spec_l1Below.f b i h n = some (x, i', h') ∧ 0 ≤ x ∧ (0 < n → x < n) ∧ (n ≤ 0 → x = 0) ∧ 0 ≤ i' := by
 unfold spec_l1Below.f
 by_cases h1 : n ≤ 0
 ·rw [if_pos h1]
  exact ⟨_, _, _, rfl, by omega, by omega, by omega, hi⟩
 ·rw [if_neg h1]
  by_cases h2 : n ≤ 256
  ·rw [if_pos h2]
   obtain ⟨x, i', h', e, hx, hi'⟩ := l1Byte_some b i h hb hi
   rw [e]
   simp only [Option.bind_some]
   rw [if_neg (by omega)]
   have := tmod_bd x n hx.1 (by omega)
   exact ⟨_, _, _, rfl, this.1, fun _ => this.2, by omega, hi'⟩
  ·rw [if_neg h2]
   obtain ⟨x, i1, h1', e1, hx, hi1⟩ := l1Byte_some b i h hb hi
   obtain ⟨y, i2, h2', e2, hy, hi2⟩ := l1Byte_some b i1 h1' hb hi1
   obtain ⟨z, i3, h3', e3, hz, hi3⟩ := l1Byte_some b i2 h2' hb hi2
   obtain ⟨u, i4, h4', e4, hu, hi4⟩ := l1Byte_some b i3 h3' hb hi3
   simp only [e1, e2, e3, e4, Option.bind_some]
   rw [if_neg (by omega), w64 (x := x * 16777216) (by omega) (by omega), w64 (x := y * 65536) (by omega) (by omega), w64 (x := z * 256) (by omega) (by omega), w64 (x := x * 16777216 + y * 65536) (by omega) (by omega), w64 (x := x * 16777216 + y * 65536 + z * 256) (by omega) (by omega), w64 (by omega) (by omega)]
   have := tmod_bd (x * 16777216 + y * 65536 + z * 256 + u) n (by omega) (by omega)
   exact ⟨_, _, _, rfl, this.1, fun _ => this.2, by omega, hi4⟩
theorem l1Text_ev (b : List Int) (i h a : Int) (hb : b.length ≤ 140737488351232) (hi : 0 ≤ i) (ha0 : 0 ≤ a) (ha : a ≤ 1000) :
  ∃ s i' h', Ev (fun k => spec_l1Text.f k b i h a) (strOfNums s, i', h') ∧ (s.length : Int) ≤ a ∧ 0 ≤ i' := by
 have key : ∀ (d : Nat) (acc : List Int) (sty i h : Int), 0 ≤ i → acc.length + d ≤ 2000 → ∃ s i' h', Ev (fun k => spec_l1Text.l0 k acc sty (d : Int) b i h) (strOfNums s, i', h') ∧ s.length ≤ acc.length + d ∧ 0 ≤ i' := by
  intro d
  induction d with
  | zero =>
   intro acc sty i h hi hd
   refine ⟨acc, i, h, Ev.succ ?_, by omega, hi⟩
   simp only [spec_l1Text.l0]
   exact Ev.neg (by omega) (Ev.now _)
  | succ d ih =>
   intro acc sty i h hi hd
   obtain ⟨x, i1, h1, e1, _, j1⟩ := l1Byte_some b i h hb hi
   have ed : wrap64 (((d + 1 : Nat) : Int) - 1) = (d : Int) := by rw [w64 (by omega) (by omega)]; omega
   have step : ∀ c : Int, ∃ s i' h', Ev (fun k => if acc.length < 140737488355328 then spec_l1Text.l0 k (acc ++ [c]) sty (d : Int) b i1 h1 else none) (strOfNums s, i', h') ∧ s.length ≤ acc.length + (d + 1) ∧ 0 ≤ i' := by
    intro c
    obtain ⟨s, i', h', e, hs, hi'⟩ := ih (acc ++ [c]) sty i1 h1 j1 (by simp only [List.length_append, List.length_cons, List.length_nil]; omega)
    exact ⟨s, i', h', Ev.pos (by omega) e, by simp only [List.length_append, List.length_cons, List.length_nil] at hs; omega, hi'⟩
   by_cases s1 : sty = 1
   ·by_cases s2 : sty = 2
    ·omega
    ·obtain ⟨s, i', h', e, hs, hi'⟩ := step ((Int.tmod x 2) % 256)
     refine ⟨s, i', h', Ev.succ ?_, hs, hi'⟩
     simp only [spec_l1Text.l0, e1, Option.bind_some, ed]
     exact Ev.pos (by omega) (Ev.pos s1 (Ev.neg s2 e))
   ·by_cases s2 : sty = 2
    ·obtain ⟨s, i', h', e, hs, hi'⟩ := step ((wrap64 (97 + (Int.tmod x 4))) % 256)
     refine ⟨s, i', h', Ev.succ ?_, hs, hi'⟩
     simp only [spec_l1Text.l0, e1, Option.bind_some, ed]
     exact Ev.pos (by omega) (Ev.neg s1 (Ev.pos s2 e))
    ·obtain ⟨s, i', h', e, hs, hi'⟩ := step (x % 256)
     refine ⟨s, i', h', Ev.succ ?_, hs, hi'⟩
     simp only [spec_l1Text.l0, e1, Option.bind_some, ed]
     exact Ev.pos (by omega) (Ev.neg s1 (Ev.neg s2 e))
 obtain ⟨q, i1, h1, e1, _, _, _, j1⟩ := l1Below_some b i h 4 hb hi
 have ea : wrap64 (a + 1) = a + 1 := w64 (by omega) (by omega)
 obtain ⟨m, i2, h2, e2, m0, m1, _, j2⟩ := l1Below_some b i1 h1 (a + 1) hb j1
 have hm := m1 (by omega)
 obtain ⟨m, rfl⟩ := Int.eq_ofNat_of_zero_le m0
 obtain ⟨s, i', h', e, hs, hi'⟩ := key m [] q i2 h2 j2 (by simp only [List.length_nil]; omega)
 refine ⟨s, i', h', ?_, by simp only [List.length_nil] at hs; omega, hi'⟩
 simp only [spec_l1Text.f, e1, ea, e2, Option.bind_some]
 exact e
theorem ext_size (s : ByteArray) (a b : Nat) : (s.extract a b).size = min b s.size - a := ByteArray.size_extract ..
theorem l1Spoil_ev (b : List Int) (i h : Int) (s : ByteArray) (hb : b.length ≤ 140737488351232) (hi : 0 ≤ i) (hs : s.size ≤ 100000) :
  ∃ t i' h', Ev (fun k => spec_l1Spoil.f k b i h s) (t, i', h') ∧ t.size ≤ s.size + 3 ∧ 0 ≤ i' := by
 by_cases h0 : (s.size : Int) = 0
 ·obtain ⟨t, i', h', e, ht, hi'⟩ := l1Text_ev b i h 3 hb hi (by omega) (by omega)
  refine ⟨strOfNums t, i', h', ?_, by rw [strOfNums_size]; omega, hi'⟩
  simp only [spec_l1Spoil.f]
  exact Ev.pos h0 (Ev.bind e (Ev.now _))
 ·obtain ⟨p, i1, h1, e1, p0, p1, _, j1⟩ := l1Below_some b i h (s.size : Int) hb hi
  have hp := p1 (by omega)
  obtain ⟨q, i2, h2, e2, _, _, _, j2⟩ := l1Below_some b i1 h1 4 hb j1
  have ep : wrap64 (p + 1) = p + 1 := w64 (by omega) (by omega)
  by_cases q0 : q = 0
  ·refine ⟨s.extract 0 p.toNat ++ s.extract (p + 1).toNat s.size, i2, h2, ?_, ?_, j2⟩
   ·simp only [spec_l1Spoil.f, e1, e2, Option.bind_some, ep]
    refine Ev.neg h0 (Ev.pos q0 (Ev.pos p0 (Ev.pos (by omega) (Ev.pos (by omega) (Ev.pos (by omega) (Ev.pos ?_ (Ev.now _)))))))
    rw [ext_size, ext_size]; omega
   ·rw [ByteArray.size_append, ext_size, ext_size]; omega
  ·by_cases q1 : q = 1
   ·obtain ⟨x, i3, h3, e3, _, j3⟩ := l1Byte_some b i2 h2 hb j2
    refine ⟨(s.extract 0 p.toNat ++ strOfNums [x % 256]) ++ s.extract p.toNat s.size, i3, h3, ?_, ?_, j3⟩
    ·simp only [spec_l1Spoil.f, e1, e2, e3, Option.bind_some]
     refine Ev.neg h0 (Ev.neg q0 (Ev.pos q1 (Ev.pos p0 (Ev.pos (by omega) (Ev.pos ?_ (Ev.pos ?_ (Ev.now _)))))))
     ·rw [ext_size, strOfNums_size]; simp only [List.length_cons, List.length_nil]; omega
     ·rw [ByteArray.size_append, ext_size, strOfNums_size, ext_size]; simp only [List.length_cons, List.length_nil]; omega
    ·rw [ByteArray.size_append, ByteArray.size_append, ext_size, strOfNums_size, ext_size]; simp only [List.length_cons, List.length_nil]; omega
   ·by_cases q2 : q = 2
    ·refine ⟨s.extract 0 p.toNat, i2, h2, ?_, ?_, j2⟩
     ·simp only [spec_l1Spoil.f, e1, e2, Option.bind_some]
      exact Ev.neg h0 (Ev.neg q0 (Ev.neg q1 (Ev.pos q2 (Ev.pos p0 (Ev.pos (by omega) (Ev.now _))))))
     ·rw [ext_size]; omega
    ·obtain ⟨x, i3, h3, e3, _, _, _, j3⟩ := l1Below_some b i2 h2 255 hb j2
     refine ⟨(s.extract 0 p.toNat ++ strOfNums [(Go.bits .xor .i64 (wrap64 (bt s p)) (wrap64 (1 + x))) % 256]) ++ s.extract (p + 1).toNat s.size, i3, h3, ?_, ?_, j3⟩
     ·simp only [spec_l1Spoil.f, e1, e2, e3, Option.bind_some, ep]
      refine Ev.neg h0 (Ev.neg q0 (Ev.neg q1 (Ev.neg q2 (Ev.pos p0 (Ev.pos (by omega) (Ev.pos hp (Ev.pos ?_ (Ev.pos (by omega) (Ev.pos (by omega) (Ev.pos ?_ (Ev.now _)))))))))))
      ·rw [ext_size, strOfNums_size]; simp only [List.length_cons, List.length_nil]; omega
      ·rw [ByteArray.size_append, ext_size, strOfNums_size, ext_size]; simp only [List.length_cons, List.length_nil]; omega
     ·rw [ByteArray.size_append, ByteArray.size_append, ext_size, strOfNums_size, ext_size]; simp only [List.length_cons, List.length_nil]; omega
theorem l1Pick_some (b : List Int) (i h : Int) (l : List ByteArray) (hb : b.length ≤ 140737488351232) (hi : 0 ≤ i) (hl : 0 < l.length) : ∃ x i' h', spec_l1Pick.f b i h l = some (x, i', h') ∧ x ∈ l := by
 obtain ⟨x, i', h', e, h0, h1, _, hi'⟩ := l1Below_some b i h (l.length : Int) hb hi
 have hx := h1 (by omega)
 unfold spec_l1Pick.f
 rw [e]
 simp only [Option.bind_some, if_pos h0, if_pos hx]
 refine ⟨_, _, _, rfl, ?_⟩
 unfold rdOf
 rw [List.getD_eq_getElem?_getD, List.getElem?_eq_getElem (by omega)]
 exact List.getElem_mem _
theorem frI_ne {a b c : Int} (h : vrow (a, b, c) = true) : frI a b c ≠ [] := by
 unfold frI
 rw [if_pos h]
 simp
theorem frI_no (a b c : Int) : ∀ d ∈ frI a b c, d ≠ 32 := by
 intro d hd
 unfold frI at hd
 split at hd
 ·simp only [List.mem_append, List.mem_cons] at hd
  rcases hd with hd | rfl | hd | rfl | hd
  ·exact fmtI_no a 32 (by omega) (by omega) d hd
  ·omega
  ·exact fmtI_no b 32 (by omega) (by omega) d hd
  ·omega
  ·exact fmtI_no c 32 (by omega) (by omega) d hd
 ·simp at hd
theorem prS_of {x : S42} (h : vrow (x.f0, x.f1, x.f2) = true) : prS (strOfNums (frI x.f0 x.f1 x.f2)) = (x.f0, x.f1, x.f2, true) :=
 PRow_unique (prS_ok _) (.inl ⟨rfl, h, numsB_str _ (frI_range _ _ _)⟩)
theorem psM_rows : ∀ (r acc : List S42), allV r = true → psM (r.map fun x => strOfNums (frI x.f0 x.f1 x.f2)) acc = if avM (acc ++ r) = true then (acc ++ r, true) else ([], false)
 | [], acc, _ => by simp [psM]
 | x :: r, acc, h => by
  simp only [allV, List.all_cons, Bool.and_eq_true] at h
  have ih := psM_rows r (acc ++ [x]) h.2
  simp only [List.map_cons, psM, prS_of h.1, if_true]
  rw [ih]
  simp
theorem cut_rows : ∀ (r : List S42) (x : S42), cutL 32 (rowsI (x :: r)) [] = (x :: r).map fun y => frI y.f0 y.f1 y.f2
 | [], x => by
  simp only [rowsI, tailI, List.append_nil]
  rw [cutL_none _ _ _ (frI_no _ _ _)]; rfl
 | y :: r, x => by
  have ih := cut_rows r y
  have e : rowsI (x :: y :: r) = frI x.f0 x.f1 x.f2 ++ 32 :: rowsI (y :: r) := rfl
  rw [e, cutL_at _ _ _ _ (frI_no _ _ _), ih]; rfl
theorem rowsI_range (l : List S42) : ∀ d ∈ rowsI l, 0 ≤ d ∧ d ≤ 255 := by
 have key : ∀ (l : List S42), ∀ d ∈ tailI l, 0 ≤ d ∧ d ≤ 255 := by
  intro l
  induction l with
  | nil => simp [tailI]
  | cons y t ih =>
   intro d hd
   simp only [tailI, List.mem_cons, List.mem_append] at hd
   rcases hd with rfl | hd | hd
   ·omega
   ·exact frI_range _ _ _ d hd
   ·exact ih d hd
 intro d hd
 cases l with
 | nil => simp [rowsI] at hd
 | cons y t =>
  simp only [rowsI, List.mem_append] at hd
  rcases hd with hd | hd
  ·exact frI_range _ _ _ d hd
  ·exact key t d hd
theorem psR_frs (l : List S42) : (psR (strOfNums (frsI l))).2 = true ∧ (avM l = true → (psR (strOfNums (frsI l))).1 = l) := by
 by_cases h : avM l = true
 ·have e : frsI l = rowsI l := if_pos h
  have hn : numsB (strOfNums (rowsI l)) = rowsI l := numsB_str _ (rowsI_range l)
  have key : psR (strOfNums (frsI l)) = (l, true) := by
   rw [e]
   unfold psR
   rw [hn]
   cases l with
   | nil => rfl
   | cons x r =>
    have hv : allV (x :: r) = true := by
     unfold avM at h
     simp only [Bool.and_eq_true] at h
     exact h.1
    have hx : vrow (x.f0, x.f1, x.f2) = true := by
     simp only [allV, List.all_cons, Bool.and_eq_true] at hv
     exact hv.1
    rw [if_neg (by simp only [rowsI]; intro hh; exact frI_ne hx (List.append_eq_nil_iff.1 hh).1)]
    have hc : cutM 32 (strOfNums (rowsI (x :: r))) = (x :: r).map fun y => strOfNums (frI y.f0 y.f1 y.f2) := by
     unfold cutM
     rw [hn, cut_rows, List.map_map]; rfl
    rw [hc, psM_rows _ _ hv, List.nil_append, if_pos h]
  rw [key]
  exact ⟨rfl, fun _ => rfl⟩
 ·have e : frsI l = [] := if_neg h
  have hn : numsB (strOfNums ([] : List Int)) = [] := numsB_str _ (by simp)
  rw [e]
  unfold psR
  rw [if_pos hn]
  exact ⟨rfl, fun hh => absurd hh h⟩
def cost (r : Int × Int × Int) : Int := if vrow r = true then 1 + r.2.2 else 0
theorem impl_RowCost_f (a b c : Int) : impl_RowCost.f a b c = some (cost (a, b, c)) := by
 simp only [impl_RowCost.f, impl_IsValidRow_f, Option.bind_some, cost]
 by_cases h : vrow (a, b, c) = true
 ·have := vrow_iff.1 h
  rw [if_pos h, if_pos h, w64 (by omega) (by omega)]
 ·rw [if_neg h, if_neg h]
theorem spec_RowCost_f (a b c : Int) : spec_RowCost.f a b c = some (cost (a, b, c)) := by
 simp only [spec_RowCost.f, spec_IsValidRow_f, Option.bind_some, cost]
 by_cases h : vrow (a, b, c) = true
 ·have := vrow_iff.1 h
  rw [if_pos h, if_pos h, w64 (by omega) (by omega)]
 ·rw [if_neg h, if_neg h]
theorem cost_bd (r : Int × Int × Int) : 0 ≤ cost r ∧ cost r ≤ 4 := by
 obtain ⟨a, b, c⟩ := r
 unfold cost
 by_cases h : vrow (a, b, c) = true
 ·have := vrow_iff.1 h
  rw [if_pos h]; simp only; omega
 ·rw [if_neg h]; omega
def tcM : List S42 → Int → Int
 | [], n => n
 | x :: r, n => tcM r (n + cost (x.f0, x.f1, x.f2))
theorem spec_TotalCost_ev (l : List S42) (hl : l.length ≤ 1152921504606846976) : Ev (fun k => spec_TotalCost.f k l) (tcM l 0) := by
 have key : ∀ (r : List S42) (i : Nat) (n : Int), l.drop i = r → 0 ≤ n → n ≤ 4 * i → Ev (fun k => spec_TotalCost.l0 k l n (i : Int)) (tcM r n) := by
  intro r
  induction r with
  | nil =>
   intro i n h h0 hn
   refine Ev.succ ?_
   simp only [spec_TotalCost.l0]
   exact Ev.neg (drop_nil_lt h) (Ev.now _)
  | cons x r ih =>
   intro i n h h0 hn
   obtain ⟨h1, h2, h3⟩ := rdI h
   have hc := cost_bd (x.f0, x.f1, x.f2)
   refine Ev.succ ?_
   simp only [spec_TotalCost.l0, h2, nxt (show l.length ≤ 4611686018427387904 by omega) h1, spec_RowCost_f, Option.bind_some, w64 (x := n + cost (x.f0, x.f1, x.f2)) (by omega) (by omega)]
   exact Ev.pos h1 (Ev.pos (Int.natCast_nonneg _) (ih (i + 1) _ h3 (by omega) (by omega)))
 exact key l 0 0 rfl (by omega) (by omega)
theorem impl_TotalCost_ev (l : List S42) (hl : l.length ≤ 1152921504606846976) : Ev (fun k => impl_TotalCost.f k l) (tcM l 0) := by
 have key : ∀ (r : List S42) (i : Nat) (n : Int), l.drop i = r → 0 ≤ n → n ≤ 4 * i → Ev (fun k => impl_TotalCost.l0 k n l (l.length : Int) (i : Int)) (tcM r n) := by
  intro r
  induction r with
  | nil =>
   intro i n h h0 hn
   refine Ev.succ ?_
   simp only [impl_TotalCost.l0]
   exact Ev.neg (drop_nil_lt h) (Ev.now _)
  | cons x r ih =>
   intro i n h h0 hn
   obtain ⟨h1, h2, h3⟩ := rdI h
   have hc := cost_bd (x.f0, x.f1, x.f2)
   refine Ev.succ ?_
   simp only [impl_TotalCost.l0, h2, nxt (show l.length ≤ 4611686018427387904 by omega) h1, impl_RowCost_f, Option.bind_some, w64 (x := n + cost (x.f0, x.f1, x.f2)) (by omega) (by omega)]
   exact Ev.pos h1 (Ev.pos (Int.natCast_nonneg _) (Ev.pos h1 (ih (i + 1) _ h3 (by omega) (by omega))))
 exact key l 0 0 rfl (by omega) (by omega)
theorem tcM_bd : ∀ (l : List S42) (n : Int), n ≤ tcM l n ∧ tcM l n ≤ n + 4 * l.length
 | [], n => by simp [tcM]
 | x :: r, n => by
  have hc := cost_bd (x.f0, x.f1, x.f2)
  have := tcM_bd r (n + cost (x.f0, x.f1, x.f2))
  simp only [tcM, List.length_cons]
  omega
theorem spec_WouldOverflow_ev (l : List S42) (hl : l.length ≤ 1152921504606846976) (a b c : Int) : Ev (fun k => spec_WouldOverflow.f k l a b c) (decide (tcM l 0 + cost (a, b, c) > 8)) := by
 simp only [spec_WouldOverflow.f, spec_RowCost_f, Option.bind_some]
 have h1 := tcM_bd l 0
 have h2 := cost_bd (a, b, c)
 refine Ev.tl (spec_TotalCost_ev l hl) ?_
 rw [w64 (by omega) (by omega)]
theorem impl_WouldOverflow_ev (l : List S42) (hl : l.length ≤ 1152921504606846976) (a b c : Int) : Ev (fun k => impl_WouldOverflow.f k l a b c) (decide (tcM l 0 + cost (a, b, c) > 8)) := by
 simp only [impl_WouldOverflow.f, impl_RowCost_f, Option.bind_some]
 have h1 := tcM_bd l 0
 have h2 := cost_bd (a, b, c)
 refine Ev.tl (impl_TotalCost_ev l hl) ?_
 rw [w64 (by omega) (by omega)]
def packM : List S42 → List S39 → List S42 → List S39
 | [], acc, p => if p.length > 0 then acc ++ [⟨p⟩] else acc
 | x :: r, acc, p => if tcM p 0 + cost (x.f0, x.f1, x.f2) > 8 then packM r (acc ++ [⟨p⟩]) [x] else packM r acc (p ++ [x])
theorem packM_len : ∀ (r : List S42) (acc : List S39) (p : List S42), (packM r acc p).length ≤ acc.length + r.length + 1
 | [], acc, p => by simp only [packM]; split <;> simp
 | x :: r, acc, p => by
  simp only [packM]
  split
  ·have := packM_len r (acc ++ [⟨p⟩]) [x]; simp only [List.length_append, List.length_cons, List.length_nil] at this ⊢; omega
  ·have := packM_len r acc (p ++ [x]); simp only [List.length_cons] at this ⊢; omega
theorem packM_small (m : Nat) : ∀ (r : List S42) (acc : List S39) (p : List S42), p.length + r.length ≤ m → (∀ x ∈ acc, x.f0.length ≤ m) → ∀ x ∈ packM r acc p, x.f0.length ≤ m
 | [], acc, p, hp, ha => by
  simp only [packM]
  intro x hx
  split at hx
  ·rcases List.mem_append.1 hx with h | h
   ·exact ha x h
   ·rw [List.mem_singleton.1 h]; simp only [List.length_nil] at hp; exact hp
  ·exact ha x hx
 | y :: r, acc, p, hp, ha => by
  simp only [packM]
  simp only [List.length_cons] at hp
  split
  ·refine packM_small m r _ [y] (by simp only [List.length_cons, List.length_nil]; omega) (fun x hx => ?_)
   rcases List.mem_append.1 hx with h | h
   ·exact ha x h
   ·rw [List.mem_singleton.1 h]; show p.length ≤ m; omega
  ·exact packM_small m r acc (p ++ [y]) (by simp only [List.length_append, List.length_cons, List.length_nil]; omega) ha
def packs (l : List S42) : List S39 := if avM l = true then packM l [] [] else []
theorem avM_le {l : List S42} (h : avM l = true) : l.length ≤ 24 := by unfold avM at h; simp at h; omega
theorem spec_PackPages_ev (l : List S42) (hl : l.length ≤ 1048576) : Ev (fun k => spec_PackPages.f k l) (packs l) := by
 have key : l.length ≤ 24 → ∀ (r : List S42) (i : Nat) (acc : List S39) (p : List S42), l.drop i = r → acc.length ≤ i → p.length ≤ i → i ≤ l.length → Ev (fun k => spec_PackPages.l0 k l acc (i : Int) p) (packM r acc p) := by
  intro hs r
  induction r with
  | nil =>
   intro i acc p h ha hp hil
   have hi := List.drop_eq_nil_iff.1 h
   refine Ev.succ ?_
   simp only [spec_PackPages.l0, packM]
   refine Ev.neg (drop_nil_lt h) ?_
   by_cases hz : p.length > 0
   ·rw [if_pos hz]
    refine Ev.pos (by omega) ?_
    exact Ev.pos (by omega) (Ev.now _)
   ·rw [if_neg hz]
    exact Ev.neg (by omega) (Ev.now _)
  | cons x r ih =>
   intro i acc p h ha hp hil
   obtain ⟨h1, h2, h3⟩ := rdI h
   refine Ev.succ ?_
   simp only [spec_PackPages.l0, h2, nxt (show l.length ≤ 4611686018427387904 by omega) h1]
   refine Ev.pos h1 (Ev.pos (Int.natCast_nonneg _) (Ev.bind (spec_WouldOverflow_ev p (by omega) _ _ _) ?_))
   simp only [packM]
   by_cases hz : tcM p 0 + cost (x.f0, x.f1, x.f2) > 8
   ·rw [if_pos hz]
    refine Ev.pos (by simpa using hz) (Ev.pos (by omega) (Ev.pos (by simp) ?_))
    exact ih (i + 1) _ _ h3 (by simp only [List.length_append, List.length_cons, List.length_nil]; omega) (by simp) (by omega)
   ·rw [if_neg hz]
    refine Ev.neg (by simpa using hz) (Ev.pos (by omega) ?_)
    exact ih (i + 1) _ _ h3 (by omega) (by simp only [List.length_append, List.length_cons, List.length_nil]; omega) (by omega)
 simp only [spec_PackPages.f, Option.bind_some]
 refine Ev.bind (spec_AreValidRows_ev l (by omega)) ?_
 unfold packs
 by_cases hv : avM l = true
 ·rw [if_pos hv]
  exact Ev.pos hv (key (avM_le hv) l 0 [] [] rfl (Nat.le_refl _) (Nat.le_refl _) (Nat.zero_le _))
 ·rw [if_neg hv]
  exact Ev.neg hv (Ev.now _)
theorem rdT39 {l : List S39} {i : Nat} {b : S39} {r : List S39} (h : l.drop i = b :: r) : (i : Int) < (l.length : Int) ∧ rd_T39 l (i : Int) = b ∧ l.drop (i + 1) = r := by
 obtain ⟨hi, h1, h2⟩ := drop_split h
 refine ⟨by omega, ?_, h2⟩
 unfold rd_T39
 rw [Int.toNat_natCast, List.getD_eq_getElem?_getD, List.getElem?_eq_getElem hi, h1]; rfl
def tot : List S39 → Nat
 | [] => 0
 | x :: r => x.f0.length + tot r
theorem rd_atP (d : List S39) (x : S39) (r : List S39) : rd_T39 (d ++ x :: r) (d.length : Int) = x := by
 unfold rd_T39
 rw [Int.toNat_natCast, List.getD_eq_getElem?_getD, List.getElem?_append_right (Nat.le_refl _), Nat.sub_self]; rfl
theorem set_atP (d : List S39) (x y : S39) (r : List S39) : (d ++ x :: r).set (d.length : Int).toNat y = d ++ y :: r := by
 rw [Int.toNat_natCast, List.set_append_right _ _ (Nat.le_refl _), Nat.sub_self, List.set_cons_zero]
theorem tot_le : ∀ (l : List S39) (m : Nat), (∀ x ∈ l, x.f0.length ≤ m) → tot l ≤ m * l.length
 | [], _, _ => by simp [tot]
 | x :: r, m, h => by
  have h1 := h x (by simp)
  have h2 := tot_le r m (fun y hy => h y (by simp [hy]))
  simp only [tot, List.length_cons, Nat.mul_add, Nat.mul_one]
  omega
theorem last_len {α : Type} (a : List α) (p : α) : wrap64 (((a ++ [p]).length : Int) - 1) = wrap64 ((a.length : Nat) : Int) := by
 rw [List.length_append, List.length_singleton]; congr 1; omega
theorem impl_PackPages_ev (l : List S42) (hl : l.length ≤ 1048576) : Ev (fun k => impl_PackPages.f k l) (packs l) := by
 have key : l.length ≤ 24 → ∀ (r : List S42) (i : Nat) (acc : List S39) (p : List S42), l.drop i = r → acc.length ≤ i → p.length ≤ i → i ≤ l.length → p ≠ [] → Ev (fun k => impl_PackPages.l0 k (acc ++ [⟨p⟩]) l (l.length : Int) (i : Int)) (packM r acc p) := by
  intro hs r
  induction r with
  | nil =>
   intro i acc p h ha hp hil hne
   refine Ev.succ ?_
   simp only [impl_PackPages.l0, packM]
   rw [if_pos (List.length_pos_iff.2 hne)]
   exact Ev.neg (drop_nil_lt h) (Ev.now _)
  | cons x r ih =>
   intro i acc p h ha hp hil hne
   obtain ⟨h1, h2, h3⟩ := rdI h
   have e : wrap64 (((acc ++ [(⟨p⟩ : S39)]).length : Int) - 1) = (acc.length : Int) := by rw [last_len, w64 (by omega) (by omega)]
   refine Ev.succ ?_
   simp only [impl_PackPages.l0, h2, nxt (show l.length ≤ 4611686018427387904 by omega) h1]
   refine Ev.pos h1 (Ev.pos (Int.natCast_nonneg _) (Ev.pos h1 (Ev.neg (by simp only [List.length_append, List.length_cons, List.length_nil]; omega) ?_)))
   have hw := impl_WouldOverflow_ev p (by omega) x.f0 x.f1 x.f2
   refine Ev.pos (by rw [e]; exact Int.natCast_nonneg _) (Ev.pos (by rw [e]; simp only [List.length_append, List.length_cons, List.length_nil]; omega) (Ev.bind (a := decide (tcM p 0 + cost (x.f0, x.f1, x.f2) > 8)) (by simp only [e, rd_atP]; exact hw) ?_))
   simp only [packM]
   by_cases hz : tcM p 0 + cost (x.f0, x.f1, x.f2) > 8
   ·rw [if_pos hz]
    refine Ev.pos (by simpa using hz) (Ev.pos (by simp only [List.length_append, List.length_cons, List.length_nil]; omega) ?_)
    simp only [Option.bind_some]
    have e2 : wrap64 (((acc ++ [(⟨p⟩ : S39)] ++ [(⟨[]⟩ : S39)]).length : Int) - 1) = ((acc ++ [(⟨p⟩ : S39)]).length : Int) := by rw [last_len]; exact w64 (by omega) (by simp only [List.length_append, List.length_cons, List.length_nil]; omega)
    simp only [e2, rd_atP, set_atP]
    refine Ev.pos (Int.natCast_nonneg _) (Ev.pos (by simp only [List.length_append, List.length_cons, List.length_nil]; omega) (Ev.pos (by simp) ?_))
    exact ih (i + 1) (acc ++ [⟨p⟩]) [x] h3 (by simp only [List.length_append, List.length_cons, List.length_nil]; omega) (by simp) (by omega) (by simp)
   ·rw [if_neg hz]
    refine Ev.neg (by simpa using hz) ?_
    simp only [e, rd_atP, set_atP]
    refine Ev.pos (by omega) ?_
    exact ih (i + 1) acc (p ++ [x]) h3 (by omega) (by simp only [List.length_append, List.length_cons, List.length_nil]; omega) (by omega) (by simp)
 simp only [impl_PackPages.f]
 refine Ev.bind (impl_AreValidRows_ev l (by omega)) ?_
 unfold packs
 by_cases hv : avM l = true
 ·rw [if_pos hv]
  refine Ev.pos hv ?_
  have hs := avM_le hv
  cases l with
  | nil =>
   refine Ev.succ ?_
   simp only [impl_PackPages.l0, packM]
   exact Ev.neg (by simp) (Ev.now' (by simp))
  | cons x r =>
   obtain ⟨h1, h2, h3⟩ := rdI (show (x :: r).drop 0 = x :: r from rfl)
   have h2' : rd_T42 (x :: r) 0 = x := h2
   have hc := cost_bd (x.f0, x.f1, x.f2)
   refine Ev.succ ?_
   simp only [impl_PackPages.l0, h2', show wrap64 (0 + 1) = ((0 + 1 : Nat) : Int) from by rw [w64 (by omega) (by omega)]; rfl]
   simp only [packM]
   rw [if_neg (by simp only [tcM]; omega)]
   refine Ev.pos h1 (Ev.pos (Int.le_refl _) (Ev.pos h1 (Ev.pos (by simp) (Ev.pos (by simp) ?_))))
   simp only [Option.bind_some]
   have e2 : wrap64 ((([] ++ [(⟨[]⟩ : S39)] : List S39).length : Int) - 1) = (([] : List S39).length : Int) := by rw [last_len]; exact w64 (by omega) (by simp)
   have e3 : rd_T39 ([] ++ [(⟨[]⟩ : S39)]) (([] : List S39).length : Int) = ⟨[]⟩ := rfl
   simp only [e2, e3]
   refine Ev.pos (Int.natCast_nonneg _) (Ev.pos (by simp) (Ev.pos (by simp) ?_))
   exact key hs r 1 [] [x] rfl (by simp) (by simp) (by simp) (by simp)
 ·rw [if_neg hv]
  exact Ev.neg hv (Ev.now _)
def vpM (l : List S42) : Bool := avM l && (decide (1 ≤ tcM l 0) && decide (tcM l 0 ≤ 8))
theorem spec_IsValidPage_ev (l : List S42) (hl : l.length ≤ 1152921504606846976) : Ev (fun k => spec_IsValidPage.f k l) (vpM l) := by
 simp only [spec_IsValidPage.f, l1In_f, Option.bind_some]
 unfold vpM
 refine Ev.bind (spec_AreValidRows_ev l (by omega)) ?_
 by_cases h : avM l = true
 ·refine Ev.pos h (Ev.tl (spec_TotalCost_ev l hl) ?_)
  rw [h]; rfl
 ·exact Ev.neg h (Ev.now' (by simp [h]))
theorem impl_IsValidPage_ev (l : List S42) (hl : l.length ≤ 1152921504606846976) : Ev (fun k => impl_IsValidPage.f k l) (vpM l) := by
 simp only [impl_IsValidPage.f, within_f, Option.bind_some]
 unfold vpM
 refine Ev.bind (impl_AreValidRows_ev l (by omega)) ?_
 by_cases h : avM l = true
 ·refine Ev.pos h (Ev.tl (impl_TotalCost_ev l hl) ?_)
  rw [h]; rfl
 ·exact Ev.neg h (Ev.now' (by simp [h]))
def vpsM (l : List S39) : Bool := l.all fun x => vpM x.f0
theorem spec_l4Pages_ev (l : List S39) (hl : l.length ≤ 1048576) (hp : ∀ x ∈ l, x.f0.length ≤ 1048576) : Ev (fun k => spec_l4Pages.f k l) (vpsM l) := by
 have key : ∀ (r : List S39) (i : Nat), l.drop i = r → (∀ x ∈ r, x.f0.length ≤ 1048576) → Ev (fun k => spec_l4Pages.l0 k l (i : Int)) (vpsM r) := by
  intro r
  induction r with
  | nil =>
   intro i h hr
   refine Ev.succ ?_
   simp only [spec_l4Pages.l0]
   exact Ev.neg (drop_nil_lt h) (Ev.now _)
  | cons x r ih =>
   intro i h hr
   obtain ⟨h1, h2, h3⟩ := rdT39 h
   have hx := hr x (by simp)
   refine Ev.succ ?_
   simp only [spec_l4Pages.l0, h2, nxt (show l.length ≤ 4611686018427387904 by omega) h1]
   refine Ev.pos h1 (Ev.pos (Int.natCast_nonneg _) (Ev.bind (spec_IsValidPage_ev x.f0 (by omega)) ?_))
   by_cases hv : vpM x.f0 = true
   ·have e : vpsM (x :: r) = vpsM r := by simp [vpsM, hv]
    rw [e]
    exact Ev.pos hv (ih (i + 1) h3 (fun y hy => hr y (by simp [hy])))
   ·exact Ev.neg hv (Ev.now' (by simp [vpsM, hv]))
 exact key l 0 rfl hp
def pagesI : List S39 → List Int
 | [] => []
 | x :: r => 91 :: (frsI x.f0 ++ (93 :: pagesI r))
def fpM (l : List S39) : List Int := if vpsM l = true then pagesI l else []
theorem str_lb (s : List Int) : strOfNums s ++ (⟨#[91]⟩ : ByteArray) = strOfNums (s ++ [91]) := str_append s [91]
theorem str_rb (s : List Int) : strOfNums s ++ (⟨#[93]⟩ : ByteArray) = strOfNums (s ++ [93]) := str_append s [93]
theorem lb_str (s : List Int) : (⟨#[91]⟩ : ByteArray) ++ strOfNums s = strOfNums (91 :: s) := str_append [91] s
theorem spec_FormatPages_ev (l : List S39) (hl : l.length ≤ 1048576) (hp : ∀ x ∈ l, x.f0.length ≤ 1048576) : Ev (fun k => spec_FormatPages.f k l) (strOfNums (fpM l)) := by
 by_cases hv : vpsM l = true
 ·have key : ∀ (r : List S39) (i : Nat) (acc : List Int), l.drop i = r → (∀ x ∈ r, x.f0.length ≤ 1048576) → acc.length + 2002 * r.length ≤ 4000000000 → Ev (fun k => spec_FormatPages.l0 k l (strOfNums acc) (i : Int)) (strOfNums (acc ++ pagesI r)) := by
   intro r
   induction r with
   | nil =>
    intro i acc h hr ha
    refine Ev.succ ?_
    simp only [spec_FormatPages.l0]
    exact Ev.neg (drop_nil_lt h) (Ev.now' (by simp [pagesI]))
   | cons x r ih =>
    intro i acc h hr ha
    obtain ⟨h1, h2, h3⟩ := rdT39 h
    have hx := hr x (by simp)
    have hf := frsI_len x.f0
    simp only [List.length_cons] at ha
    refine Ev.succ ?_
    simp only [spec_FormatPages.l0, h2, nxt (show l.length ≤ 4611686018427387904 by omega) h1]
    refine Ev.pos h1 (Ev.bind (spec_l4Pages_ev l hl hp) (Ev.pos hv (Ev.pos (by rw [strOfNums_size]; omega) (Ev.pos (Int.natCast_nonneg _) (Ev.bind (spec_FormatRows_ev x.f0 (by omega)) ?_)))))
    simp only [str_lb, str_append]
    refine Ev.pos (by rw [strOfNums_size, strOfNums_size]; simp only [List.length_append, List.length_cons, List.length_nil]; omega) (Ev.pos (by rw [strOfNums_size]; simp only [List.length_append, List.length_cons, List.length_nil]; omega) ?_)
    simp only [str_rb]
    have := ih (i + 1) (((acc ++ [91]) ++ frsI x.f0) ++ [93]) h3 (fun y hy => hr y (by simp [hy])) (by simp only [List.length_append, List.length_cons, List.length_nil]; omega)
    simpa [pagesI] using this
  have e : fpM l = pagesI l := if_pos hv
  rw [e]
  exact key l 0 [] rfl hp (by simp only [List.length_nil]; omega)
 ·have e : fpM l = [] := if_neg hv
  rw [e]
  refine Ev.succ (g := fun k => spec_FormatPages.l0 k l (⟨#[]⟩ : ByteArray) 0) ?_
  simp only [spec_FormatPages.l0]
  by_cases h0 : (0 : Int) < (l.length : Int)
  ·exact Ev.pos h0 (Ev.bind (spec_l4Pages_ev l hl hp) (Ev.neg hv (Ev.now' rfl)))
  ·exact Ev.neg h0 (Ev.now' rfl)
theorem impl_validPages_ev (l : List S39) (hl : l.length ≤ 1048576) (hp : ∀ x ∈ l, x.f0.length ≤ 1048576) : Ev (fun k => impl_validPages.f k l) (vpsM l) := by
 have key : ∀ (r : List S39) (i : Nat), l.drop i = r → (∀ x ∈ r, x.f0.length ≤ 1048576) → Ev (fun k => impl_validPages.l0 k l (l.length : Int) (i : Int)) (vpsM r) := by
  intro r
  induction r with
  | nil =>
   intro i h hr
   refine Ev.succ ?_
   simp only [impl_validPages.l0]
   exact Ev.neg (drop_nil_lt h) (Ev.now _)
  | cons x r ih =>
   intro i h hr
   obtain ⟨h1, h2, h3⟩ := rdT39 h
   have hx := hr x (by simp)
   refine Ev.succ ?_
   simp only [impl_validPages.l0, h2, nxt (show l.length ≤ 4611686018427387904 by omega) h1]
   refine Ev.pos h1 (Ev.pos (Int.natCast_nonneg _) (Ev.pos h1 (Ev.bind (impl_IsValidPage_ev x.f0 (by omega)) ?_)))
   by_cases hv : vpM x.f0 = true
   ·have e : vpsM (x :: r) = vpsM r := by simp [vpsM, hv]
    rw [e]
    exact Ev.pos hv (ih (i + 1) h3 (fun y hy => hr y (by simp [hy])))
   ·exact Ev.neg hv (Ev.now' (by simp [vpsM, hv]))
 exact key l 0 rfl hp
theorem impl_FormatPages_ev (l : List S39) (hl : l.length ≤ 1048576) (hp : ∀ x ∈ l, x.f0.length ≤ 1048576) : Ev (fun k => impl_FormatPages.f k l) (strOfNums (fpM l)) := by
 have key : ∀ (r : List S39) (i : Nat) (acc : List Int), l.drop i = r → (∀ x ∈ r, x.f0.length ≤ 1048576) → acc.length + 2002 * r.length ≤ 4000000000 → Ev (fun k => impl_FormatPages.l0 k (strOfNums acc) l (l.length : Int) (i : Int)) (strOfNums (acc ++ pagesI r)) := by
  intro r
  induction r with
  | nil =>
   intro i acc h hr ha
   refine Ev.succ ?_
   simp only [impl_FormatPages.l0]
   exact Ev.neg (drop_nil_lt h) (Ev.now' (by simp [pagesI]))
  | cons x r ih =>
   intro i acc h hr ha
   obtain ⟨h1, h2, h3⟩ := rdT39 h
   have hx := hr x (by simp)
   have hf := frsI_len x.f0
   simp only [List.length_cons] at ha
   refine Ev.succ ?_
   simp only [impl_FormatPages.l0, h2, nxt (show l.length ≤ 4611686018427387904 by omega) h1]
   refine Ev.pos h1 (Ev.pos (Int.natCast_nonneg _) (Ev.pos h1 (Ev.bind (impl_FormatRows_ev x.f0 (by omega)) ?_)))
   simp only [lb_str, str_rb, str_append]
   refine Ev.pos (by rw [strOfNums_size]; omega) (Ev.pos (by rw [strOfNums_size]; simp only [List.length_cons]; omega) (Ev.pos (by rw [strOfNums_size, strOfNums_size]; simp only [List.length_append, List.length_cons, List.length_nil]; omega) ?_))
   have := ih (i + 1) (acc ++ ((91 :: frsI x.f0) ++ [93])) h3 (fun y hy => hr y (by simp [hy])) (by simp only [List.length_append, List.length_cons, List.length_nil]; omega)
   simpa [pagesI] using this
 simp only [impl_FormatPages.f]
 refine Ev.bind (impl_validPages_ev l hl hp) ?_
 by_cases hv : vpsM l = true
 ·have e : fpM l = pagesI l := if_pos hv
  rw [e]
  exact Ev.pos hv (key l 0 [] rfl hp (by simp only [List.length_nil]; omega))
 ·have e : fpM l = [] := if_neg hv
  rw [e]
  exact Ev.neg hv (Ev.now' rfl)
def psD (p : List Int) : List S42 × Bool := psR (strOfNums (p.drop 1))
def ppM : List (List Int) → List S39 → List S39 × Bool
 | [], _ => ([], false)
 | [p], acc => if p = [] then (acc, true) else ([], false)
 | p :: q :: r, acc => if p.head? = some 91 ∧ (psD p).2 = true then (if vpM (psD p).1 = true then ppM (q :: r) (acc ++ [⟨(psD p).1⟩]) else ([], false)) else ([], false)
def spM (n : List Int) : List (List Int) → List S39 → List S39 × Bool
 | [], _ => ([], false)
 | [_], acc => if vpsM acc = true then (if n = fpM acc then (acc, true) else ([], false)) else ([], false)
 | p :: q :: r, acc => if p.head? = some 91 ∧ (psD p).2 = true then spM n (q :: r) (acc ++ [⟨(psD p).1⟩]) else ([], false)
theorem pagesI_snoc : ∀ (l : List S39) (x : S39), pagesI (l ++ [x]) = pagesI l ++ 91 :: (frsI x.f0 ++ [93])
 | [], x => by simp [pagesI]
 | y :: r, x => by simp [pagesI, pagesI_snoc r x]
theorem vps_snoc (l : List S39) (x : S39) : vpsM (l ++ [x]) = (vpsM l && vpM x.f0) := by simp [vpsM]
theorem spM_bad (n : List Int) : ∀ (l : List (List Int)) (acc : List S39), vpsM acc = false → spM n l acc = ([], false)
 | [], _, _ => rfl
 | [_], acc, h => by simp [spM, h]
 | p :: q :: r, acc, h => by
  unfold spM
  split
  ·exact spM_bad n (q :: r) _ (by rw [vps_snoc, h]; rfl)
  ·rfl
theorem sp_pp (n : List Int) (hn : ∀ c ∈ n, 0 ≤ c ∧ c ≤ 255) : ∀ (l : List (List Int)) (acc : List S39), l ≠ [] → vpsM acc = true → pagesI acc ++ joinL 93 l = n → spM n l acc = ppM l acc
 | [], _, h, _, _ => absurd rfl h
 | [p], acc, _, hv, hj => by
  have e : fpM acc = pagesI acc := if_pos hv
  simp only [spM, ppM, hv, if_true, e, joinL] at hj ⊢
  by_cases hp : p = []
  ·subst hp
   rw [if_pos (by simpa using hj.symm), if_pos rfl]
  ·rw [if_neg (fun hh => hp (by rw [hh] at hj; simpa using hj)), if_neg hp]
 | p :: q :: r, acc, _, hv, hj => by
  unfold spM ppM
  by_cases h : p.head? = some 91 ∧ (psD p).2 = true
  ·rw [if_pos h, if_pos h]
   by_cases hb : vpM (psD p).1 = true
   ·rw [if_pos hb]
    refine sp_pp n hn (q :: r) _ (by simp) (by rw [vps_snoc, hv, hb]; rfl) ?_
    rw [← hj, pagesI_snoc]
    have hr : ∀ c ∈ p.drop 1, 0 ≤ c ∧ c ≤ 255 := fun c hc => hn c (by rw [← hj]; simp only [joinL, List.mem_append]; exact .inr (.inl (List.mem_of_mem_drop hc)))
    have ht : frsI (psD p).1 = p.drop 1 := by
     have := psR_trip (strOfNums (p.drop 1)) h.2
     rwa [numsB_str _ hr] at this
    obtain ⟨p', rfl⟩ : ∃ p', p = 91 :: p' := by
     cases p with
     | nil => simp at h
     | cons a b => exact ⟨b, by simpa using h.1⟩
    simp only [ht, List.drop_succ_cons, List.drop_zero, joinL, List.append_assoc, List.cons_append, List.nil_append]
   ·rw [if_neg hb]
    exact spM_bad n (q :: r) _ (by rw [vps_snoc, Bool.eq_false_iff.2 hb, Bool.and_false])
  ·rw [if_neg h, if_neg h]
theorem spM_cut (s : ByteArray) : spM (numsB s) (cutL 93 (numsB s) []) [] = ppM (cutL 93 (numsB s) []) [] :=
 sp_pp _ (numsB_range s) _ _ (cutL_ne _ _ _) rfl (by simp [pagesI, join_cut])
theorem ppM_len : ∀ (l : List (List Int)) (acc : List S39), (ppM l acc).1.length ≤ acc.length + (l.length - 1)
 | [], _ => by simp [ppM]
 | [p], acc => by unfold ppM; split <;> simp
 | p :: q :: r, acc => by
  unfold ppM
  split
  ·split
   ·have := ppM_len (q :: r) (acc ++ [⟨(psD p).1⟩])
    simp only [List.length_append, List.length_cons, List.length_nil] at this ⊢
    omega
   ·simp
  ·simp
theorem ppM_small : ∀ (l : List (List Int)) (acc : List S39), (∀ x ∈ acc, x.f0.length ≤ 24) → ∀ x ∈ (ppM l acc).1, x.f0.length ≤ 24
 | [], _, _ => by simp [ppM]
 | [p], acc, h => by
  unfold ppM
  split
  ·exact h
  ·simp
 | p :: q :: r, acc, h => by
  unfold ppM
  split
  ·split
   ·refine ppM_small (q :: r) _ ?_
    intro x hx
    rcases List.mem_append.1 hx with hx | hx
    ·exact h x hx
    ·rw [List.mem_singleton.1 hx]; exact psR_small _
   ·simp
  ·simp
theorem pagesI_range : ∀ (l : List S39), ∀ d ∈ pagesI l, 0 ≤ d ∧ d ≤ 255
 | [] => by simp [pagesI]
 | x :: r => by
  intro d hd
  simp only [pagesI, List.mem_cons, List.mem_append] at hd
  rcases hd with rfl | hd | rfl | hd
  ·omega
  ·unfold frsI at hd
   split at hd
   ·have key : ∀ (l : List S42), ∀ d ∈ tailI l, 0 ≤ d ∧ d ≤ 255 := by
     intro l
     induction l with
     | nil => simp [tailI]
     | cons y t ih =>
      intro d hd
      simp only [tailI, List.mem_cons, List.mem_append] at hd
      rcases hd with rfl | hd | hd
      ·omega
      ·exact frI_range _ _ _ d hd
      ·exact ih d hd
    cases hx : x.f0 with
    | nil => rw [hx] at hd; simp [rowsI] at hd
    | cons y t =>
     rw [hx] at hd
     simp only [rowsI, List.mem_append] at hd
     rcases hd with hd | hd
     ·exact frI_range _ _ _ d hd
     ·exact key t d hd
   ·simp at hd
  ·omega
  ·exact pagesI_range r d hd
theorem fpM_range (l : List S39) : ∀ d ∈ fpM l, 0 ≤ d ∧ d ≤ 255 := by
 unfold fpM
 split
 ·exact pagesI_range l
 ·simp
theorem spec_ParsePages_ev (s : ByteArray) (hs : s.size ≤ 1048576) : Ev (fun k => spec_ParsePages.f k s) (ppM (cutL 93 (numsB s) []) []) := by
 have hlen := cutM_len 93 s
 have hm : ∀ p ∈ cutM 93 s, p.size ≤ 1048576 := fun p hp => by have := (cut_nums hp).2; omega
 rw [← spM_cut]
 simp only [spec_ParsePages.f]
 refine Ev.bind (spec_cut_ev s (by omega) 93) ?_
 have key : ∀ (w : List ByteArray), w.length ≤ 1048577 → ∀ (r : List ByteArray) (i : Nat) (acc : List S39), r ≠ [] → w.drop i = r → (∀ p ∈ r, p.size ≤ 1048576) → acc.length ≤ i → i ≤ w.length → (∀ x ∈ acc, x.f0.length ≤ 24) → Ev (fun k => spec_ParsePages.l0 k s acc w (i : Int)) (spM (numsB s) (r.map numsB) acc) := by
  intro w hw r
  induction r with
  | nil => intro i acc hn; exact absurd rfl hn
  | cons p r ih =>
   intro i acc _ h hr ha hi hx
   obtain ⟨h1, h2, h3⟩ := rdB h
   have hwl : w.length = i + (r.length + 1) := by
    have := congrArg List.length h
    simp only [List.length_drop, List.length_cons] at this
    omega
   refine Ev.succ ?_
   simp only [spec_ParsePages.l0, h2, nxt (show w.length ≤ 4611686018427387904 by omega) h1]
   cases r with
   | nil =>
    simp only [List.length_nil] at hwl
    refine Ev.neg (by omega) (Ev.bind (spec_l4Pages_ev acc (by omega) (fun x hy => by have := hx x hy; omega)) ?_)
    simp only [List.map_cons, List.map_nil, spM]
    by_cases hv : vpsM acc = true
    ·simp only [hv, if_true]
     refine Ev.bind (spec_FormatPages_ev acc (by omega) (fun x hy => by have := hx x hy; omega)) ?_
     simp only [str_eq _ s (fpM_range acc)]
     by_cases he : numsB s = fpM acc
     ·simp only [if_pos he]; exact Ev.now _
     ·simp only [if_neg he]; exact Ev.now _
    ·simp only [Bool.eq_false_iff.2 hv, Bool.false_eq_true, if_false]; exact Ev.now _
   | cons q r =>
    simp only [List.length_cons] at hwl
    refine Ev.pos (by omega) (Ev.pos (Int.natCast_nonneg _) (Ev.pos h1 ?_))
    have hj : ∀ b : Bool, (b = true ↔ ¬ (numsB p).head? = some 91) → Ev (fun k => spec_ParsePages.j1 k s acc w (i : Int) b) (spM (numsB s) ((p :: q :: r).map numsB) acc) := by
     intro b hb
     refine Ev.succ ?_
     simp only [spec_ParsePages.j1, h2, nxt (show w.length ≤ 4611686018427387904 by omega) h1, List.map_cons, spM]
     by_cases h91 : (numsB p).head? = some 91
     ·have hp1 : 1 ≤ (p.size : Int) := by
       rw [← numsB_len]
       cases hc : numsB p with
       | nil => rw [hc] at h91; simp at h91
       | cons c m => simp only [List.length_cons]; omega
      refine Ev.neg (fun hh => (hb.1 hh) h91) (Ev.pos (Int.natCast_nonneg _) (Ev.pos h1 (Ev.pos hp1 ?_)))
      have e1 : p.extract 1 p.size = strOfNums ((numsB p).drop 1) := ext_end p 1
      simp only [e1]
      refine Ev.bind (spec_ParseRows_ev (strOfNums ((numsB p).drop 1)) (by rw [strOfNums_size, List.length_drop, numsB_len]; have := hr p (by simp); omega)) ?_
      show Ev _ (if (numsB p).head? = some 91 ∧ (psD (numsB p)).2 = true then _ else _)
      by_cases ho : (psR (strOfNums ((numsB p).drop 1))).2 = true
      ·rw [if_pos ⟨h91, ho⟩]
       refine Ev.pos ho (Ev.pos (by omega) ?_)
       exact ih (i + 1) _ (by simp) h3 (fun t ht => hr t (by simp only [List.mem_cons] at ht ⊢; exact .inr ht)) (by simp only [List.length_append, List.length_cons, List.length_nil]; omega) (by omega) (by
        intro x hy
        rcases List.mem_append.1 hy with hy | hy
        ·exact hx x hy
        ·rw [List.mem_singleton.1 hy]; exact psR_small _)
      ·rw [if_neg (fun hh => ho hh.2)]
       exact Ev.neg ho (Ev.now _)
     ·rw [if_neg (fun hh => h91 hh.1)]
      exact Ev.pos (hb.2 h91) (Ev.now _)
    by_cases h0 : p.toList = ([] : List UInt8)
    ·simp only [if_pos h0]
     exact hj true (by rw [(nums_nil p).1 h0]; simp)
    ·simp only [if_neg h0]
     cases hc : numsB p with
     | nil => exact absurd ((nums_nil p).2 hc) h0
     | cons c m =>
      obtain ⟨k1, k2⟩ := bt0_hd hc
      simp only [k2]
      refine Ev.pos k1 (hj (c != 91) ?_)
      rw [hc]; simp
 have e : cutL 93 (numsB s) [] = (cutM 93 s).map numsB := (cutM_nums 93 s).symm
 rw [e]
 exact key (cutM 93 s) (by omega) (cutM 93 s) 0 [] (by unfold cutM; intro hh; exact cutL_ne _ _ _ (List.map_eq_nil_iff.1 hh)) rfl hm (by simp) (by simp) (by simp)
theorem impl_pp (A : Nat) (hA : A ≤ 2097152) : ∀ (N : Nat) (n : List Int) (acc : List S39), n.length ≤ N → (∀ c ∈ n, 0 ≤ c ∧ c ≤ 255) → acc.length + n.length ≤ A → Ev (fun k => impl_ParsePages.l0 k (strOfNums n) acc) (ppM (cutL 93 n []) acc) := by
 intro N
 induction N with
 | zero =>
  intro n acc hn hr ha
  cases n with
  | cons c m => simp at hn
  | nil =>
   refine Ev.succ ?_
   simp only [impl_ParsePages.l0]
   exact Ev.neg (by rw [strOfNums_size]; simp) (Ev.now' (by simp [cutL, ppM]))
 | succ N ih =>
  intro n acc hn hr ha
  cases n with
  | nil =>
   refine Ev.succ ?_
   simp only [impl_ParsePages.l0]
   exact Ev.neg (by rw [strOfNums_size]; simp) (Ev.now' (by simp [cutL, ppM]))
  | cons c m =>
   simp only [List.length_cons] at hn ha
   have hnum : numsB (strOfNums (c :: m)) = c :: m := numsB_str _ hr
   have hsz : (strOfNums (c :: m)).size = m.length + 1 := by rw [strOfNums_size]; rfl
   obtain ⟨k1, k2⟩ := bt0_hd hnum
   refine Ev.succ ?_
   simp only [impl_ParsePages.l0]
   refine Ev.pos k1 ?_
   -- on to the first ']' or the end
   have walk : ∀ (R : List S39 × Bool) (u v : List Int) (i : Nat), (c :: m).drop i = u ++ v → (∀ x ∈ u, x ≠ 93) → (v = [] ∨ ∃ t, v = 93 :: t) → Ev (fun k => impl_ParsePages.j2 k (strOfNums (c :: m)) acc ((i + u.length : Nat) : Int)) R → Ev (fun k => impl_ParsePages.l1 k (strOfNums (c :: m)) acc (i : Int)) R := by
    intro R u
    induction u with
    | nil =>
     intro v i h _ hv hj
     simp only [List.nil_append] at h
     simp only [List.length_nil, Nat.add_zero] at hj
     refine Ev.succ ?_
     rcases hv with rfl | ⟨t, rfl⟩
     ·simp only [impl_ParsePages.l1]
      exact Ev.neg (by rw [hsz]; have := List.drop_eq_nil_iff.1 h; simp only [List.length_cons] at this; omega) hj
     ·obtain ⟨h1, h2, _⟩ := numsB_drop_cons (s := strOfNums (c :: m)) (i := i) (by rw [hnum]; exact h)
      simp only [impl_ParsePages.l1, h2]
      exact Ev.pos h1 (Ev.pos (Int.natCast_nonneg _) (Ev.pos (by trivial) hj))
    | cons b u ih2 =>
     intro v i h hne hv hj
     obtain ⟨h1, h2, h3, _⟩ := numsB_drop_cons (s := strOfNums (c :: m)) (i := i) (by rw [hnum]; exact h)
     rw [hnum] at h3
     have e1 : wrap64 ((i : Int) + 1) = ((i + 1 : Nat) : Int) := by rw [w64 (by omega) (by omega)]; omega
     refine Ev.succ ?_
     simp only [impl_ParsePages.l1, h2, e1]
     refine Ev.pos h1 (Ev.pos (Int.natCast_nonneg _) (Ev.neg (hne b (by simp)) ?_))
     refine ih2 v (i + 1) h3 (fun x hx => hne x (by simp [hx])) hv ?_
     have e2 : i + 1 + u.length = i + (b :: u).length := by simp only [List.length_cons]; omega
     rw [e2]; exact hj
   have fail : ∀ (x : Int), Ev (fun k => impl_ParsePages.j3 k (strOfNums (c :: m)) acc x true) ([], false) := by
    intro x
    refine Ev.succ ?_
    simp only [impl_ParsePages.j3]
    exact Ev.pos (by trivial) (Ev.now _)
   have split : ∀ l : List Int, (∀ x ∈ l, x ≠ 93) ∨ ∃ a b, l = a ++ 93 :: b ∧ ∀ x ∈ a, x ≠ 93 := by
    intro l
    induction l with
    | nil => exact .inl (by simp)
    | cons y t iht =>
     by_cases hy : y = 93
     ·exact .inr ⟨[], t, by rw [hy]; rfl, by simp⟩
     ·rcases iht with h | ⟨a, b, h, h'⟩
      ·exact .inl (by intro x hx; rcases List.mem_cons.1 hx with rfl | hx; exact hy; exact h x hx)
      ·exact .inr ⟨y :: a, b, by rw [h]; rfl, by intro x hx; rcases List.mem_cons.1 hx with rfl | hx; exact hy; exact h' x hx⟩
   by_cases hc : c = 91
   ·subst hc
    rcases split m with h | ⟨a, b, h, h'⟩
    ·
     have e : cutL 93 (91 :: m) [] = [91 :: m] := by
      rw [cutL_none _ _ _ (by intro x hx; rcases List.mem_cons.1 hx with rfl | hx; omega; exact h x hx)]; rfl
     rw [e]
     refine walk _ m [] 1 (by simp) h (.inl rfl) (Ev.succ ?_)
     simp only [impl_ParsePages.j2, k2]
     refine Ev.pos k1 (Ev.pos (by trivial) ?_)
     have e2 : (((1 + m.length : Nat) : Int) == ((strOfNums (91 :: m)).size : Int)) = true := by rw [hsz, beq_iff_eq]; omega
     simp only [e2, ppM]
     exact fail _
    ·subst h
     have e : cutL 93 (91 :: (a ++ 93 :: b)) [] = (91 :: a) :: cutL 93 b [] := by
      have := cutL_at 93 b (91 :: a) [] (by intro x hx; rcases List.mem_cons.1 hx with rfl | hx; omega; exact h' x hx)
      simpa using this
     rw [e]
     refine walk _ a (93 :: b) 1 (by simp) h' (.inr ⟨b, rfl⟩) (Ev.succ ?_)
     simp only [impl_ParsePages.j2, k2]
     refine Ev.pos k1 (Ev.pos (by trivial) ?_)
     simp only [List.length_append, List.length_cons] at hsz hn ha
     have e2 : (((1 + a.length : Nat) : Int) == ((strOfNums (91 :: (a ++ 93 :: b))).size : Int)) = false := by rw [hsz, beq_eq_false_iff_ne]; omega
     have e3 : wrap64 (((1 + a.length : Nat) : Int) + 1) = ((a.length + 2 : Nat) : Int) := by rw [w64 (by omega) (by omega)]; omega
     have e4 : (strOfNums (91 :: (a ++ 93 :: b))).extract 1 (1 + a.length) = strOfNums a := by
      rw [ext_eq, hnum]
      congr 1
      rw [Nat.add_comm]
      simp
     have e5 : (strOfNums (91 :: (a ++ 93 :: b))).extract (a.length + 2) (strOfNums (91 :: (a ++ 93 :: b))).size = strOfNums b := by
      rw [ext_end, hnum]
      congr 1
      rw [show a.length + 2 = (a.length + 1) + 1 from rfl, List.drop_succ_cons, List.drop_append]
      simp
     simp only [e2]
     refine Ev.succ ?_
     simp only [impl_ParsePages.j3, e3, Int.toNat_natCast, e4, e5]
     obtain ⟨q, r, hq⟩ : ∃ q r, cutL 93 b [] = q :: r := by
      cases hd : cutL 93 b [] with
      | nil => exact absurd hd (cutL_ne _ _ _)
      | cons q r => exact ⟨q, r, rfl⟩
     have hra : a.length ≤ 8000000000 := by omega
     have rest : Ev (fun k => impl_ParsePages.l0 k (strOfNums b) (acc ++ [⟨(psR (strOfNums a)).1⟩])) (ppM (q :: r) (acc ++ [⟨(psR (strOfNums a)).1⟩])) := by
      rw [← hq]
      exact ih b _ (by omega) (fun x hx => hr x (by simp [hx])) (by simp only [List.length_append, List.length_cons, List.length_nil]; omega)
     have eD : psD (91 :: a) = psR (strOfNums a) := rfl
     rw [hq]
     simp only [ppM, eD, List.head?_cons, true_and]
     refine Ev.neg (by decide) (Ev.pos (by omega) (Ev.pos (by rw [hsz]; omega) (Ev.bind (impl_ParseRows_ev (strOfNums a) (by rw [strOfNums_size]; omega)) ?_)))
     have hsm := psR_small (strOfNums a)
     by_cases ho : (psR (strOfNums a)).2 = true
     ·simp only [ho, if_true]
      refine Ev.bind (impl_IsValidPage_ev _ (by omega)) ?_
      by_cases hv : vpM (psR (strOfNums a)).1 = true
      ·simp only [hv, if_true]
       exact Ev.pos (by omega) (Ev.pos (Int.natCast_nonneg _) (Ev.pos (by rw [hsz]; omega) rest))
      ·simp only [hv, if_false]
       exact Ev.now _
     ·simp only [ho, if_false]
      exact Ev.now _
   ·
    have hR : ppM (cutL 93 (c :: m) []) acc = ([], false) := by
     rcases split (c :: m) with h | ⟨a, b, h, h'⟩
     ·rw [cutL_none _ _ _ h]; simp [ppM]
     ·rw [h, cutL_at _ _ _ _ h']
      obtain ⟨q, r, hq⟩ : ∃ q r, cutL 93 b [] = q :: r := by
       cases hd : cutL 93 b [] with
       | nil => exact absurd hd (cutL_ne _ _ _)
       | cons q r => exact ⟨q, r, rfl⟩
      rw [hq]
      simp only [ppM, List.nil_append]
      rw [if_neg]
      rintro ⟨hh, _⟩
      cases a with
      | nil => simp at hh
      | cons y t =>
       simp only [List.head?_cons, Option.some.injEq] at hh
       simp only [List.cons_append, List.cons.injEq] at h
       exact hc (h.1.trans hh)
    rw [hR]
    have hj : ∀ i : Nat, Ev (fun k => impl_ParsePages.j2 k (strOfNums (c :: m)) acc (i : Int)) ([], false) := by
     intro i
     refine Ev.succ ?_
     simp only [impl_ParsePages.j2, k2]
     exact Ev.pos k1 (Ev.neg hc (fail _))
    rcases split m with h | ⟨a, b, h, h'⟩
    ·exact walk _ m [] 1 (by simp) h (.inl rfl) (hj _)
    ·exact walk _ a (93 :: b) 1 (by simp [h]) h' (.inr ⟨b, rfl⟩) (hj _)
theorem impl_ParsePages_ev (s : ByteArray) (hs : s.size ≤ 1048576) : Ev (fun k => impl_ParsePages.f k s) (ppM (cutL 93 (numsB s) []) []) := by
 have := impl_pp 2097152 (Nat.le_refl _) (numsB s).length (numsB s) [] (Nat.le_refl _) (numsB_range s) (by rw [numsB_len]; simp; omega)
 rw [str_numsB] at this
 exact this
def flat : List S39 → List S42
 | [] => []
 | x :: r => x.f0 ++ flat r
theorem impl_Unpack_ev (l : List S39) (hl : l.length ≤ 1048576) (ht : tot l ≤ 1048576) : Ev (fun k => impl_UnpackPages.f k l) (flat l) := by
 have key : ∀ (r : List S39) (i : Nat) (d : List S42), l.drop i = r → d.length + tot r ≤ 1048576 → Ev (fun k => impl_UnpackPages.l0 k d l (l.length : Int) (i : Int)) (d ++ flat r) := by
  intro r
  induction r with
  | nil =>
   intro i d h hd
   refine Ev.succ ?_
   simp only [impl_UnpackPages.l0]
   exact Ev.neg (drop_nil_lt h) (Ev.now' (by simp [flat]))
  | cons b r ih =>
   intro i d h hd
   obtain ⟨h1, h2, h3⟩ := rdT39 h
   simp only [tot] at hd
   refine Ev.succ ?_
   simp only [impl_UnpackPages.l0, h2, nxt (show l.length ≤ 4611686018427387904 by omega) h1]
   refine Ev.pos h1 (Ev.pos (Int.natCast_nonneg _) (Ev.pos h1 (Ev.pos (by omega) ?_)))
   have := ih (i + 1) (d ++ b.f0) h3 (by simp only [List.length_append]; omega)
   rw [flat, ← List.append_assoc]
   exact this
 have := key l 0 [] rfl (by simpa using ht)
 simpa [impl_UnpackPages.f] using this
theorem tcM_add : ∀ (l : List S42) (n : Int), tcM l n = n + tcM l 0
 | [], n => by simp [tcM]
 | x :: r, n => by
  rw [tcM, tcM, tcM_add r (n + _), tcM_add r (0 + _)]; omega
theorem tcM_snoc (l : List S42) (x : S42) : tcM (l ++ [x]) 0 = tcM l 0 + cost (x.f0, x.f1, x.f2) := by
 induction l with
 | nil => simp [tcM]
 | cons y r ih =>
  rw [List.cons_append, tcM, tcM, tcM_add (r ++ [x]), ih, tcM_add r (0 + _)]; omega
theorem cost_one {x : S42} (h : vrow (x.f0, x.f1, x.f2) = true) : 1 ≤ cost (x.f0, x.f1, x.f2) := by
 unfold cost
 rw [if_pos h]
 have := (vrow_iff.1 h).2.2.1
 show 1 ≤ 1 + x.f2
 omega
theorem tcM_one : ∀ {l : List S42}, l ≠ [] → allV l = true → 1 ≤ tcM l 0
 | [], h, _ => absurd rfl h
 | x :: r, _, h => by
  simp only [allV, List.all_cons, Bool.and_eq_true] at h
  have h1 := cost_one h.1
  have h2 := (tcM_bd r (0 + cost (x.f0, x.f1, x.f2))).1
  rw [tcM]; omega
def nextP : List S39 → Prop
 | x :: y :: r => (∃ z t, y.f0 = z :: t ∧ tcM x.f0 0 + cost (z.f0, z.f1, z.f2) > 8) ∧ nextP (y :: r)
 | _ => True
theorem next_snoc : ∀ (a : List S39) (u y : S39), nextP (a ++ [u]) → (∃ z t, y.f0 = z :: t ∧ tcM u.f0 0 + cost (z.f0, z.f1, z.f2) > 8) → nextP (a ++ [u] ++ [y])
 | [], u, y, _, h => ⟨h, trivial⟩
 | [v], u, y, h0, h => ⟨h0.1, h, trivial⟩
 | v :: q :: a, u, y, h0, h => ⟨h0.1, next_snoc (q :: a) u y h0.2 h⟩
theorem next_last : ∀ (a : List S39) (p : List S42) (x : S42), nextP (a ++ [⟨p⟩]) → p ≠ [] → nextP (a ++ [⟨p ++ [x]⟩])
 | [], p, x, _, _ => trivial
 | [v], p, x, h0, hp => by
  obtain ⟨⟨z, t, e, hc⟩, _⟩ := h0
  exact ⟨⟨z, t ++ [x], by rw [show p = z :: t from e]; rfl, hc⟩, trivial⟩
 | v :: q :: a, p, x, h0, hp => ⟨h0.1, next_last (q :: a) p x h0.2 hp⟩
theorem flat_app : ∀ (a b : List S39), flat (a ++ b) = flat a ++ flat b
 | [], b => rfl
 | x :: a, b => by rw [List.cons_append, flat, flat, flat_app a b, List.append_assoc]
theorem vp_of {p : List S42} (h : allV p = true) (hl : p.length ≤ 24) (hp : p ≠ []) (ht : tcM p 0 ≤ 8) : vpM p = true := by
 have h1 := tcM_one hp h
 unfold vpM avM
 rw [h]
 simp only [Bool.true_and, Bool.and_eq_true, decide_eq_true_eq]
 omega
theorem pack_ok : ∀ (r : List S42) (acc : List S39) (p : List S42), allV r = true → allV p = true → p.length + r.length ≤ 24 → tcM p 0 ≤ 8 → (p = [] → acc = []) → vpsM acc = true → nextP (acc ++ [⟨p⟩]) →
  vpsM (packM r acc p) = true ∧ nextP (packM r acc p) ∧ flat (packM r acc p) = flat acc ++ p ++ r
 | [], acc, p, hr, hp, hl, ht, hn, hv, hx => by
  simp only [packM]
  by_cases h : p.length > 0
  ·rw [if_pos h]
   have hp0 : p ≠ [] := fun e => by rw [e] at h; simp at h
   refine ⟨?_, hx, ?_⟩
   ·rw [vps_snoc, hv, vp_of hp (by simp only [List.length_nil] at hl; omega) hp0 ht]; rfl
   ·rw [flat_app, flat, flat, List.append_nil, List.append_nil]
  ·rw [if_neg h]
   have hp0 : p = [] := List.eq_nil_of_length_eq_zero (by omega)
   rw [hn hp0, hp0]
   exact ⟨rfl, trivial, rfl⟩
 | x :: r, acc, p, hr, hp, hl, ht, hn, hv, hx => by
  simp only [packM]
  simp only [allV, List.all_cons, Bool.and_eq_true] at hr
  simp only [List.length_cons] at hl
  by_cases h : tcM p 0 + cost (x.f0, x.f1, x.f2) > 8
  ·rw [if_pos h]
   have hc := cost_bd (x.f0, x.f1, x.f2)
   have hp0 : p ≠ [] := fun e => by rw [e] at h; simp only [tcM] at h; omega
   obtain ⟨g1, g2, g3⟩ := pack_ok r (acc ++ [⟨p⟩]) [x] hr.2 (by simp [allV, hr.1]) (by simp only [List.length_cons, List.length_nil]; omega) (by simp only [tcM]; omega) (fun e => by cases e) (by rw [vps_snoc, hv, vp_of hp (by omega) hp0 ht]; rfl) (next_snoc acc ⟨p⟩ ⟨[x]⟩ hx ⟨x, [], rfl, h⟩)
   refine ⟨g1, g2, ?_⟩
   rw [g3, flat_app, flat, flat, List.append_nil, List.append_assoc _ [x], List.singleton_append]
  ·rw [if_neg h]
   obtain ⟨g1, g2, g3⟩ := pack_ok r acc (p ++ [x]) hr.2 (by simp only [allV, List.all_append, List.all_cons, List.all_nil, Bool.and_true, Bool.and_eq_true]; exact ⟨hp, hr.1⟩) (by simp only [List.length_append, List.length_cons, List.length_nil]; omega) (by rw [tcM_snoc]; omega) (fun e => by simp at e) hv (by
    by_cases hp0 : p = []
    ·rw [hn hp0]; exact trivial
    ·exact next_last acc p x hx hp0)
   refine ⟨g1, g2, ?_⟩
   rw [g3, List.append_assoc, List.append_assoc, List.append_assoc]; rfl
theorem packs_ok {l : List S42} (h : avM l = true) : vpsM (packs l) = true ∧ nextP (packs l) ∧ flat (packs l) = l := by
 have hl := avM_le h
 have hv : allV l = true := by unfold avM at h; simp only [Bool.and_eq_true] at h; exact h.1
 obtain ⟨g1, g2, g3⟩ := pack_ok l [] [] hv rfl (by simp only [List.length_nil]; omega) (by simp only [tcM]; omega) (fun _ => rfl) rfl trivial
 unfold packs
 rw [if_pos h]
 exact ⟨g1, g2, by rw [g3]; rfl⟩
theorem frI_nob (a b c : Int) : ∀ d ∈ frI a b c, d ≠ 93 := by
 intro d hd
 unfold frI at hd
 split at hd
 ·simp only [List.mem_append, List.mem_cons] at hd
  rcases hd with hd | rfl | hd | rfl | hd
  ·exact fmtI_no a 93 (by omega) (by omega) d hd
  ·omega
  ·exact fmtI_no b 93 (by omega) (by omega) d hd
  ·omega
  ·exact fmtI_no c 93 (by omega) (by omega) d hd
 ·simp at hd
theorem frsI_nob (l : List S42) : ∀ d ∈ frsI l, d ≠ 93 := by
 have key : ∀ (l : List S42), ∀ d ∈ tailI l, d ≠ 93 := by
  intro l
  induction l with
  | nil => simp [tailI]
  | cons y t ih =>
   intro d hd
   simp only [tailI, List.mem_cons, List.mem_append] at hd
   rcases hd with rfl | hd | hd
   ·omega
   ·exact frI_nob _ _ _ d hd
   ·exact ih d hd
 intro d hd
 unfold frsI at hd
 split at hd
 ·cases l with
  | nil => simp [rowsI] at hd
  | cons y t =>
   simp only [rowsI, List.mem_append] at hd
   rcases hd with hd | hd
   ·exact frI_nob _ _ _ d hd
   ·exact key t d hd
 ·simp at hd
theorem pp_pages : ∀ (p acc : List S39), vpsM p = true → ppM (cutL 93 (pagesI p) []) acc = (acc ++ p, true)
 | [], acc, _ => by
  have e : cutL 93 (pagesI []) [] = [[]] := rfl
  rw [e, List.append_nil]; rfl
 | x :: r, acc, h => by
  simp only [vpsM, List.all_cons, Bool.and_eq_true] at h
  have e : pagesI (x :: r) = (91 :: frsI x.f0) ++ 93 :: pagesI r := rfl
  rw [e, cutL_at 93 _ _ _ (fun c hc => by
   rcases List.mem_cons.1 hc with rfl | hc
   ·omega
   ·exact frsI_nob x.f0 c hc)]
  have hne := cutL_ne 93 (pagesI r) []
  have ih := pp_pages r (acc ++ [x]) h.2
  generalize cutL 93 (pagesI r) [] = m at hne ih
  cases m with
  | nil => exact absurd rfl hne
  | cons q m =>
   have hav : avM x.f0 = true := by
    have h1 := h.1
    unfold vpM at h1
    simp only [Bool.and_eq_true] at h1
    exact h1.1
   have hps := psR_frs x.f0
   have hd : psD ([] ++ 91 :: frsI x.f0) = psR (strOfNums (frsI x.f0)) := rfl
   simp only [ppM, hd, hps.1, hps.2 hav, h.1, if_true]
   rw [if_pos ⟨rfl, trivial⟩, ih, List.append_assoc]; rfl
theorem spM_true (n : List Int) : ∀ (l : List (List Int)) (acc x : List S39), spM n l acc = (x, true) → n = fpM x
 | [], acc, x, h => by simp [spM] at h
 | [_], acc, x, h => by
  simp only [spM] at h
  split at h
  ·split at h
   ·injection h with h1 h2
    subst h1; assumption
   ·injection h with h1 h2; cases h2
  ·injection h with h1 h2; cases h2
 | p :: q :: r, acc, x, h => by
  unfold spM at h
  split at h
  ·exact spM_true n (q :: r) _ x h
  ·injection h with h1 h2; cases h2
theorem pp_trip {s : ByteArray} {x : List S39} (h : ppM (cutL 93 (numsB s) []) [] = (x, true)) : strOfNums (fpM x) = s := by
 rw [← spM_cut] at h
 rw [← spM_true _ _ _ _ h, str_numsB]
theorem pp_fp {p : List S39} (h : vpsM p = true) : ppM (cutL 93 (numsB (strOfNums (fpM p))) []) [] = (p, true) := by
 rw [numsB_str _ (fpM_range p)]
 have e : fpM p = pagesI p := if_pos h
 rw [e, pp_pages p [] h]; rfl
theorem fpM_len (p : List S39) : (fpM p).length ≤ 2002 * p.length := by
 have h : ∀ (p : List S39), (pagesI p).length ≤ 2002 * p.length := by
  intro p
  induction p with
  | nil => simp [pagesI]
  | cons x r ih =>
   have := frsI_len x.f0
   simp only [pagesI, List.length_cons, List.length_append]; omega
 unfold fpM
 split
 ·exact h p
 ·simp
theorem sameRows_ev (a : List S42) (ha : a.length ≤ 4611686018427387904) : Ev (fun k => laws_sameRows.f k a a) true := by
 have key : ∀ (r : List S42) (i : Nat), a.drop i = r → Ev (fun k => laws_sameRows.l0 k a a (i : Int)) true := by
  intro r
  induction r with
  | nil =>
   intro i h
   refine Ev.succ ?_
   simp only [laws_sameRows.l0]
   exact Ev.neg (drop_nil_lt h) (Ev.now _)
  | cons x r ih =>
   intro i h
   obtain ⟨h1, h2, h3⟩ := rdI h
   refine Ev.succ ?_
   simp only [laws_sameRows.l0, h2, nxt ha h1]
   exact Ev.pos h1 (Ev.pos (Int.natCast_nonneg _) (Ev.pos h1 (Ev.neg (by simp) (ih (i + 1) h3))))
 simp only [laws_sameRows.f]
 exact Ev.pos (by trivial) (key a 0 rfl)
theorem l1Once_some (b : List Int) (i h n : Int) (hb : b.length ≤ 140737488351232) (hi : 0 ≤ i) : ∃ x i' h', spec_l1Once.f b i h n = some (x, i', h') ∧ 0 ≤ i' := by
 obtain ⟨x, i', h', e, _, _, _, hi'⟩ := l1Below_some b i h n hb hi
 unfold spec_l1Once.f
 rw [e]
 exact ⟨_, _, _, rfl, hi'⟩
theorem l1PickInt_some (b : List Int) (i h : Int) (l : List Int) (hb : b.length ≤ 140737488351232) (hi : 0 ≤ i) (hl : 0 < l.length) : ∃ x i' h', spec_l1PickInt.f b i h l = some (x, i', h') ∧ x ∈ l ∧ 0 ≤ i' := by
 obtain ⟨x, i', h', e, h0, h1, _, hi'⟩ := l1Below_some b i h (l.length : Int) hb hi
 have hx := h1 (by omega)
 unfold spec_l1PickInt.f
 rw [e]
 simp only [Option.bind_some]
 rw [if_pos h0, if_pos hx]
 refine ⟨_, _, _, rfl, ?_, hi'⟩
 unfold rd
 have hlt : x.toNat < l.length := by omega
 rw [List.getD_eq_getElem?_getD, List.getElem?_eq_getElem hlt]
 exact List.getElem_mem hlt
theorem l2Row_some (b : List Int) (i h keys : Int) (hb : b.length ≤ 140737488351232) (hi : 0 ≤ i) (hk : 0 < keys) :
  ∃ x y z i' h', spec_l2Row.f b i h keys = some (x, y, z, i', h') ∧ (0 ≤ x ∧ x < keys) ∧ (0 ≤ y ∧ y < 100) ∧ (0 ≤ z ∧ z ≤ 3) ∧ 0 ≤ i' := by
 obtain ⟨x, i1, h1, e1, x0, x1, _, j1⟩ := l1Below_some b i h keys hb hi
 obtain ⟨y, i2, h2, e2, y0, y1, _, j2⟩ := l1Below_some b i1 h1 100 hb j1
 obtain ⟨z, i3, h3, e3, z0, j3⟩ := l1PickInt_some b i2 h2 [0, 0, 1, 2, 3] hb j2 (by simp)
 unfold spec_l2Row.f
 simp only [e1, e2, e3, Option.bind_some]
 refine ⟨_, _, _, _, _, rfl, ⟨x0, x1 hk⟩, ⟨y0, y1 (by decide)⟩, ?_, j3⟩
 simp only [List.mem_cons, List.not_mem_nil, or_false] at z0
 omega
theorem l2Any_some (b : List Int) (i h : Int) (hb : b.length ≤ 140737488351232) (hi : 0 ≤ i) :
  ∃ x y z i' h', spec_l2Any.f b i h = some (x, y, z, i', h') ∧ 0 ≤ i' := by
 obtain ⟨x, y, z, i1, h1, e1, _, _, _, j1⟩ := l2Row_some b i h 10 hb hi (by decide)
 obtain ⟨t, i2, h2, e2, _, _, _, j2⟩ := l1Below_some b i1 h1 8 hb j1
 unfold spec_l2Any.f
 simp only [e1, e2, Option.bind_some]
 by_cases t0 : t = 0
 ·rw [if_pos t0]
  obtain ⟨u, i3, h3, e3, _, j3⟩ := l1PickInt_some b i2 h2 [-1, 10] hb j2 (by simp)
  simp only [e3, Option.bind_some]
  exact ⟨_, _, _, _, _, rfl, j3⟩
 ·rw [if_neg t0]
  by_cases t1 : t = 1
  ·rw [if_pos t1]
   obtain ⟨u, i3, h3, e3, _, j3⟩ := l1PickInt_some b i2 h2 [-1, 100, 99] hb j2 (by simp)
   simp only [e3, Option.bind_some]
   exact ⟨_, _, _, _, _, rfl, j3⟩
  ·rw [if_neg t1]
   by_cases t2 : t = 2
   ·rw [if_pos t2]
    obtain ⟨u, i3, h3, e3, _, j3⟩ := l1PickInt_some b i2 h2 [-1, 4] hb j2 (by simp)
    simp only [e3, Option.bind_some]
    exact ⟨_, _, _, _, _, rfl, j3⟩
   ·rw [if_neg t2]
    exact ⟨_, _, _, _, _, rfl, j2⟩
theorem l2Rows_ev (b : List Int) (i h a : Int) (hb : b.length ≤ 140737488351232) (hi : 0 ≤ i) (ha0 : 0 ≤ a) (ha : a ≤ 1000) :
  ∃ l i' h', Ev (fun k => spec_l2Rows.f k b i h a) (l, i', h') ∧ (l.length : Int) ≤ a ∧ 0 ≤ i' := by
 have key : ∀ (d : Nat) (acc : List S42) (keys i h : Int), 0 < keys → 0 ≤ i → acc.length + d ≤ 2000 → d ≤ 1000 → ∃ l i' h', Ev (fun k => spec_l2Rows.l0 k acc keys (d : Int) b i h) (l, i', h') ∧ l.length ≤ acc.length + d ∧ 0 ≤ i' := by
  intro d
  induction d with
  | zero =>
   intro acc keys i h hk hi hd hd2
   refine ⟨acc, i, h, Ev.succ ?_, by omega, hi⟩
   simp only [spec_l2Rows.l0]
   exact Ev.neg (by omega) (Ev.now _)
  | succ d ih =>
   intro acc keys i h hk hi hd hd2
   obtain ⟨x, y, z, i1, h1, e1, _, _, _, j1⟩ := l2Row_some b i h keys hb hi hk
   obtain ⟨l, i', h', e, hl, hi'⟩ := ih (acc ++ [⟨x, y, z⟩]) keys i1 h1 hk j1 (by simp only [List.length_append, List.length_cons, List.length_nil]; omega) (by omega)
   refine ⟨l, i', h', Ev.succ ?_, by simp only [List.length_append, List.length_cons, List.length_nil] at hl; omega, hi'⟩
   have ed : wrap64 (((d + 1 : Nat) : Int) - 1) = (d : Int) := by rw [w64 (by omega) (by omega)]; omega
   simp only [spec_l2Rows.l0, e1, Option.bind_some, ed]
   exact Ev.pos (by omega) (Ev.pos (by omega) e)
 obtain ⟨q, i1, h1, e1, q0, j1⟩ := l1PickInt_some b i h [1, 2, 4, 10] hb hi (by simp)
 have ea : wrap64 (a + 1) = a + 1 := w64 (by omega) (by omega)
 obtain ⟨m, i2, h2, e2, m0, m1, _, j2⟩ := l1Below_some b i1 h1 (a + 1) hb j1
 have hm := m1 (by omega)
 obtain ⟨m, rfl⟩ := Int.eq_ofNat_of_zero_le m0
 have hq : 0 < q := by simp only [List.mem_cons, List.not_mem_nil, or_false] at q0; omega
 obtain ⟨l, i', h', e, hl, hi'⟩ := key m [] q i2 h2 hq j2 (by simp only [List.length_nil]; omega) (by omega)
 refine ⟨l, i', h', ?_, by simp only [List.length_nil] at hl; omega, hi'⟩
 simp only [spec_l2Rows.f, e1, ea, e2, Option.bind_some]
 exact e
theorem l2Bent_ev (b : List Int) (i h a : Int) (hb : b.length ≤ 140737488351232) (hi : 0 ≤ i) (ha0 : 0 ≤ a) (ha : a ≤ 1000) :
  ∃ l i' h', Ev (fun k => spec_l2Bent.f k b i h a) (l, i', h') ∧ (l.length : Int) ≤ a + 1 ∧ 0 ≤ i' := by
 obtain ⟨l, i1, h1, e1, hl, j1⟩ := l2Rows_ev b i h a hb hi ha0 ha
 obtain ⟨o, i2, h2, e2, j2⟩ := l1Once_some b i1 h1 14 hb j1
 obtain ⟨x, y, z, i3, h3, e3, j3⟩ := l2Any_some b i2 h2 hb j2
 cases o with
 | true =>
  refine ⟨l ++ [⟨x, y, z⟩], i3, h3, ?_, by simp only [List.length_append, List.length_cons, List.length_nil]; omega, j3⟩
  simp only [spec_l2Bent.f]
  refine Ev.bind e1 ?_
  simp only [e2, e3, Option.bind_some]
  exact Ev.pos (by trivial) (Ev.pos (by omega) (Ev.now _))
 | false =>
  refine ⟨l, i2, h2, ?_, by omega, j2⟩
  simp only [spec_l2Bent.f]
  refine Ev.bind e1 ?_
  simp only [e2, Option.bind_some]
  exact Ev.neg (by decide) (Ev.now _)
theorem l1New_ev (l : List Int) (hl : l.length ≤ 140737488351232) : ∃ h, Ev (fun k => spec_l1New.f k l) (l, 0, h) := by
 have key : ∀ (d i : Nat) (x : Int), i + d = 4000 → ∃ h, Ev (fun k => spec_l1New.l0 k l x (i : Int)) (l, 0, h) := by
  intro d
  induction d with
  | zero =>
   intro i x hi
   refine ⟨x, Ev.succ ?_⟩
   simp only [spec_l1New.l0]
   by_cases h1 : (i : Int) < (l.length : Int)
   ·exact Ev.pos h1 (Ev.neg (by omega) (Ev.now _))
   ·exact Ev.neg h1 (Ev.now _)
  | succ d ih =>
   intro i x hi
   by_cases h1 : (i : Int) < (l.length : Int)
   ·have e1 : wrap64 ((i : Int) + 1) = ((i + 1 : Nat) : Int) := by rw [w64 (by omega) (by omega)]; omega
    obtain ⟨h, e⟩ := ih (i + 1) (Go.bits .and .i64 (wrap64 ((wrap64 ((wrap64 (x * 131)) + (wrap64 (rd l (i : Int))))) + 7)) 1073741823) (by omega)
    refine ⟨h, Ev.succ ?_⟩
    simp only [spec_l1New.l0, e1]
    exact Ev.pos h1 (Ev.pos (by omega) (Ev.pos (Int.natCast_nonneg _) e))
   ·refine ⟨x, Ev.succ ?_⟩
    simp only [spec_l1New.l0]
    exact Ev.neg h1 (Ev.now _)
 exact key 4000 0 _ rfl
theorem big_f (l : List Int) : laws_big.f l = some (decide ((l.length : Int) > 1048576)) := rfl
theorem packs_bd (q : List S42) (m : Nat) (hq : q.length ≤ m) : (packs q).length ≤ m + 1 ∧ ∀ x ∈ packs q, x.f0.length ≤ m := by
 unfold packs
 split
 ·have h1 := packM_len q [] []
  simp only [List.length_nil] at h1
  exact ⟨by omega, packM_small m _ [] [] (by simp only [List.length_nil]; omega) (by simp)⟩
 ·exact ⟨by simp, by simp⟩
theorem l4Draw_ev (b : List Int) (i h : Int) (hb : b.length ≤ 140737488351232) (hi : 0 ≤ i) :
  ∃ l i' h', Ev (fun k => spec_l4Draw.f k b i h) (l, i', h') ∧ l.length ≤ 20 ∧ (∀ x ∈ l, x.f0.length ≤ 100) ∧ 0 ≤ i' := by
 obtain ⟨q, i1, h1, e1, hq, j1⟩ := l2Rows_ev b i h 9 hb hi (by omega) (by omega)
 have hq9 : q.length ≤ 9 := by omega
 have eP := spec_PackPages_ev q (by omega)
 obtain ⟨hl, hs⟩ := packs_bd q 9 hq9
 generalize packs q = p at eP hl hs
 by_cases hp : (p.length : Int) > 0
 ·obtain ⟨o, i2, h2, e2, j2⟩ := l1Once_some b i1 h1 8 hb j1
  by_cases ho : o = true
  ·obtain ⟨t, i3, h3, e3, t0, t1, _, j3⟩ := l1Below_some b i2 h2 (p.length : Int) hb j2
   have t2 := t1 hp
   obtain ⟨u, i4, h4, e4, j4⟩ := l1Once_some b i3 h3 2 hb j3
   by_cases hu : u = true
   ·refine ⟨p.set t.toNat ⟨[]⟩, i4, h4, ?_, by rw [List.length_set]; omega, fun x hx => ?_, j4⟩
    ·simp only [spec_l4Draw.f]
     refine Ev.bind e1 (Ev.bind eP (Ev.pos hp ?_))
     simp only [e2, Option.bind_some]
     refine Ev.succ ?_
     simp only [spec_l4Draw.j0, e3, e4, Option.bind_some]
     exact Ev.pos ho (Ev.pos hu (Ev.pos t0 (Ev.pos t2 (Ev.now _))))
    ·rcases List.mem_or_eq_of_mem_set hx with hx | rfl
     ·have := hs x hx; omega
     ·simp
   ·obtain ⟨v, i5, h5, e5, hv, j5⟩ := l2Rows_ev b i4 h4 4 hb j4 (by omega) (by omega)
    have hr : (rd_T39 p t).f0.length ≤ 9 := by
     unfold rd_T39
     have hlt : t.toNat < p.length := by omega
     rw [List.getD_eq_getElem?_getD, List.getElem?_eq_getElem hlt]
     exact hs _ (List.getElem_mem hlt)
    refine ⟨p.set t.toNat ⟨(rd_T39 p t).f0 ++ v⟩, i5, h5, ?_, by rw [List.length_set]; omega, fun x hx => ?_, j5⟩
    ·simp only [spec_l4Draw.f]
     refine Ev.bind e1 (Ev.bind eP (Ev.pos hp ?_))
     simp only [e2, Option.bind_some]
     refine Ev.succ ?_
     simp only [spec_l4Draw.j0, e3, e4, Option.bind_some]
     exact Ev.pos ho (Ev.neg hu (Ev.pos t0 (Ev.pos t2 (Ev.bind e5 (Ev.pos (by show (rd_T39 p t).f0.length + v.length < 5864062014805; omega) (Ev.now _))))))
    ·rcases List.mem_or_eq_of_mem_set hx with hx | rfl
     ·have := hs x hx; omega
     ·simp only [List.length_append]; omega
  ·refine ⟨p, i2, h2, ?_, by omega, fun x hx => by have := hs x hx; omega, j2⟩
   simp only [spec_l4Draw.f]
   refine Ev.bind e1 (Ev.bind eP (Ev.pos hp ?_))
   simp only [e2, Option.bind_some]
   refine Ev.succ ?_
   simp only [spec_l4Draw.j0]
   exact Ev.neg ho (Ev.now _)
 ·refine ⟨p, i1, h1, ?_, by omega, fun x hx => by have := hs x hx; omega, j1⟩
  simp only [spec_l4Draw.f]
  refine Ev.bind e1 (Ev.bind eP (Ev.neg hp ?_))
  refine Ev.succ ?_
  simp only [spec_l4Draw.j0]
  exact Ev.neg (by decide) (Ev.now _)
theorem FnPagePacking : laws_FnPagePacking.Pure := by
 intro code hmax hsz hwf
 by_cases hbig : (code.length : Int) > 1048576
 ·have hb0 : laws_big.f code = some true := by rw [big_f]; exact congrArg some (decide_eq_true hbig)
  refine ⟨0, ?_⟩
  unfold laws_FnPagePacking.f
  rw [hb0]; rfl
 ·have hb0 : laws_big.f code = some false := by rw [big_f]; exact congrArg some (decide_eq_false hbig)
  have hc : code.length ≤ 140737488351232 := by omega
  obtain ⟨h, en⟩ := l1New_ev code hc
  obtain ⟨l, i1, h1, e1, hl, _⟩ := l2Bent_ev code 0 h 14 hc (by omega) (by omega) (by omega)
  have eL : Ev (fun k => spec_DrawPackPages.f k code) l := by
   simp only [spec_DrawPackPages.f]
   exact Ev.bind en (Ev.tl e1 rfl)
  have hl15 : l.length ≤ 15 := by omega
  obtain ⟨q, i2, h2, e2, hq, hqs, j2⟩ := l4Draw_ev code 0 h hc (by omega)
  have eQ : Ev (fun k => spec_DrawFormatPages.f k code) q := by
   simp only [spec_DrawFormatPages.f]
   exact Ev.bind en (Ev.tl e2 rfl)
  have hfq := fpM_len q
  obtain ⟨s, eS, hs⟩ : ∃ s, Ev (fun k => spec_DrawParsePages.f k code) s ∧ s.size ≤ 1048576 := by
   obtain ⟨o, i3, h3, e3, j3⟩ := l1Once_some code i2 h2 3 hc j2
   by_cases ho : o = true
   ·obtain ⟨u, i4, h4, e4, hu, j4⟩ := l1Spoil_ev code i3 h3 (strOfNums (fpM q)) hc j3 (by rw [strOfNums_size]; omega)
    rw [strOfNums_size] at hu
    obtain ⟨x, i5, h5, e5, hx⟩ := l1Pick_some code i4 h4 (([(⟨#[]⟩ : ByteArray), (⟨#[91, 93]⟩ : ByteArray), (⟨#[91, 49, 46, 49, 46, 49]⟩ : ByteArray), (⟨#[49, 46, 49, 46, 49, 93]⟩ : ByteArray), (⟨#[91, 49, 46, 49, 46, 49, 93, 32]⟩ : ByteArray), (⟨#[91, 49, 46, 49, 46, 49, 93, 91, 93]⟩ : ByteArray), u] : List ByteArray)) hc j4 (by simp)
    refine ⟨x, ?_, ?_⟩
    ·simp only [spec_DrawParsePages.f]
     refine Ev.bind en (Ev.bind e2 (Ev.bind (spec_FormatPages_ev q (by omega) (fun x hx => by have := hqs x hx; omega)) ?_))
     simp only [e3, Option.bind_some]
     refine Ev.pos ho (Ev.bind e4 ?_)
     simp only [e5, Option.bind_some]
     exact Ev.now _
    ·simp only [List.mem_cons, List.not_mem_nil, or_false] at hx
     rcases hx with rfl | rfl | rfl | rfl | rfl | rfl | rfl
     all_goals first | omega | decide
   ·refine ⟨strOfNums (fpM q), ?_, by rw [strOfNums_size]; omega⟩
    simp only [spec_DrawParsePages.f]
    refine Ev.bind en (Ev.bind e2 (Ev.bind (spec_FormatPages_ev q (by omega) (fun x hx => by have := hqs x hx; omega)) ?_))
    simp only [e3, Option.bind_some]
    exact Ev.neg ho (Ev.now _)
  have hE : Ev (fun k => laws_FnPagePacking.f k code) true := by
   simp only [laws_FnPagePacking.f, hb0, Option.bind_some]
   refine Ev.neg (by decide) (Ev.bind eL (Ev.bind (impl_PackPages_ev l (by omega)) (Ev.bind (spec_PackPages_ev l (by omega)) (Ev.pos rfl (Ev.bind (spec_AreValidRows_ev l (by omega)) ?_)))))
   by_cases ha : avM l = true
   case neg =>
    refine Ev.neg ha ?_
    have e : packs l = [] := if_neg ha
    rw [e]
    exact Ev.now _
   refine Ev.pos ha ?_
   obtain ⟨pv, pn, pf⟩ := packs_ok ha
   obtain ⟨pl, ps⟩ := packs_bd l 15 hl15
   generalize packs l = p at pv pn pf pl ps
   have ht := tot_le p 15 ps
   have hts : tot p ≤ 1048576 := by omega
   have hfp := fpM_len p
   have ps6 : ∀ x ∈ p, x.f0.length ≤ 1048576 := fun x hx => by have := ps x hx; omega
   have eX := impl_ParsePages_ev s hs
   have eX' := spec_ParsePages_ev s hs
   have hX : (ppM (cutL 93 (numsB s) []) []).2 = true → strOfNums (fpM (ppM (cutL 93 (numsB s) []) []).1) = s := fun h_ => pp_trip (x := (ppM (cutL 93 (numsB s) []) []).1) (Prod.ext rfl h_)
   have hXl := ppM_len (cutL 93 (numsB s) []) []
   have hXs := ppM_small (cutL 93 (numsB s) []) [] (by simp)
   have hcl := cutL_len 93 (numsB s) []
   rw [numsB_len] at hcl
   generalize ppM (cutL 93 (numsB s) []) [] = x at eX eX' hX hXl hXs
   have eY := impl_ParsePages_ev (strOfNums (fpM p)) (by rw [strOfNums_size]; omega)
   rw [pp_fp pv] at eY
   have eU := impl_Unpack_ev p (by omega) hts
   rw [pf] at eU
   have hend : Ev (fun k => (impl_UnpackPages.f k p).bind fun t => (laws_sameRows.f k t l).bind fun u => some u) true := Ev.bind eU (Ev.tl (sameRows_ev l (by omega)) rfl)
   have key : ∀ (r : List S39) (i : Nat), p.drop i = r → nextP r → Ev (fun k => laws_FnPagePacking.l0 k code l p (i : Int)) true := by
    intro r
    induction r with
    | nil =>
     intro i h _
     refine Ev.succ ?_
     simp only [laws_FnPagePacking.l0]
     refine Ev.neg (drop_nil_lt h) (Ev.bind eQ (Ev.bind eS (Ev.bind eX (Ev.bind eX' (Ev.bind (impl_FormatPages_ev p (by omega) ps6) (Ev.bind eY (Ev.bind eU (Ev.bind (sameRows_ev l (by omega)) (Ev.pos rfl (Ev.bind (impl_FormatPages_ev q (by omega) (fun x hx => by have := hqs x hx; omega)) (Ev.bind (spec_FormatPages_ev q (by omega) (fun x hx => by have := hqs x hx; omega)) (Ev.pos rfl (Ev.pos (beq_self_eq_true _) ?_)))))))))))))
     by_cases hx2 : x.2 = true
     ·refine Ev.pos hx2 (Ev.bind (impl_FormatPages_ev x.1 (by simp only [List.length_nil] at hXl; omega) (fun y hy => by have := hXs y hy; omega)) ?_)
      rw [hX hx2]
      exact Ev.pos rfl (Ev.pos rfl hend)
     ·exact Ev.neg hx2 (Ev.pos rfl hend)
    | cons x r ih =>
     intro i h hn
     obtain ⟨g1, g2, g3⟩ := rdT39 h
     have hxm : x ∈ p := List.mem_of_mem_drop (h ▸ List.mem_cons_self ..)
     have hxv : vpM x.f0 = true := List.all_eq_true.1 pv x hxm
     have hxl := ps x hxm
     have en1 := nxt (show p.length ≤ 4611686018427387904 by omega) g1
     refine Ev.succ ?_
     simp only [laws_FnPagePacking.l0, g2, en1]
     refine Ev.pos g1 (Ev.pos (Int.natCast_nonneg _) (Ev.bind (impl_IsValidPage_ev _ (by omega)) (Ev.pos hxv (Ev.bind (spec_IsValidPage_ev _ (by omega)) (Ev.pos hxv ?_)))))
     cases r with
     | nil => exact Ev.neg (drop_nil_lt g3) (ih (i + 1) g3 trivial)
     | cons y r =>
      obtain ⟨k1, k2, k3⟩ := rdT39 g3
      obtain ⟨⟨z, t, ez, hz⟩, hn2⟩ := hn
      have ez0 : rd_T42 y.f0 0 = z := by rw [ez]; rfl
      refine Ev.pos k1 (Ev.pos (Int.natCast_nonneg _) ?_)
      simp only [k2, ez0]
      refine Ev.neg (by rw [ez, List.length_cons]; omega) (Ev.pos (by rw [ez, List.length_cons]; omega) (Ev.bind (impl_WouldOverflow_ev _ (by omega) _ _ _) (Ev.pos (decide_eq_true hz) (ih (i + 1) g3 hn2))))
   exact key p 0 rfl pn
  obtain ⟨K, h⟩ := hE
  exact ⟨K, h K (Nat.le_refl _)⟩
end Go.Proofs.Ytljpfogplcdcjaa.Pure
