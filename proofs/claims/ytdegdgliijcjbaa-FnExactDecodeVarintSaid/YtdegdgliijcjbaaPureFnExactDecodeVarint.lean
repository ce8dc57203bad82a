/- The program's DecodeVarint answers as the reference's does, for all arguments that the statement lets in; no further condition. -/
import Derived.Test.YtdegdgliijcjbaaQFnExactDecodeVarintx2
import Derived.Test.YtdegdgliijcjbaaCore
namespace Go.Proofs.Ytdegdgliijcjbaa.Pure
open Go.RowKit Go.Proofs.Ytdegdgliijcjbaa.PFnExactDecodeVarint Go.Proofs.YtdegdgliijcjbaaW.PrintWords Go.Proofs.YtdegdgliijcjbaaW.PrintLast Go.Proofs.YtdegdgliijcjbaaW.PrintMore Go.Proofs.Ytdegdgliijcjbaa.Core
set_option linter.unusedVariables false
set_option linter.unusedSimpArgs false

def vrI (n : Nat) : List Int := if h : n < 128 then [(n : Int)] else (((n % 128 : Nat) : Int) + 128) :: vrI (n / 128)
termination_by n
decreasing_by omega
theorem vrI_lt {n : Nat} (h : n < 128) : vrI n = [(n : Int)] := by rw [vrI, dif_pos h]
theorem vrI_ge {n : Nat} (h : ¬ n < 128) : vrI n = (((n % 128 : Nat) : Int) + 128) :: vrI (n / 128) := by rw [vrI, dif_neg h]
theorem vr_div (n : Nat) (hn : n ≤ 562949953421311) : wrap64 (Int.tdiv (n : Int) 128) = ((n / 128 : Nat) : Int) := by
  rw [Int.tdiv_eq_ediv_of_nonneg (by omega), w64 (by omega) (by omega)]; omega
def vrM (n : Int) : ByteArray := if 0 ≤ n ∧ n ≤ 562949953421311 then strOfNums (vrI n.toNat) else ⟨#[]⟩
def valI : List UInt8 → Nat
  | [] => 0
  | b :: r => b.toNat % 128 + 128 * valI r
theorem valI_snoc : ∀ (l : List UInt8) (b : UInt8), valI (l ++ [b]) = valI l + 128 ^ l.length * (b.toNat % 128)
  | [], b => by simp [valI]
  | c :: l, b => by
    have := valI_snoc l b
    simp only [List.cons_append, valI, this, List.length_cons, Nat.pow_succ]
    rw [Nat.mul_add, ← Nat.mul_assoc, Nat.mul_comm 128 (128 ^ l.length)]
    omega
theorem valI_lt : ∀ (l : List UInt8), valI l < 128 ^ l.length
  | [] => by simp [valI]
  | c :: l => by
    have := valI_lt l
    simp only [valI, List.length_cons, Nat.pow_succ]
    omega
theorem take_snoc' (s : ByteArray) (i : Nat) (h : i < s.data.toList.length) : s.data.toList.take (i + 1) = s.data.toList.take i ++ [s.data.toList[i]] := by
  rw [List.take_succ_eq_append_getElem h]
theorem valI_take (s : ByteArray) (i : Nat) (h : i < s.data.toList.length) : (valI (s.data.toList.take (i + 1)) : Int) = valI (s.data.toList.take i) + (128 ^ i : Nat) * (bt s (i : Int) % 128) := by
  rw [take_snoc' s i h, valI_snoc, bt_list s i h, List.length_take, Nat.min_eq_left (by omega)]
  push_cast
  rfl
theorem valI_bd (s : ByteArray) (i : Nat) (h : i ≤ 7) : valI (s.data.toList.take i) ≤ 562949953421311 := by
  have h1 := valI_lt (s.data.toList.take i)
  have h2 : 128 ^ (s.data.toList.take i).length ≤ 128 ^ 7 := Nat.pow_le_pow_right (by decide) (by rw [List.length_take]; omega)
  have : (128 : Nat) ^ 7 = 562949953421312 := by decide
  omega
def vrB (n : Nat) : List UInt8 := (vrI n).map fun x => UInt8.ofNat x.toNat
theorem vrB_lt {n : Nat} (h : n < 128) : vrB n = [UInt8.ofNat n] := by unfold vrB; rw [vrI_lt h]; simp
theorem vrB_ge {n : Nat} (h : ¬ n < 128) : vrB n = UInt8.ofNat (n % 128 + 128) :: vrB (n / 128) := by
  unfold vrB; rw [vrI_ge h, List.map_cons]
  congr 1
theorem vrB_pos (n : Nat) : vrB n ≠ [] := by
  by_cases h : n < 128
  · rw [vrB_lt h]; simp
  · rw [vrB_ge h]; simp
theorem vrB_last : ∀ (n : Nat) (l : List UInt8) (b : UInt8), vrB n = l ++ [b] → b.toNat < 128 ∧ ∀ c ∈ l, 128 ≤ c.toNat := by
  intro n
  induction n using Nat.strongRecOn with
  | _ n ih =>
    intro l b h
    by_cases hn : n < 128
    · rw [vrB_lt hn] at h
      cases l with
      | nil =>
        have : UInt8.ofNat n = b := by simpa using h
        subst this
        exact ⟨by simp; omega, fun c hc => by simp at hc⟩
      | cons c l => simp at h
    · rw [vrB_ge hn] at h
      cases l with
      | nil =>
        have := vrB_pos (n / 128)
        simp at h
        exact absurd h.2 this
      | cons c l =>
        rw [List.cons_append] at h
        injection h with h1 h2
        obtain ⟨i1, i2⟩ := ih (n / 128) (by omega) l b h2
        refine ⟨i1, fun d hd => ?_⟩
        rcases List.mem_cons.1 hd with rfl | hd
        · rw [← h1]; simp; omega
        · exact i2 d hd
theorem vrM_data (n : Nat) (h : n ≤ 562949953421311) : (vrM (n : Int)).data.toList = vrB n := by
  unfold vrM
  rw [if_pos ⟨by omega, by omega⟩, Int.toNat_natCast, strOfNums_data]; rfl
theorem vrM_toList (n : Nat) (h : n ≤ 562949953421311) : (vrM (n : Int)).toList = vrB n := by rw [toL, vrM_data n h]
theorem extract_toList (s : ByteArray) (k : Nat) : (s.extract 0 k).toList = s.data.toList.take k := by
  rw [toL, ByteArray.data_extract]
  simp
/-- What DecodeVarint answers from byte i on: d bytes at most. -/
def dvM (s : ByteArray) : Nat → Nat → Int × Int
  | 0, _ => (0, 0)
  | d + 1, i => if h : i < s.data.toList.length then
      (if s.data.toList[i].toNat < 128 then (if vrB (valI (s.data.toList.take (i + 1))) = s.data.toList.take (i + 1) then ((valI (s.data.toList.take (i + 1)) : Int), ((i + 1 : Nat) : Int)) else (0, 0)) else dvM s d (i + 1))
    else (0, 0)
theorem vr_miss_high (s : ByteArray) (n i : Nat) (h : i < s.data.toList.length) (hb : ¬ s.data.toList[i].toNat < 128) : vrB n ≠ s.data.toList.take (i + 1) := by
  intro he
  rw [take_snoc' s i h] at he
  exact hb (vrB_last n _ _ he).1
theorem vr_miss_low (s : ByteArray) (n i k : Nat) (h : i < s.data.toList.length) (hb : s.data.toList[i].toNat < 128) (hk : i + 1 ≤ k) (hkl : k < s.data.toList.length) : vrB n ≠ s.data.toList.take (k + 1) := by
  intro he
  rw [take_snoc' s k hkl] at he
  have := (vrB_last n _ _ he).2 s.data.toList[i] (by
    rw [List.mem_take_iff_getElem]
    exact ⟨i, by omega, rfl⟩)
  omega
theorem l1In_f (a b c : Int) : spec_l1In.f a b c = some (decide (b ≤ a) && decide (a ≤ c)) := by
  by_cases h : b ≤ a <;> simp [spec_l1In.f, h]
theorem spec_vr : ∀ (n : Nat) (x : List Int), n ≤ 562949953421311 → x.length + n / 128 < 140737488355328 → Ev (fun k => spec_EncodeVarint.l0 k (n : Int) x) (strOfNums (x ++ vrI n)) := by
  intro n
  induction n using Nat.strongRecOn with
  | _ n ih =>
    intro x hn hx
    refine Ev.succ ?_
    by_cases h : n < 128
    · simp only [spec_EncodeVarint.l0, if_neg (show ¬ (n : Int) ≥ 128 by omega), if_pos (show x.length < 140737488355328 by omega), vrI_lt h, Int.emod_eq_of_lt (show (0 : Int) ≤ n by omega) (show (n : Int) < 256 by omega)]
      exact Ev.now _
    · have e : (wrap64 (128 + Int.tmod (n : Int) 128)) % 256 = ((n % 128 : Nat) : Int) + 128 := by
        rw [Int.tmod_eq_emod_of_nonneg (by omega), w64 (by omega) (by omega)]; omega
      simp only [spec_EncodeVarint.l0, if_pos (show (n : Int) ≥ 128 by omega), if_pos (show x.length < 140737488355328 by omega), vrI_ge h, vr_div n hn, e]
      have := ih (n / 128) (by omega) (x ++ [((n % 128 : Nat) : Int) + 128]) (by omega) (by simp only [List.length_append, List.length_cons, List.length_nil]; omega)
      simpa using this
theorem spec_EncodeVarint_ev (n : Int) : Ev (fun k => spec_EncodeVarint.f k n) (vrM n) := by
  simp only [spec_EncodeVarint.f, l1In_f, Option.bind_some]
  unfold vrM
  by_cases h : 0 ≤ n ∧ n ≤ 562949953421311
  · rw [if_pos h]
    refine Ev.pos (by simp; exact h) ?_
    obtain ⟨n, rfl⟩ := Int.eq_ofNat_of_zero_le h.1
    exact spec_vr n [] (by omega) (by simp only [List.length_nil]; omega)
  · rw [if_neg h]
    exact Ev.neg (by simp; omega) (Ev.now _)
theorem dv_bound {n c : Int} {d : Nat} (h0 : 0 ≤ n) (hc : 0 ≤ c ∧ c ≤ 127) (hp : (n + 1) * 128 ^ (d + 1) ≤ 562949953421312) : 0 ≤ n * 128 + c ∧ (n * 128 + c + 1) * 128 ^ d ≤ 562949953421312 ∧ n * 128 + c < 562949953421312 := by
  have h1 : (0 : Int) < 128 ^ d := Int.pow_pos (by decide)
  have e : (n + 1) * 128 ^ (d + 1) = ((n + 1) * 128) * 128 ^ d := by rw [Int.pow_succ, Int.mul_comm (128 ^ d) 128, Int.mul_assoc]
  have h2 : (n * 128 + c + 1) * 128 ^ d ≤ ((n + 1) * 128) * 128 ^ d := Int.mul_le_mul_of_nonneg_right (by omega) (Int.le_of_lt h1)
  have h3 : (n * 128 + c + 1) * 1 ≤ (n * 128 + c + 1) * 128 ^ d := Int.mul_le_mul_of_nonneg_left (by omega) (by omega)
  refine ⟨by omega, by omega, by omega⟩
theorem spec_dvl (s : ByteArray) (k : Nat) (hk : k ≤ s.data.toList.length) (hk1 : 1 ≤ k) (hk7 : k ≤ 7) (r : Int × Int) (hd : if vrB (valI (s.data.toList.take k)) = s.data.toList.take k then r = ((valI (s.data.toList.take k) : Int), (k : Int)) else Ev (fun m => spec_DecodeVarint.l0 m s ((k + 1 : Nat) : Int)) r) :
    ∀ (i : Nat) (n : Int), i ≤ k → 0 ≤ n → (n + 1) * 128 ^ i ≤ 562949953421312 → n * 128 ^ i + valI (s.data.toList.take i) = valI (s.data.toList.take k) →
    Ev (fun m => spec_DecodeVarint.l1 m s (k : Int) n ((i : Int) - 1)) r := by
  intro i
  induction i with
  | zero =>
    intro n hi h0 hp he
    have hn : n = (valI (s.data.toList.take k) : Int) := by simpa [valI] using he
    subst hn
    have hb := valI_bd s k hk7
    refine Ev.succ ?_
    simp only [spec_DecodeVarint.l1]
    refine Ev.neg (by omega) (Ev.bind (spec_EncodeVarint_ev _) (Ev.pos (by omega) (Ev.pos (by rw [ba_size]; omega) ?_)))
    simp only [vrM_toList _ hb, Int.toNat_natCast, extract_toList]
    by_cases hm : vrB (valI (s.data.toList.take k)) = s.data.toList.take k
    · rw [if_pos hm] at hd; exact Ev.pos hm (Ev.now' hd.symm)
    · rw [if_neg hm] at hd
      have e : wrap64 ((k : Int) + 1) = ((k + 1 : Nat) : Int) := by rw [w64 (by omega) (by omega)]; omega
      simp only [e]
      exact Ev.neg hm hd
  | succ i ih =>
    intro n hi h0 hp he
    have hb := bt_range s i
    have hil : i < s.data.toList.length := by omega
    obtain ⟨b1, b2, b3⟩ := dv_bound (c := bt s i % 128) h0 (by omega) hp
    have ei : ((i + 1 : Nat) : Int) - 1 = (i : Int) := by omega
    refine Ev.succ ?_
    simp only [spec_DecodeVarint.l1, ei, bt_w, Int.tmod_eq_emod_of_nonneg hb.1]
    refine Ev.pos (by omega) (Ev.pos (by omega) (Ev.pos (by rw [ba_size]; omega) ?_))
    rw [w64 (x := n * 128) (by omega) (by omega), w64 (x := n * 128 + bt s i % 128) (by omega) (by omega), w64 (x := (i : Int) - 1) (by omega) (by omega)]
    refine ih _ (by omega) b1 b2 ?_
    rw [valI_take s i hil] at he
    rw [← he, Int.add_mul, Int.pow_succ, Int.mul_comm (bt s i % 128)]
    have : ((128 ^ i : Nat) : Int) = 128 ^ i := by simp
    rw [this, Int.mul_comm (128 ^ i) 128, Int.mul_assoc]
    omega
theorem spec_dv_none (s : ByteArray) (i : Nat) (h : i < s.data.toList.length) (hb : s.data.toList[i].toNat < 128) : ∀ (d k : Nat), k + d = 8 → i + 2 ≤ k → Ev (fun m => spec_DecodeVarint.l0 m s (k : Int)) (0, 0) := by
  intro d
  induction d with
  | zero =>
    intro k hk hi
    refine Ev.succ ?_
    simp only [spec_DecodeVarint.l0]
    refine Ev.neg (by omega) (Ev.succ ?_)
    simp only [spec_DecodeVarint.j1]
    exact Ev.neg (by decide) (Ev.now _)
  | succ d ih =>
    intro k hk hi
    refine Ev.succ ?_
    simp only [spec_DecodeVarint.l0]
    refine Ev.pos (by omega) (Ev.succ ?_)
    simp only [spec_DecodeVarint.j1]
    by_cases hkl : k ≤ s.data.toList.length
    · refine Ev.pos (by simp only [decide_eq_true_eq]; rw [ba_size]; omega) ?_
      obtain ⟨k, rfl⟩ : ∃ m, k = m + 1 := ⟨k - 1, by omega⟩
      have ek : wrap64 (((k + 1 : Nat) : Int) - 1) = (((k + 1 : Nat)) : Int) - 1 := w64 (by omega) (by omega)
      simp only [ek]
      refine spec_dvl s (k + 1) hkl (by omega) (by omega) _ ?_ (k + 1) 0 (Nat.le_refl _) (by omega) ?_ (by simp)
      · rw [if_neg (vr_miss_low s _ i k h hb (by omega) (by omega))]
        exact ih (k + 1 + 1) (by omega) (by omega)
      · have : (128 : Nat) ^ (k + 1) ≤ 128 ^ 7 := Nat.pow_le_pow_right (by decide) (by omega)
        have : ((128 ^ (k + 1) : Nat) : Int) ≤ ((128 ^ 7 : Nat) : Int) := by exact_mod_cast this
        simpa using this
    · exact Ev.neg (by simp only [decide_eq_true_eq]; rw [ba_size]; omega) (Ev.now _)
theorem spec_DecodeVarint_ev (s : ByteArray) : Ev (fun k => spec_DecodeVarint.f k s) (dvM s 7 0) := by
  have key : ∀ (d i : Nat), i + d = 7 → Ev (fun m => spec_DecodeVarint.l0 m s ((i + 1 : Nat) : Int)) (dvM s d i) := by
    intro d
    induction d with
    | zero =>
      intro i hi
      refine Ev.succ ?_
      simp only [spec_DecodeVarint.l0]
      refine Ev.neg (by omega) (Ev.succ ?_)
      simp only [spec_DecodeVarint.j1, dvM]
      exact Ev.neg (by decide) (Ev.now _)
    | succ d ih =>
      intro i hi
      refine Ev.succ ?_
      simp only [spec_DecodeVarint.l0]
      refine Ev.pos (by omega) (Ev.succ ?_)
      simp only [spec_DecodeVarint.j1, dvM]
      by_cases h : i < s.data.toList.length
      · rw [dif_pos h]
        refine Ev.pos (by simp only [decide_eq_true_eq]; rw [ba_size]; omega) ?_
        have ek : wrap64 (((i + 1 : Nat) : Int) - 1) = (((i + 1 : Nat)) : Int) - 1 := w64 (by omega) (by omega)
        simp only [ek]
        refine spec_dvl s (i + 1) (by omega) (by omega) (by omega) _ ?_ (i + 1) 0 (Nat.le_refl _) (by omega) ?_ (by simp)
        · by_cases hb : s.data.toList[i].toNat < 128
          · rw [if_pos hb]
            by_cases hm : vrB (valI (s.data.toList.take (i + 1))) = s.data.toList.take (i + 1)
            · rw [if_pos hm, if_pos hm]
            · rw [if_neg hm, if_neg hm]
              exact spec_dv_none s i h hb d (i + 2) (by omega) (by omega)
          · rw [if_neg hb, if_neg (vr_miss_high s _ i h hb)]
            exact ih (i + 1) (by omega)
        · have : (128 : Nat) ^ (i + 1) ≤ 128 ^ 7 := Nat.pow_le_pow_right (by decide) (by omega)
          have : ((128 ^ (i + 1) : Nat) : Int) ≤ ((128 ^ 7 : Nat) : Int) := by exact_mod_cast this
          simpa using this
      · rw [dif_neg h]
        exact Ev.neg (by simp only [decide_eq_true_eq]; rw [ba_size]; omega) (Ev.now _)
  exact key 7 0 rfl
theorem impl_vr : ∀ (n : Nat) (x : List Int), n ≤ 562949953421311 → x.length + n / 128 < 140737488355328 → Ev (fun k => impl_EncodeVarint.l0 k (n : Int) x) (strOfNums (x ++ vrI n)) := by
  intro n
  induction n using Nat.strongRecOn with
  | _ n ih =>
    intro x hn hx
    refine Ev.succ ?_
    by_cases h : n < 128
    · simp only [impl_EncodeVarint.l0, if_neg (show ¬ (n : Int) ≥ 128 by omega), if_pos (show x.length < 140737488355328 by omega), vrI_lt h, Int.emod_eq_of_lt (show (0 : Int) ≤ n by omega) (show (n : Int) < 256 by omega)]
      exact Ev.now _
    · have e : ((Int.tmod (n : Int) 128) % 256 + 128) % 256 = ((n % 128 : Nat) : Int) + 128 := by
        rw [Int.tmod_eq_emod_of_nonneg (by omega)]; omega
      have e' : ((Int.tmod (n : Int) 128) + 128) % 256 = ((n % 128 : Nat) : Int) + 128 := by
        rw [Int.tmod_eq_emod_of_nonneg (by omega)]; omega
      simp only [impl_EncodeVarint.l0, if_pos (show (n : Int) ≥ 128 by omega), if_pos (show x.length < 140737488355328 by omega), vrI_ge h, vr_div n hn, e, e']
      have := ih (n / 128) (by omega) (x ++ [((n % 128 : Nat) : Int) + 128]) (by omega) (by simp only [List.length_append, List.length_cons, List.length_nil]; omega)
      simpa using this
theorem impl_EncodeVarint_ev (n : Int) : Ev (fun k => impl_EncodeVarint.f k n) (vrM n) := by
  simp only [impl_EncodeVarint.f]
  unfold vrM
  by_cases h0 : n < 0
  · rw [if_neg (by omega)]
    refine Ev.pos h0 (Ev.succ ?_)
    simp only [impl_EncodeVarint.j0]
    exact Ev.pos (by trivial) (Ev.now _)
  · refine Ev.neg h0 (Ev.succ ?_)
    simp only [impl_EncodeVarint.j0]
    by_cases h : n ≤ 562949953421311
    · rw [if_pos ⟨by omega, h⟩]
      refine Ev.neg (by simp; omega) ?_
      obtain ⟨n, rfl⟩ := Int.eq_ofNat_of_zero_le (show 0 ≤ n by omega)
      exact impl_vr n [] (by omega) (by simp only [List.length_nil]; omega)
    · rw [if_neg (by omega)]
      exact Ev.pos (by simp; omega) (Ev.now _)
theorem bits_comm (k : IntKind) (a b : Int) : Go.bits .or k a b = Go.bits .or k b a := by
  simp only [Go.bits, BitVec.or_comm]
theorem wraps_i64v (n : Int) (h0 : 0 ≤ n) (h1 : n < 2 ^ 63) : IntKind.i64.wrap n = n := by rw [IntKind.wrap_i64]; omega
theorem and127 (x : Int) (h0 : 0 ≤ x) (h1 : x ≤ 255) : Go.bits .and .u8 x 127 = x % 128 := bits_mask .u8 8 (by decide) wraps_u8 7 (by decide) x h0 (by omega)
theorem dv_or (n c : Int) (i : Nat) (hi : i ≤ 6) (h0 : 0 ≤ n) (h1 : n < 128 ^ i) (hc : 0 ≤ c ∧ c ≤ 255) :
    Go.bits .or .i64 n (shl .i64 (wrap64 (Go.bits .and .u8 c 127)) (wrap64 (7 * (i : Int)))) = n + (128 ^ i : Nat) * (c % 128) := by
  rw [and127 c hc.1 hc.2, w64 (x := c % 128) (by omega) (by omega), w64 (x := 7 * (i : Int)) (by omega) (by omega)]
  have e1 : (7 * (i : Int)).toNat = 7 * i := by omega
  have hp : (2 : Int) ^ (7 * i) = 128 ^ i := by rw [Int.pow_mul]; rfl
  have hpn : ((128 ^ i : Nat) : Int) = 128 ^ i := by simp
  have hle : (128 : Int) ^ i ≤ 4398046511104 := by
    have : (128 : Nat) ^ i ≤ 128 ^ 6 := Nat.pow_le_pow_right (by decide) hi
    have : ((128 ^ i : Nat) : Int) ≤ ((128 ^ 6 : Nat) : Int) := by exact_mod_cast this
    simpa using this
  have hp1 : (1 : Int) ≤ 128 ^ i := by
    have := Int.pow_pos (n := 128) (m := i) (by decide)
    omega
  have hm : c % 128 * 128 ^ i ≤ 127 * 128 ^ i := Int.mul_le_mul_of_nonneg_right (by omega) (by omega)
  have hm0 : 0 ≤ c % 128 * 128 ^ i := Int.mul_nonneg (by omega) (by omega)
  have e2 : shl .i64 (c % 128) (7 * (i : Int)) = c % 128 * 128 ^ i := by
    unfold shl
    rw [e1, Nat.min_eq_left (by simp [IntKind.bits]; omega), hp, IntKind.wrap_i64]
    omega
  rw [e2, bits_comm, hpn, Int.mul_comm (128 ^ i)]
  have := bits_join .i64 63 (by decide) wraps_i64v (7 * i) (c % 128 * 128 ^ i) n hm0 (by rw [hp]; exact Int.mul_emod_left _ _) (by omega) h0 (by rw [hp]; exact h1) (by omega)
  rw [this]
  omega
theorem impl_DecodeVarint_ev (s : ByteArray) : Ev (fun k => impl_DecodeVarint.f k s) (dvM s 7 0) := by
  have key : ∀ (d i : Nat), i + d = 7 → i ≤ s.data.toList.length → Ev (fun m => impl_DecodeVarint.l0 m s (valI (s.data.toList.take i) : Int) (i : Int)) (dvM s d i) := by
    intro d
    induction d with
    | zero =>
      intro i hi hl
      refine Ev.succ ?_
      simp only [impl_DecodeVarint.l0, dvM]
      by_cases h : (i : Int) < (s.size : Int)
      · refine Ev.pos h (Ev.succ ?_)
        simp only [impl_DecodeVarint.j1]
        exact Ev.neg (by simp; omega) (Ev.now _)
      · refine Ev.neg h (Ev.succ ?_)
        simp only [impl_DecodeVarint.j1]
        exact Ev.neg (by decide) (Ev.now _)
    | succ d ih =>
      intro i hi hl
      refine Ev.succ ?_
      simp only [impl_DecodeVarint.l0, dvM]
      by_cases h : i < s.data.toList.length
      · have hs : (i : Int) < (s.size : Int) := by rw [ba_size]; omega
        have hb := bt_range s i
        have hv := valI_lt (s.data.toList.take i)
        rw [List.length_take, Nat.min_eq_left (by omega)] at hv
        have hv' : (valI (s.data.toList.take i) : Int) < 128 ^ i := by
          have : ((valI (s.data.toList.take i) : Nat) : Int) < ((128 ^ i : Nat) : Int) := by exact_mod_cast hv
          simpa using this
        have e1 : wrap64 ((i : Int) + 1) = ((i + 1 : Nat) : Int) := by rw [w64 (by omega) (by omega)]; omega
        have hbd := valI_bd s (i + 1) (by omega)
        have hor := dv_or (valI (s.data.toList.take i)) (bt s i) i (by omega) (by omega) hv' hb
        rw [← valI_take s i h] at hor
        have Hor := Aside0.mk hor
        clear hor
        rw [dif_pos h]
        refine Ev.pos hs (Ev.succ ?_)
        simp only [impl_DecodeVarint.j1, Hor.out, e1]
        refine Ev.pos (by simp; omega) (Ev.pos (by omega) (Ev.pos hs (Ev.pos (by rw [w64 (by omega) (by omega)]; omega) ?_)))
        by_cases hl8 : s.data.toList[i].toNat < 128
        · rw [if_pos hl8]
          refine Ev.pos (by rw [bt_list s i h]; omega) (Ev.bind (impl_EncodeVarint_ev _) (Ev.pos (by omega) (Ev.pos (by rw [ba_size]; omega) ?_)))
          simp only [vrM_toList _ hbd, Int.toNat_natCast, extract_toList]
          by_cases hm : vrB (valI (s.data.toList.take (i + 1))) = s.data.toList.take (i + 1)
          · simp only [if_pos hm]; exact Ev.now _
          · simp only [if_neg hm]; exact Ev.now _
        · rw [if_neg hl8]
          exact Ev.neg (by rw [bt_list s i h]; omega) (ih (i + 1) (by omega) (by omega))
      · rw [dif_neg h]
        refine Ev.neg (by rw [ba_size]; omega) (Ev.succ ?_)
        simp only [impl_DecodeVarint.j1]
        exact Ev.neg (by decide) (Ev.now _)
  exact key 7 0 rfl (Nat.zero_le _)
theorem FnExactDecodeVarint : laws_FnExactDecodeVarint.Pure := by
  intro s hs
  refine Ev.rounds ?_
  simp only [laws_FnExactDecodeVarint.f]
  by_cases h : (s.size : Int) > 1048576
  · exact Ev.pos h (Ev.now _)
  · refine Ev.neg h (Ev.bind (spec_DecodeVarint_ev s) (Ev.tl (impl_DecodeVarint_ev s) ?_))
    simp

end Go.Proofs.Ytdegdgliijcjbaa.Pure
