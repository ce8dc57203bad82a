/- each decoder returns the encoded value whatever bytes follow, and accepts nothing else, for every drawn input; no further condition. -/
import Derived.Test.YtkipmmkjbeeemaaQFnEncodingsx7
import Derived.Test.YtkipmmkjbeeemaaCore
namespace Go.Proofs.Ytkipmmkjbeeemaa.Pure
open Go.RowKit Go.Proofs.Ytkipmmkjbeeemaa.PFnEncodings Go.Proofs.YtkipmmkjbeeemaaW.PrintWords Go.Proofs.YtkipmmkjbeeemaaW.PrintLast Go.Proofs.YtkipmmkjbeeemaaW.PrintMore Go.Proofs.Ytkipmmkjbeeemaa.Core
set_option linter.unusedVariables false
set_option linter.unusedSimpArgs false

def vrI (n : Nat) : List Int := if h : n < 128 then [(n : Int)] else (((n % 128 : Nat) : Int) + 128) :: vrI (n / 128)
termination_by n
decreasing_by omega
theorem vrI_lt {n : Nat} (h : n < 128) : vrI n = [(n : Int)] := by rw [vrI, dif_pos h]
theorem vrI_ge {n : Nat} (h : ¬ n < 128) : vrI n = (((n % 128 : Nat) : Int) + 128) :: vrI (n / 128) := by rw [vrI, dif_neg h]
theorem vr_div (n : Nat) (hn : n ≤ 562949953421311) : wrap64 (Int.tdiv (n : Int) 128) = ((n / 128 : Nat) : Int) := by
  rw [Int.tdiv_eq_ediv_of_nonneg (by omega), w64 (by omega) (by omega)]; omega
def vrM (n : Int) : ByteArray := if 0 ≤ n ∧ n ≤ 562949953421311 then strOfNums (vrI n.toNat) else ⟨#[]⟩
theorem l1In_f (a b c : Int) : spec_l1In.f a b c = some (decide (b ≤ a) && decide (a ≤ c)) := by
  by_cases h : b ≤ a <;> simp [spec_l1In.f, h]
theorem spec_vr : ∀ (n : Nat) (x : List Int), n ≤ 562949953421311 → x.length + n / 128 < 140737488355328 → Ev (fun k => spec_EncodeVarint.l0 k (n : Int) x) (strOfNums (x ++ vrI n)) := by
  intro n
  induction n using Nat.strongRecOn with
  | _ n ih =>
    intro x hn hx
    refine Ev.succ ?_
    by_cases h : n < 128
    · simp only [spec_EncodeVarint.l0, if_neg (show ¬ (n : Int) ≥ 128 by omega), if_pos (show x.length < 140737488355328 by omega), vrI_lt h, Int.emod_eq_of_lt (show (0 : Int) ≤ n by omega) (show (n : Int) < 256 by omega)]
      exact Ev.now _
    · have e : (wrap64 (128 + Int.tmod (n : Int) 128)) % 256 = ((n % 128 : Nat) : Int) + 128 := by
        rw [Int.tmod_eq_emod_of_nonneg (by omega), w64 (by omega) (by omega)]; omega
      simp only [spec_EncodeVarint.l0, if_pos (show (n : Int) ≥ 128 by omega), if_pos (show x.length < 140737488355328 by omega), vrI_ge h, vr_div n hn, e]
      have := ih (n / 128) (by omega) (x ++ [((n % 128 : Nat) : Int) + 128]) (by omega) (by simp only [List.length_append, List.length_cons, List.length_nil]; omega)
      simpa using this
theorem spec_EncodeVarint_ev (n : Int) : Ev (fun k => spec_EncodeVarint.f k n) (vrM n) := by
  simp only [spec_EncodeVarint.f, l1In_f, Option.bind_some]
  unfold vrM
  by_cases h : 0 ≤ n ∧ n ≤ 562949953421311
  · rw [if_pos h]
    refine Ev.pos (by simp; exact h) ?_
    obtain ⟨n, rfl⟩ := Int.eq_ofNat_of_zero_le h.1
    exact spec_vr n [] (by omega) (by simp only [List.length_nil]; omega)
  · rw [if_neg h]
    exact Ev.neg (by simp; omega) (Ev.now _)
def valI : List UInt8 → Nat
  | [] => 0
  | b :: r => b.toNat % 128 + 128 * valI r
theorem valI_snoc : ∀ (l : List UInt8) (b : UInt8), valI (l ++ [b]) = valI l + 128 ^ l.length * (b.toNat % 128)
  | [], b => by simp [valI]
  | c :: l, b => by
    have := valI_snoc l b
    simp only [List.cons_append, valI, this, List.length_cons, Nat.pow_succ]
    rw [Nat.mul_add, ← Nat.mul_assoc, Nat.mul_comm 128 (128 ^ l.length)]
    omega
theorem valI_lt : ∀ (l : List UInt8), valI l < 128 ^ l.length
  | [] => by simp [valI]
  | c :: l => by
    have := valI_lt l
    simp only [valI, List.length_cons, Nat.pow_succ]
    omega
theorem take_snoc' (s : ByteArray) (i : Nat) (h : i < s.data.toList.length) : s.data.toList.take (i + 1) = s.data.toList.take i ++ [s.data.toList[i]] := by
  rw [List.take_succ_eq_append_getElem h]
theorem valI_take (s : ByteArray) (i : Nat) (h : i < s.data.toList.length) : (valI (s.data.toList.take (i + 1)) : Int) = valI (s.data.toList.take i) + (128 ^ i : Nat) * (bt s (i : Int) % 128) := by
  rw [take_snoc' s i h, valI_snoc, bt_list s i h, List.length_take, Nat.min_eq_left (by omega)]
  push_cast
  rfl
theorem valI_bd (s : ByteArray) (i : Nat) (h : i ≤ 7) : valI (s.data.toList.take i) ≤ 562949953421311 := by
  have h1 := valI_lt (s.data.toList.take i)
  have h2 : 128 ^ (s.data.toList.take i).length ≤ 128 ^ 7 := Nat.pow_le_pow_right (by decide) (by rw [List.length_take]; omega)
  have : (128 : Nat) ^ 7 = 562949953421312 := by decide
  omega
def vrB (n : Nat) : List UInt8 := (vrI n).map fun x => UInt8.ofNat x.toNat
theorem vrB_lt {n : Nat} (h : n < 128) : vrB n = [UInt8.ofNat n] := by unfold vrB; rw [vrI_lt h]; simp
theorem vrB_ge {n : Nat} (h : ¬ n < 128) : vrB n = UInt8.ofNat (n % 128 + 128) :: vrB (n / 128) := by
  unfold vrB; rw [vrI_ge h, List.map_cons]
  congr 1
theorem vrB_pos (n : Nat) : vrB n ≠ [] := by
  by_cases h : n < 128
  · rw [vrB_lt h]; simp
  · rw [vrB_ge h]; simp
theorem vrB_last : ∀ (n : Nat) (l : List UInt8) (b : UInt8), vrB n = l ++ [b] → b.toNat < 128 ∧ ∀ c ∈ l, 128 ≤ c.toNat := by
  intro n
  induction n using Nat.strongRecOn with
  | _ n ih =>
    intro l b h
    by_cases hn : n < 128
    · rw [vrB_lt hn] at h
      cases l with
      | nil =>
        have : UInt8.ofNat n = b := by simpa using h
        subst this
        exact ⟨by simp; omega, fun c hc => by simp at hc⟩
      | cons c l => simp at h
    · rw [vrB_ge hn] at h
      cases l with
      | nil =>
        have := vrB_pos (n / 128)
        simp at h
        exact absurd h.2 this
      | cons c l =>
        rw [List.cons_append] at h
        injection h with h1 h2
        obtain ⟨i1, i2⟩ := ih (n / 128) (by omega) l b h2
        refine ⟨i1, fun d hd => ?_⟩
        rcases List.mem_cons.1 hd with rfl | hd
        · rw [← h1]; simp; omega
        · exact i2 d hd
theorem vrM_data (n : Nat) (h : n ≤ 562949953421311) : (vrM (n : Int)).data.toList = vrB n := by
  unfold vrM
  rw [if_pos ⟨by omega, by omega⟩, Int.toNat_natCast, strOfNums_data]; rfl
theorem vrM_toList (n : Nat) (h : n ≤ 562949953421311) : (vrM (n : Int)).toList = vrB n := by rw [toL, vrM_data n h]
theorem extract_toList (s : ByteArray) (k : Nat) : (s.extract 0 k).toList = s.data.toList.take k := by
  rw [toL, ByteArray.data_extract]
  simp
/-- What DecodeVarint answers from byte i on: d bytes at most. -/
def dvM (s : ByteArray) : Nat → Nat → Int × Int
  | 0, _ => (0, 0)
  | d + 1, i => if h : i < s.data.toList.length then
      (if s.data.toList[i].toNat < 128 then (if vrB (valI (s.data.toList.take (i + 1))) = s.data.toList.take (i + 1) then ((valI (s.data.toList.take (i + 1)) : Int), ((i + 1 : Nat) : Int)) else (0, 0)) else dvM s d (i + 1))
    else (0, 0)
theorem vr_miss_high (s : ByteArray) (n i : Nat) (h : i < s.data.toList.length) (hb : ¬ s.data.toList[i].toNat < 128) : vrB n ≠ s.data.toList.take (i + 1) := by
  intro he
  rw [take_snoc' s i h] at he
  exact hb (vrB_last n _ _ he).1
theorem vr_miss_low (s : ByteArray) (n i k : Nat) (h : i < s.data.toList.length) (hb : s.data.toList[i].toNat < 128) (hk : i + 1 ≤ k) (hkl : k < s.data.toList.length) : vrB n ≠ s.data.toList.take (k + 1) := by
  intro he
  rw [take_snoc' s k hkl] at he
  have := (vrB_last n _ _ he).2 s.data.toList[i] (by
    rw [List.mem_take_iff_getElem]
    exact ⟨i, by omega, rfl⟩)
  omega
theorem impl_vr : ∀ (n : Nat) (x : List Int), n ≤ 562949953421311 → x.length + n / 128 < 140737488355328 → Ev (fun k => impl_EncodeVarint.l0 k (n : Int) x) (strOfNums (x ++ vrI n)) := by
  intro n
  induction n using Nat.strongRecOn with
  | _ n ih =>
    intro x hn hx
    refine Ev.succ ?_
    by_cases h : n < 128
    · simp only [impl_EncodeVarint.l0, if_neg (show ¬ (n : Int) ≥ 128 by omega), if_pos (show x.length < 140737488355328 by omega), vrI_lt h, Int.emod_eq_of_lt (show (0 : Int) ≤ n by omega) (show (n : Int) < 256 by omega)]
      exact Ev.now _
    · have e : ((Int.tmod (n : Int) 128) % 256 + 128) % 256 = ((n % 128 : Nat) : Int) + 128 := by
        rw [Int.tmod_eq_emod_of_nonneg (by omega)]; omega
      have e' : ((Int.tmod (n : Int) 128) + 128) % 256 = ((n % 128 : Nat) : Int) + 128 := by
        rw [Int.tmod_eq_emod_of_nonneg (by omega)]; omega
      simp only [impl_EncodeVarint.l0, if_pos (show (n : Int) ≥ 128 by omega), if_pos (show x.length < 140737488355328 by omega), vrI_ge h, vr_div n hn, e, e']
      have := ih (n / 128) (by omega) (x ++ [((n % 128 : Nat) : Int) + 128]) (by omega) (by simp only [List.length_append, List.length_cons, List.length_nil]; omega)
      simpa using this
theorem impl_EncodeVarint_ev (n : Int) : Ev (fun k => impl_EncodeVarint.f k n) (vrM n) := by
  simp only [impl_EncodeVarint.f]
  unfold vrM
  by_cases h0 : n < 0
  · rw [if_neg (by omega)]
    refine Ev.pos h0 (Ev.succ ?_)
    simp only [impl_EncodeVarint.j0]
    exact Ev.pos (by trivial) (Ev.now _)
  · refine Ev.neg h0 (Ev.succ ?_)
    simp only [impl_EncodeVarint.j0]
    by_cases h : n ≤ 562949953421311
    · rw [if_pos ⟨by omega, h⟩]
      refine Ev.neg (by simp; omega) ?_
      obtain ⟨n, rfl⟩ := Int.eq_ofNat_of_zero_le (show 0 ≤ n by omega)
      exact impl_vr n [] (by omega) (by simp only [List.length_nil]; omega)
    · rw [if_neg (by omega)]
      exact Ev.pos (by simp; omega) (Ev.now _)
theorem bits_comm (k : IntKind) (a b : Int) : Go.bits .or k a b = Go.bits .or k b a := by
  simp only [Go.bits, BitVec.or_comm]
theorem wraps_i64v (n : Int) (h0 : 0 ≤ n) (h1 : n < 2 ^ 63) : IntKind.i64.wrap n = n := by rw [IntKind.wrap_i64]; omega
theorem and127 (x : Int) (h0 : 0 ≤ x) (h1 : x ≤ 255) : Go.bits .and .u8 x 127 = x % 128 := bits_mask .u8 8 (by decide) wraps_u8 7 (by decide) x h0 (by omega)
theorem dv_or (n c : Int) (i : Nat) (hi : i ≤ 6) (h0 : 0 ≤ n) (h1 : n < 128 ^ i) (hc : 0 ≤ c ∧ c ≤ 255) :
    Go.bits .or .i64 n (shl .i64 (wrap64 (Go.bits .and .u8 c 127)) (wrap64 (7 * (i : Int)))) = n + (128 ^ i : Nat) * (c % 128) := by
  rw [and127 c hc.1 hc.2, w64 (x := c % 128) (by omega) (by omega), w64 (x := 7 * (i : Int)) (by omega) (by omega)]
  have e1 : (7 * (i : Int)).toNat = 7 * i := by omega
  have hp : (2 : Int) ^ (7 * i) = 128 ^ i := by rw [Int.pow_mul]; rfl
  have hpn : ((128 ^ i : Nat) : Int) = 128 ^ i := by simp
  have hle : (128 : Int) ^ i ≤ 4398046511104 := by
    have : (128 : Nat) ^ i ≤ 128 ^ 6 := Nat.pow_le_pow_right (by decide) hi
    have : ((128 ^ i : Nat) : Int) ≤ ((128 ^ 6 : Nat) : Int) := by exact_mod_cast this
    simpa using this
  have hp1 : (1 : Int) ≤ 128 ^ i := by
    have := Int.pow_pos (n := 128) (m := i) (by decide)
    omega
  have hm : c % 128 * 128 ^ i ≤ 127 * 128 ^ i := Int.mul_le_mul_of_nonneg_right (by omega) (by omega)
  have hm0 : 0 ≤ c % 128 * 128 ^ i := Int.mul_nonneg (by omega) (by omega)
  have e2 : shl .i64 (c % 128) (7 * (i : Int)) = c % 128 * 128 ^ i := by
    unfold shl
    rw [e1, Nat.min_eq_left (by simp [IntKind.bits]; omega), hp, IntKind.wrap_i64]
    omega
  rw [e2, bits_comm, hpn, Int.mul_comm (128 ^ i)]
  have := bits_join .i64 63 (by decide) wraps_i64v (7 * i) (c % 128 * 128 ^ i) n hm0 (by rw [hp]; exact Int.mul_emod_left _ _) (by omega) h0 (by rw [hp]; exact h1) (by omega)
  rw [this]
  omega
theorem impl_DecodeVarint_ev (s : ByteArray) : Ev (fun k => impl_DecodeVarint.f k s) (dvM s 7 0) := by
  have key : ∀ (d i : Nat), i + d = 7 → i ≤ s.data.toList.length → Ev (fun m => impl_DecodeVarint.l0 m s (valI (s.data.toList.take i) : Int) (i : Int)) (dvM s d i) := by
    intro d
    induction d with
    | zero =>
      intro i hi hl
      refine Ev.succ ?_
      simp only [impl_DecodeVarint.l0, dvM]
      by_cases h : (i : Int) < (s.size : Int)
      · refine Ev.pos h (Ev.succ ?_)
        simp only [impl_DecodeVarint.j1]
        exact Ev.neg (by simp; omega) (Ev.now _)
      · refine Ev.neg h (Ev.succ ?_)
        simp only [impl_DecodeVarint.j1]
        exact Ev.neg (by decide) (Ev.now _)
    | succ d ih =>
      intro i hi hl
      refine Ev.succ ?_
      simp only [impl_DecodeVarint.l0, dvM]
      by_cases h : i < s.data.toList.length
      · have hs : (i : Int) < (s.size : Int) := by rw [ba_size]; omega
        have hb := bt_range s i
        have hv := valI_lt (s.data.toList.take i)
        rw [List.length_take, Nat.min_eq_left (by omega)] at hv
        have hv' : (valI (s.data.toList.take i) : Int) < 128 ^ i := by
          have : ((valI (s.data.toList.take i) : Nat) : Int) < ((128 ^ i : Nat) : Int) := by exact_mod_cast hv
          simpa using this
        have e1 : wrap64 ((i : Int) + 1) = ((i + 1 : Nat) : Int) := by rw [w64 (by omega) (by omega)]; omega
        have hbd := valI_bd s (i + 1) (by omega)
        have hor := dv_or (valI (s.data.toList.take i)) (bt s i) i (by omega) (by omega) hv' hb
        rw [← valI_take s i h] at hor
        have Hor := Aside0.mk hor
        clear hor
        rw [dif_pos h]
        refine Ev.pos hs (Ev.succ ?_)
        simp only [impl_DecodeVarint.j1, Hor.out, e1]
        refine Ev.pos (by simp; omega) (Ev.pos (by omega) (Ev.pos hs (Ev.pos (by rw [w64 (by omega) (by omega)]; omega) ?_)))
        by_cases hl8 : s.data.toList[i].toNat < 128
        · rw [if_pos hl8]
          refine Ev.pos (by rw [bt_list s i h]; omega) (Ev.bind (impl_EncodeVarint_ev _) (Ev.pos (by omega) (Ev.pos (by rw [ba_size]; omega) ?_)))
          simp only [vrM_toList _ hbd, Int.toNat_natCast, extract_toList]
          by_cases hm : vrB (valI (s.data.toList.take (i + 1))) = s.data.toList.take (i + 1)
          · simp only [if_pos hm]; exact Ev.now _
          · simp only [if_neg hm]; exact Ev.now _
        · rw [if_neg hl8]
          exact Ev.neg (by rw [bt_list s i h]; omega) (ih (i + 1) (by omega) (by omega))
      · rw [dif_neg h]
        refine Ev.neg (by rw [ba_size]; omega) (Ev.succ ?_)
        simp only [impl_DecodeVarint.j1]
        exact Ev.neg (by decide) (Ev.now _)
  exact key 7 0 rfl (Nat.zero_le _)
def fxI : Nat → Nat → List Int
  | 0, _ => []
  | w + 1, n => fxI w (n / 256) ++ [((n % 256 : Nat) : Int)]
theorem fxI_length : ∀ (w n : Nat), (fxI w n).length = w
  | 0, _ => rfl
  | w + 1, n => by simp [fxI, fxI_length w]
theorem div_pow_succ (n i : Nat) : n / 256 / 256 ^ i = n / 256 ^ (i + 1) := by rw [Nat.div_div_eq_div_mul, Nat.pow_succ, Nat.mul_comm]
def fxM (n w : Int) : ByteArray := if 1 ≤ w ∧ w ≤ 7 ∧ 0 ≤ n ∧ n.toNat / 256 ^ w.toNat = 0 then strOfNums (fxI w.toNat n.toNat) else ⟨#[]⟩
theorem impl_fx : ∀ (d n : Nat) (s : List Int), d + s.length ≤ 7 →
    Ev (fun k => impl_EncodeFixed.l0 k (n : Int) (List.replicate d 0 ++ s) ((d : Int) - 1)) (strOfNums (fxI d n ++ s)) := by
  intro d
  induction d with
  | zero =>
    intro n s hd
    refine Ev.succ ?_
    simp only [impl_EncodeFixed.l0, fxI, List.replicate_zero]
    exact Ev.neg (by omega) (Ev.now _)
  | succ d ih =>
    intro n s hd
    refine Ev.succ ?_
    have e0 : ((d + 1 : Nat) : Int) - 1 = (d : Int) := by omega
    have e1 : (List.replicate (d + 1) (0 : Int) ++ s).set d (((n : Int)) % 256) = List.replicate d 0 ++ (((n % 256 : Nat) : Int) :: s) := by
      rw [List.replicate_succ', List.append_assoc, List.set_append_right _ _ (by simp)]
      simp
    have e2 : ((n : Int) / 256) = ((n / 256 : Nat) : Int) := by omega
    simp only [impl_EncodeFixed.l0, e0, Int.toNat_natCast, e1, e2, if_pos (Int.natCast_nonneg d), if_pos (show (d : Int) ≥ 0 by omega)]
    refine Ev.pos (by simp only [List.length_append, List.length_replicate]; omega) ?_
    rw [w64 (by omega) (by omega)]
    have := ih (n / 256) (((n % 256 : Nat) : Int) :: s) (by simp only [List.length_cons]; omega)
    simpa [fxI] using this
theorem shr_fx (n w : Nat) (hw : w ≤ 7) : shr .i64 (n : Int) (wrap64 (8 * (w : Int))) = ((n / 256 ^ w : Nat) : Int) := by
  rw [w64 (by omega) (by omega)]
  unfold shr
  have e : (8 * (w : Int)).toNat = 8 * w := by omega
  have e2 : (256 : Nat) ^ w = 2 ^ (8 * w) := by rw [Nat.pow_mul]
  rw [e, Nat.min_eq_left (by simp [IntKind.bits]; omega), e2, Int.natCast_ediv]
  simp
theorem impl_EncodeFixed_ev (n w : Int) (hn : n ≤ 9223372036854775807) : Ev (fun k => impl_EncodeFixed.f k n w) (fxM n w) := by
  simp only [impl_EncodeFixed.f]
  unfold fxM
  by_cases h1 : w < 1
  · rw [if_neg (by omega)]
    refine Ev.pos h1 (Ev.succ ?_)
    simp only [impl_EncodeFixed.j0]
    exact Ev.pos (by trivial) (Ev.now _)
  refine Ev.neg h1 ?_
  by_cases h2 : w > 7
  · rw [if_neg (by omega)]
    refine Ev.pos h2 (Ev.succ ?_)
    simp only [impl_EncodeFixed.j0]
    exact Ev.pos (by trivial) (Ev.now _)
  refine Ev.neg h2 ?_
  by_cases h0 : n < 0
  · rw [if_neg (by omega)]
    refine Ev.pos h0 (Ev.succ ?_)
    simp only [impl_EncodeFixed.j0]
    exact Ev.pos (by trivial) (Ev.now _)
  refine Ev.neg h0 ?_
  obtain ⟨w, rfl⟩ := Int.eq_ofNat_of_zero_le (show 0 ≤ w by omega)
  obtain ⟨n, rfl⟩ := Int.eq_ofNat_of_zero_le (show 0 ≤ n by omega)
  simp only [shr_fx n w (by omega), Int.toNat_natCast]
  refine Ev.pos (by rw [w64 (by omega) (by omega)]; omega) (Ev.succ ?_)
  simp only [impl_EncodeFixed.j0]
  by_cases hz : n / 256 ^ w = 0
  · rw [if_pos ⟨by omega, by omega, by omega, hz⟩]
    refine Ev.neg (by simp [hz]) (Ev.pos (by omega) (Ev.pos (by simp only [Int.toNat_natCast]; omega) ?_))
    have := impl_fx w n [] (by simp only [List.length_nil]; omega)
    rw [w64 (by omega) (by omega)]
    simpa using this
  · rw [if_neg (fun hh => hz hh.2.2.2)]
    exact Ev.pos (bne_iff_ne.2 (fun hh => hz (Int.ofNat.inj hh))) (Ev.now _)
def decV (s : ByteArray) : Nat → Nat → Int → Int
  | 0, _, n => n
  | d + 1, i, n => decV s d (i + 1) (n * 256 + bt s (i : Int))
theorem dec_bound {n c : Int} {d : Nat} (h0 : 0 ≤ n) (hc : 0 ≤ c ∧ c ≤ 255) (hp : (n + 1) * 256 ^ (d + 1) ≤ 72057594037927936) : 0 ≤ n * 256 + c ∧ (n * 256 + c + 1) * 256 ^ d ≤ 72057594037927936 ∧ n * 256 + c < 72057594037927936 := by
  have h1 : (0 : Int) < 256 ^ d := Int.pow_pos (by decide)
  have e : (n + 1) * 256 ^ (d + 1) = ((n + 1) * 256) * 256 ^ d := by rw [Int.pow_succ, Int.mul_comm (256 ^ d) 256, Int.mul_assoc]
  have h2 : (n * 256 + c + 1) * 256 ^ d ≤ ((n + 1) * 256) * 256 ^ d := Int.mul_le_mul_of_nonneg_right (by omega) (Int.le_of_lt h1)
  have h3 : (n * 256 + c + 1) * 1 ≤ (n * 256 + c + 1) * 256 ^ d := Int.mul_le_mul_of_nonneg_left (by omega) (by omega)
  refine ⟨by omega, by omega, by omega⟩
theorem wraps_i64' (n : Int) (h0 : 0 ≤ n) (h1 : n < 2 ^ 63) : IntKind.i64.wrap n = n := by rw [IntKind.wrap_i64]; omega
theorem dec_or (n c : Int) (h0 : 0 ≤ n) (h1 : n * 256 + c < 72057594037927936) (hc : 0 ≤ c ∧ c ≤ 255) : Go.bits .or .i64 (wrap64 (n * 256)) (wrap64 c) = n * 256 + c := by
  rw [w64 (x := n * 256) (by omega) (by omega), w64 (x := c) (by omega) (by omega)]
  exact bits_join .i64 63 (by decide) wraps_i64' 8 (n * 256) c (by omega) (by omega) (by omega) (by omega) (by omega) (by omega)
def decM (s : ByteArray) (w : Int) : Int × Bool := if 1 ≤ w ∧ w ≤ 7 ∧ w ≤ s.size then (decV s w.toNat 0 0, true) else (0, false)
theorem impl_decL (s : ByteArray) (w : Nat) (hw : w ≤ 7) (hs : w ≤ s.size) : ∀ (d i : Nat) (n : Int), i + d = w → 0 ≤ n → (n + 1) * 256 ^ d ≤ 72057594037927936 →
    Ev (fun k => impl_DecodeFixed.l0 k s n (w : Int) (i : Int)) (decV s d i n, true) := by
  intro d
  induction d with
  | zero =>
    intro i n hi h0 hp
    refine Ev.succ ?_
    simp only [impl_DecodeFixed.l0]
    exact Ev.neg (by omega) (Ev.now _)
  | succ d ih =>
    intro i n hi h0 hp
    have hb := bt_range s i
    obtain ⟨b1, b2, b3⟩ := dec_bound h0 hb hp
    refine Ev.succ ?_
    simp only [impl_DecodeFixed.l0, dec_or n (bt s i) h0 b3 hb]
    refine Ev.pos (by omega) (Ev.pos (by omega) (Ev.pos (by omega) ?_))
    rw [w64 (x := (i : Int) + 1) (by omega) (by omega)]
    exact ih (i + 1) _ (by omega) b1 b2
theorem impl_DecodeFixed_ev (s : ByteArray) (w : Int) : Ev (fun k => impl_DecodeFixed.f k s w) (decM s w) := by
  simp only [impl_DecodeFixed.f]
  unfold decM
  by_cases h1 : w < 1
  · rw [if_neg (by omega)]
    refine Ev.pos h1 (Ev.succ ?_)
    simp only [impl_DecodeFixed.j0]
    exact Ev.pos (by trivial) (Ev.now _)
  refine Ev.neg h1 ?_
  by_cases h3 : w > 7
  · rw [if_neg (by omega)]
    refine Ev.pos h3 (Ev.succ ?_)
    simp only [impl_DecodeFixed.j0]
    exact Ev.pos (by trivial) (Ev.now _)
  refine Ev.neg h3 (Ev.succ ?_)
  simp only [impl_DecodeFixed.j0]
  by_cases h2 : w ≤ s.size
  · obtain ⟨w, rfl⟩ := Int.eq_ofNat_of_zero_le (show 0 ≤ w by omega)
    rw [if_pos ⟨by omega, by omega, h2⟩]
    refine Ev.neg (by simp; omega) ?_
    simp only [Int.toNat_natCast]
    have hp : (0 + 1) * 256 ^ w ≤ (72057594037927936 : Int) := by
      have : (256 : Nat) ^ w ≤ 256 ^ 7 := Nat.pow_le_pow_right (by decide) (by omega)
      have : ((256 ^ w : Nat) : Int) ≤ ((256 ^ 7 : Nat) : Int) := by exact_mod_cast this
      simpa using this
    exact impl_decL s w (by omega) (by omega) w 0 0 (by omega) (by omega) hp
  · rw [if_neg (by omega)]
    exact Ev.pos (by simp; omega) (Ev.now _)
def dgs (n : Nat) : List Int := if h : n = 0 then [] else dgs (n / 10) ++ [48 + ((n % 10 : Nat) : Int)]
termination_by n
decreasing_by omega
theorem dgs_zero : dgs 0 = [] := by rw [dgs, dif_pos rfl]
theorem dgs_pos {n : Nat} (h : n ≠ 0) : dgs n = dgs (n / 10) ++ [48 + ((n % 10 : Nat) : Int)] := by rw [dgs, dif_neg h]
theorem dgs_length : ∀ (k n : Nat), n < 10 ^ k → (dgs n).length ≤ k
  | 0, n, h => by
    have : n = 0 := by simpa using h
    subst this; rw [dgs_zero]; exact Nat.le_refl _
  | k + 1, n, h => by
    by_cases h0 : n = 0
    · subst h0; rw [dgs_zero]; exact Nat.zero_le _
    · rw [dgs_pos h0]
      have := dgs_length k (n / 10) (by rw [Nat.pow_succ] at h; omega)
      simp only [List.length_append, List.length_cons, List.length_nil]; omega
def dec (n : Nat) : List Int := if n = 0 then [48] else dgs n
def fmtI (n : Int) : List Int := if n < 0 then 45 :: dec n.natAbs else dec n.natAbs
theorem str_cons (c : Int) (s : List Int) : strOfNums [c] ++ strOfNums s = strOfNums (c :: s) := by
  rw [str_mkB, str_mkB, str_mkB, mkB_append]; rfl
theorem str_append (a b : List Int) : strOfNums a ++ strOfNums b = strOfNums (a ++ b) := by
  rw [str_mkB, str_mkB, str_mkB, mkB_append, List.map_append]
theorem str_minus (s : List Int) : (⟨#[45]⟩ : ByteArray) ++ strOfNums s = strOfNums (45 :: s) := str_cons 45 s
theorem dec_len (n : Nat) (hn : n ≤ 9223372036854775808) : (dec n).length ≤ 19 := by
  unfold dec
  split
  · decide
  · exact dgs_length 19 n (by omega)
/-- The digits of a text, other signs passed over. -/
def dval : List Int → Int → Int
  | [], n => n
  | c :: r, n => if 48 ≤ c ∧ c ≤ 57 then dval r (n * 10 + (c - 48)) else dval r n
def dcnt : List Int → Int → Int
  | [], n => n
  | c :: r, n => if 48 ≤ c ∧ c ≤ 57 then dcnt r (n + 1) else dcnt r n
theorem dval_append : ∀ (a b : List Int) (n : Int), dval (a ++ b) n = dval b (dval a n)
  | [], b, n => rfl
  | c :: a, b, n => by
    simp only [List.cons_append, dval]
    split <;> exact dval_append a b _
theorem dcnt_append : ∀ (a b : List Int) (n : Int), dcnt (a ++ b) n = dcnt b (dcnt a n)
  | [], b, n => rfl
  | c :: a, b, n => by
    simp only [List.cons_append, dcnt]
    split <;> exact dcnt_append a b _
def isDig (c : Int) : Prop := 48 ≤ c ∧ c ≤ 57
theorem dgs_dig : ∀ (n : Nat), ∀ c ∈ dgs n, 48 ≤ c ∧ c ≤ 57 := by
  intro n
  induction n using Nat.strongRecOn with
  | _ n ih =>
    intro c hc
    by_cases h : n = 0
    · subst h; rw [dgs_zero] at hc; simp at hc
    · rw [dgs_pos h] at hc
      rcases List.mem_append.1 hc with hc | hc
      · exact ih (n / 10) (by omega) c hc
      · have : c = 48 + ((n % 10 : Nat) : Int) := by simpa using hc
        omega
theorem dec_dig (n : Nat) : ∀ c ∈ dec n, 48 ≤ c ∧ c ≤ 57 := by
  intro c hc
  unfold dec at hc
  split at hc
  · have : c = 48 := by simpa using hc
    omega
  · exact dgs_dig n c hc
theorem dgs_val : ∀ (n : Nat), dval (dgs n) 0 = n := by
  intro n
  induction n using Nat.strongRecOn with
  | _ n ih =>
    by_cases h : n = 0
    · subst h; rw [dgs_zero]; rfl
    · rw [dgs_pos h, dval_append, ih (n / 10) (by omega)]
      simp only [dval]
      rw [if_pos (by omega)]
      omega
theorem dec_val (n : Nat) : dval (dec n) 0 = n := by
  unfold dec
  split
  · rename_i h; subst h; rfl
  · exact dgs_val n
theorem dcnt_dig : ∀ (l : List Int) (n : Int), (∀ c ∈ l, 48 ≤ c ∧ c ≤ 57) → dcnt l n = n + l.length
  | [], n, _ => by simp [dcnt]
  | c :: r, n, h => by
    simp only [dcnt]
    rw [if_pos (h c (by simp)), dcnt_dig r (n + 1) (fun d hd => h d (by simp [hd]))]
    simp only [List.length_cons]; omega
theorem dec_pos (n : Nat) : 1 ≤ (dec n).length := by
  unfold dec
  split
  · decide
  · rename_i h; rw [dgs_pos h]; simp
theorem dgs_len_lt (n : Nat) (h : n < 1000000000) : (dgs n).length ≤ 9 := dgs_length 9 n h
theorem dec_len9 (n : Nat) (h : n < 1000000000) : (dec n).length ≤ 9 := by
  unfold dec
  split
  · decide
  · exact dgs_len_lt n h
theorem dgs_len_ge : ∀ (k n : Nat), 10 ^ k ≤ n → k + 1 ≤ (dgs n).length
  | 0, n, h => by
    have : n ≠ 0 := by have : (1 : Nat) ≤ n := by simpa using h
                       omega
    rw [dgs_pos this]; simp
  | k + 1, n, h => by
    have h0 : n ≠ 0 := by have := Nat.pow_pos (n := k + 1) (show 0 < 10 by decide); omega
    have := dgs_len_ge k (n / 10) (by rw [Nat.pow_succ] at h; omega)
    rw [dgs_pos h0]; simp only [List.length_append, List.length_cons, List.length_nil]; omega
theorem dec_small (n : Nat) (h : (dec n).length ≤ 9) : n < 1000000000 := by
  rcases Nat.lt_or_ge n 1000000000 with h' | h'
  · exact h'
  · have := dgs_len_ge 9 n h'
    unfold dec at h
    rw [if_neg (by omega)] at h
    omega
theorem dec_range (n : Nat) : ∀ c ∈ dec n, 0 ≤ c ∧ c ≤ 255 := fun c hc => by have := dec_dig n c hc; omega
theorem fmtI_range (n : Int) : ∀ c ∈ fmtI n, 0 ≤ c ∧ c ≤ 255 := by
  intro c hc
  unfold fmtI at hc
  split at hc
  · rcases List.mem_cons.1 hc with rfl | hc
    · omega
    · exact dec_range _ c hc
  · exact dec_range _ c hc
/-- The numbers of a text's bytes. -/
def numsB (s : ByteArray) : List Int := s.data.toList.map fun b => (b.toNat : Int)
theorem numsB_len (s : ByteArray) : (numsB s).length = s.size := by unfold numsB; rw [List.length_map, ← ba_size]
theorem numsB_str (l : List Int) (h : ∀ c ∈ l, 0 ≤ c ∧ c ≤ 255) : numsB (strOfNums l) = l := by
  unfold numsB
  rw [strOfNums_data, List.map_map]
  have : ∀ c ∈ l, ((fun b : UInt8 => (b.toNat : Int)) ∘ fun n : Int => UInt8.ofNat n.toNat) c = id c := by
    intro c hc
    have := h c hc
    simp; omega
  rw [List.map_congr_left this, List.map_id]
theorem str_numsB (s : ByteArray) : strOfNums (numsB s) = s := by
  unfold numsB strOfNums
  rw [List.map_map]
  have : ((fun n : Int => UInt8.ofNat n.toNat) ∘ fun b : UInt8 => (b.toNat : Int)) = id := by funext b; simp
  rw [this, List.map_id]
theorem str_eq (l : List Int) (s : ByteArray) (h : ∀ c ∈ l, 0 ≤ c ∧ c ≤ 255) : (strOfNums l).toList = s.toList ↔ numsB s = l := by
  rw [toL, toL]
  constructor
  · intro he
    have : strOfNums l = s := by apply ByteArray.ext; exact Array.toList_inj.1 he
    rw [← this, numsB_str l h]
  · intro he
    rw [← he, str_numsB]
theorem numsB_drop_nil {s : ByteArray} {i : Nat} (h : (numsB s).drop i = []) : ¬ (i : Int) < (s.size : Int) := by
  have := List.drop_eq_nil_iff.1 h
  rw [numsB_len] at this
  omega
theorem numsB_drop_cons {s : ByteArray} {i : Nat} {b : Int} {l : List Int} (h : (numsB s).drop i = b :: l) : (i : Int) < (s.size : Int) ∧ bt s (i : Int) = b ∧ (numsB s).drop (i + 1) = l ∧ 0 ≤ b ∧ b ≤ 255 := by
  obtain ⟨hi, h1, h2⟩ := drop_split h
  have hi' : i < s.data.toList.length := by rw [numsB_len] at hi; rw [← ba_size]; exact hi
  have e : bt s (i : Int) = b := by
    rw [bt_list s i hi', ← h1]; simp [numsB]
  refine ⟨by rw [numsB_len] at hi; omega, e, h2, ?_⟩
  have := bt_range s i
  omega
/-- What ParseInt answers. -/
def PInt (s : ByteArray) (r : Int × Bool) : Prop := (r.2 = true ∧ numsB s = fmtI r.1 ∧ r.1.natAbs < 1000000000) ∨ (r = (0, false) ∧ ∀ n : Int, n.natAbs < 1000000000 → numsB s ≠ fmtI n)
theorem fmtI_inj {a b : Int} (h : fmtI a = fmtI b) : a = b := by
  have hd : ∀ n : Nat, ∀ c r, dec n = c :: r → c ≠ 45 := fun n c r he hc => by have := dec_dig n c (by rw [he]; simp); omega
  have hne : ∀ n : Nat, dec n ≠ [] := fun n he => by have := dec_pos n; rw [he] at this; simp at this
  have hv : ∀ m n : Nat, dec m = dec n → m = n := fun m n he => by
    have h1 := dec_val m
    rw [he, dec_val n] at h1
    omega
  unfold fmtI at h
  by_cases ha : a < 0 <;> by_cases hb : b < 0
  · rw [if_pos ha, if_pos hb] at h
    have := hv _ _ (List.cons.inj h).2
    omega
  · rw [if_pos ha, if_neg hb] at h
    exact absurd rfl (hd b.natAbs 45 _ h.symm)
  · rw [if_neg ha, if_pos hb] at h
    exact absurd rfl (hd a.natAbs 45 _ h)
  · rw [if_neg ha, if_neg hb] at h
    have := hv _ _ h
    omega
theorem PInt_unique {s : ByteArray} {r q : Int × Bool} (h : PInt s r) (k : PInt s q) : r = q := by
  rcases h with ⟨h1, h2, h3⟩ | ⟨h1, h2⟩ <;> rcases k with ⟨k1, k2, k3⟩ | ⟨k1, k2⟩
  · have : r.1 = q.1 := fmtI_inj (h2.symm.trans k2)
    exact Prod.ext this (h1.trans k1.symm)
  · exact absurd h2 (k2 _ h3)
  · exact absurd k2 (h2 _ k3)
  · rw [h1, k1]
theorem pi_bound {n c : Int} {d : Nat} (h0 : 0 ≤ n) (hc : 0 ≤ c ∧ c ≤ 9) (hp : (n + 1) * 10 ^ (d + 1) ≤ 100000000000) : 0 ≤ n * 10 + c ∧ (n * 10 + c + 1) * 10 ^ d ≤ 100000000000 ∧ n * 10 + c < 100000000000 ∧ n < 100000000000 := by
  have h1 : (0 : Int) < 10 ^ d := Int.pow_pos (by decide)
  have e : (n + 1) * 10 ^ (d + 1) = ((n + 1) * 10) * 10 ^ d := by rw [Int.pow_succ, Int.mul_comm (10 ^ d) 10, Int.mul_assoc]
  have h2 : (n * 10 + c + 1) * 10 ^ d ≤ ((n + 1) * 10) * 10 ^ d := Int.mul_le_mul_of_nonneg_right (by omega) (Int.le_of_lt h1)
  have h3 : (n * 10 + c + 1) * 1 ≤ (n * 10 + c + 1) * 10 ^ d := Int.mul_le_mul_of_nonneg_left (by omega) (by omega)
  refine ⟨by omega, by omega, by omega, by omega⟩
theorem pi_bound0 {n : Int} {d : Nat} (h0 : 0 ≤ n) (hp : (n + 1) * 10 ^ (d + 1) ≤ 100000000000) : (n + 1) * 10 ^ d ≤ 100000000000 ∧ n < 100000000000 := by
  have h1 : (0 : Int) < 10 ^ d := Int.pow_pos (by decide)
  have e : (n + 1) * 10 ^ (d + 1) = ((n + 1) * 10 ^ d) * 10 := by rw [Int.pow_succ, Int.mul_assoc]
  have h3 : (n + 1) * 1 ≤ (n + 1) * 10 ^ d := Int.mul_le_mul_of_nonneg_left (by omega) (by omega)
  omega
theorem pi_ten {d : Nat} (h : d ≤ 11) : ((0 : Int) + 1) * 10 ^ d ≤ 100000000000 := by
  have : (10 : Nat) ^ d ≤ 10 ^ 11 := Nat.pow_le_pow_right (by decide) h
  have : ((10 ^ d : Nat) : Int) ≤ ((10 ^ 11 : Nat) : Int) := by exact_mod_cast this
  simpa using this
theorem pi_less {n : Int} {d : Nat} (h0 : 0 ≤ n) (hp : (n + 1) * 10 ^ d ≤ 100000000000) : n < 100000000000 := by
  have h1 : (0 : Int) < 10 ^ d := Int.pow_pos (by decide)
  have h3 : (n + 1) * 1 ≤ (n + 1) * 10 ^ d := Int.mul_le_mul_of_nonneg_left (by omega) (by omega)
  omega
theorem dval_fmtI (m : Int) : dval (fmtI m) 0 = m.natAbs := by
  unfold fmtI
  split
  · simp only [dval]; rw [if_neg (by omega)]; exact dec_val _
  · exact dec_val _
theorem dcnt_fmtI (m : Int) : dcnt (fmtI m) 0 = (dec m.natAbs).length := by
  unfold fmtI
  split
  · simp only [dcnt]; rw [if_neg (by omega), dcnt_dig _ _ (dec_dig _)]; omega
  · rw [dcnt_dig _ _ (dec_dig _)]; omega
def negB (s : ByteArray) : Bool := decide (0 < (s.size : Int)) && (bt s 0 == 45)
theorem bt0_hd {s : ByteArray} {c : Int} {r : List Int} (h : numsB s = c :: r) : 0 < (s.size : Int) ∧ bt s 0 = c := by
  have := numsB_drop_cons (s := s) (i := 0) (b := c) (l := r) h
  exact ⟨this.1, this.2.1⟩
theorem negB_fmtI {s : ByteArray} {m : Int} (h : numsB s = fmtI m) : negB s = decide (m < 0) := by
  unfold negB
  by_cases hm : m < 0
  · unfold fmtI at h
    rw [if_pos hm] at h
    obtain ⟨h1, h2⟩ := bt0_hd h
    rw [decide_eq_true h1, h2, decide_eq_true hm]; rfl
  · unfold fmtI at h
    rw [if_neg hm] at h
    have hp := dec_pos m.natAbs
    cases hd : dec m.natAbs with
    | nil => rw [hd] at hp; simp at hp
    | cons c r =>
      rw [hd] at h
      obtain ⟨h1, h2⟩ := bt0_hd h
      have := dec_dig m.natAbs c (by rw [hd]; simp)
      have e : (bt s 0 == 45) = false := by rw [h2]; simp; omega
      simp [e, hm]
theorem fmtI_len9 {m : Int} (h : m.natAbs < 1000000000) : (fmtI m).length ≤ 10 := by
  have := dec_len9 _ h
  unfold fmtI
  split
  · simp only [List.length_cons]; omega
  · omega
theorem u64w (x : Int) : IntKind.u64.wrap x = x % 18446744073709551616 := by simp [IntKind.wrap, IntKind.bits, IntKind.signed]
theorem impl_dec : ∀ (n : Nat), n ≤ 9223372036854775808 → Ev (fun k => impl_decimal.f k (n : Int)) (strOfNums (dec n)) := by
  intro n
  induction n using Nat.strongRecOn with
  | _ n ih =>
    intro hn
    refine Ev.succ ?_
    simp only [impl_decimal.f]
    by_cases h : n < 10
    · refine Ev.pos (by omega) (Ev.now' ?_)
      have e : IntKind.u64.wrap (48 + (n : Int)) % 256 = 48 + (n : Int) := by rw [u64w]; omega
      rw [e]
      unfold dec
      by_cases h0 : n = 0
      · subst h0; rfl
      · rw [if_neg h0, dgs_pos h0, show n / 10 = 0 by omega, dgs_zero, show n % 10 = n by omega]; rfl
    · refine Ev.neg (by omega) ?_
      have e1 : IntKind.u64.wrap (Int.tdiv (n : Int) 10) = ((n / 10 : Nat) : Int) := by rw [Int.tdiv_eq_ediv_of_nonneg (by omega), u64w]; omega
      have e2 : IntKind.u64.wrap (48 + Int.tmod (n : Int) 10) % 256 = 48 + ((n % 10 : Nat) : Int) := by rw [Int.tmod_eq_emod_of_nonneg (by omega), u64w]; omega
      simp only [e1, e2, Option.bind_some]
      refine Ev.tl (ih (n / 10) (by omega) (by omega)) ?_
      have hl := dec_len (n / 10) (by omega)
      rw [if_pos (by rw [strOfNums_size, strOfNums_size]; simp only [List.length_cons, List.length_nil]; omega), str_append]
      have e3 : dec n = dec (n / 10) ++ [48 + ((n % 10 : Nat) : Int)] := by
        unfold dec
        rw [if_neg (show ¬ n = 0 by omega), if_neg (show ¬ n / 10 = 0 by omega), dgs_pos (show n ≠ 0 by omega)]
      rw [e3]
theorem impl_FormatInt_ev (n : Int) (h1 : -9223372036854775808 ≤ n) (h2 : n ≤ 9223372036854775807) : Ev (fun k => impl_FormatInt.f k n) (strOfNums (fmtI n)) := by
  simp only [impl_FormatInt.f]
  have hl := dec_len n.natAbs (by omega)
  by_cases h : n < 0
  · refine Ev.pos h ?_
    have e : IntKind.u64.wrap (-(IntKind.u64.wrap n)) = (n.natAbs : Int) := by rw [u64w, u64w]; omega
    simp only [e]
    refine Ev.tl (impl_dec n.natAbs (by omega)) ?_
    rw [if_pos (by rw [strOfNums_size]; omega), str_minus]
    unfold fmtI
    rw [if_pos h]
  · refine Ev.neg h ?_
    have e : IntKind.u64.wrap n = (n.natAbs : Int) := by rw [u64w]; omega
    simp only [e]
    refine Ev.tl (impl_dec n.natAbs (by omega)) ?_
    unfold fmtI
    rw [if_neg h]
theorem numsB_tail (s : ByteArray) : numsB (s.extract 1 s.size) = (numsB s).drop 1 := by
  unfold numsB
  rw [ByteArray.data_extract, Array.toList_extract, ← List.map_drop]
  congr 1
  rw [ba_size, List.extract_eq_take_drop, List.take_of_length_le (by rw [List.length_drop]; omega)]
def digs (s : ByteArray) : List Int := if negB s = true then (numsB s).drop 1 else numsB s
def allDig (l : List Int) : Bool := l.all fun c => decide (48 ≤ c) && decide (c ≤ 57)
def piI (s : ByteArray) : Int × Bool :=
  if (digs s).length < 1 ∨ (digs s).length > 9 then (0, false) else if allDig (digs s) = true then
    (if numsB s = fmtI (if negB s = true then -(dval (digs s) 0) else dval (digs s) 0) then ((if negB s = true then -(dval (digs s) 0) else dval (digs s) 0), true) else (0, false)) else (0, false)
theorem piI_ok (s : ByteArray) : PInt s (piI s) := by
  have low : ∀ m : Int, m.natAbs < 1000000000 → numsB s = fmtI m → piI s = (m, true) := by
    intro m hm h
    have hn := negB_fmtI h
    have hd : digs s = dec m.natAbs := by
      unfold digs
      rw [hn, h]
      unfold fmtI
      by_cases hh : m < 0
      · rw [if_pos (by simpa using hh), if_pos hh]; rfl
      · rw [if_neg (by simpa using hh), if_neg hh]
    have hv : (if negB s = true then -(dval (digs s) 0) else dval (digs s) 0) = m := by
      rw [hd, dec_val, hn]
      by_cases hh : m < 0
      · rw [if_pos (by simpa using hh)]; omega
      · rw [if_neg (by simpa using hh)]; omega
    have h9 := dec_len9 _ hm
    have h1 := dec_pos m.natAbs
    have ha : allDig (dec m.natAbs) = true := by
      unfold allDig
      rw [List.all_eq_true]
      intro c hc
      have := dec_dig _ c hc
      simp; omega
    unfold piI
    rw [hv, hd, if_neg (by omega), if_pos ha, if_pos h]
  by_cases hex : ∃ m : Int, m.natAbs < 1000000000 ∧ numsB s = fmtI m
  · obtain ⟨m, hm, h⟩ := hex
    rw [low m hm h]
    exact .inl ⟨rfl, h, hm⟩
  · refine .inr ⟨?_, fun n hn h => hex ⟨n, hn, h⟩⟩
    unfold piI
    split
    · rfl
    · rename_i hl
      split
      · generalize hv : (if negB s = true then -(dval (digs s) 0) else dval (digs s) 0) = v
        split
        · rename_i h
          have hd : digs s = dec v.natAbs := by
            unfold digs
            rw [negB_fmtI h, h]
            unfold fmtI
            by_cases hh : v < 0
            · rw [if_pos (by simpa using hh), if_pos hh]; rfl
            · rw [if_neg (by simpa using hh), if_neg hh]
          rw [hd] at hl
          exact absurd ⟨v, dec_small _ (by omega), h⟩ hex
        · rfl
      · rfl
theorem impl_pil (s d : ByteArray) (hd : d.size ≤ 9) (r : Int × Bool)
    (hr : allDig (numsB d) = false → r = (0, false))
    (ht : allDig (numsB d) = true → (if (d.size : Int) < (s.size : Int) then (if numsB s = fmtI (-(dval (numsB d) 0)) then r = (-(dval (numsB d) 0), true) else r = (0, false)) else (if numsB s = fmtI (dval (numsB d) 0) then r = (dval (numsB d) 0, true) else r = (0, false)))) :
    Ev (fun k => impl_ParseInt.l0 k s d 0 (d.size : Int) 0) r := by
  have key : ∀ (l : List Int) (i : Nat) (n : Int), (numsB d).drop i = l → 0 ≤ n → (n + 1) * 10 ^ l.length ≤ 100000000000 → Aside0 (dval l n = dval (numsB d) 0) → allDig l = allDig (numsB d) → Ev (fun k => impl_ParseInt.l0 k s d n (d.size : Int) (i : Int)) r := by
    intro l
    induction l with
    | nil =>
      intro i n h h0 hp hv ha
      have hn := pi_less h0 hp
      have ht' := ht (by rw [← ha]; rfl)
      rw [← (show n = dval (numsB d) 0 from hv.out)] at ht'
      clear hv
      refine Ev.succ ?_
      simp only [impl_ParseInt.l0]
      refine Ev.neg (numsB_drop_nil h) ?_
      by_cases hz : (d.size : Int) < (s.size : Int)
      · rw [if_pos hz] at ht'
        simp only [w64 (x := -n) (by omega) (by omega)]
        refine Ev.pos hz (Ev.bind (impl_FormatInt_ev (-n) (by omega) (by omega)) ?_)
        simp only [str_eq _ s (fmtI_range (-n))]
        by_cases h3 : numsB s = fmtI (-n)
        · rw [if_pos h3] at ht'; exact Ev.pos h3 (Ev.now' ht'.symm)
        · rw [if_neg h3] at ht'; exact Ev.neg h3 (Ev.now' ht'.symm)
      · rw [if_neg hz] at ht'
        refine Ev.neg hz (Ev.bind (impl_FormatInt_ev n (by omega) (by omega)) ?_)
        simp only [str_eq _ s (fmtI_range n)]
        by_cases h3 : numsB s = fmtI n
        · rw [if_pos h3] at ht'; exact Ev.pos h3 (Ev.now' ht'.symm)
        · rw [if_neg h3] at ht'; exact Ev.neg h3 (Ev.now' ht'.symm)
    | cons b l ih =>
      intro i n h h0 hp hv ha
      obtain ⟨h1, h2, h3, h4, h5⟩ := numsB_drop_cons h
      rw [List.length_cons] at hp
      have e1 : wrap64 ((i : Int) + 1) = ((i + 1 : Nat) : Int) := by rw [w64 (by omega) (by omega)]; omega
      refine Ev.succ ?_
      simp only [impl_ParseInt.l0, h2, e1]
      refine Ev.pos h1 (Ev.pos (Int.natCast_nonneg _) (Ev.pos h1 ?_))
      by_cases hg : b < 48
      · refine Ev.pos hg (Ev.now' ?_)
        refine (hr ?_).symm
        rw [← ha]
        simp [allDig, show ¬ 48 ≤ b by omega]
      · refine Ev.neg hg ?_
        by_cases hl : b > 57
        · refine Ev.pos hl (Ev.now' ?_)
          refine (hr ?_).symm
          rw [← ha]
          simp [allDig, show ¬ b ≤ 57 by omega]
        · refine Ev.neg hl ?_
          obtain ⟨b1, b2, b3, b4⟩ := pi_bound (c := b - 48) h0 (by omega) hp
          have e2 : wrap64 (wrap64 (10 * n) + (b - 48) % 256) = n * 10 + (b - 48) := by
            rw [w64 (x := 10 * n) (by omega) (by omega), Int.emod_eq_of_lt (by omega) (by omega), w64 (by omega) (by omega)]; omega
          rw [e2]
          refine ih (i + 1) _ h3 b1 b2 ?_ ?_
          · have hb : 48 ≤ b ∧ b ≤ 57 := ⟨by omega, by omega⟩
            refine ⟨?_⟩
            rw [← hv.out]
            simp only [dval]
            rw [if_pos hb]
          · rw [← ha]
            simp [allDig, show 48 ≤ b by omega, show b ≤ 57 by omega]
  exact key (numsB d) 0 0 rfl (by omega) (pi_ten (by rw [numsB_len]; omega)) ⟨rfl⟩ rfl
theorem impl_ParseInt_ev (s : ByteArray) (hs : s.size ≤ 140737488351232) : Ev (fun k => impl_ParseInt.f k s) (piI s) := by
  have j1 : ∀ d : ByteArray, numsB d = digs s → ((d.size : Int) < (s.size : Int) ↔ negB s = true) → Ev (fun k => impl_ParseInt.j1 k s d) (piI s) := by
    intro d hd hlt
    have hl : (digs s).length = d.size := by rw [← hd, numsB_len]
    have j2 : ∀ b, b = decide ((digs s).length < 1 ∨ (digs s).length > 9) → Ev (fun k => impl_ParseInt.j2 k s d b) (piI s) := by
      intro b hb
      refine Ev.succ ?_
      simp only [impl_ParseInt.j2]
      by_cases h : (digs s).length < 1 ∨ (digs s).length > 9
      · rw [decide_eq_true h] at hb
        subst hb
        refine Ev.pos (by trivial) (Ev.now' ?_)
        unfold piI
        rw [if_pos h]
      · rw [decide_eq_false h] at hb
        subst hb
        refine Ev.neg (by decide) ?_
        refine impl_pil s d (by omega) _ ?_ ?_
        · intro ha
          rw [hd] at ha
          unfold piI
          rw [if_neg h, if_neg (by rw [ha]; decide)]
        · intro ha
          rw [hd] at ha ⊢
          unfold piI
          rw [if_neg h, if_pos ha]
          by_cases hn : negB s = true
          · rw [if_pos (hlt.2 hn), if_pos hn]
            split <;> rfl
          · rw [if_neg (fun hh => hn (hlt.1 hh)), if_neg hn]
            split <;> rfl
    refine Ev.succ ?_
    simp only [impl_ParseInt.j1]
    by_cases h : (d.size : Int) < 1
    · exact Ev.pos h (j2 true (by rw [decide_eq_true (Or.inl (by omega))]))
    · refine Ev.neg h (j2 _ ?_)
      rw [decide_eq_decide]
      omega
  have j0 : ∀ b, b = negB s → Ev (fun k => impl_ParseInt.j0 k s s b) (piI s) := by
    intro b hb
    refine Ev.succ ?_
    simp only [impl_ParseInt.j0]
    cases b with
    | true =>
      have hz : 0 < (s.size : Int) := by
        have := hb.symm
        unfold negB at this
        simp at this
        omega
      refine Ev.pos (by trivial) (Ev.pos (by omega) (j1 _ ?_ ?_))
      · rw [numsB_tail]; unfold digs; rw [← hb]; rfl
      · rw [← hb]
        have : (s.extract 1 s.size).size = s.size - 1 := by rw [← numsB_len, numsB_tail, List.length_drop, numsB_len]
        rw [this]
        simp; omega
    | false =>
      refine Ev.neg (by decide) (j1 _ ?_ ?_)
      · unfold digs; rw [← hb]; rfl
      · rw [← hb]; simp
  simp only [impl_ParseInt.f]
  by_cases h : (s.size : Int) > 0
  · refine Ev.pos h (Ev.pos h (j0 _ ?_))
    unfold negB
    rw [decide_eq_true (show 0 < (s.size : Int) from h)]; rfl
  · refine Ev.neg h (j0 _ ?_)
    unfold negB
    rw [decide_eq_false (show ¬ 0 < (s.size : Int) from h)]; rfl
def hexI (n : Int) : Int := if n < 10 then 48 + n else 87 + n
theorem hex_tab (n : Int) (h0 : 0 ≤ n) (h1 : n < 16) : bt (⟨#[48, 49, 50, 51, 52, 53, 54, 55, 56, 57, 97, 98, 99, 100, 101, 102]⟩ : ByteArray) n = hexI n := by
  have : n = 0 ∨ n = 1 ∨ n = 2 ∨ n = 3 ∨ n = 4 ∨ n = 5 ∨ n = 6 ∨ n = 7 ∨ n = 8 ∨ n = 9 ∨ n = 10 ∨ n = 11 ∨ n = 12 ∨ n = 13 ∨ n = 14 ∨ n = 15 := by omega
  rcases this with rfl | rfl | rfl | rfl | rfl | rfl | rfl | rfl | rfl | rfl | rfl | rfl | rfl | rfl | rfl | rfl <;> rfl
def hexL : List UInt8 → List Int
  | [] => []
  | b :: l => hexI ((b.toNat : Int) / 16) :: hexI ((b.toNat : Int) % 16) :: hexL l
theorem hexL_length (l : List UInt8) : (hexL l).length = 2 * l.length := by
  induction l with
  | nil => rfl
  | cons b l ih => simp [hexL, ih]; omega
theorem hx_div (v : Int) (h0 : 0 ≤ v) (h1 : v ≤ 255) : wrap64 (Int.tdiv (wrap64 v) 16) = v / 16 := by
  rw [w64 (x := v) (by omega) (by omega), Int.tdiv_eq_ediv_of_nonneg h0, w64 (by omega) (by omega)]
theorem hx_mod (v : Int) (h0 : 0 ≤ v) (h1 : v ≤ 255) : Int.tmod (wrap64 v) 16 = v % 16 := by
  rw [w64 (x := v) (by omega) (by omega), Int.tmod_eq_emod_of_nonneg h0]
theorem impl_hex (s : ByteArray) (hs : s.size ≤ 140737488351232) : ∀ (l : List UInt8) (i : Nat) (x : List Int), s.data.toList.drop i = l → x.length + 2 * l.length < 140737488355328 →
    Ev (fun k => impl_EncodeHex.l0 k s x (s.size : Int) (i : Int)) (strOfNums (x ++ hexL l)) := by
  intro l
  induction l with
  | nil =>
    intro i x h hx
    refine Ev.succ ?_
    simp only [impl_EncodeHex.l0, if_neg (dropB_nil h), hexL, List.append_nil]
    exact Ev.now _
  | cons b l ih =>
    intro i x h hx
    obtain ⟨h2, h3, h4⟩ := dropB_cons h
    have hb : (b.toNat : Int) ≤ 255 := by have := bt255 s i; omega
    simp only [List.length_cons] at hx
    have hm : Go.bits .and .u8 (b.toNat : Int) 15 = (b.toNat : Int) % 16 := u8_and15 _ (Int.natCast_nonneg _) (by omega)
    refine Ev.succ ?_
    simp only [impl_EncodeHex.l0, if_pos h2, if_pos (Int.natCast_nonneg i), h3, hm]
    refine Ev.pos (by omega) (Ev.pos (by omega) (Ev.pos (by omega) (Ev.pos (by omega) ?_)))
    simp only [hex_tab ((b.toNat : Int) / 16) (by omega) (by omega), hex_tab ((b.toNat : Int) % 16) (by omega) (by omega), Option.bind_some, nx hs h2]
    refine Ev.pos (by simp only [List.length_cons, List.length_nil]; omega) ?_
    have e : x ++ hexL (b :: l) = (x ++ [hexI ((b.toNat : Int) / 16), hexI ((b.toNat : Int) % 16)]) ++ hexL l := by simp [hexL]
    rw [e]
    exact ih (i + 1) _ h4 (by simp only [List.length_append, List.length_cons, List.length_nil]; omega)
theorem impl_EncodeHex_ev (s : ByteArray) (hs : 2 * s.size < 140737488355328) : Ev (fun k => impl_EncodeHex.f k s) (strOfNums (hexL s.data.toList)) := by
  have := impl_hex s (by omega) s.data.toList 0 [] rfl (by rw [← ba_size]; simpa using hs)
  rw [List.nil_append] at this
  exact this
def hvF (c : Int) : Nat → Int → Int
  | 0, _ => -1
  | d + 1, i => if hexI i = c then i else hvF c d (i + 1)
@[irreducible] def hexV (c : Int) : Int := hvF c 16 0
theorem hvF_le (c : Int) : ∀ (d : Nat) (i : Int), i + d = 16 → hvF c d i ≤ 15
  | 0, i, h => by unfold hvF; decide
  | d + 1, i, h => by
    unfold hvF
    split
    · omega
    · exact hvF_le c d (i + 1) (by omega)
theorem hexV_le (c : Int) : hexV c ≤ 15 := by unfold hexV; exact hvF_le c 16 0 (by omega)
def dhM : List UInt8 → List Int → ByteArray × Bool
  | [], x => (strOfNums x, true)
  | [_], x => (strOfNums x, true)
  | a :: b :: r, x => if hexV (a.toNat : Int) < 0 then (⟨#[]⟩, false) else if hexV (b.toNat : Int) < 0 then (⟨#[]⟩, false) else dhM r (x ++ [16 * hexV (a.toNat : Int) + hexV (b.toNat : Int)])
theorem hx_join (a b : Int) (h1 : 0 ≤ a) (h2 : a ≤ 15) (h3 : 0 ≤ b) (h4 : b ≤ 15) : (wrap64 ((wrap64 (16 * a)) + b)) % 256 = 16 * a + b := by
  rw [w64 (x := 16 * a) (by omega) (by omega), w64 (by omega) (by omega)]; omega
theorem impl_hexV_ev (c : Int) : Ev (fun k => impl_hexValue.f k c) (hexV c) := by
  have key : ∀ (d : Nat) (i : Int), 0 ≤ i → i + d = 16 → Ev (fun k => impl_hexValue.l0 k c i) (hvF c d i) := by
    intro d
    induction d with
    | zero =>
      intro i h0 h
      refine Ev.succ ?_
      simp only [impl_hexValue.l0, hvF]
      exact Ev.neg (by omega) (Ev.now _)
    | succ d ih =>
      intro i h0 h
      refine Ev.succ ?_
      simp only [impl_hexValue.l0, hvF, hex_tab i h0 (by omega), w64 (x := i + 1) (by omega) (by omega)]
      refine Ev.pos (by omega) (Ev.pos h0 ?_)
      by_cases hc : hexI i = c
      · rw [if_pos hc]; exact Ev.pos hc (Ev.now _)
      · rw [if_neg hc]; exact Ev.neg hc (ih (i + 1) (by omega) (by omega))
  unfold hexV
  exact key 16 0 (by omega) (by omega)
def dhR (s : ByteArray) : ByteArray × Bool := if s.size % 2 = 0 then dhM s.data.toList [] else (⟨#[]⟩, false)
theorem impl_dh (s : ByteArray) (hs : s.size ≤ 140737488351232) : ∀ (m : Nat) (l : List UInt8) (i : Nat) (x : List Int), l.length = 2 * m → s.data.toList.drop i = l → x.length + m < 140737488355328 →
    Ev (fun k => impl_DecodeHex.l0 k s x (i : Int)) (dhM l x) := by
  intro m
  induction m with
  | zero =>
    intro l i x hm h hx
    obtain rfl : l = [] := List.eq_nil_of_length_eq_zero (by omega)
    refine Ev.succ ?_
    simp only [impl_DecodeHex.l0]
    exact Ev.neg (dropB_nil h) (Ev.now _)
  | succ m ih =>
    intro l i x hm h hx
    match l, hm with
    | a :: b :: r, hm =>
      obtain ⟨h1, h2, h3⟩ := dropB_cons h
      obtain ⟨h4, h5, h6⟩ := dropB_cons h3
      have e1 : wrap64 ((i : Int) + 1) = ((i + 1 : Nat) : Int) := nx hs h1
      have e2 : wrap64 ((i : Int) + 2) = ((i + 1 + 1 : Nat) : Int) := nx2 hs h4
      refine Ev.succ ?_
      simp only [impl_DecodeHex.l0, e1, e2, h2, h5, dhM]
      clear h2 h5 e1 e2
      refine Ev.pos h1 (Ev.pos (Int.natCast_nonneg _) (Ev.bind (impl_hexV_ev _) (Ev.pos (Int.natCast_nonneg _) (Ev.pos h4 (Ev.bind (impl_hexV_ev _) ?_)))))
      by_cases ha : hexV (a.toNat : Int) < 0
      · rw [if_pos ha]; exact Ev.pos ha (Ev.now _)
      · rw [if_neg ha]
        refine Ev.neg ha ?_
        by_cases hb : hexV (b.toNat : Int) < 0
        · rw [if_pos hb]; exact Ev.pos hb (Ev.now _)
        · rw [if_neg hb]
          have ba := hexV_le (a.toNat : Int)
          have bb := hexV_le (b.toNat : Int)
          simp only [hx_join _ _ (show 0 ≤ hexV (a.toNat : Int) by omega) ba (show 0 ≤ hexV (b.toNat : Int) by omega) bb]
          exact Ev.neg hb (Ev.pos (by omega) (ih r (i + 1 + 1) _ (by simp only [List.length_cons] at hm; omega) h6 (by simp only [List.length_append, List.length_cons, List.length_nil]; omega)))
theorem impl_DecodeHex_ev (s : ByteArray) (hs : s.size ≤ 140737488351232) : Ev (fun k => impl_DecodeHex.f k s) (dhR s) := by
  simp only [impl_DecodeHex.f]
  unfold dhR
  by_cases h : s.size % 2 = 0
  · rw [if_pos h]
    refine Ev.pos (by omega) (impl_dh s hs (s.size / 2) _ 0 [] ?_ rfl (by simp only [List.length_nil]; omega))
    rw [← ba_size]; omega
  · rw [if_neg h]; exact Ev.neg (by omega) (Ev.now _)
theorem bits_and_le (y : Int) (m : Nat) (hm : m < 1000) : 0 ≤ Go.bits .and .i64 y (m : Int) ∧ Go.bits .and .i64 y (m : Int) ≤ m := by
  have h : (BitVec.ofInt 64 y &&& BitVec.ofInt 64 (m : Int)).toNat ≤ m := by
    rw [BitVec.toNat_and]
    refine Nat.le_trans Nat.and_le_right ?_
    rw [BitVec.ofInt_natCast, BitVec.toNat_ofNat]
    exact Nat.mod_le _ _
  have e : Go.bits .and .i64 y (m : Int) = IntKind.i64.wrap (((BitVec.ofInt 64 y &&& BitVec.ofInt 64 (m : Int)).toNat : Nat) : Int) := rfl
  rw [e, IntKind.wrap_i64]
  omega
theorem l1Byte_some (b : List Int) (i h : Int) (hb : b.length ≤ 140737488351232) (hi : 0 ≤ i) : ∃ x i' h', spec_l1Byte.f b i h = some (x, i', h') ∧ (0 ≤ x ∧ x ≤ 255) ∧ 0 ≤ i' := by
  unfold spec_l1Byte.f
  by_cases h1 : i < (b.length : Int)
  · rw [if_pos h1, if_pos hi]
    refine ⟨_, _, _, rfl, bits_and_le _ 255 (by decide), ?_⟩
    rw [w64 (by omega) (by omega)]; omega
  · rw [if_neg h1]
    exact ⟨_, _, _, rfl, bits_and_le _ 255 (by decide), hi⟩
theorem tmod_bd (x n : Int) (h0 : 0 ≤ x) (hn : 0 < n) : 0 ≤ Int.tmod x n ∧ Int.tmod x n < n := by
  rw [Int.tmod_eq_emod_of_nonneg h0]
  exact ⟨Int.emod_nonneg _ (by omega), Int.emod_lt_of_pos _ hn⟩
theorem l1Below_some (b : List Int) (i h n : Int) (hb : b.length ≤ 140737488351232) (hi : 0 ≤ i) : ∃ x i' h', spec_l1Below.f b i h n = some (x, i', h') ∧ 0 ≤ x ∧ (0 < n → x < n) ∧ (n ≤ 0 → x = 0) ∧ 0 ≤ i' := by
  unfold spec_l1Below.f
  by_cases h1 : n ≤ 0
  · rw [if_pos h1]
    exact ⟨_, _, _, rfl, by omega, by omega, by omega, hi⟩
  · rw [if_neg h1]
    by_cases h2 : n ≤ 256
    · rw [if_pos h2]
      obtain ⟨x, i', h', e, hx, hi'⟩ := l1Byte_some b i h hb hi
      rw [e]
      simp only [Option.bind_some]
      rw [if_neg (by omega)]
      have := tmod_bd x n hx.1 (by omega)
      exact ⟨_, _, _, rfl, this.1, fun _ => this.2, by omega, hi'⟩
    · rw [if_neg h2]
      obtain ⟨x, i1, h1', e1, hx, hi1⟩ := l1Byte_some b i h hb hi
      obtain ⟨y, i2, h2', e2, hy, hi2⟩ := l1Byte_some b i1 h1' hb hi1
      obtain ⟨z, i3, h3', e3, hz, hi3⟩ := l1Byte_some b i2 h2' hb hi2
      obtain ⟨u, i4, h4', e4, hu, hi4⟩ := l1Byte_some b i3 h3' hb hi3
      simp only [e1, e2, e3, e4, Option.bind_some]
      rw [if_neg (by omega), w64 (x := x * 16777216) (by omega) (by omega), w64 (x := y * 65536) (by omega) (by omega), w64 (x := z * 256) (by omega) (by omega), w64 (x := x * 16777216 + y * 65536) (by omega) (by omega), w64 (x := x * 16777216 + y * 65536 + z * 256) (by omega) (by omega), w64 (by omega) (by omega)]
      have := tmod_bd (x * 16777216 + y * 65536 + z * 256 + u) n (by omega) (by omega)
      exact ⟨_, _, _, rfl, this.1, fun _ => this.2, by omega, hi4⟩
theorem l1New_ev (l : List Int) (hl : l.length ≤ 140737488351232) : ∃ h, Ev (fun k => spec_l1New.f k l) (l, 0, h) := by
  have key : ∀ (d i : Nat) (x : Int), i + d = 4000 → ∃ h, Ev (fun k => spec_l1New.l0 k l x (i : Int)) (l, 0, h) := by
    intro d
    induction d with
    | zero =>
      intro i x hi
      refine ⟨x, Ev.succ ?_⟩
      simp only [spec_l1New.l0]
      by_cases h1 : (i : Int) < (l.length : Int)
      · exact Ev.pos h1 (Ev.neg (by omega) (Ev.now _))
      · exact Ev.neg h1 (Ev.now _)
    | succ d ih =>
      intro i x hi
      by_cases h1 : (i : Int) < (l.length : Int)
      · have e1 : wrap64 ((i : Int) + 1) = ((i + 1 : Nat) : Int) := by rw [w64 (by omega) (by omega)]; omega
        obtain ⟨h, e⟩ := ih (i + 1) (Go.bits .and .i64 (wrap64 ((wrap64 ((wrap64 (x * 131)) + (wrap64 (rd l (i : Int))))) + 7)) 1073741823) (by omega)
        refine ⟨h, Ev.succ ?_⟩
        simp only [spec_l1New.l0, e1]
        exact Ev.pos h1 (Ev.pos (by omega) (Ev.pos (Int.natCast_nonneg _) e))
      · refine ⟨x, Ev.succ ?_⟩
        simp only [spec_l1New.l0]
        exact Ev.neg h1 (Ev.now _)
  exact key 4000 0 _ rfl
theorem big_f (l : List Int) : laws_big.f l = some (decide ((l.length : Int) > 1048576)) := rfl
theorem l1Once_some (b : List Int) (i h n : Int) (hb : b.length ≤ 140737488351232) (hi : 0 ≤ i) : ∃ x i' h', spec_l1Once.f b i h n = some (x, i', h') ∧ 0 ≤ i' := by
  obtain ⟨x, i', h', e, _, _, _, hi'⟩ := l1Below_some b i h n hb hi
  unfold spec_l1Once.f
  rw [e]
  exact ⟨_, _, _, rfl, hi'⟩
theorem l1PickInt_some (b : List Int) (i h : Int) (l : List Int) (hb : b.length ≤ 140737488351232) (hi : 0 ≤ i) (hl : 0 < l.length) : ∃ x i' h', spec_l1PickInt.f b i h l = some (x, i', h') ∧ x ∈ l ∧ 0 ≤ i' := by
  obtain ⟨x, i', h', e, h0, h1, _, hi'⟩ := l1Below_some b i h (l.length : Int) hb hi
  have hx := h1 (by omega)
  unfold spec_l1PickInt.f
  rw [e]
  simp only [Option.bind_some]
  rw [if_pos h0, if_pos hx]
  refine ⟨_, _, _, rfl, ?_, hi'⟩
  unfold rd
  have hlt : x.toNat < l.length := by omega
  rw [List.getD_eq_getElem?_getD, List.getElem?_eq_getElem hlt]
  exact List.getElem_mem hlt
theorem wrap_rg (x : Int) : -9223372036854775808 ≤ wrap64 x ∧ wrap64 x ≤ 9223372036854775807 := by unfold wrap64; omega
theorem l1Num_some (b : List Int) (i h : Int) (hb : b.length ≤ 140737488351232) (hi : 0 ≤ i) : ∃ x i' h', spec_l1Num.f b i h = some (x, i', h') ∧ (-9223372036854775808 ≤ x ∧ x ≤ 9223372036854775807) ∧ 0 ≤ i' := by
  obtain ⟨t, i1, h1, e1, _, _, _, j1⟩ := l1Below_some b i h 8 hb hi
  unfold spec_l1Num.f
  simp only [e1, Option.bind_some]
  by_cases t0 : t = 0
  · rw [if_pos t0]
    obtain ⟨x, i2, h2, e2, hx, j2⟩ := l1PickInt_some b i1 h1 [-1, 0, 127, 128, 255, 256, 16383, 16384, 65535, 65536, 562949953421311, 562949953421312, 999999999, 1000000000, -999999999, 9223372036854775807, -9223372036854775808] hb j1 (by simp)
    simp only [e2, Option.bind_some]
    refine ⟨_, _, _, rfl, ?_, j2⟩
    simp only [List.mem_cons, List.not_mem_nil, or_false] at hx
    omega
  · rw [if_neg t0]
    by_cases t1 : t = 1
    · rw [if_pos t1]
      obtain ⟨x, i2, h2, e2, _, _, _, j2⟩ := l1Below_some b i1 h1 1000000000 hb j1
      obtain ⟨y, i3, h3, e3, _, _, _, j3⟩ := l1Below_some b i2 h2 1000000000 hb j2
      simp only [e2, e3, Option.bind_some]
      exact ⟨_, _, _, rfl, wrap_rg _, j3⟩
    · rw [if_neg t1]
      by_cases t2 : t = 2
      · rw [if_pos t2]
        obtain ⟨x, i2, h2, e2, _, _, _, j2⟩ := l1Below_some b i1 h1 100000 hb j1
        simp only [e2, Option.bind_some]
        exact ⟨_, _, _, rfl, wrap_rg _, j2⟩
      · rw [if_neg t2]
        obtain ⟨x, i2, h2, e2, x0, x1, _, j2⟩ := l1Below_some b i1 h1 70000 hb j1
        simp only [e2, Option.bind_some]
        have := x1 (by decide)
        exact ⟨_, _, _, rfl, ⟨by omega, by omega⟩, j2⟩
theorem l1Text_ev (b : List Int) (i h a : Int) (hb : b.length ≤ 140737488351232) (hi : 0 ≤ i) (ha0 : 0 ≤ a) (ha : a ≤ 1000) :
    ∃ s i' h', Ev (fun k => spec_l1Text.f k b i h a) (strOfNums s, i', h') ∧ (s.length : Int) ≤ a ∧ 0 ≤ i' := by
  have key : ∀ (d : Nat) (acc : List Int) (sty i h : Int), 0 ≤ i → acc.length + d ≤ 2000 → ∃ s i' h', Ev (fun k => spec_l1Text.l0 k acc sty (d : Int) b i h) (strOfNums s, i', h') ∧ s.length ≤ acc.length + d ∧ 0 ≤ i' := by
    intro d
    induction d with
    | zero =>
      intro acc sty i h hi hd
      refine ⟨acc, i, h, Ev.succ ?_, by omega, hi⟩
      simp only [spec_l1Text.l0]
      exact Ev.neg (by omega) (Ev.now _)
    | succ d ih =>
      intro acc sty i h hi hd
      obtain ⟨x, i1, h1, e1, _, j1⟩ := l1Byte_some b i h hb hi
      have ed : wrap64 (((d + 1 : Nat) : Int) - 1) = (d : Int) := by rw [w64 (by omega) (by omega)]; omega
      have step : ∀ c : Int, ∃ s i' h', Ev (fun k => if acc.length < 140737488355328 then spec_l1Text.l0 k (acc ++ [c]) sty (d : Int) b i1 h1 else none) (strOfNums s, i', h') ∧ s.length ≤ acc.length + (d + 1) ∧ 0 ≤ i' := by
        intro c
        obtain ⟨s, i', h', e, hs, hi'⟩ := ih (acc ++ [c]) sty i1 h1 j1 (by simp only [List.length_append, List.length_cons, List.length_nil]; omega)
        exact ⟨s, i', h', Ev.pos (by omega) e, by simp only [List.length_append, List.length_cons, List.length_nil] at hs; omega, hi'⟩
      by_cases s1 : sty = 1
      · by_cases s2 : sty = 2
        · omega
        · obtain ⟨s, i', h', e, hs, hi'⟩ := step ((Int.tmod x 2) % 256)
          refine ⟨s, i', h', Ev.succ ?_, hs, hi'⟩
          simp only [spec_l1Text.l0, e1, Option.bind_some, ed]
          exact Ev.pos (by omega) (Ev.pos s1 (Ev.neg s2 e))
      · by_cases s2 : sty = 2
        · obtain ⟨s, i', h', e, hs, hi'⟩ := step ((wrap64 (97 + (Int.tmod x 4))) % 256)
          refine ⟨s, i', h', Ev.succ ?_, hs, hi'⟩
          simp only [spec_l1Text.l0, e1, Option.bind_some, ed]
          exact Ev.pos (by omega) (Ev.neg s1 (Ev.pos s2 e))
        · obtain ⟨s, i', h', e, hs, hi'⟩ := step (x % 256)
          refine ⟨s, i', h', Ev.succ ?_, hs, hi'⟩
          simp only [spec_l1Text.l0, e1, Option.bind_some, ed]
          exact Ev.pos (by omega) (Ev.neg s1 (Ev.neg s2 e))
  obtain ⟨q, i1, h1, e1, _, _, _, j1⟩ := l1Below_some b i h 4 hb hi
  have ea : wrap64 (a + 1) = a + 1 := w64 (by omega) (by omega)
  obtain ⟨m, i2, h2, e2, m0, m1, _, j2⟩ := l1Below_some b i1 h1 (a + 1) hb j1
  have hm := m1 (by omega)
  obtain ⟨m, rfl⟩ := Int.eq_ofNat_of_zero_le m0
  obtain ⟨s, i', h', e, hs, hi'⟩ := key m [] q i2 h2 j2 (by simp only [List.length_nil]; omega)
  refine ⟨s, i', h', ?_, by simp only [List.length_nil] at hs; omega, hi'⟩
  simp only [spec_l1Text.f, e1, ea, e2, Option.bind_some]
  exact e
theorem ext_size (s : ByteArray) (a b : Nat) : (s.extract a b).size = min b s.size - a := ByteArray.size_extract ..
theorem l1Spoil_ev (b : List Int) (i h : Int) (s : ByteArray) (hb : b.length ≤ 140737488351232) (hi : 0 ≤ i) (hs : s.size ≤ 100000) :
    ∃ t i' h', Ev (fun k => spec_l1Spoil.f k b i h s) (t, i', h') ∧ t.size ≤ s.size + 3 ∧ 0 ≤ i' := by
  by_cases h0 : (s.size : Int) = 0
  · obtain ⟨t, i', h', e, ht, hi'⟩ := l1Text_ev b i h 3 hb hi (by omega) (by omega)
    refine ⟨strOfNums t, i', h', ?_, by rw [strOfNums_size]; omega, hi'⟩
    simp only [spec_l1Spoil.f]
    exact Ev.pos h0 (Ev.bind e (Ev.now _))
  · obtain ⟨p, i1, h1, e1, p0, p1, _, j1⟩ := l1Below_some b i h (s.size : Int) hb hi
    have hp := p1 (by omega)
    obtain ⟨q, i2, h2, e2, _, _, _, j2⟩ := l1Below_some b i1 h1 4 hb j1
    have ep : wrap64 (p + 1) = p + 1 := w64 (by omega) (by omega)
    by_cases q0 : q = 0
    · refine ⟨s.extract 0 p.toNat ++ s.extract (p + 1).toNat s.size, i2, h2, ?_, ?_, j2⟩
      · simp only [spec_l1Spoil.f, e1, e2, Option.bind_some, ep]
        refine Ev.neg h0 (Ev.pos q0 (Ev.pos p0 (Ev.pos (by omega) (Ev.pos (by omega) (Ev.pos (by omega) (Ev.pos ?_ (Ev.now _)))))))
        rw [ext_size, ext_size]; omega
      · rw [ByteArray.size_append, ext_size, ext_size]; omega
    · by_cases q1 : q = 1
      · obtain ⟨x, i3, h3, e3, _, j3⟩ := l1Byte_some b i2 h2 hb j2
        refine ⟨(s.extract 0 p.toNat ++ strOfNums [x % 256]) ++ s.extract p.toNat s.size, i3, h3, ?_, ?_, j3⟩
        · simp only [spec_l1Spoil.f, e1, e2, e3, Option.bind_some]
          refine Ev.neg h0 (Ev.neg q0 (Ev.pos q1 (Ev.pos p0 (Ev.pos (by omega) (Ev.pos ?_ (Ev.pos ?_ (Ev.now _)))))))
          · rw [ext_size, strOfNums_size]; simp only [List.length_cons, List.length_nil]; omega
          · rw [ByteArray.size_append, ext_size, strOfNums_size, ext_size]; simp only [List.length_cons, List.length_nil]; omega
        · rw [ByteArray.size_append, ByteArray.size_append, ext_size, strOfNums_size, ext_size]; simp only [List.length_cons, List.length_nil]; omega
      · by_cases q2 : q = 2
        · refine ⟨s.extract 0 p.toNat, i2, h2, ?_, ?_, j2⟩
          · simp only [spec_l1Spoil.f, e1, e2, Option.bind_some]
            exact Ev.neg h0 (Ev.neg q0 (Ev.neg q1 (Ev.pos q2 (Ev.pos p0 (Ev.pos (by omega) (Ev.now _))))))
          · rw [ext_size]; omega
        · obtain ⟨x, i3, h3, e3, _, _, _, j3⟩ := l1Below_some b i2 h2 255 hb j2
          refine ⟨(s.extract 0 p.toNat ++ strOfNums [(Go.bits .xor .i64 (wrap64 (bt s p)) (wrap64 (1 + x))) % 256]) ++ s.extract (p + 1).toNat s.size, i3, h3, ?_, ?_, j3⟩
          · simp only [spec_l1Spoil.f, e1, e2, e3, Option.bind_some, ep]
            refine Ev.neg h0 (Ev.neg q0 (Ev.neg q1 (Ev.neg q2 (Ev.pos p0 (Ev.pos (by omega) (Ev.pos hp (Ev.pos ?_ (Ev.pos (by omega) (Ev.pos (by omega) (Ev.pos ?_ (Ev.now _)))))))))))
            · rw [ext_size, strOfNums_size]; simp only [List.length_cons, List.length_nil]; omega
            · rw [ByteArray.size_append, ext_size, strOfNums_size, ext_size]; simp only [List.length_cons, List.length_nil]; omega
          · rw [ByteArray.size_append, ByteArray.size_append, ext_size, strOfNums_size, ext_size]; simp only [List.length_cons, List.length_nil]; omega
theorem vrB_len : ∀ (d n : Nat), n < 128 ^ (d + 1) → (vrB n).length ≤ d + 1
  | 0, n, h => by rw [vrB_lt (by simpa using h)]; simp
  | d + 1, n, h => by
    by_cases hn : n < 128
    · rw [vrB_lt hn]; simp
    · rw [vrB_ge hn, List.length_cons]
      have := vrB_len d (n / 128) (by rw [Nat.pow_succ] at h; omega)
      omega
theorem valI_vrB : ∀ (n : Nat), valI (vrB n) = n := by
  intro n
  induction n using Nat.strongRecOn with
  | _ n ih =>
    by_cases hn : n < 128
    · rw [vrB_lt hn]
      simp only [valI]
      simp; omega
    · rw [vrB_ge hn]
      simp only [valI, ih (n / 128) (by omega)]
      simp; omega
theorem dvM_enc (n : Nat) (hn : n ≤ 562949953421311) (s : ByteArray) (tail : List UInt8) (hs : s.data.toList = vrB n ++ tail) : dvM s 7 0 = ((n : Int), ((vrB n).length : Int)) := by
  have hlen : (vrB n).length ≤ 7 := vrB_len 6 n (by have : (128 : Nat) ^ 7 = 562949953421312 := (by decide); omega)
  obtain ⟨init, last, hv⟩ : ∃ init last, vrB n = init ++ [last] := ⟨(vrB n).dropLast, (vrB n).getLast (vrB_pos n), (List.dropLast_concat_getLast (vrB_pos n)).symm⟩
  obtain ⟨h1, h2⟩ := vrB_last n init last hv
  have hs2 : s.data.toList = init ++ last :: tail := by rw [hs, hv]; simp
  have hil : (vrB n).length = init.length + 1 := by rw [hv]; simp
  have key : ∀ (d i : Nat), i + d = 7 → i ≤ init.length → dvM s d i = ((n : Int), ((vrB n).length : Int)) := by
    intro d
    induction d with
    | zero => intro i hi hle; omega
    | succ d ih =>
      intro i hi hle
      have hlt : i < s.data.toList.length := by rw [hs2]; simp; omega
      unfold dvM
      rw [dif_pos hlt]
      by_cases he : i = init.length
      · have hget : s.data.toList[i] = last := by simp [hs2, he]
        have ht : s.data.toList.take (i + 1) = vrB n := by
          rw [hs, he, ← hil]; simp
        rw [hget, if_pos h1, ht, valI_vrB, if_pos rfl, he, hil]
      · have hget : 128 ≤ s.data.toList[i].toNat := by
          have : s.data.toList[i] ∈ init := by
            have e : s.data.toList[i] = init[i] := by simp [hs2, List.getElem_append_left (show i < init.length by omega)]
            rw [e]; exact List.getElem_mem _
          exact h2 _ this
        rw [if_neg (by omega)]
        exact ih (i + 1) (by omega) (by omega)
  exact key 7 0 rfl (Nat.zero_le _)
theorem dvM_any (s : ByteArray) : ∀ (d i : Nat), i + d = 7 → dvM s d i = (0, 0) ∨ ∃ v m : Nat, dvM s d i = ((v : Int), (m : Int)) ∧ 1 ≤ m ∧ m ≤ s.data.toList.length ∧ vrB v = s.data.toList.take m ∧ v ≤ 562949953421311
  | 0, i, _ => .inl rfl
  | d + 1, i, hi => by
    unfold dvM
    by_cases h : i < s.data.toList.length
    · rw [dif_pos h]
      split
      · split
        · rename_i hm
          exact .inr ⟨_, i + 1, rfl, by omega, by omega, hm, valI_bd s (i + 1) (by omega)⟩
        · exact .inl rfl
      · exact dvM_any s d (i + 1) (by omega)
    · rw [dif_neg h]; exact .inl rfl
def dfold (l : List Int) (n : Int) : Int := l.foldl (fun a c => a * 256 + c) n
theorem decV_fold (s : ByteArray) : ∀ (d i : Nat) (n : Int), i + d ≤ s.size → decV s d i n = dfold (((numsB s).drop i).take d) n
  | 0, i, n, _ => by simp [decV, dfold]
  | d + 1, i, n, h => by
    have hl : i < (numsB s).length := by rw [numsB_len]; omega
    have hd := List.drop_eq_getElem_cons hl
    obtain ⟨_, hb, _⟩ := numsB_drop_cons hd
    simp only [decV]
    rw [decV_fold s d (i + 1) _ (by omega), hd, List.take_succ_cons, hb]
    rfl
theorem fx_fold : ∀ (d n : Nat), n < 256 ^ d → dfold (fxI d n) 0 = n
  | 0, n, h => by
    have : n = 0 := by simpa using h
    subst this; rfl
  | d + 1, n, h => by
    have ih := fx_fold d (n / 256) (by rw [Nat.pow_succ] at h; omega)
    have e : dfold (fxI (d + 1) n) 0 = dfold (fxI d (n / 256)) 0 * 256 + ((n % 256 : Nat) : Int) := by
      unfold dfold; simp only [fxI, List.foldl_append, List.foldl_cons, List.foldl_nil]
    rw [e, ih]; omega
theorem fxI_range : ∀ (d n : Nat), ∀ c ∈ fxI d n, 0 ≤ c ∧ c ≤ 255
  | 0, n, c, h => by simp [fxI] at h
  | d + 1, n, c, h => by
    simp only [fxI] at h
    rcases List.mem_append.1 h with h | h
    · exact fxI_range d _ c h
    · have : c = ((n % 256 : Nat) : Int) := by simpa using h
      omega
theorem numsB_append (a b : ByteArray) : numsB (a ++ b) = numsB a ++ numsB b := by
  unfold numsB; rw [ByteArray.toList_data_append, List.map_append]
theorem decM_enc (n : Nat) (hn : n < 72057594037927936) (tail : ByteArray) : decM (strOfNums (fxI 7 n) ++ tail) 7 = ((n : Int), true) := by
  have hz : (strOfNums (fxI 7 n) ++ tail).size = 7 + tail.size := by rw [ByteArray.size_append, strOfNums_size, fxI_length]
  unfold decM
  rw [if_pos ⟨by omega, by omega, by omega⟩]
  have e7 : (7 : Int).toNat = 7 := rfl
  rw [e7, decV_fold _ 7 0 0 (by omega), List.drop_zero, numsB_append, numsB_str _ (fxI_range 7 n)]
  have ht : (fxI 7 n ++ numsB tail).take 7 = fxI 7 n := by
    rw [List.take_append_of_le_length (by rw [fxI_length]; omega), List.take_of_length_le (by rw [fxI_length]; omega)]
  rw [ht, fx_fold 7 n (by have : (256 : Nat) ^ 7 = 72057594037927936 := (by decide); omega)]
theorem hexV_hexI : ∀ n : Fin 16, hexV (((UInt8.ofNat (hexI (n.val : Int)).toNat).toNat : Nat) : Int) = (n.val : Int) := by
  intro n
  unfold hexV
  revert n
  decide +kernel
theorem hexV_back (n : Int) (h0 : 0 ≤ n) (h1 : n < 16) : hexV (((UInt8.ofNat (hexI n).toNat).toNat : Nat) : Int) = n := by
  obtain ⟨n, rfl⟩ := Int.eq_ofNat_of_zero_le h0
  exact hexV_hexI ⟨n, by omega⟩
theorem dh_back : ∀ (l : List UInt8) (x : List Int), dhM ((hexL l).map fun n => UInt8.ofNat n.toNat) x = (strOfNums (x ++ l.map fun b => (b.toNat : Int)), true)
  | [], x => by simp [hexL, dhM]
  | b :: l, x => by
    have hb := b.toNat_lt
    have v1 := hexV_back ((b.toNat : Int) / 16) (by omega) (by omega)
    have v2 := hexV_back ((b.toNat : Int) % 16) (by omega) (by omega)
    have V1 := Aside0.mk v1
    have V2 := Aside0.mk v2
    clear v1 v2
    have e : 16 * ((b.toNat : Int) / 16) + (b.toNat : Int) % 16 = (b.toNat : Int) := by omega
    simp only [hexL, List.map_cons, dhM, V1.out, V2.out]
    rw [if_neg (by omega), if_neg (by omega), e, dh_back l]
    simp
theorem dhR_enc (s : ByteArray) : dhR (strOfNums (hexL s.data.toList)) = (s, true) := by
  unfold dhR
  rw [strOfNums_size, hexL_length, if_pos (by omega), strOfNums_data, dh_back, List.nil_append]
  have := str_numsB s
  unfold numsB at this
  rw [this]
theorem FnEncodings : laws_FnEncodings.Pure := by
  intro code hmax hsz hwf
  refine Ev.rounds ?_
  simp only [laws_FnEncodings.f, big_f, Option.bind_some]
  by_cases hbig : (code.length : Int) > 1048576
  · exact Ev.pos (decide_eq_true hbig) (Ev.now _)
  refine Ev.neg (by simpa using hbig) ?_
  have hc : code.length ≤ 140737488351232 := by omega
  obtain ⟨h, en⟩ := l1New_ev code hc
  -- the drawn number
  obtain ⟨n, i1, h1, e1, hn, j1⟩ := l1Num_some code 0 h hc (by omega)
  have eN : Ev (fun k => spec_DrawEncodeVarint.f k code) n := by
    simp only [spec_DrawEncodeVarint.f]
    refine Ev.bind en ?_
    simp only [e1, Option.bind_some]
    exact Ev.now _
  -- the drawn text
  obtain ⟨tl, i2, h2, e2, htl, j2⟩ := l1Text_ev code 0 h 40 hc (by omega) (by omega) (by omega)
  have eT : Ev (fun k => spec_DrawEncodeHex.f k code) (strOfNums tl) := by
    simp only [spec_DrawEncodeHex.f]
    exact Ev.bind en (Ev.tl e2 rfl)
  have htz : (strOfNums tl).size ≤ 40 := by rw [strOfNums_size]; omega
  generalize strOfNums tl = tail at eT htz
  -- the drawn varint
  obtain ⟨dv, eV, hdv⟩ : ∃ dv, Ev (fun k => spec_DrawDecodeVarint.f k code) dv ∧ dv.size ≤ 100 := by
    obtain ⟨tl4, i3, h3, e3, htl4, j3⟩ := l1Text_ev code i1 h1 4 hc j1 (by omega) (by omega)
    have hvz : (vrM n).size ≤ 7 := by
      unfold vrM
      split
      · rename_i hr
        have := vrB_len 6 n.toNat (by have : (128 : Nat) ^ 7 = 562949953421312 := (by decide); omega)
        unfold vrB at this
        rw [List.length_map] at this
        rw [strOfNums_size]; omega
      · have e : (⟨#[]⟩ : ByteArray).size = 0 := rfl
        omega
    have hz : (vrM n ++ strOfNums tl4).size ≤ 11 := by rw [ByteArray.size_append, strOfNums_size]; omega
    have hz' : (vrM n).size + (strOfNums tl4).size ≤ 9223372036854775807 := by rw [strOfNums_size]; omega
    obtain ⟨o, i4, h4, e4, j4⟩ := l1Once_some code i3 h3 4 hc j3
    obtain ⟨t, i5, h5, e5, ht, j5⟩ := l1Spoil_ev code i4 h4 (vrM n ++ strOfNums tl4) hc j4 (by omega)
    cases o with
    | true =>
      refine ⟨t, ?_, by omega⟩
      simp only [spec_DrawDecodeVarint.f]
      refine Ev.bind en ?_
      simp only [e1, Option.bind_some]
      refine Ev.bind (spec_EncodeVarint_ev n) (Ev.bind e3 (Ev.pos hz' ?_))
      simp only [e4, Option.bind_some]
      exact Ev.pos (by trivial) (Ev.bind e5 (Ev.now _))
    | false =>
      refine ⟨_, ?_, Nat.le_trans hz (by omega)⟩
      simp only [spec_DrawDecodeVarint.f]
      refine Ev.bind en ?_
      simp only [e1, Option.bind_some]
      refine Ev.bind (spec_EncodeVarint_ev n) (Ev.bind e3 (Ev.pos hz' ?_))
      simp only [e4, Option.bind_some]
      exact Ev.neg (by decide) (Ev.now _)
  -- hex and the drawn varint
  have J2 : Ev (fun k => laws_FnEncodings.j2 k code tail false) true := by
    refine Ev.succ ?_
    simp only [laws_FnEncodings.j2]
    have eh := impl_DecodeHex_ev (strOfNums (hexL tail.data.toList)) (by rw [strOfNums_size, hexL_length, ← ba_size]; omega)
    rw [dhR_enc] at eh
    refine Ev.neg (by decide) (Ev.bind (impl_EncodeHex_ev tail (by omega)) (Ev.bind eh (Ev.bind eV (Ev.bind (impl_DecodeVarint_ev dv) ?_))))
    refine Ev.pos (by trivial) (Ev.pos (by trivial) ?_)
    rcases dvM_any dv 7 0 rfl with hz | ⟨v, m, hv, m1, m2, hv2, hv3⟩
    · rw [hz]; exact Ev.pos (by trivial) (Ev.now _)
    · rw [hv]
      rw [← ba_size] at m2
      refine Ev.neg (by simp only; omega) (Ev.pos (by simp only; omega) (Ev.bind eV (Ev.pos (by simp only; omega) (Ev.bind eV (Ev.pos (by simp only; omega) (Ev.bind (impl_EncodeVarint_ev _) (Ev.bind eV (Ev.pos (by simp only; omega) (Ev.pos (by simp only; omega) ?_)))))))))
      simp only [vrM_toList v hv3, Int.toNat_natCast, extract_toList, hv2]
      exact Ev.now' (by simp)
  -- decimal
  have J1 : Ev (fun k => laws_FnEncodings.j1 k code n tail false) true := by
    refine Ev.succ ?_
    simp only [laws_FnEncodings.j1]
    have hfl : (fmtI n).length ≤ 40 := by
      have := dec_len n.natAbs (by omega)
      unfold fmtI
      split
      · simp only [List.length_cons]; omega
      · omega
    refine Ev.neg (by decide) (Ev.bind (impl_FormatInt_ev n (by omega) (by omega)) (Ev.bind (impl_ParseInt_ev _ (by rw [strOfNums_size]; omega)) ?_))
    by_cases hsm : n.natAbs < 1000000000
    · have e : piI (strOfNums (fmtI n)) = (n, true) := PInt_unique (piI_ok _) (.inl ⟨rfl, numsB_str _ (fmtI_range n), hsm⟩)
      rw [e]
      refine Ev.pos (by omega) (Ev.neg ?_ (Ev.pos (by trivial) ?_))
      · have : decide (n < 1000000000) = true := decide_eq_true (by omega)
        rw [this]; simp
      · have e2 : (n != n) = false := by simp
        simp only [e2]
        exact J2
    · have e : piI (strOfNums (fmtI n)) = (0, false) := PInt_unique (piI_ok _) (.inr ⟨rfl, fun m hm he => by
        rw [numsB_str _ (fmtI_range n)] at he
        have := fmtI_inj he
        subst this
        exact hsm hm⟩)
      rw [e]
      by_cases hg : n > -1000000000
      · refine Ev.pos hg (Ev.neg ?_ (Ev.neg (by decide) J2))
        have : decide (n < 1000000000) = false := decide_eq_false (by omega)
        rw [this]; simp
      · exact Ev.neg hg (Ev.neg (by simp) (Ev.neg (by decide) J2))
  -- fixed
  have J0 : Ev (fun k => laws_FnEncodings.j0 k code n tail false) true := by
    refine Ev.succ ?_
    simp only [laws_FnEncodings.j0]
    have he0 : (⟨#[]⟩ : ByteArray).size = 0 := rfl
    have hel : (⟨#[]⟩ : ByteArray).toList = ([] : List UInt8) := by rw [toL]
    by_cases hf : 0 ≤ n ∧ n < 72057594037927936
    · obtain ⟨n, rfl⟩ := Int.eq_ofNat_of_zero_le hf.1
      have hn56 : n < 72057594037927936 := by omega
      have e7 : (7 : Int).toNat = 7 := rfl
      have efx : fxM (n : Int) 7 = strOfNums (fxI 7 n) := by
        unfold fxM
        rw [Int.toNat_natCast, e7, if_pos ⟨by omega, by omega, by omega, Nat.div_eq_of_lt (by have : (256 : Nat) ^ 7 = 72057594037927936 := (by decide); omega)⟩]
      have hz7 : (strOfNums (fxI 7 n)).size = 7 := by rw [strOfNums_size, fxI_length]
      have hne : ¬ (strOfNums (fxI 7 n)).toList = ([] : List UInt8) := by
        rw [toL]; intro hh
        have := congrArg List.length hh
        rw [← ba_size, hz7] at this
        cases this
      have hbe : ((strOfNums (fxI 7 n)).toList == ([] : List UInt8)) = false := by rw [beq_eq_false_iff_ne]; exact hne
      have ed := impl_DecodeFixed_ev (strOfNums (fxI 7 n) ++ tail) 7
      rw [decM_enc n hn56 tail] at ed
      have efe := impl_EncodeFixed_ev (n : Int) 7 (by omega)
      rw [efx] at efe
      have hd : decide ((n : Int) ≥ 72057594037927936) = false := decide_eq_false (by omega)
      refine Ev.neg (by decide) (Ev.bind efe (Ev.pos (by omega) (Ev.bind ed (Ev.neg hne (Ev.pos (by trivial) (Ev.pos (by trivial) (Ev.pos (by omega) (Ev.neg (by omega) ?_))))))))
      simp only [hbe, hd]
      exact J1
    · have efx : fxM n 7 = ⟨#[]⟩ := by
        unfold fxM
        rw [if_neg]
        rintro ⟨_, _, h0, hq⟩
        refine hf ⟨h0, ?_⟩
        have e7 : (7 : Int).toNat = 7 := rfl
        rw [e7] at hq
        have hp : (256 : Nat) ^ 7 = 72057594037927936 := by decide
        rw [hp] at hq
        omega
      have efe := impl_EncodeFixed_ev n 7 (by omega)
      rw [efx] at efe
      have hbe : ((⟨#[]⟩ : ByteArray).toList == ([] : List UInt8)) = true := by rw [hel]; rfl
      refine Ev.neg (by decide) (Ev.bind efe (Ev.pos (by omega) (Ev.bind (impl_DecodeFixed_ev _ 7) (Ev.pos hel ?_))))
      by_cases h0 : n < 0
      · refine Ev.pos h0 ?_
        simp only [hbe]
        exact J1
      · have hd : decide (n ≥ 72057594037927936) = true := decide_eq_true (by omega)
        refine Ev.neg h0 ?_
        simp only [hbe, hd]
        exact J1
  -- varint
  have he0 : (⟨#[]⟩ : ByteArray).size = 0 := rfl
  have hel : (⟨#[]⟩ : ByteArray).toList = ([] : List UInt8) := by rw [toL]
  by_cases hv : 0 ≤ n ∧ n ≤ 562949953421311
  · obtain ⟨n, rfl⟩ := Int.eq_ofNat_of_zero_le hv.1
    have hn49 : n ≤ 562949953421311 := by omega
    have hd := vrM_data n hn49
    have hzz : (vrM (n : Int)).size = (vrB n).length := by rw [ba_size, hd]
    have hl7 : (vrB n).length ≤ 7 := vrB_len 6 n (by have : (128 : Nat) ^ 7 = 562949953421312 := (by decide); omega)
    have edv := impl_DecodeVarint_ev (vrM (n : Int) ++ tail)
    rw [dvM_enc n hn49 _ tail.data.toList (by rw [ByteArray.toList_data_append, hd])] at edv
    have hne : ¬ (vrM (n : Int)).toList = ([] : List UInt8) := by rw [toL, hd]; exact vrB_pos n
    have hbe : ((vrM (n : Int)).toList != ([] : List UInt8)) = true := by rw [bne_iff_ne]; exact hne
    have hdc : decide ((n : Int) ≤ 562949953421311) = true := decide_eq_true (by omega)
    have hlast : (((vrB n).length : Int) != ((vrM (n : Int)).size : Int)) = false := by rw [hzz]; simp
    refine Ev.bind eN (Ev.bind eT (Ev.bind (impl_EncodeVarint_ev _) (Ev.pos (by omega) (Ev.bind edv (Ev.pos (by omega) ?_)))))
    refine Ev.neg (by rw [hbe, hdc]; decide) (Ev.neg hne (Ev.pos (by trivial) ?_))
    simp only [hlast]
    exact J0
  · have ev : vrM n = ⟨#[]⟩ := by unfold vrM; rw [if_neg hv]
    have eve := impl_EncodeVarint_ev n
    rw [ev] at eve
    have hbe : ((⟨#[]⟩ : ByteArray).toList != ([] : List UInt8)) = false := by rw [hel]; rfl
    refine Ev.bind eN (Ev.bind eT (Ev.bind eve (Ev.pos (by omega) (Ev.bind (impl_DecodeVarint_ev _) ?_))))
    by_cases h0 : n ≥ 0
    · have hdc : decide (n ≤ 562949953421311) = false := decide_eq_false (by omega)
      exact Ev.pos h0 (Ev.neg (by rw [hbe, hdc]; decide) (Ev.pos hel J0))
    · exact Ev.neg h0 (Ev.neg (by rw [hbe]; decide) (Ev.pos hel J0))

end Go.Proofs.Ytkipmmkjbeeemaa.Pure
