/- Out of a copy of the print, with function values told: nothing is claimed here. -/
import Derived.Test.YtljpfogplcdcjaaVQFnSealedFilesx0
import Derived.Test.YtljpfogplcdcjaaVQFnSealedFilesx2
import Derived.Test.YtljpfogplcdcjaaVQFnSealedFilesx4
import Derived.Test.YtljpfogplcdcjaaVShort
import Derived.Test.YtljpfogplcdcjaaVPress
import Derived.Test.YtljpfogplcdcjaaVFoldT
namespace Go.Proofs.Ytljpfogplcdcjaa.PFnSealedFiles
open Go.RowKit Go.Proofs.YtljpfogplcdcjaaW.PrintWords Go.Proofs.YtljpfogplcdcjaaW.PrintLast Go.Proofs.YtljpfogplcdcjaaW.PrintMore Go.Proofs.Ytljpfogplcdcjaa.Short Go.Proofs.Ytljpfogplcdcjaa.Press Go.Proofs.Ytljpfogplcdcjaa.Fold
attribute [local go_sem] max2_int min2_int max_two min_two max_three min_three max_four min_four   -- for this text's walks alone
set_option linter.unusedVariables false
set_option linter.unusedSimpArgs false
def spec_FormatInt.l0 : Nat → Int → ByteArray → Bool → Option (ByteArray)
 | 0, _, _, _ => none
 | k + 1, x0, x3, x4 => if x0 = 0 then (if x4 = true then (if 1 + x3.size ≤ 9223372036854775807 then (some ((⟨#[45]⟩ : ByteArray) ++ x3)) else (none)) else (some x3)) else (if (Int.tmod x0 10) < 0 then ((some (([(wrap64 (48 + (wrap64 (-(Int.tmod x0 10))))) % 256] : List Int) : List Int)).bind fun y269 => (if (strOfNums y269).size + x3.size ≤ 9223372036854775807 then (spec_FormatInt.l0 k (wrap64 (Int.tdiv x0 10)) ((strOfNums y269) ++ x3) x4) else (none))) else ((some (([(wrap64 (48 + (Int.tmod x0 10))) % 256] : List Int) : List Int)).bind fun y272 => (if (strOfNums y272).size + x3.size ≤ 9223372036854775807 then (spec_FormatInt.l0 k (wrap64 (Int.tdiv x0 10)) ((strOfNums y272) ++ x3) x4) else (none))))
def spec_FormatInt.f (k : Nat) (a0 : Int) : Option (ByteArray) := if a0 = 0 then (some (⟨#[48]⟩ : ByteArray)) else (spec_FormatInt.l0 k a0 (⟨#[]⟩ : ByteArray) (decide (a0 < 0)))
set_option maxHeartbeats 8000000 in
set_option maxRecDepth 100000 in
theorem spec_FormatInt.calls (k : Nat) (a0 : Int) (r : ByteArray) (w : World) (h : spec_FormatInt.f k a0 = some r) :
  Calls Try.prog 103 #[.int .i64 a0] w fun e w' => e = .returned (.string r) ∧ Below w.heap.size w w' := by
 have HB := kp (Below.refl w.heap.size w); have H := h; clear h; unfold spec_FormatInt.f at H; by_cases c2 : a0 = 0
 ·rw [if_pos c2] at H; have c2b0 : (a0 == 0) = true := beq_iff_eq.mpr c2; have c2b1 : (a0 != 0) = false := bne_eq_false_iff_eq.mpr c2; clear c2; obtain rfl := Option.some.inj H; go_enter Try.func103, Try.ntmps103; go_wp2; go_ret; exact ⟨er, bb⟩
 ·rw [if_neg c2] at H; have c2b0 : (a0 == 0) = false := beq_eq_false_iff_ne.mpr c2; have c2b1 : (a0 != 0) = true := bne_iff_ne.mpr c2; have hz9 : ∀ z, decide (a0 < 0) = z → (spec_FormatInt.l0 k a0 (⟨#[]⟩ : ByteArray) z) = some r := fun z hz => by rw [← hz]; exact H
  clear H; by_cases c9 : a0 < 0
  ·have c9b : decide (a0 < 0) = true := decide_eq_true c9; have H := hz9 true c9b; clear hz9; clear c9; have H' := kp H; clear H; go_enter Try.func103, Try.ntmps103; go_wp2; go_loopg [0, 3] k (fun kq v0 v3 w' => ∃ (x0_1 : Int) (x3_1 : ByteArray), v0 = .int .i64 x0_1 ∧ v3 = .string x3_1 ∧ Aside0 (spec_FormatInt.l0 kq x0_1 x3_1 (true) = some r) ∧ Aside0 (kq ≤ k) ∧ Aside0 (Below w.heap.size w w')); case atStart => exact ⟨(a0), ((⟨#[]⟩ : ByteArray)), vr, vr, H', ⟨Nat.le_refl _⟩, ⟨bb⟩⟩
   case round =>
    clear H'; try clear c2
    try clear c2b0
    try clear c2b1
    obtain ⟨x0_1, x3_1, rfl, rfl, HA, HK1, HB⟩ := hrel
    cases gk with
    | zero => exact absurd HA.out (by simp [spec_FormatInt.l0])
    | succ k1 =>
     have H := HA.out; clear HA; simp only [spec_FormatInt.l0] at H; by_cases c3 : x0_1 = 0
     ·rw [if_pos c3] at H; have c3b0 : (x0_1 == 0) = true := beq_iff_eq.mpr c3; have c3b1 : (x0_1 != 0) = false := bne_eq_false_iff_eq.mpr c3; clear c3; first | rw [if_pos (show (true = true) from rfl)] at H | rw [if_pos trivial] at H
      by_cases c5 : 1 + x3_1.size ≤ 9223372036854775807
      ·rw [if_pos c5] at H; have c5b0 := eq_true c5; have c5b1 : decide (1 + x3_1.size ≤ 9223372036854775807) = true := decide_eq_true c5; try have c5b2 : (9223372036854775807 < 1 + x3_1.size) = False := eq_false (Nat.not_lt.2 c5)
       obtain rfl := Option.some.inj H; go_wp2; go_ret; exact ⟨er, bb⟩
      ·rw [if_neg c5] at H; exact absurd H (by simp)
     ·rw [if_neg c3] at H; have c3b0 : (x0_1 == 0) = false := beq_eq_false_iff_ne.mpr c3; have c3b1 : (x0_1 != 0) = true := bne_iff_ne.mpr c3; replace H := sp H; rcases H with ⟨c6b0, H⟩ | ⟨c6b0, H⟩
      ·obtain ⟨y269, hy269⟩ : ∃ y_ : List Int, y_ = (([(wrap64 (48 + (wrap64 (-(Int.tmod x0_1 10))))) % 256] : List Int)) := ⟨_, rfl⟩; replace H : (if (strOfNums y269).size + x3_1.size ≤ 9223372036854775807 then (spec_FormatInt.l0 k1 (wrap64 (Int.tdiv x0_1 10)) ((strOfNums y269) ++ x3_1) (true)) else (none)) = some r := by first | (rw [hy269]; with_reducible exact H) | (have H2_ := (Option.bind_some _ _).symm.trans H; rw [hy269]; with_reducible exact H2_) | (have H2_ := (Option.bind_some _ _).symm.trans H; with_reducible exact H2_) | with_reducible exact H | (rw [hy269]; exact H) | exact H
       have Ny269 := kp hy269; clear hy269; by_cases c7 : (strOfNums y269).size + x3_1.size ≤ 9223372036854775807
       ·rw [if_pos c7] at H; have c7b0 := eq_true c7; have c7b1 : decide ((strOfNums y269).size + x3_1.size ≤ 9223372036854775807) = true := decide_eq_true c7; try have c7b2 : (9223372036854775807 < (strOfNums y269).size + x3_1.size) = False := eq_false (Nat.not_lt.2 c7)
        have H' := kp H; clear H; go_wp2_with (first | ((with_reducible refine gate_dst (N := 21) rfl ?_); refine Kd.R_lit (Kd.int .u8) _ 5 ?hg (N := 21) ?hd (xs := ([(wrap64 (48 + (wrap64 (-(Int.tmod x0_1 10))))) % 256] : List Int)) (inner := [.int .u8 ((wrap64 (48 + (wrap64 (-(Int.tmod x0_1 10))))) % 256)]) (ok := fun _ => True) (okp := fun _ => True) ?hr ?hp (fun _ hk => hk) trivial (Below.refl _ _) (Nat.le_refl _) (by simp) ?_; (case hd => rfl); (case hg => rfl); (case hr => first | (go_simp; done) | (go_simp; rfl)); (case hp => exact (Reps.one (show Kd.M (Kd.int .u8) _ _ _ ((wrap64 (48 + (wrap64 (-(Int.tmod x0_1 10))))) % 256) [.int .u8 ((wrap64 (48 + (wrap64 (-(Int.tmod x0_1 10))))) % 256)] from rfl) (Reps.none _ _))); intro v270 w8 ho9 hb hg_ hnew_; clear hg_ hnew_; (first | rw [← Ny269.out] at ho9 | (simp only [Int.reduceToNat] at ho9; rw [← Ny269.out] at ho9)); have HO271 := kp (Kd.R_lower ho9 (below_size bb)); replace HB := kp (below_step bb hb); clear hb ho9; have hcv10 := own_string (P := Try.prog) Try.underlying33 Try.underlying5 Try.underlying9 (Kd.own_of_R HO271.out))); go_roundg k1; case measure => have := HK1.out; omega
        case rel => exact ⟨(wrap64 (Int.tdiv x0_1 10)), ((strOfNums y269) ++ x3_1), vr, vr, H', ⟨by have := HK1.out; omega⟩, ⟨bb⟩⟩
       ·rw [if_neg c7] at H; exact absurd H (by simp)
      ·obtain ⟨y272, hy272⟩ : ∃ y_ : List Int, y_ = (([(wrap64 (48 + (Int.tmod x0_1 10))) % 256] : List Int)) := ⟨_, rfl⟩; replace H : (if (strOfNums y272).size + x3_1.size ≤ 9223372036854775807 then (spec_FormatInt.l0 k1 (wrap64 (Int.tdiv x0_1 10)) ((strOfNums y272) ++ x3_1) (true)) else (none)) = some r := by first | (rw [hy272]; with_reducible exact H) | (have H2_ := (Option.bind_some _ _).symm.trans H; rw [hy272]; with_reducible exact H2_) | (have H2_ := (Option.bind_some _ _).symm.trans H; with_reducible exact H2_) | with_reducible exact H | (rw [hy272]; exact H) | exact H
       have Ny272 := kp hy272; clear hy272; by_cases c11 : (strOfNums y272).size + x3_1.size ≤ 9223372036854775807
       ·rw [if_pos c11] at H; have c11b0 := eq_true c11; have c11b1 : decide ((strOfNums y272).size + x3_1.size ≤ 9223372036854775807) = true := decide_eq_true c11; try have c11b2 : (9223372036854775807 < (strOfNums y272).size + x3_1.size) = False := eq_false (Nat.not_lt.2 c11)
        have H' := kp H; clear H; go_wp2_with (first | ((with_reducible refine gate_dst (N := 21) rfl ?_); refine Kd.R_lit (Kd.int .u8) _ 5 ?hg (N := 21) ?hd (xs := ([(wrap64 (48 + (Int.tmod x0_1 10))) % 256] : List Int)) (inner := [.int .u8 ((wrap64 (48 + (Int.tmod x0_1 10))) % 256)]) (ok := fun _ => True) (okp := fun _ => True) ?hr ?hp (fun _ hk => hk) trivial (Below.refl _ _) (Nat.le_refl _) (by simp) ?_; (case hd => rfl); (case hg => rfl); (case hr => first | (go_simp; done) | (go_simp; rfl)); (case hp => exact (Reps.one (show Kd.M (Kd.int .u8) _ _ _ ((wrap64 (48 + (Int.tmod x0_1 10))) % 256) [.int .u8 ((wrap64 (48 + (Int.tmod x0_1 10))) % 256)] from rfl) (Reps.none _ _))); intro v273 w12 ho13 hb hg_ hnew_; clear hg_ hnew_; (first | rw [← Ny272.out] at ho13 | (simp only [Int.reduceToNat] at ho13; rw [← Ny272.out] at ho13)); have HO274 := kp (Kd.R_lower ho13 (below_size bb)); replace HB := kp (below_step bb hb); clear hb ho13; have hcv14 := own_string (P := Try.prog) Try.underlying33 Try.underlying5 Try.underlying9 (Kd.own_of_R HO274.out))); go_roundg k1; case measure => have := HK1.out; omega
        case rel => exact ⟨(wrap64 (Int.tdiv x0_1 10)), ((strOfNums y272) ++ x3_1), vr, vr, H', ⟨by have := HK1.out; omega⟩, ⟨bb⟩⟩
       ·rw [if_neg c11] at H; exact absurd H (by simp)
  ·have c9b : decide (a0 < 0) = false := decide_eq_false c9; have H := hz9 false c9b; clear hz9; clear c9; have H' := kp H; clear H; go_enter Try.func103, Try.ntmps103; go_wp2; go_loopg [0, 3] k (fun kq v0 v3 w' => ∃ (x0_1 : Int) (x3_1 : ByteArray), v0 = .int .i64 x0_1 ∧ v3 = .string x3_1 ∧ Aside0 (spec_FormatInt.l0 kq x0_1 x3_1 (false) = some r) ∧ Aside0 (kq ≤ k) ∧ Aside0 (Below w.heap.size w w')); case atStart => exact ⟨(a0), ((⟨#[]⟩ : ByteArray)), vr, vr, H', ⟨Nat.le_refl _⟩, ⟨bb⟩⟩
   case round =>
    clear H'; try clear c2
    try clear c2b0
    try clear c2b1
    obtain ⟨x0_1, x3_1, rfl, rfl, HA, HK1, HB⟩ := hrel
    cases gk with
    | zero => exact absurd HA.out (by simp [spec_FormatInt.l0])
    | succ k1 =>
     have H := HA.out; clear HA; simp only [spec_FormatInt.l0] at H; by_cases c3 : x0_1 = 0
     ·rw [if_pos c3] at H; have c3b0 : (x0_1 == 0) = true := beq_iff_eq.mpr c3; have c3b1 : (x0_1 != 0) = false := bne_eq_false_iff_eq.mpr c3; clear c3; first | rw [if_neg (show ¬ (false = true) by decide)] at H | rw [if_neg (show ¬ False from id)] at H
      obtain rfl := Option.some.inj H; go_wp2; go_ret; exact ⟨er, bb⟩
     ·rw [if_neg c3] at H; have c3b0 : (x0_1 == 0) = false := beq_eq_false_iff_ne.mpr c3; have c3b1 : (x0_1 != 0) = true := bne_iff_ne.mpr c3; replace H := sp H; rcases H with ⟨c6b0, H⟩ | ⟨c6b0, H⟩
      ·obtain ⟨y269, hy269⟩ : ∃ y_ : List Int, y_ = (([(wrap64 (48 + (wrap64 (-(Int.tmod x0_1 10))))) % 256] : List Int)) := ⟨_, rfl⟩; replace H : (if (strOfNums y269).size + x3_1.size ≤ 9223372036854775807 then (spec_FormatInt.l0 k1 (wrap64 (Int.tdiv x0_1 10)) ((strOfNums y269) ++ x3_1) (false)) else (none)) = some r := by first | (rw [hy269]; with_reducible exact H) | (have H2_ := (Option.bind_some _ _).symm.trans H; rw [hy269]; with_reducible exact H2_) | (have H2_ := (Option.bind_some _ _).symm.trans H; with_reducible exact H2_) | with_reducible exact H | (rw [hy269]; exact H) | exact H
       have Ny269 := kp hy269; clear hy269; by_cases c7 : (strOfNums y269).size + x3_1.size ≤ 9223372036854775807
       ·rw [if_pos c7] at H; have c7b0 := eq_true c7; have c7b1 : decide ((strOfNums y269).size + x3_1.size ≤ 9223372036854775807) = true := decide_eq_true c7; try have c7b2 : (9223372036854775807 < (strOfNums y269).size + x3_1.size) = False := eq_false (Nat.not_lt.2 c7)
        have H' := kp H; clear H; go_wp2_with (first | ((with_reducible refine gate_dst (N := 21) rfl ?_); refine Kd.R_lit (Kd.int .u8) _ 5 ?hg (N := 21) ?hd (xs := ([(wrap64 (48 + (wrap64 (-(Int.tmod x0_1 10))))) % 256] : List Int)) (inner := [.int .u8 ((wrap64 (48 + (wrap64 (-(Int.tmod x0_1 10))))) % 256)]) (ok := fun _ => True) (okp := fun _ => True) ?hr ?hp (fun _ hk => hk) trivial (Below.refl _ _) (Nat.le_refl _) (by simp) ?_; (case hd => rfl); (case hg => rfl); (case hr => first | (go_simp; done) | (go_simp; rfl)); (case hp => exact (Reps.one (show Kd.M (Kd.int .u8) _ _ _ ((wrap64 (48 + (wrap64 (-(Int.tmod x0_1 10))))) % 256) [.int .u8 ((wrap64 (48 + (wrap64 (-(Int.tmod x0_1 10))))) % 256)] from rfl) (Reps.none _ _))); intro v270 w8 ho9 hb hg_ hnew_; clear hg_ hnew_; (first | rw [← Ny269.out] at ho9 | (simp only [Int.reduceToNat] at ho9; rw [← Ny269.out] at ho9)); have HO271 := kp (Kd.R_lower ho9 (below_size bb)); replace HB := kp (below_step bb hb); clear hb ho9; have hcv10 := own_string (P := Try.prog) Try.underlying33 Try.underlying5 Try.underlying9 (Kd.own_of_R HO271.out))); go_roundg k1; case measure => have := HK1.out; omega
        case rel => exact ⟨(wrap64 (Int.tdiv x0_1 10)), ((strOfNums y269) ++ x3_1), vr, vr, H', ⟨by have := HK1.out; omega⟩, ⟨bb⟩⟩
       ·rw [if_neg c7] at H; exact absurd H (by simp)
      ·obtain ⟨y272, hy272⟩ : ∃ y_ : List Int, y_ = (([(wrap64 (48 + (Int.tmod x0_1 10))) % 256] : List Int)) := ⟨_, rfl⟩; replace H : (if (strOfNums y272).size + x3_1.size ≤ 9223372036854775807 then (spec_FormatInt.l0 k1 (wrap64 (Int.tdiv x0_1 10)) ((strOfNums y272) ++ x3_1) (false)) else (none)) = some r := by first | (rw [hy272]; with_reducible exact H) | (have H2_ := (Option.bind_some _ _).symm.trans H; rw [hy272]; with_reducible exact H2_) | (have H2_ := (Option.bind_some _ _).symm.trans H; with_reducible exact H2_) | with_reducible exact H | (rw [hy272]; exact H) | exact H
       have Ny272 := kp hy272; clear hy272; by_cases c11 : (strOfNums y272).size + x3_1.size ≤ 9223372036854775807
       ·rw [if_pos c11] at H; have c11b0 := eq_true c11; have c11b1 : decide ((strOfNums y272).size + x3_1.size ≤ 9223372036854775807) = true := decide_eq_true c11; try have c11b2 : (9223372036854775807 < (strOfNums y272).size + x3_1.size) = False := eq_false (Nat.not_lt.2 c11)
        have H' := kp H; clear H; go_wp2_with (first | ((with_reducible refine gate_dst (N := 21) rfl ?_); refine Kd.R_lit (Kd.int .u8) _ 5 ?hg (N := 21) ?hd (xs := ([(wrap64 (48 + (Int.tmod x0_1 10))) % 256] : List Int)) (inner := [.int .u8 ((wrap64 (48 + (Int.tmod x0_1 10))) % 256)]) (ok := fun _ => True) (okp := fun _ => True) ?hr ?hp (fun _ hk => hk) trivial (Below.refl _ _) (Nat.le_refl _) (by simp) ?_; (case hd => rfl); (case hg => rfl); (case hr => first | (go_simp; done) | (go_simp; rfl)); (case hp => exact (Reps.one (show Kd.M (Kd.int .u8) _ _ _ ((wrap64 (48 + (Int.tmod x0_1 10))) % 256) [.int .u8 ((wrap64 (48 + (Int.tmod x0_1 10))) % 256)] from rfl) (Reps.none _ _))); intro v273 w12 ho13 hb hg_ hnew_; clear hg_ hnew_; (first | rw [← Ny272.out] at ho13 | (simp only [Int.reduceToNat] at ho13; rw [← Ny272.out] at ho13)); have HO274 := kp (Kd.R_lower ho13 (below_size bb)); replace HB := kp (below_step bb hb); clear hb ho13; have hcv14 := own_string (P := Try.prog) Try.underlying33 Try.underlying5 Try.underlying9 (Kd.own_of_R HO274.out))); go_roundg k1; case measure => have := HK1.out; omega
        case rel => exact ⟨(wrap64 (Int.tdiv x0_1 10)), ((strOfNums y272) ++ x3_1), vr, vr, H', ⟨by have := HK1.out; omega⟩, ⟨bb⟩⟩
       ·rw [if_neg c11] at H; exact absurd H (by simp)
def spec_FormatRow.f (k : Nat) (a0_0 : Int) (a0_1 : Int) (a0_2 : Int) : Option (ByteArray) := (spec_IsValidRow.f a0_0 a0_1 a0_2).bind fun t276 => (if t276 = true then ((spec_FormatInt.f k a0_0).bind fun t277 => (if t277.size + 1 ≤ 9223372036854775807 then ((spec_FormatInt.f k a0_1).bind fun t278 => (if (t277 ++ (⟨#[46]⟩ : ByteArray)).size + t278.size ≤ 9223372036854775807 then (if ((t277 ++ (⟨#[46]⟩ : ByteArray)) ++ t278).size + 1 ≤ 9223372036854775807 then ((spec_FormatInt.f k a0_2).bind fun t279 => (if (((t277 ++ (⟨#[46]⟩ : ByteArray)) ++ t278) ++ (⟨#[46]⟩ : ByteArray)).size + t279.size ≤ 9223372036854775807 then (some ((((t277 ++ (⟨#[46]⟩ : ByteArray)) ++ t278) ++ (⟨#[46]⟩ : ByteArray)) ++ t279)) else (none))) else (none)) else (none))) else (none))) else (some (⟨#[]⟩ : ByteArray)))
def spec_FormatRow.T3 : Bool × List (List Nat × List Nat) := (true, [([], []), ([0], [0]), ([1], [1]), ([2], [2]), ([], []), ([4], [4]), ([5, 2], [5]), ([3, 6], [3, 6]), ([7], [7]), ([], []), ([9], [9]), ([10, 6], [10]), ([8, 11], [8, 11]), ([12, 11, 0, 1, 2, 3, 4, 5, 6, 7, 8, 9, 10, 11, 12], [12])])
def spec_FormatRow.B3 : List Nat := [0, 1, 3, 7, 0, 16, 55, 127, 255, 0, 512, 1655, 4095, 8191]
theorem spec_FormatRow.tab3 : rtab .any (opsOf Try.f89 3) = spec_FormatRow.T3 := by kernel_rfl
theorem spec_FormatRow.bits3 : waitsOk spec_FormatRow.T3.2 spec_FormatRow.B3 = true := by kernel_rfl
set_option maxHeartbeats 8000000 in
set_option maxRecDepth 100000 in
theorem spec_FormatRow.calls (k : Nat) (a0_0 : Int) (a0_1 : Int) (a0_2 : Int) (r : ByteArray) (w : World) (h : spec_FormatRow.f k a0_0 a0_1 a0_2 = some r) :
  Calls Try.prog 89 #[.agg #[.int .i64 a0_0, .int .i64 a0_1, .int .i64 a0_2]] w fun e w' => e = .returned (.string r) ∧ Below w.heap.size w w' := by
 have hu42 := Try.underlying42; have HB := kp (Below.refl w.heap.size w); have H := h; clear h; unfold spec_FormatRow.f at H; replace H := ob H; obtain ⟨t276, A2, H⟩ := H; by_cases c3 : t276 = true
 ·subst c3; replace H := ip H; replace H := ob H; obtain ⟨t277, A4, H⟩ := H; by_cases c5 : t277.size + 1 ≤ 9223372036854775807
  ·rw [if_pos c5] at H; have c5b0 := eq_true c5; have c5b1 : decide (t277.size + 1 ≤ 9223372036854775807) = true := decide_eq_true c5; try have c5b2 : (9223372036854775807 < t277.size + 1) = False := eq_false (Nat.not_lt.2 c5)
   replace H := ob H; obtain ⟨t278, A6, H⟩ := H; by_cases c7 : (t277 ++ (⟨#[46]⟩ : ByteArray)).size + t278.size ≤ 9223372036854775807
   ·rw [if_pos c7] at H; have c7b0 := eq_true c7; have c7b1 : decide ((t277 ++ (⟨#[46]⟩ : ByteArray)).size + t278.size ≤ 9223372036854775807) = true := decide_eq_true c7; try have c7b2 : (9223372036854775807 < (t277 ++ (⟨#[46]⟩ : ByteArray)).size + t278.size) = False := eq_false (Nat.not_lt.2 c7)
    have c7b3 : (9223372036854775807 < t277.size + 1 + t278.size) = False := eq_false (by have h_ := c7; have e_ : (⟨#[46]⟩ : ByteArray).size = 1 := rfl; have e2_ : (⟨#[32]⟩ : ByteArray).size = 1 := rfl; have e3_ : (⟨#[91]⟩ : ByteArray).size = 1 := rfl; have e4_ : (⟨#[93]⟩ : ByteArray).size = 1 := rfl; simp only [ByteArray.size_append] at h_; omega); by_cases c8 : ((t277 ++ (⟨#[46]⟩ : ByteArray)) ++ t278).size + 1 ≤ 9223372036854775807
    ·rw [if_pos c8] at H; have c8b0 := eq_true c8; have c8b1 : decide (((t277 ++ (⟨#[46]⟩ : ByteArray)) ++ t278).size + 1 ≤ 9223372036854775807) = true := decide_eq_true c8; try have c8b2 : (9223372036854775807 < ((t277 ++ (⟨#[46]⟩ : ByteArray)) ++ t278).size + 1) = False := eq_false (Nat.not_lt.2 c8)
     have c8b3 : (9223372036854775807 < t277.size + 1 + t278.size + 1) = False := eq_false (by have h_ := c8; have e_ : (⟨#[46]⟩ : ByteArray).size = 1 := rfl; have e2_ : (⟨#[32]⟩ : ByteArray).size = 1 := rfl; have e3_ : (⟨#[91]⟩ : ByteArray).size = 1 := rfl; have e4_ : (⟨#[93]⟩ : ByteArray).size = 1 := rfl; simp only [ByteArray.size_append] at h_; omega); replace H := ob H; obtain ⟨t279, A9, H⟩ := H; by_cases c10 : (((t277 ++ (⟨#[46]⟩ : ByteArray)) ++ t278) ++ (⟨#[46]⟩ : ByteArray)).size + t279.size ≤ 9223372036854775807
     ·rw [if_pos c10] at H; have c10b0 := eq_true c10; have c10b1 : decide ((((t277 ++ (⟨#[46]⟩ : ByteArray)) ++ t278) ++ (⟨#[46]⟩ : ByteArray)).size + t279.size ≤ 9223372036854775807) = true := decide_eq_true c10; try have c10b2 : (9223372036854775807 < (((t277 ++ (⟨#[46]⟩ : ByteArray)) ++ t278) ++ (⟨#[46]⟩ : ByteArray)).size + t279.size) = False := eq_false (Nat.not_lt.2 c10)
      have c10b3 : (9223372036854775807 < t277.size + 1 + t278.size + 1 + t279.size) = False := eq_false (by have h_ := c10; have e_ : (⟨#[46]⟩ : ByteArray).size = 1 := rfl; have e2_ : (⟨#[32]⟩ : ByteArray).size = 1 := rfl; have e3_ : (⟨#[91]⟩ : ByteArray).size = 1 := rfl; have e4_ : (⟨#[93]⟩ : ByteArray).size = 1 := rfl; simp only [ByteArray.size_append] at h_; omega); obtain rfl := Option.some.inj H; go_enter Try.func89, Try.ntmps89; try go_wp2_with (first | ((with_reducible refine gate_dst (N := 1) rfl ?_); refine bx_ 1 #[.int .i64 a0_0, .int .i64 a0_1, .int .i64 a0_2] 42 ?_; intro gb275 hg w11 hbox hb; have BK275 := kp (hbox); have GE275 := kp (bs hg); replace HB := kp (below_step bb hb); clear hb hbox hg; obtain ⟨hcz12_0, hcz12_1, hcz12_2, hfz12_0, hfz12_1, hfz12_2⟩ := bf3 BK275.out) | ((with_reducible refine gate_callee (f := 51) rfl ?_); refine gl_ 4 Try.func51 #[.agg #[.int .i64 a0_0, .int .i64 a0_1, .int .i64 a0_2]] ?_; (with_reducible refine (spec_IsValidRow.calls a0_0 a0_1 a0_2 true _ A2.out).mono ?_); rintro e w13 ⟨rfl, hb⟩; refine ⟨_, rfl, ?_⟩; replace BK275 := kp (kb BK275.out hb); replace HB := kp (below_step bb hb); (try clear hb)))
      replace BK275 := kp (blk_drew BK275.out); replace HB := kp (below_drew1 HB.out); refine st_ 14 spec_FormatRow.tab3 spec_FormatRow.bits3 (hz3 BK275) (fun hHeld HT_ HW_ => ?_); generalize w13.drew = w14 at BK275 HB hHeld ⊢; refine pq 0 6 HT_ ?_; refine pq 4 10 HT_ ?_; refine pq 9 15 HT_ ?_; refine tq 1 7 HT_ HW_ hHeld ?_; refine tq 5 11 HT_ HW_ hHeld ?_; refine tq 10 16 HT_ HW_ hHeld ?_; refine on_ 2 (some 8) HT_ (fun K hK => ?_); refine gs_ Try.func103 #[.int .i64 a0_0] ?_; with_reducible refine (spec_FormatInt.calls k a0_0 t277 _ A4.out).mono ?_
      rintro e w15 ⟨rfl, hb⟩; refine ⟨_, rfl, ?_⟩; replace BK275 := kp (kb BK275.out hb); replace HB := kp (below_step bb hb); (try clear hb); (try clear hk); refine hk_ 8 hK (fun hHeld => ?_); clear hK K; refine pq 3 9 HT_ ?_; refine on_ 6 (some 12) HT_ (fun K hK => ?_); refine gs_ Try.func103 #[.int .i64 a0_1] ?_; with_reducible refine (spec_FormatInt.calls k a0_1 t278 _ A6.out).mono ?_
      rintro e w16 ⟨rfl, hb⟩; refine ⟨_, rfl, ?_⟩; replace BK275 := kp (kb BK275.out hb); replace HB := kp (below_step bb hb); (try clear hb); (try clear hk); refine hk_ 12 hK (fun hHeld => ?_); clear hK K; refine pq 7 13 HT_ ?_; refine pq 8 14 HT_ ?_; refine on_ 11 (some 17) HT_ (fun K hK => ?_); refine gs_ Try.func103 #[.int .i64 a0_2] ?_; with_reducible refine (spec_FormatInt.calls k a0_2 t279 _ A9.out).mono ?_
      rintro e w17 ⟨rfl, hb⟩; refine ⟨_, rfl, ?_⟩; replace BK275 := kp (kb BK275.out hb); replace HB := kp (below_step bb hb); (try clear hb); (try clear hk); refine hk_ 17 hK (fun hHeld => ?_); clear hK K; refine pq 12 18 HT_ ?_; refine pq 13 2 HT_ ?_; refine done_ (done_of HT_.out (by kernel_rfl)) ?_; try go_wp2
      go_ret; exact ⟨er, bb⟩
     ·rw [if_neg c10] at H; exact absurd H (by simp)
    ·rw [if_neg c8] at H; exact absurd H (by simp)
   ·rw [if_neg c7] at H; exact absurd H (by simp)
  ·rw [if_neg c5] at H; exact absurd H (by simp)
 ·replace c3 := Bool.eq_false_iff.mpr c3; subst c3; replace H := ie H; obtain rfl := Option.some.inj H; go_enter Try.func89, Try.ntmps89; go_wp2_with (first | ((with_reducible refine gate_dst (N := 1) rfl ?_); refine bx_ 1 #[.int .i64 a0_0, .int .i64 a0_1, .int .i64 a0_2] 42 ?_; intro gb275 hg w18 hbox hb; have BK275 := kp (hbox); have GE275 := kp (bs hg); replace HB := kp (below_step bb hb); clear hb hbox hg; obtain ⟨hcz19_0, hcz19_1, hcz19_2, hfz19_0, hfz19_1, hfz19_2⟩ := bf3 BK275.out) | ((with_reducible refine gate_callee (f := 51) rfl ?_); refine gl_ 4 Try.func51 #[.agg #[.int .i64 a0_0, .int .i64 a0_1, .int .i64 a0_2]] ?_; (with_reducible refine (spec_IsValidRow.calls a0_0 a0_1 a0_2 false _ A2.out).mono ?_); rintro e w20 ⟨rfl, hb⟩; refine ⟨_, rfl, ?_⟩; replace BK275 := kp (kb BK275.out hb); replace HB := kp (below_step bb hb); (try clear hb))); go_ret; exact ⟨er, bb⟩
mutual
def spec_FormatRows.l0 : Nat → List (S42) → ByteArray → Int → Option (ByteArray)
 | 0, _, _, _ => none
 | k + 1, x0, x3, x4 => if x4 < (x0.length : Int) then ((spec_AreValidRows.f k x0).bind fun t280 => (spec_FormatRows.j1 k x0 x3 x4 t280)) else (spec_FormatRows.j1 k x0 x3 x4 false)
def spec_FormatRows.j1 : Nat → List (S42) → ByteArray → Int → Bool → Option (ByteArray)
 | 0, _, _, _, _ => none
 | k + 1, x0, x3, x4, x12 => if x12 = true then (if x4 > 0 then (if x3.size + 1 ≤ 9223372036854775807 then (if 0 ≤ x4 then (if x4 < (x0.length : Int) then ((spec_FormatRow.f k ((rd_T42 x0 x4).f0) ((rd_T42 x0 x4).f1) ((rd_T42 x0 x4).f2)).bind fun t282 => (if (x3 ++ (⟨#[32]⟩ : ByteArray)).size + t282.size ≤ 9223372036854775807 then (spec_FormatRows.l0 k x0 ((x3 ++ (⟨#[32]⟩ : ByteArray)) ++ t282) (wrap64 (x4 + 1))) else (none))) else (none)) else (none)) else (none)) else (if 0 ≤ x4 then (if x4 < (x0.length : Int) then ((spec_FormatRow.f k ((rd_T42 x0 x4).f0) ((rd_T42 x0 x4).f1) ((rd_T42 x0 x4).f2)).bind fun t284 => (if x3.size + t284.size ≤ 9223372036854775807 then (spec_FormatRows.l0 k x0 (x3 ++ t284) (wrap64 (x4 + 1))) else (none))) else (none)) else (none))) else (some x3)
end
def spec_FormatRows.f (k : Nat) (l0 : List (S42)) : Option (ByteArray) := spec_FormatRows.l0 k l0 (⟨#[]⟩ : ByteArray) 0
set_option maxHeartbeats 8000000 in
set_option maxRecDepth 100000 in
theorem spec_FormatRows.calls (k : Nat) (A0 : Option Addr) (c0 : Nat) (l0 : List (S42)) (r : ByteArray) (w : World) (hr0 : Kd.C k42 w A0 l0.length l0) (hc0 : l0.length ≤ c0) (h : spec_FormatRows.f k l0 = some r) :
  Calls Try.prog 67 #[.slice A0 l0.length c0] w fun e w' => e = .returned (.string r) ∧ Below w.heap.size w w' := by
 have hu42 := Try.underlying42; have HR0 := kp hr0; have HC0 := kp hc0; clear hr0 hc0; have HB := kp (Below.refl w.heap.size w); have H := h; clear h; unfold spec_FormatRows.f at H; have H' := kp H; clear H; go_enter Try.func67, Try.ntmps67; go_wp2; go_loopg [3, 4] k (fun kq v3 v4 w' => ∃ (x3_1 : ByteArray) (x4_1 : Int), v3 = .string x3_1 ∧ v4 = .int .i64 x4_1 ∧ Aside0 (spec_FormatRows.l0 kq l0 x3_1 x4_1 = some r) ∧ Aside0 (kq ≤ k) ∧ Aside0 (Below w.heap.size w w')); case atStart => exact ⟨((⟨#[]⟩ : ByteArray)), (0), vr, vr, H', ⟨Nat.le_refl _⟩, ⟨bb⟩⟩
 case round =>
  clear H'; obtain ⟨x3_1, x4_1, rfl, rfl, HA, HK1, HB⟩ := hrel
  cases gk with
  | zero => exact absurd HA.out (by simp [spec_FormatRows.l0])
  | succ k1 =>
   have H := HA.out; clear HA; simp only [spec_FormatRows.l0] at H; have HC2 := kp H; clear H; go_upto_region 3 with (fail); go_cut [12] (fun v12 wc => ∃ (kq : Nat) (x12_1 : Bool), v12 = .bool x12_1 ∧ Aside0 (spec_FormatRows.j1 kq l0 x3_1 x4_1 x12_1 = some r) ∧ Aside0 (kq ≤ k1) ∧ Aside0 (Below w.heap.size w wc))
   case first =>
    have H := HC2.out; clear HC2; replace H := sp H; rcases H with ⟨c3b0, H⟩ | ⟨c3b0, H⟩
    ·(first | rw [c3b0] | (simp only [i64_w, i32_w]; rw [c3b0]) | skip); replace H := ob H; obtain ⟨t280, A4, H⟩ := H; have H' := kp H; clear H; go_wp2_with (first | (go_at_call 17; (with_reducible refine (spec_AreValidRows.calls k1 _ _ l0 t280 _ ?side1 ?side2 A4.out).mono ?_); (case side1 => exact cc HR0.out); (case side2 => exact HC0.out); rintro e w5 ⟨rfl, hb⟩; replace HB := kp (below_step bb hb); (try clear hb))); go_meet; case rel => exact ⟨_, (t280), vr, H', ⟨by have := HK1.out; first | omega | exact Nat.le_refl _⟩, ⟨bb⟩⟩
    ·(first | rw [c3b0] | (simp only [i64_w, i32_w]; rw [c3b0]) | skip); have H' := kp H; clear H; go_wp2; go_meet; case rel => exact ⟨_, (false), vr, H', ⟨by have := HK1.out; first | omega | exact Nat.le_refl _⟩, ⟨bb⟩⟩
   case rest =>
    clear HC2; obtain ⟨kq, x12_1, rfl, HA, HJ1, HB⟩ := hcut
    cases kq with
    | zero => exact absurd HA.out (by simp [spec_FormatRows.j1])
    | succ kj1 =>
     have H := HA.out; clear HA; simp only [spec_FormatRows.j1] at H; by_cases c6 : x12_1 = true
     ·subst c6; replace H := ip H; replace H := sp H; rcases H with ⟨c7b0, H⟩ | ⟨c7b0, H⟩
      ·by_cases c8 : x3_1.size + 1 ≤ 9223372036854775807
       ·rw [if_pos c8] at H; have c8b0 := eq_true c8; have c8b1 : decide (x3_1.size + 1 ≤ 9223372036854775807) = true := decide_eq_true c8; try have c8b2 : (9223372036854775807 < x3_1.size + 1) = False := eq_false (Nat.not_lt.2 c8)
        replace H := sn H; obtain ⟨c9b0, H⟩ := H; replace H := sn H; obtain ⟨c10b0, H⟩ := H; replace H := ob H; obtain ⟨t282, A11, H⟩ := H; by_cases c12 : (x3_1 ++ (⟨#[32]⟩ : ByteArray)).size + t282.size ≤ 9223372036854775807
        ·rw [if_pos c12] at H; have c12b0 := eq_true c12; have c12b1 : decide ((x3_1 ++ (⟨#[32]⟩ : ByteArray)).size + t282.size ≤ 9223372036854775807) = true := decide_eq_true c12; try have c12b2 : (9223372036854775807 < (x3_1 ++ (⟨#[32]⟩ : ByteArray)).size + t282.size) = False := eq_false (Nat.not_lt.2 c12)
         have c12b3 : (9223372036854775807 < x3_1.size + 1 + t282.size) = False := eq_false (by have h_ := c12; have e_ : (⟨#[46]⟩ : ByteArray).size = 1 := rfl; have e2_ : (⟨#[32]⟩ : ByteArray).size = 1 := rfl; have e3_ : (⟨#[91]⟩ : ByteArray).size = 1 := rfl; have e4_ : (⟨#[93]⟩ : ByteArray).size = 1 := rfl; simp only [ByteArray.size_append] at h_; omega); have H' := kp H; clear H; obtain ⟨ad281, rfl, hx281_0, hx281_1, hx281_2, p281, q281⟩ := ra_T42 HR0 HB x4_1 dt dt; go_wp2_with (first | ((with_reducible refine gate_callee (f := 89) rfl ?_); refine gl_ 24 Try.func89 #[.agg #[.int .i64 ((rd_T42 l0 x4_1).f0), .int .i64 ((rd_T42 l0 x4_1).f1), .int .i64 ((rd_T42 l0 x4_1).f2)]] ?_; (with_reducible refine (spec_FormatRow.calls kj1 ((rd_T42 l0 x4_1).f0) ((rd_T42 l0 x4_1).f1) ((rd_T42 l0 x4_1).f2) t282 _ A11.out).mono ?_); rintro e w13 ⟨rfl, hb⟩; refine ⟨_, rfl, ?_⟩; replace HB := kp (below_step bb hb); (try clear hb))); go_roundg kj1; case measure => have := HK1.out; have := HJ1.out; omega
         case rel => exact ⟨((x3_1 ++ (⟨#[32]⟩ : ByteArray)) ++ t282), (wrap64 (x4_1 + 1)), vr, vr, H', ⟨by have := HK1.out; have := HJ1.out; omega⟩, ⟨bb⟩⟩
        ·rw [if_neg c12] at H; exact absurd H (by simp)
       ·rw [if_neg c8] at H; exact absurd H (by simp)
      ·replace H := sn H; obtain ⟨c14b0, H⟩ := H; replace H := sn H; obtain ⟨c15b0, H⟩ := H; replace H := ob H; obtain ⟨t284, A16, H⟩ := H; by_cases c17 : x3_1.size + t284.size ≤ 9223372036854775807
       ·rw [if_pos c17] at H; have c17b0 := eq_true c17; have c17b1 : decide (x3_1.size + t284.size ≤ 9223372036854775807) = true := decide_eq_true c17; try have c17b2 : (9223372036854775807 < x3_1.size + t284.size) = False := eq_false (Nat.not_lt.2 c17)
        have H' := kp H; clear H; obtain ⟨ad283, rfl, hx283_0, hx283_1, hx283_2, p283, q283⟩ := ra_T42 HR0 HB x4_1 dt dt; go_wp2_with (first | ((with_reducible refine gate_callee (f := 89) rfl ?_); refine gl_ 24 Try.func89 #[.agg #[.int .i64 ((rd_T42 l0 x4_1).f0), .int .i64 ((rd_T42 l0 x4_1).f1), .int .i64 ((rd_T42 l0 x4_1).f2)]] ?_; (with_reducible refine (spec_FormatRow.calls kj1 ((rd_T42 l0 x4_1).f0) ((rd_T42 l0 x4_1).f1) ((rd_T42 l0 x4_1).f2) t284 _ A16.out).mono ?_); rintro e w18 ⟨rfl, hb⟩; refine ⟨_, rfl, ?_⟩; replace HB := kp (below_step bb hb); (try clear hb))); go_roundg kj1; case measure => have := HK1.out; have := HJ1.out; omega
        case rel => exact ⟨(x3_1 ++ t284), (wrap64 (x4_1 + 1)), vr, vr, H', ⟨by have := HK1.out; have := HJ1.out; omega⟩, ⟨bb⟩⟩
       ·rw [if_neg c17] at H; exact absurd H (by simp)
     ·replace c6 := Bool.eq_false_iff.mpr c6; subst c6; replace H := ie H; obtain rfl := Option.some.inj H; go_wp2; go_ret; exact ⟨er, bb⟩
def spec_FormatPages.l0 : Nat → List (S39) → ByteArray → Int → Option (ByteArray)
 | 0, _, _, _ => none
 | k + 1, x0, x3, x4 => if x4 < (x0.length : Int) then ((spec_l4Pages.f k x0).bind fun t285 => (if t285 = true then (if x3.size + 1 ≤ 9223372036854775807 then (if 0 ≤ x4 then ((spec_FormatRows.f k ((rd_T39 x0 x4).f0)).bind fun t287 => (if (x3 ++ (⟨#[91]⟩ : ByteArray)).size + t287.size ≤ 9223372036854775807 then (if ((x3 ++ (⟨#[91]⟩ : ByteArray)) ++ t287).size + 1 ≤ 9223372036854775807 then (spec_FormatPages.l0 k x0 (((x3 ++ (⟨#[91]⟩ : ByteArray)) ++ t287) ++ (⟨#[93]⟩ : ByteArray)) (wrap64 (x4 + 1))) else (none)) else (none))) else (none)) else (none)) else (some x3))) else (some x3)
def spec_FormatPages.f (k : Nat) (l0 : List (S39)) : Option (ByteArray) := spec_FormatPages.l0 k l0 (⟨#[]⟩ : ByteArray) 0
set_option maxHeartbeats 8000000 in
set_option maxRecDepth 100000 in
theorem spec_FormatPages.calls (k : Nat) (A0 : Option Addr) (c0 : Nat) (l0 : List (S39)) (r : ByteArray) (w : World) (hr0 : Kd.C k39 w A0 l0.length l0) (hc0 : l0.length ≤ c0) (h : spec_FormatPages.f k l0 = some r) :
  Calls Try.prog 28 #[.slice A0 l0.length c0] w fun e w' => e = .returned (.string r) ∧ Below w.heap.size w w' := by
 have HR0 := kp hr0; have HC0 := kp hc0; clear hr0 hc0; have HB := kp (Below.refl w.heap.size w); have H := h; clear h; unfold spec_FormatPages.f at H; have H' := kp H; clear H; go_enter Try.func28, Try.ntmps28; go_wp2; go_loopg [3, 4] k (fun kq v3 v4 w' => ∃ (x3_1 : ByteArray) (x4_1 : Int), v3 = .string x3_1 ∧ v4 = .int .i64 x4_1 ∧ Aside0 (spec_FormatPages.l0 kq l0 x3_1 x4_1 = some r) ∧ Aside0 (kq ≤ k) ∧ Aside0 (Below w.heap.size w w')); case atStart => exact ⟨((⟨#[]⟩ : ByteArray)), (0), vr, vr, H', ⟨Nat.le_refl _⟩, ⟨bb⟩⟩
 case round =>
  clear H'; obtain ⟨x3_1, x4_1, rfl, rfl, HA, HK1, HB⟩ := hrel
  cases gk with
  | zero => exact absurd HA.out (by simp [spec_FormatPages.l0])
  | succ k1 =>
   have H := HA.out; clear HA; simp only [spec_FormatPages.l0] at H; replace H := sp H; rcases H with ⟨c2b0, H⟩ | ⟨c2b0, H⟩
   ·replace H := ob H; obtain ⟨t285, A3, H⟩ := H; by_cases c4 : t285 = true
    ·subst c4; replace H := ip H; by_cases c5 : x3_1.size + 1 ≤ 9223372036854775807
     ·rw [if_pos c5] at H; have c5b0 := eq_true c5; have c5b1 : decide (x3_1.size + 1 ≤ 9223372036854775807) = true := decide_eq_true c5; try have c5b2 : (9223372036854775807 < x3_1.size + 1) = False := eq_false (Nat.not_lt.2 c5)
      replace H := sn H; obtain ⟨c6b0, H⟩ := H; replace H := ob H; obtain ⟨t287, A7, H⟩ := H; by_cases c8 : (x3_1 ++ (⟨#[91]⟩ : ByteArray)).size + t287.size ≤ 9223372036854775807
      ·rw [if_pos c8] at H; have c8b0 := eq_true c8; have c8b1 : decide ((x3_1 ++ (⟨#[91]⟩ : ByteArray)).size + t287.size ≤ 9223372036854775807) = true := decide_eq_true c8; try have c8b2 : (9223372036854775807 < (x3_1 ++ (⟨#[91]⟩ : ByteArray)).size + t287.size) = False := eq_false (Nat.not_lt.2 c8)
       have c8b3 : (9223372036854775807 < x3_1.size + 1 + t287.size) = False := eq_false (by have h_ := c8; have e_ : (⟨#[46]⟩ : ByteArray).size = 1 := rfl; have e2_ : (⟨#[32]⟩ : ByteArray).size = 1 := rfl; have e3_ : (⟨#[91]⟩ : ByteArray).size = 1 := rfl; have e4_ : (⟨#[93]⟩ : ByteArray).size = 1 := rfl; simp only [ByteArray.size_append] at h_; omega); by_cases c9 : ((x3_1 ++ (⟨#[91]⟩ : ByteArray)) ++ t287).size + 1 ≤ 9223372036854775807
       ·rw [if_pos c9] at H; have c9b0 := eq_true c9; have c9b1 : decide (((x3_1 ++ (⟨#[91]⟩ : ByteArray)) ++ t287).size + 1 ≤ 9223372036854775807) = true := decide_eq_true c9; try have c9b2 : (9223372036854775807 < ((x3_1 ++ (⟨#[91]⟩ : ByteArray)) ++ t287).size + 1) = False := eq_false (Nat.not_lt.2 c9)
        have c9b3 : (9223372036854775807 < x3_1.size + 1 + t287.size + 1) = False := eq_false (by have h_ := c9; have e_ : (⟨#[46]⟩ : ByteArray).size = 1 := rfl; have e2_ : (⟨#[32]⟩ : ByteArray).size = 1 := rfl; have e3_ : (⟨#[91]⟩ : ByteArray).size = 1 := rfl; have e4_ : (⟨#[93]⟩ : ByteArray).size = 1 := rfl; simp only [ByteArray.size_append] at h_; omega); have H' := kp H; clear H; go_wp2_with (first | (go_at_call 64; (with_reducible refine (spec_l4Pages.calls k1 _ _ l0 true _ ?side1 ?side2 A3.out).mono ?_); (case side1 => exact cc HR0.out); (case side2 => exact HC0.out); rintro e w10 ⟨rfl, hb⟩; replace HB := kp (below_step bb hb); (try clear hb); have p286 : 0 ≤ (x4_1 : Int) := dt; have q286 : x4_1 < (l0.length : Int) := dt; obtain ⟨ad286, A286_0, c286_0, e286, hx286_0, hl286_0, hi286_0⟩ := at_T39 HR0.out x4_1 p286 q286; cases e286; replace hx286_0 := kc HB.out hx286_0; have HR286_0 := kp hi286_0; have HC286_0 := kp hl286_0; clear hi286_0 hl286_0; replace p286 := eq_true p286; replace q286 := eq_true q286) | ((with_reducible refine gate_callee (f := 67) rfl ?_); refine gl_ 22 Try.func67 #[.slice A286_0 ((rd_T39 l0 x4_1).f0).length c286_0] ?_; (with_reducible refine (spec_FormatRows.calls k1 _ _ ((rd_T39 l0 x4_1).f0) t287 _ ?side1 ?side2 A7.out).mono ?_); (case side1 => exact cc HR286_0.out); (case side2 => exact HC286_0.out); rintro e w11 ⟨rfl, hb⟩; refine ⟨_, rfl, ?_⟩; replace HB := kp (below_step bb hb); (try clear hb))); go_roundg k1; case measure => have := HK1.out; omega
        case rel => exact ⟨(((x3_1 ++ (⟨#[91]⟩ : ByteArray)) ++ t287) ++ (⟨#[93]⟩ : ByteArray)), (wrap64 (x4_1 + 1)), vr, vr, H', ⟨by have := HK1.out; omega⟩, ⟨bb⟩⟩
       ·rw [if_neg c9] at H; exact absurd H (by simp)
      ·rw [if_neg c8] at H; exact absurd H (by simp)
     ·rw [if_neg c5] at H; exact absurd H (by simp)
    ·replace c4 := Bool.eq_false_iff.mpr c4; subst c4; replace H := ie H; obtain rfl := Option.some.inj H; go_wp2_with (first | (go_at_call 64; (with_reducible refine (spec_l4Pages.calls k1 _ _ l0 false _ ?side1 ?side2 A3.out).mono ?_); (case side1 => exact cc HR0.out); (case side2 => exact HC0.out); rintro e w12 ⟨rfl, hb⟩; replace HB := kp (below_step bb hb); (try clear hb))); go_ret; exact ⟨er, bb⟩
   ·obtain rfl := Option.some.inj H; go_wp2; go_ret; exact ⟨er, bb⟩
def spec_ChecksumOf.l0 : Nat → ByteArray → Int → Int → Option (Int)
 | 0, _, _, _ => none
 | k + 1, x0, x3, x4 => if x4 < (x0.size : Int) then (if 0 ≤ x4 then (spec_ChecksumOf.l0 k x0 (Int.tmod (wrap64 ((wrap64 ((wrap64 (x3 * 37)) + (wrap64 (bt x0 x4)))) + 1)) 65521) (wrap64 (x4 + 1))) else (none)) else (some x3)
def spec_ChecksumOf.f (k : Nat) (a0 : ByteArray) : Option (Int) := spec_ChecksumOf.l0 k a0 11 0
set_option maxHeartbeats 8000000 in
set_option maxRecDepth 100000 in
theorem spec_ChecksumOf.calls (k : Nat) (a0 : ByteArray) (r : Int) (w : World) (h : spec_ChecksumOf.f k a0 = some r) :
  Calls Try.prog 95 #[.string a0] w fun e w' => e = .returned (.int .i64 r) ∧ Drawn0 w w' := by
 have H := h; clear h; unfold spec_ChecksumOf.f at H; have H' := kp H; clear H; go_enter Try.func95, Try.ntmps95; go_wp2; go_loopg [3, 4] k (fun kq v3 v4 w' => ∃ (x3_1 : Int) (x4_1 : Int), v3 = .int .i64 x3_1 ∧ v4 = .int .i64 x4_1 ∧ Aside0 (spec_ChecksumOf.l0 kq a0 x3_1 x4_1 = some r) ∧ Aside0 (kq ≤ k) ∧ Drawn0 w w'); case atStart => exact ⟨(11), (0), vr, vr, H', ⟨Nat.le_refl _⟩, by repeat (first | exact Drawn0.refl _ | apply Drawn0.step)⟩
 case round =>
  clear H'; obtain ⟨x3_1, x4_1, rfl, rfl, HA, HK1, ⟨m1, rfl⟩⟩ := hrel
  cases gk with
  | zero => exact absurd HA.out (by simp [spec_ChecksumOf.l0])
  | succ k1 =>
   have H := HA.out; clear HA; simp only [spec_ChecksumOf.l0] at H; replace H := sp H; rcases H with ⟨c2b0, H⟩ | ⟨c2b0, H⟩
   ·replace H := sn H; obtain ⟨c3b0, H⟩ := H; have H' := kp H; clear H; have p4 : 0 ≤ (x4_1 : Int) := dt; have q4 : x4_1 < (a0.size : Int) := dt; have hx4 := bt_at a0 x4_1; replace p4 := eq_true p4; replace q4 := eq_true q4; go_wp2; go_roundg k1; case measure => have := HK1.out; omega
    case rel => exact ⟨(Int.tmod (wrap64 ((wrap64 ((wrap64 (x3_1 * 37)) + (wrap64 (bt a0 x4_1)))) + 1)) 65521), (wrap64 (x4_1 + 1)), vr, vr, H', ⟨by have := HK1.out; omega⟩, by repeat (first | exact Drawn0.refl _ | apply Drawn0.step)⟩
   ·obtain rfl := Option.some.inj H; go_wp2; go_ret; exact ⟨by first | rfl | (simp; done) | (simp [*]; done), by repeat (first | exact Drawn0.refl _ | apply Drawn0.step)⟩
end Go.Proofs.Ytljpfogplcdcjaa.PFnSealedFiles
