/- Out of a copy of the print, with function values told: nothing is claimed here. -/
import Derived.Test.YtinniedbgfgclaaVQFnExactSealFilex0
import Derived.Test.YtinniedbgfgclaaVQFnExactSealFilex15
import Derived.Test.YtinniedbgfgclaaVShort
import Derived.Test.YtinniedbgfgclaaVPress
namespace Go.Proofs.Ytinniedbgfgclaa.PFnExactSealFile
open Go.RowKit Go.Proofs.YtinniedbgfgclaaW.PrintWords Go.Proofs.YtinniedbgfgclaaW.PrintLast Go.Proofs.YtinniedbgfgclaaW.PrintMore Go.Proofs.Ytinniedbgfgclaa.Short Go.Proofs.Ytinniedbgfgclaa.Press
attribute [local go_sem] max2_int min2_int max_two min_two max_three min_three max_four min_four   -- for this text's walks alone
set_option linter.unusedVariables false
set_option linter.unusedSimpArgs false
/-! ### laws_heldPageS: function 59 -/
def laws_heldPageS.l0 : Nat → List (S39) → Int → Int → Option (Int)
 | 0, _, _, _ => none
 | k + 1, x0, x1, x5 => if x5 < (x0.length : Int) then (if 0 ≤ x5 then ((laws_heldRowS.f k ((rd_T39 x0 x5).f0) x1).bind fun t379 => (if t379 < 0 then (some (-1)) else (laws_heldPageS.l0 k x0 t379 (wrap64 (x5 + 1))))) else (none)) else (some x1)
def laws_heldPageS.f (k : Nat) (l0 : List (S39)) (a1 : Int) : Option (Int) := laws_heldPageS.l0 k l0 a1 0
set_option maxHeartbeats 8000000 in
set_option maxRecDepth 100000 in
theorem laws_heldPageS.calls (k : Nat) (A0 : Option Addr) (c0 : Nat) (l0 : List (S39)) (a1 : Int) (r : Int) (w : World) (hr0 : Kd.C k39 w A0 l0.length l0) (hc0 : l0.length ≤ c0) (h : laws_heldPageS.f k l0 a1 = some r) :
  Calls Try.prog 59 #[.slice A0 l0.length c0, .int .i64 a1] w fun e w' => e = .returned (.int .i64 r) ∧ Drawn0 w w' := by
 have HR0 := kp hr0
 have HC0 := kp hc0
 clear hr0 hc0
 have H : (laws_heldPageS.l0 k l0 a1 0) = some r := h
 clear h
 have H' := kp H
 clear H
 go_enter Try.func59, Try.ntmps59
 go_wp2
 go_loopg [1, 5] k (fun kq v1 v5 w' => ∃ (x1_1 : Int) (x5_1 : Int), v1 = .int .i64 x1_1 ∧ v5 = .int .i64 x5_1 ∧ Aside0 (laws_heldPageS.l0 kq l0 x1_1 x5_1 = some r) ∧ Aside0 (kq ≤ k) ∧ Drawn0 w w')
 case atStart => exact ⟨(a1), (0), (by first | rfl | (simp; done) | (simp [*]; done)), (by first | rfl | (simp; done) | (simp [*]; done)), H', ⟨Nat.le_refl _⟩, by repeat (first | exact Drawn0.refl _ | apply Drawn0.step)⟩
 case round =>
  clear H'
  try clear p2
  obtain ⟨x1_1, x5_1, rfl, rfl, HA, HK1, ⟨m1, rfl⟩⟩ := hrel
  cases gk with
  | zero => exact absurd HA.out (by simp [laws_heldPageS.l0])
  | succ k1 =>
   have H := HA.out; clear HA; simp only [laws_heldPageS.l0] at H
   by_cases c3 : x5_1 < (l0.length : Int)
   ·rw [if_pos c3] at H; have c3b0 : decide (x5_1 < (l0.length : Int)) = true := decide_eq_true c3; clear c3
    by_cases c4 : 0 ≤ x5_1
    ·rw [if_pos c4] at H; have c4b0 : decide (0 ≤ x5_1) = true := decide_eq_true c4; clear c4; replace H := Option.bind_eq_some_iff.mp H; obtain ⟨t379, A50, H⟩ := H; replace H : (if t379 < 0 then (some (-1)) else (laws_heldPageS.l0 k1 l0 t379 (wrap64 (x5_1 + 1)))) = some r := H; have A5 := kp A50; clear A50
     by_cases c6 : t379 < 0
     ·rw [if_pos c6] at H; have c6b0 : decide (t379 < 0) = true := decide_eq_true c6; clear c6; obtain rfl := Option.some.inj H; have p378 : 0 ≤ (x5_1 : Int) := dt; have q378 : x5_1 < (l0.length : Int) := dt; obtain ⟨ad378, A378_0, c378_0, e378, hx378_0, hl378_0, hi378_0⟩ := at_T39 HR0.out x5_1 p378 q378; cases e378; have HR378_0 := kp hi378_0; have HC378_0 := kp hl378_0; clear hi378_0 hl378_0; replace p378 := eq_true p378; replace q378 := eq_true q378
      go_wp2_with (first | ((with_reducible refine gate_callee (f := 55) rfl ?_); refine gl_ 18 Try.func55 #[.slice A378_0 ((rd_T39 l0 x5_1).f0).length c378_0, .int .i64 x1_1] ?_; (with_reducible refine (laws_heldRowS.calls k1 _ _ ((rd_T39 l0 x5_1).f0) x1_1 t379 _ ?side1 ?side2 A5.out).mono ?_); (case side1 => repeat (first | exact HR378_0.out | (with_reducible refine Kd.C_alloc ?_ _) | (with_reducible refine Kd.C_drewN ?_ _) | (with_reducible refine Kd.C_drew ?_))); (case side2 => exact HC378_0.out); rintro e w' ⟨rfl, ⟨nd, rfl⟩⟩; refine ⟨_, rfl, ?_⟩))
      go_ret; exact ⟨by first | rfl | (simp; done) | (simp [*]; done), by repeat (first | exact Drawn0.refl _ | apply Drawn0.step)⟩
     ·rw [if_neg c6] at H; have c6b0 : decide (t379 < 0) = false := decide_eq_false c6; clear c6; have H' := kp H; clear H; have p378 : 0 ≤ (x5_1 : Int) := dt; have q378 : x5_1 < (l0.length : Int) := dt; obtain ⟨ad378, A378_0, c378_0, e378, hx378_0, hl378_0, hi378_0⟩ := at_T39 HR0.out x5_1 p378 q378; cases e378; have HR378_0 := kp hi378_0; have HC378_0 := kp hl378_0; clear hi378_0 hl378_0; replace p378 := eq_true p378; replace q378 := eq_true q378
      go_wp2_with (first | ((with_reducible refine gate_callee (f := 55) rfl ?_); refine gl_ 18 Try.func55 #[.slice A378_0 ((rd_T39 l0 x5_1).f0).length c378_0, .int .i64 x1_1] ?_; (with_reducible refine (laws_heldRowS.calls k1 _ _ ((rd_T39 l0 x5_1).f0) x1_1 t379 _ ?side1 ?side2 A5.out).mono ?_); (case side1 => repeat (first | exact HR378_0.out | (with_reducible refine Kd.C_alloc ?_ _) | (with_reducible refine Kd.C_drewN ?_ _) | (with_reducible refine Kd.C_drew ?_))); (case side2 => exact HC378_0.out); rintro e w' ⟨rfl, ⟨nd, rfl⟩⟩; refine ⟨_, rfl, ?_⟩))
      go_roundg k1
      case measure => have := HK1.out; omega
      case rel => exact ⟨(t379), (wrap64 (x5_1 + 1)), (by first | rfl | (simp; done) | (simp [*]; done)), (by first | rfl | (simp; done) | (simp [*]; done)), H', ⟨by have := HK1.out; omega⟩, by repeat (first | exact Drawn0.refl _ | apply Drawn0.step)⟩
    ·rw [if_neg c4] at H; exact absurd H (by simp)
   ·rw [if_neg c3] at H; have c3b0 : decide (x5_1 < (l0.length : Int)) = false := decide_eq_false c3; clear c3; obtain rfl := Option.some.inj H; go_wp2; go_ret; exact ⟨by first | rfl | (simp; done) | (simp [*]; done), by repeat (first | exact Drawn0.refl _ | apply Drawn0.step)⟩
/-! ### laws_heldFileS: function 68 -/
def laws_heldFileS.l0 : Nat → List (S80) → Int → Int → Option (Int)
 | 0, _, _, _ => none
 | k + 1, x0, x1, x5 => if x5 < (x0.length : Int) then (if 0 ≤ x5 then (if ((rd_T80 x0 x5).f0) = x1 then ((laws_heldPageS.f k ((rd_T80 x0 x5).f1) (wrap64 (x1 + 1))).bind fun t382 => (if t382 < 0 then (some (-1)) else (if ((rd_T80 x0 x5).f2) = t382 then (if (((rd_T80 x0 x5).f3) != ((Int.tmod (wrap64 (t382 + 1)) 3) == 0)) = true then (some (-1)) else (laws_heldFileS.l0 k x0 (wrap64 ((wrap64 (t382 + 1)) + 1)) (wrap64 (x5 + 1)))) else (some (-1))))) else (some (-1))) else (none)) else (some x1)
def laws_heldFileS.f (k : Nat) (l0 : List (S80)) (a1 : Int) : Option (Int) := laws_heldFileS.l0 k l0 a1 0
set_option maxHeartbeats 8000000 in
set_option maxRecDepth 100000 in
theorem laws_heldFileS.calls (k : Nat) (A0 : Option Addr) (c0 : Nat) (l0 : List (S80)) (a1 : Int) (r : Int) (w : World) (hr0 : Kd.C k80 w A0 l0.length l0) (hc0 : l0.length ≤ c0) (h : laws_heldFileS.f k l0 a1 = some r) :
  Calls Try.prog 68 #[.slice A0 l0.length c0, .int .i64 a1] w fun e w' => e = .returned (.int .i64 r) ∧ Drawn0 w w' := by
 have HR0 := kp hr0
 have HC0 := kp hc0
 clear hr0 hc0
 have H : (laws_heldFileS.l0 k l0 a1 0) = some r := h
 clear h
 have H' := kp H
 clear H
 go_enter Try.func68, Try.ntmps68
 go_wp2
 go_loopg [1, 5] k (fun kq v1 v5 w' => ∃ (x1_1 : Int) (x5_1 : Int), v1 = .int .i64 x1_1 ∧ v5 = .int .i64 x5_1 ∧ Aside0 (laws_heldFileS.l0 kq l0 x1_1 x5_1 = some r) ∧ Aside0 (kq ≤ k) ∧ Drawn0 w w')
 case atStart => exact ⟨(a1), (0), (by first | rfl | (simp; done) | (simp [*]; done)), (by first | rfl | (simp; done) | (simp [*]; done)), H', ⟨Nat.le_refl _⟩, by repeat (first | exact Drawn0.refl _ | apply Drawn0.step)⟩
 case round =>
  clear H'
  try clear p2
  obtain ⟨x1_1, x5_1, rfl, rfl, HA, HK1, ⟨m1, rfl⟩⟩ := hrel
  cases gk with
  | zero => exact absurd HA.out (by simp [laws_heldFileS.l0])
  | succ k1 =>
   have H := HA.out; clear HA; simp only [laws_heldFileS.l0] at H
   by_cases c3 : x5_1 < (l0.length : Int)
   ·rw [if_pos c3] at H; have c3b0 : decide (x5_1 < (l0.length : Int)) = true := decide_eq_true c3; clear c3
    by_cases c4 : 0 ≤ x5_1
    ·rw [if_pos c4] at H; have c4b0 : decide (0 ≤ x5_1) = true := decide_eq_true c4; clear c4
     by_cases c5 : ((rd_T80 l0 x5_1).f0) = x1_1
     ·rw [if_pos c5] at H; have c5b0 : (((rd_T80 l0 x5_1).f0) == x1_1) = true := beq_iff_eq.mpr c5; have c5b1 : (((rd_T80 l0 x5_1).f0) != x1_1) = false := bne_eq_false_iff_eq.mpr c5; clear c5; replace H := Option.bind_eq_some_iff.mp H; obtain ⟨t382, A60, H⟩ := H; replace H : (if t382 < 0 then (some (-1)) else (if ((rd_T80 l0 x5_1).f2) = t382 then (if (((rd_T80 l0 x5_1).f3) != ((Int.tmod (wrap64 (t382 + 1)) 3) == 0)) = true then (some (-1)) else (laws_heldFileS.l0 k1 l0 (wrap64 ((wrap64 (t382 + 1)) + 1)) (wrap64 (x5_1 + 1)))) else (some (-1)))) = some r := H; have A6 := kp A60; clear A60
      by_cases c7 : t382 < 0
      ·rw [if_pos c7] at H; have c7b0 : decide (t382 < 0) = true := decide_eq_true c7; clear c7; obtain rfl := Option.some.inj H; have p380 : 0 ≤ (x5_1 : Int) := dt; have q380 : x5_1 < (l0.length : Int) := dt; obtain ⟨ad380, A380_1, c380_1, e380, hx380_0, hx380_1, hx380_2, hx380_3, hl380_1, hi380_1⟩ := at_T80 HR0.out x5_1 p380 q380; cases e380; have HR380_1 := kp hi380_1; have HC380_1 := kp hl380_1; clear hi380_1 hl380_1; replace p380 := eq_true p380; replace q380 := eq_true q380; have p381 : 0 ≤ (x5_1 : Int) := dt; have q381 : x5_1 < (l0.length : Int) := dt; obtain ⟨ad381, A381_1, c381_1, e381, hx381_0, hx381_1, hx381_2, hx381_3, hl381_1, hi381_1⟩ := at_T80 HR0.out x5_1 p381 q381; obtain rfl : ad380 = ad381 := (by injection e381); have HR381_1 := kp hi381_1; have HC381_1 := kp hl381_1; clear hi381_1 hl381_1; replace p381 := eq_true p381; replace q381 := eq_true q381; have ea_ := Option.some.inj (hx380_1.symm.trans hx381_1)
       injection ea_ with ea_ en_ ec_
       subst ea_; subst ec_; clear en_
       go_wp2_with (first | ((with_reducible refine gate_callee (f := 59) rfl ?_); refine gl_ 27 Try.func59 #[.slice A380_1 ((rd_T80 l0 x5_1).f1).length c380_1, .int .i64 (wrap64 (x1_1 + 1))] ?_; (with_reducible refine (laws_heldPageS.calls k1 _ _ ((rd_T80 l0 x5_1).f1) (wrap64 (x1_1 + 1)) t382 _ ?side1 ?side2 A6.out).mono ?_); (case side1 => repeat (first | exact HR381_1.out | (with_reducible refine Kd.C_alloc ?_ _) | (with_reducible refine Kd.C_drewN ?_ _) | (with_reducible refine Kd.C_drew ?_))); (case side2 => exact HC381_1.out); rintro e w' ⟨rfl, ⟨nd, rfl⟩⟩; refine ⟨_, rfl, ?_⟩))
       go_ret; exact ⟨by first | rfl | (simp; done) | (simp [*]; done), by repeat (first | exact Drawn0.refl _ | apply Drawn0.step)⟩
      ·rw [if_neg c7] at H; have c7b0 : decide (t382 < 0) = false := decide_eq_false c7; clear c7
       by_cases c8 : ((rd_T80 l0 x5_1).f2) = t382
       ·rw [if_pos c8] at H; have c8b0 : (((rd_T80 l0 x5_1).f2) == t382) = true := beq_iff_eq.mpr c8; have c8b1 : (((rd_T80 l0 x5_1).f2) != t382) = false := bne_eq_false_iff_eq.mpr c8; clear c8
        by_cases c9 : (((rd_T80 l0 x5_1).f3) != ((Int.tmod (wrap64 (t382 + 1)) 3) == 0)) = true
        ·rw [if_pos c9] at H; have c9b0 : (((rd_T80 l0 x5_1).f3) != ((Int.tmod (wrap64 (t382 + 1)) 3) == 0)) = true := c9; (try (have c9b1 : decide (((rd_T80 l0 x5_1).f3) = ((Int.tmod (wrap64 (t382 + 1)) 3) == 0)) = false := by simpa using c9)); (try (have c9b2 : (((rd_T80 l0 x5_1).f3) == ((Int.tmod (wrap64 (t382 + 1)) 3) == 0)) = false := by simpa using c9)); (try (have c9b3 : ¬ (((rd_T80 l0 x5_1).f3) = ((Int.tmod (wrap64 (t382 + 1)) 3) == 0)) := by simpa using c9)); clear c9; obtain rfl := Option.some.inj H; have p380 : 0 ≤ (x5_1 : Int) := dt; have q380 : x5_1 < (l0.length : Int) := dt; obtain ⟨ad380, A380_1, c380_1, e380, hx380_0, hx380_1, hx380_2, hx380_3, hl380_1, hi380_1⟩ := at_T80 HR0.out x5_1 p380 q380; cases e380; have HR380_1 := kp hi380_1; have HC380_1 := kp hl380_1; clear hi380_1 hl380_1; replace p380 := eq_true p380; replace q380 := eq_true q380; have p381 : 0 ≤ (x5_1 : Int) := dt; have q381 : x5_1 < (l0.length : Int) := dt; obtain ⟨ad381, A381_1, c381_1, e381, hx381_0, hx381_1, hx381_2, hx381_3, hl381_1, hi381_1⟩ := at_T80 HR0.out x5_1 p381 q381; obtain rfl : ad380 = ad381 := (by injection e381); have HR381_1 := kp hi381_1; have HC381_1 := kp hl381_1; clear hi381_1 hl381_1; replace p381 := eq_true p381; replace q381 := eq_true q381; have ea_ := Option.some.inj (hx380_1.symm.trans hx381_1)
         injection ea_ with ea_ en_ ec_
         subst ea_; subst ec_; clear en_
         go_wp2_with (first | ((with_reducible refine gate_callee (f := 59) rfl ?_); refine gl_ 27 Try.func59 #[.slice A380_1 ((rd_T80 l0 x5_1).f1).length c380_1, .int .i64 (wrap64 (x1_1 + 1))] ?_; (with_reducible refine (laws_heldPageS.calls k1 _ _ ((rd_T80 l0 x5_1).f1) (wrap64 (x1_1 + 1)) t382 _ ?side1 ?side2 A6.out).mono ?_); (case side1 => repeat (first | exact HR381_1.out | (with_reducible refine Kd.C_alloc ?_ _) | (with_reducible refine Kd.C_drewN ?_ _) | (with_reducible refine Kd.C_drew ?_))); (case side2 => exact HC381_1.out); rintro e w' ⟨rfl, ⟨nd, rfl⟩⟩; refine ⟨_, rfl, ?_⟩; have p383 : 0 ≤ (x5_1 : Int) := dt; have q383 : x5_1 < (l0.length : Int) := dt; obtain ⟨ad383, A383_1, c383_1, e383, hx383_0, hx383_1, hx383_2, hx383_3, hl383_1, hi383_1⟩ := at_T80 HR0.out x5_1 p383 q383; obtain rfl : ad380 = ad383 := (by injection e383); have HR383_1 := kp hi383_1; have HC383_1 := kp hl383_1; clear hi383_1 hl383_1; replace p383 := eq_true p383; replace q383 := eq_true q383; have ea_ := Option.some.inj (hx380_1.symm.trans hx383_1); injection ea_ with ea_ en_ ec_; subst ea_; subst ec_; clear en_; have p384 : 0 ≤ (x5_1 : Int) := dt; have q384 : x5_1 < (l0.length : Int) := dt; obtain ⟨ad384, A384_1, c384_1, e384, hx384_0, hx384_1, hx384_2, hx384_3, hl384_1, hi384_1⟩ := at_T80 HR0.out x5_1 p384 q384; obtain rfl : ad380 = ad384 := (by injection e384); have HR384_1 := kp hi384_1; have HC384_1 := kp hl384_1; clear hi384_1 hl384_1; replace p384 := eq_true p384; replace q384 := eq_true q384; have ea_ := Option.some.inj (hx380_1.symm.trans hx384_1); injection ea_ with ea_ en_ ec_; subst ea_; subst ec_; clear en_))
         go_ret; exact ⟨by first | rfl | (simp; done) | (simp [*]; done), by repeat (first | exact Drawn0.refl _ | apply Drawn0.step)⟩
        ·rw [if_neg c9] at H; have c9b0 : (((rd_T80 l0 x5_1).f3) != ((Int.tmod (wrap64 (t382 + 1)) 3) == 0)) = false := by simpa using c9
         (try (have c9b1 : decide (((rd_T80 l0 x5_1).f3) = ((Int.tmod (wrap64 (t382 + 1)) 3) == 0)) = true := by simpa using c9)); (try (have c9b2 : (((rd_T80 l0 x5_1).f3) == ((Int.tmod (wrap64 (t382 + 1)) 3) == 0)) = true := by simpa using c9)); clear c9; have H' := kp H; clear H; have p380 : 0 ≤ (x5_1 : Int) := dt; have q380 : x5_1 < (l0.length : Int) := dt; obtain ⟨ad380, A380_1, c380_1, e380, hx380_0, hx380_1, hx380_2, hx380_3, hl380_1, hi380_1⟩ := at_T80 HR0.out x5_1 p380 q380; cases e380; have HR380_1 := kp hi380_1; have HC380_1 := kp hl380_1; clear hi380_1 hl380_1; replace p380 := eq_true p380; replace q380 := eq_true q380; have p381 : 0 ≤ (x5_1 : Int) := dt; have q381 : x5_1 < (l0.length : Int) := dt; obtain ⟨ad381, A381_1, c381_1, e381, hx381_0, hx381_1, hx381_2, hx381_3, hl381_1, hi381_1⟩ := at_T80 HR0.out x5_1 p381 q381; obtain rfl : ad380 = ad381 := (by injection e381); have HR381_1 := kp hi381_1; have HC381_1 := kp hl381_1; clear hi381_1 hl381_1; replace p381 := eq_true p381; replace q381 := eq_true q381; have ea_ := Option.some.inj (hx380_1.symm.trans hx381_1)
         injection ea_ with ea_ en_ ec_
         subst ea_; subst ec_; clear en_
         go_wp2_with (first | ((with_reducible refine gate_callee (f := 59) rfl ?_); refine gl_ 27 Try.func59 #[.slice A380_1 ((rd_T80 l0 x5_1).f1).length c380_1, .int .i64 (wrap64 (x1_1 + 1))] ?_; (with_reducible refine (laws_heldPageS.calls k1 _ _ ((rd_T80 l0 x5_1).f1) (wrap64 (x1_1 + 1)) t382 _ ?side1 ?side2 A6.out).mono ?_); (case side1 => repeat (first | exact HR381_1.out | (with_reducible refine Kd.C_alloc ?_ _) | (with_reducible refine Kd.C_drewN ?_ _) | (with_reducible refine Kd.C_drew ?_))); (case side2 => exact HC381_1.out); rintro e w' ⟨rfl, ⟨nd, rfl⟩⟩; refine ⟨_, rfl, ?_⟩; have p383 : 0 ≤ (x5_1 : Int) := dt; have q383 : x5_1 < (l0.length : Int) := dt; obtain ⟨ad383, A383_1, c383_1, e383, hx383_0, hx383_1, hx383_2, hx383_3, hl383_1, hi383_1⟩ := at_T80 HR0.out x5_1 p383 q383; obtain rfl : ad380 = ad383 := (by injection e383); have HR383_1 := kp hi383_1; have HC383_1 := kp hl383_1; clear hi383_1 hl383_1; replace p383 := eq_true p383; replace q383 := eq_true q383; have ea_ := Option.some.inj (hx380_1.symm.trans hx383_1); injection ea_ with ea_ en_ ec_; subst ea_; subst ec_; clear en_; have p384 : 0 ≤ (x5_1 : Int) := dt; have q384 : x5_1 < (l0.length : Int) := dt; obtain ⟨ad384, A384_1, c384_1, e384, hx384_0, hx384_1, hx384_2, hx384_3, hl384_1, hi384_1⟩ := at_T80 HR0.out x5_1 p384 q384; obtain rfl : ad380 = ad384 := (by injection e384); have HR384_1 := kp hi384_1; have HC384_1 := kp hl384_1; clear hi384_1 hl384_1; replace p384 := eq_true p384; replace q384 := eq_true q384; have ea_ := Option.some.inj (hx380_1.symm.trans hx384_1); injection ea_ with ea_ en_ ec_; subst ea_; subst ec_; clear en_))
         go_roundg k1
         case measure => have := HK1.out; omega
         case rel => exact ⟨(wrap64 ((wrap64 (t382 + 1)) + 1)), (wrap64 (x5_1 + 1)), (by first | rfl | (simp; done) | (simp [*]; done)), (by first | rfl | (simp; done) | (simp [*]; done)), H', ⟨by have := HK1.out; omega⟩, by repeat (first | exact Drawn0.refl _ | apply Drawn0.step)⟩
       ·rw [if_neg c8] at H; have c8b0 : (((rd_T80 l0 x5_1).f2) == t382) = false := beq_eq_false_iff_ne.mpr c8; have c8b1 : (((rd_T80 l0 x5_1).f2) != t382) = true := bne_iff_ne.mpr c8; obtain rfl := Option.some.inj H; have p380 : 0 ≤ (x5_1 : Int) := dt; have q380 : x5_1 < (l0.length : Int) := dt; obtain ⟨ad380, A380_1, c380_1, e380, hx380_0, hx380_1, hx380_2, hx380_3, hl380_1, hi380_1⟩ := at_T80 HR0.out x5_1 p380 q380; cases e380; have HR380_1 := kp hi380_1; have HC380_1 := kp hl380_1; clear hi380_1 hl380_1; replace p380 := eq_true p380; replace q380 := eq_true q380; have p381 : 0 ≤ (x5_1 : Int) := dt; have q381 : x5_1 < (l0.length : Int) := dt; obtain ⟨ad381, A381_1, c381_1, e381, hx381_0, hx381_1, hx381_2, hx381_3, hl381_1, hi381_1⟩ := at_T80 HR0.out x5_1 p381 q381; obtain rfl : ad380 = ad381 := (by injection e381); have HR381_1 := kp hi381_1; have HC381_1 := kp hl381_1; clear hi381_1 hl381_1; replace p381 := eq_true p381; replace q381 := eq_true q381; have ea_ := Option.some.inj (hx380_1.symm.trans hx381_1)
        injection ea_ with ea_ en_ ec_
        subst ea_; subst ec_; clear en_
        go_wp2_with (first | ((with_reducible refine gate_callee (f := 59) rfl ?_); refine gl_ 27 Try.func59 #[.slice A380_1 ((rd_T80 l0 x5_1).f1).length c380_1, .int .i64 (wrap64 (x1_1 + 1))] ?_; (with_reducible refine (laws_heldPageS.calls k1 _ _ ((rd_T80 l0 x5_1).f1) (wrap64 (x1_1 + 1)) t382 _ ?side1 ?side2 A6.out).mono ?_); (case side1 => repeat (first | exact HR381_1.out | (with_reducible refine Kd.C_alloc ?_ _) | (with_reducible refine Kd.C_drewN ?_ _) | (with_reducible refine Kd.C_drew ?_))); (case side2 => exact HC381_1.out); rintro e w' ⟨rfl, ⟨nd, rfl⟩⟩; refine ⟨_, rfl, ?_⟩; have p383 : 0 ≤ (x5_1 : Int) := dt; have q383 : x5_1 < (l0.length : Int) := dt; obtain ⟨ad383, A383_1, c383_1, e383, hx383_0, hx383_1, hx383_2, hx383_3, hl383_1, hi383_1⟩ := at_T80 HR0.out x5_1 p383 q383; obtain rfl : ad380 = ad383 := (by injection e383); have HR383_1 := kp hi383_1; have HC383_1 := kp hl383_1; clear hi383_1 hl383_1; replace p383 := eq_true p383; replace q383 := eq_true q383; have ea_ := Option.some.inj (hx380_1.symm.trans hx383_1); injection ea_ with ea_ en_ ec_; subst ea_; subst ec_; clear en_))
        go_ret; exact ⟨by first | rfl | (simp; done) | (simp [*]; done), by repeat (first | exact Drawn0.refl _ | apply Drawn0.step)⟩
     ·rw [if_neg c5] at H; have c5b0 : (((rd_T80 l0 x5_1).f0) == x1_1) = false := beq_eq_false_iff_ne.mpr c5; have c5b1 : (((rd_T80 l0 x5_1).f0) != x1_1) = true := bne_iff_ne.mpr c5; obtain rfl := Option.some.inj H; have p380 : 0 ≤ (x5_1 : Int) := dt; have q380 : x5_1 < (l0.length : Int) := dt; obtain ⟨ad380, A380_1, c380_1, e380, hx380_0, hx380_1, hx380_2, hx380_3, hl380_1, hi380_1⟩ := at_T80 HR0.out x5_1 p380 q380; cases e380; have HR380_1 := kp hi380_1; have HC380_1 := kp hl380_1; clear hi380_1 hl380_1; replace p380 := eq_true p380; replace q380 := eq_true q380; go_wp2; go_ret; exact ⟨by first | rfl | (simp; done) | (simp [*]; done), by repeat (first | exact Drawn0.refl _ | apply Drawn0.step)⟩
    ·rw [if_neg c4] at H; exact absurd H (by simp)
   ·rw [if_neg c3] at H; have c3b0 : decide (x5_1 < (l0.length : Int)) = false := decide_eq_false c3; clear c3; obtain rfl := Option.some.inj H; go_wp2; go_ret; exact ⟨by first | rfl | (simp; done) | (simp [*]; done), by repeat (first | exact Drawn0.refl _ | apply Drawn0.step)⟩
/-! ### laws_heldDisk: function 19 -/
def laws_heldDisk.f (k : Nat) (l0_0 : List (S80)) (a0_1 : Int) (a1 : Int) : Option (Int) := (laws_heldFileS.f k l0_0 a1).bind fun t386 => (if t386 < 0 then (some (-1)) else (some t386))
set_option maxHeartbeats 8000000 in
set_option maxRecDepth 100000 in
theorem laws_heldDisk.calls (k : Nat) (A0_0 : Option Addr) (c0_0 : Nat) (l0_0 : List (S80)) (a0_1 : Int) (a1 : Int) (r : Int) (w : World) (hr0_0 : Kd.C k80 w A0_0 l0_0.length l0_0) (hc0_0 : l0_0.length ≤ c0_0) (h : laws_heldDisk.f k l0_0 a0_1 a1 = some r) :
  Calls Try.prog 19 #[.agg #[.slice A0_0 l0_0.length c0_0, .int .i64 a0_1], .int .i64 a1] w fun e w' => e = .returned (.int .i64 r) ∧ Below w.heap.size w w' := by
 have hu28 := Try.underlying28
 have HR0_0 := kp hr0_0
 have HC0_0 := kp hc0_0
 clear hr0_0 hc0_0
 have HB := kp (Below.refl w.heap.size w)
 have H : ((laws_heldFileS.f k l0_0 a1).bind fun t386 => (if t386 < 0 then (some (-1)) else (some t386))) = some r := h
 clear h
 replace H := Option.bind_eq_some_iff.mp H
 obtain ⟨t386, A30, H⟩ := H
 replace H : (if t386 < 0 then (some (-1)) else (some t386)) = some r := H
 have A3 := kp A30
 clear A30
 by_cases c4 : t386 < 0
 ·rw [if_pos c4] at H; have c4b0 : decide (t386 < 0) = true := decide_eq_true c4; clear c4; obtain rfl := Option.some.inj H
  go_enter Try.func19, Try.ntmps19
  go_wp2_with (first | ((with_reducible refine gate_dst (N := 2) rfl ?_); refine bx_ 2 #[.slice A0_0 l0_0.length c0_0, .int .i64 a0_1] 28 ?_; intro gb385 hg w5 hbox hb; have n0_ := kp (below_step bb hb); have n1_ := kp (hbox); have n2_ := kp ((by rw [hg]; exact (below_size bb) : w.heap.size ≤ gb385)); have n3_ := kp ((by rw [hg]; exact (below_size bb) : w.heap.size ≤ gb385)); clear HB; have HB := n0_; have BK385 := n1_; have GW385 := n2_; have GE385 := n3_; clear n0_ n1_ n2_ n3_; clear hb hbox hg; have hcz6_0 : w5.cell? ⟨gb385, 0, none⟩ = some (.slice A0_0 l0_0.length c0_0) := (blk_cell BK385.out 0).trans rfl; have hcz6_1 : w5.cell? ⟨gb385, 1, none⟩ = some (.int .i64 a0_1) := (blk_cell BK385.out 1).trans rfl; have hfz6_0 := blk_frozen BK385.out 0; have hfz6_1 := blk_frozen BK385.out 1) | ((with_reducible refine gate_callee (f := 68) rfl ?_); refine gl_ 8 Try.func68 #[.slice A0_0 l0_0.length c0_0, .int .i64 a1] ?_; (with_reducible refine (laws_heldFileS.calls k _ _ l0_0 a1 t386 _ ?side1 ?side2 A3.out).mono ?_); (case side1 => repeat (first | exact (Kd.C_below HR0_0.out HB.out) | (with_reducible refine Kd.C_alloc ?_ _) | (with_reducible refine Kd.C_drewN ?_ _) | (with_reducible refine Kd.C_drew ?_))); (case side2 => exact HC0_0.out); rintro e w' ⟨rfl, ⟨nd, rfl⟩⟩; refine ⟨_, rfl, ?_⟩))
  go_ret; exact ⟨er, bb⟩
 ·rw [if_neg c4] at H; have c4b0 : decide (t386 < 0) = false := decide_eq_false c4; clear c4; obtain rfl := Option.some.inj H
  go_enter Try.func19, Try.ntmps19
  go_wp2_with (first | ((with_reducible refine gate_dst (N := 2) rfl ?_); refine bx_ 2 #[.slice A0_0 l0_0.length c0_0, .int .i64 a0_1] 28 ?_; intro gb385 hg w7 hbox hb; have n0_ := kp (below_step bb hb); have n1_ := kp (hbox); have n2_ := kp ((by rw [hg]; exact (below_size bb) : w.heap.size ≤ gb385)); have n3_ := kp ((by rw [hg]; exact (below_size bb) : w.heap.size ≤ gb385)); clear HB; have HB := n0_; have BK385 := n1_; have GW385 := n2_; have GE385 := n3_; clear n0_ n1_ n2_ n3_; clear hb hbox hg; have hcz8_0 : w7.cell? ⟨gb385, 0, none⟩ = some (.slice A0_0 l0_0.length c0_0) := (blk_cell BK385.out 0).trans rfl; have hcz8_1 : w7.cell? ⟨gb385, 1, none⟩ = some (.int .i64 a0_1) := (blk_cell BK385.out 1).trans rfl; have hfz8_0 := blk_frozen BK385.out 0; have hfz8_1 := blk_frozen BK385.out 1) | ((with_reducible refine gate_callee (f := 68) rfl ?_); refine gl_ 8 Try.func68 #[.slice A0_0 l0_0.length c0_0, .int .i64 a1] ?_; (with_reducible refine (laws_heldFileS.calls k _ _ l0_0 a1 t386 _ ?side1 ?side2 A3.out).mono ?_); (case side1 => repeat (first | exact (Kd.C_below HR0_0.out HB.out) | (with_reducible refine Kd.C_alloc ?_ _) | (with_reducible refine Kd.C_drewN ?_ _) | (with_reducible refine Kd.C_drew ?_))); (case side2 => exact HC0_0.out); rintro e w' ⟨rfl, ⟨nd, rfl⟩⟩; refine ⟨_, rfl, ?_⟩))
  go_ret; exact ⟨er, bb⟩
end Go.Proofs.Ytinniedbgfgclaa.PFnExactSealFile
