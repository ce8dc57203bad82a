/- Out of a copy of the print, with function values told: nothing is claimed here. -/
import Derived.Test.YtinniedbgfgclaaVQFnExactAppendPagex0
import Derived.Test.YtinniedbgfgclaaVQFnExactAppendPagex4
import Derived.Test.YtinniedbgfgclaaVShort
import Derived.Test.YtinniedbgfgclaaVPress
namespace Go.Proofs.Ytinniedbgfgclaa.PFnExactAppendPage
open Go.RowKit Go.Proofs.YtinniedbgfgclaaW.PrintWords Go.Proofs.YtinniedbgfgclaaW.PrintLast Go.Proofs.YtinniedbgfgclaaW.PrintMore Go.Proofs.Ytinniedbgfgclaa.Short Go.Proofs.Ytinniedbgfgclaa.Press
attribute [local go_sem] max2_int min2_int max_two min_two max_three min_three max_four min_four   -- for this text's walks alone
set_option linter.unusedVariables false
set_option linter.unusedSimpArgs false
def laws_heldPageS.l0 : Nat → List (S39) → Int → Int → Option (Int)
 | 0, _, _, _ => none
 | k + 1, x0, x1, x5 => if x5 < (x0.length : Int) then (if 0 ≤ x5 then ((laws_heldRowS.f k ((rd_T39 x0 x5).f0) x1).bind fun t188 => (if t188 < 0 then (some (-1)) else (laws_heldPageS.l0 k x0 t188 (wrap64 (x5 + 1))))) else (none)) else (some x1)
def laws_heldPageS.f (k : Nat) (l0 : List (S39)) (a1 : Int) : Option (Int) := laws_heldPageS.l0 k l0 a1 0
set_option maxHeartbeats 8000000 in
set_option maxRecDepth 100000 in
theorem laws_heldPageS.calls (k : Nat) (A0 : Option Addr) (c0 : Nat) (l0 : List (S39)) (a1 : Int) (r : Int) (w : World) (hr0 : Kd.C k39 w A0 l0.length l0) (hc0 : l0.length ≤ c0) (h : laws_heldPageS.f k l0 a1 = some r) :
  Calls Try.prog 59 #[.slice A0 l0.length c0, .int .i64 a1] w fun e w' => e = .returned (.int .i64 r) ∧ Drawn0 w w' := by
 have HR0 := kp hr0
 have HC0 := kp hc0
 clear hr0 hc0
 have H : (laws_heldPageS.l0 k l0 a1 0) = some r := h
 clear h
 have H' := kp H
 clear H
 go_enter Try.func59, Try.ntmps59
 go_wp2
 go_loopg [1, 5] k (fun kq v1 v5 w' => ∃ (x1_1 : Int) (x5_1 : Int), v1 = .int .i64 x1_1 ∧ v5 = .int .i64 x5_1 ∧ Aside0 (laws_heldPageS.l0 kq l0 x1_1 x5_1 = some r) ∧ Aside0 (kq ≤ k) ∧ Drawn0 w w')
 case atStart => exact ⟨(a1), (0), (by first | rfl | (simp; done) | (simp [*]; done)), (by first | rfl | (simp; done) | (simp [*]; done)), H', ⟨Nat.le_refl _⟩, by repeat (first | exact Drawn0.refl _ | apply Drawn0.step)⟩
 case round =>
  clear H'
  try clear p2
  obtain ⟨x1_1, x5_1, rfl, rfl, HA, HK1, ⟨m1, rfl⟩⟩ := hrel
  cases gk with
  | zero => exact absurd HA.out (by simp [laws_heldPageS.l0])
  | succ k1 =>
   have H := HA.out; clear HA; simp only [laws_heldPageS.l0] at H
   by_cases c3 : x5_1 < (l0.length : Int)
   ·rw [if_pos c3] at H; have c3b0 : decide (x5_1 < (l0.length : Int)) = true := decide_eq_true c3; clear c3
    by_cases c4 : 0 ≤ x5_1
    ·rw [if_pos c4] at H; have c4b0 : decide (0 ≤ x5_1) = true := decide_eq_true c4; clear c4; replace H := Option.bind_eq_some_iff.mp H; obtain ⟨t188, A50, H⟩ := H; replace H : (if t188 < 0 then (some (-1)) else (laws_heldPageS.l0 k1 l0 t188 (wrap64 (x5_1 + 1)))) = some r := H; have A5 := kp A50; clear A50
     by_cases c6 : t188 < 0
     ·rw [if_pos c6] at H; have c6b0 : decide (t188 < 0) = true := decide_eq_true c6; clear c6; obtain rfl := Option.some.inj H; have p187 : 0 ≤ (x5_1 : Int) := dt; have q187 : x5_1 < (l0.length : Int) := dt; obtain ⟨ad187, A187_0, c187_0, e187, hx187_0, hl187_0, hi187_0⟩ := at_T39 HR0.out x5_1 p187 q187; cases e187; have HR187_0 := kp hi187_0; have HC187_0 := kp hl187_0; clear hi187_0 hl187_0; replace p187 := eq_true p187; replace q187 := eq_true q187
      go_wp2_with (first | ((with_reducible refine gate_callee (f := 55) rfl ?_); refine gl_ 18 Try.func55 #[.slice A187_0 ((rd_T39 l0 x5_1).f0).length c187_0, .int .i64 x1_1] ?_; (with_reducible refine (laws_heldRowS.calls k1 _ _ ((rd_T39 l0 x5_1).f0) x1_1 t188 _ ?side1 ?side2 A5.out).mono ?_); (case side1 => repeat (first | exact HR187_0.out | (with_reducible refine Kd.C_alloc ?_ _) | (with_reducible refine Kd.C_drewN ?_ _) | (with_reducible refine Kd.C_drew ?_))); (case side2 => exact HC187_0.out); rintro e w' ⟨rfl, ⟨nd, rfl⟩⟩; refine ⟨_, rfl, ?_⟩))
      go_ret; exact ⟨by first | rfl | (simp; done) | (simp [*]; done), by repeat (first | exact Drawn0.refl _ | apply Drawn0.step)⟩
     ·rw [if_neg c6] at H; have c6b0 : decide (t188 < 0) = false := decide_eq_false c6; clear c6; have H' := kp H; clear H; have p187 : 0 ≤ (x5_1 : Int) := dt; have q187 : x5_1 < (l0.length : Int) := dt; obtain ⟨ad187, A187_0, c187_0, e187, hx187_0, hl187_0, hi187_0⟩ := at_T39 HR0.out x5_1 p187 q187; cases e187; have HR187_0 := kp hi187_0; have HC187_0 := kp hl187_0; clear hi187_0 hl187_0; replace p187 := eq_true p187; replace q187 := eq_true q187
      go_wp2_with (first | ((with_reducible refine gate_callee (f := 55) rfl ?_); refine gl_ 18 Try.func55 #[.slice A187_0 ((rd_T39 l0 x5_1).f0).length c187_0, .int .i64 x1_1] ?_; (with_reducible refine (laws_heldRowS.calls k1 _ _ ((rd_T39 l0 x5_1).f0) x1_1 t188 _ ?side1 ?side2 A5.out).mono ?_); (case side1 => repeat (first | exact HR187_0.out | (with_reducible refine Kd.C_alloc ?_ _) | (with_reducible refine Kd.C_drewN ?_ _) | (with_reducible refine Kd.C_drew ?_))); (case side2 => exact HC187_0.out); rintro e w' ⟨rfl, ⟨nd, rfl⟩⟩; refine ⟨_, rfl, ?_⟩))
      go_roundg k1
      case measure => have := HK1.out; omega
      case rel => exact ⟨(t188), (wrap64 (x5_1 + 1)), (by first | rfl | (simp; done) | (simp [*]; done)), (by first | rfl | (simp; done) | (simp [*]; done)), H', ⟨by have := HK1.out; omega⟩, by repeat (first | exact Drawn0.refl _ | apply Drawn0.step)⟩
    ·rw [if_neg c4] at H; exact absurd H (by simp)
   ·rw [if_neg c3] at H; have c3b0 : decide (x5_1 < (l0.length : Int)) = false := decide_eq_false c3; clear c3; obtain rfl := Option.some.inj H; go_wp2; go_ret; exact ⟨by first | rfl | (simp; done) | (simp [*]; done), by repeat (first | exact Drawn0.refl _ | apply Drawn0.step)⟩
def laws_heldFileS.l0 : Nat → List (S80) → Int → Int → Option (Int)
 | 0, _, _, _ => none
 | k + 1, x0, x1, x5 => if x5 < (x0.length : Int) then (if 0 ≤ x5 then (if ((rd_T80 x0 x5).f0) = x1 then ((laws_heldPageS.f k ((rd_T80 x0 x5).f1) (wrap64 (x1 + 1))).bind fun t191 => (if t191 < 0 then (some (-1)) else (if ((rd_T80 x0 x5).f2) = t191 then (if (((rd_T80 x0 x5).f3) != ((Int.tmod (wrap64 (t191 + 1)) 3) == 0)) = true then (some (-1)) else (laws_heldFileS.l0 k x0 (wrap64 ((wrap64 (t191 + 1)) + 1)) (wrap64 (x5 + 1)))) else (some (-1))))) else (some (-1))) else (none)) else (some x1)
def laws_heldFileS.f (k : Nat) (l0 : List (S80)) (a1 : Int) : Option (Int) := laws_heldFileS.l0 k l0 a1 0
set_option maxHeartbeats 8000000 in
set_option maxRecDepth 100000 in
theorem laws_heldFileS.calls (k : Nat) (A0 : Option Addr) (c0 : Nat) (l0 : List (S80)) (a1 : Int) (r : Int) (w : World) (hr0 : Kd.C k80 w A0 l0.length l0) (hc0 : l0.length ≤ c0) (h : laws_heldFileS.f k l0 a1 = some r) :
  Calls Try.prog 68 #[.slice A0 l0.length c0, .int .i64 a1] w fun e w' => e = .returned (.int .i64 r) ∧ Drawn0 w w' := by
 have HR0 := kp hr0
 have HC0 := kp hc0
 clear hr0 hc0
 have H : (laws_heldFileS.l0 k l0 a1 0) = some r := h
 clear h
 have H' := kp H
 clear H
 go_enter Try.func68, Try.ntmps68
 go_wp2
 go_loopg [1, 5] k (fun kq v1 v5 w' => ∃ (x1_1 : Int) (x5_1 : Int), v1 = .int .i64 x1_1 ∧ v5 = .int .i64 x5_1 ∧ Aside0 (laws_heldFileS.l0 kq l0 x1_1 x5_1 = some r) ∧ Aside0 (kq ≤ k) ∧ Drawn0 w w')
 case atStart => exact ⟨(a1), (0), (by first | rfl | (simp; done) | (simp [*]; done)), (by first | rfl | (simp; done) | (simp [*]; done)), H', ⟨Nat.le_refl _⟩, by repeat (first | exact Drawn0.refl _ | apply Drawn0.step)⟩
 case round =>
  clear H'
  try clear p2
  obtain ⟨x1_1, x5_1, rfl, rfl, HA, HK1, ⟨m1, rfl⟩⟩ := hrel
  cases gk with
  | zero => exact absurd HA.out (by simp [laws_heldFileS.l0])
  | succ k1 =>
   have H := HA.out; clear HA; simp only [laws_heldFileS.l0] at H
   by_cases c3 : x5_1 < (l0.length : Int)
   ·rw [if_pos c3] at H; have c3b0 : decide (x5_1 < (l0.length : Int)) = true := decide_eq_true c3; clear c3
    by_cases c4 : 0 ≤ x5_1
    ·rw [if_pos c4] at H; have c4b0 : decide (0 ≤ x5_1) = true := decide_eq_true c4; clear c4
     by_cases c5 : ((rd_T80 l0 x5_1).f0) = x1_1
     ·rw [if_pos c5] at H; have c5b0 : (((rd_T80 l0 x5_1).f0) == x1_1) = true := beq_iff_eq.mpr c5; have c5b1 : (((rd_T80 l0 x5_1).f0) != x1_1) = false := bne_eq_false_iff_eq.mpr c5; clear c5; replace H := Option.bind_eq_some_iff.mp H; obtain ⟨t191, A60, H⟩ := H; replace H : (if t191 < 0 then (some (-1)) else (if ((rd_T80 l0 x5_1).f2) = t191 then (if (((rd_T80 l0 x5_1).f3) != ((Int.tmod (wrap64 (t191 + 1)) 3) == 0)) = true then (some (-1)) else (laws_heldFileS.l0 k1 l0 (wrap64 ((wrap64 (t191 + 1)) + 1)) (wrap64 (x5_1 + 1)))) else (some (-1)))) = some r := H; have A6 := kp A60; clear A60
      by_cases c7 : t191 < 0
      ·rw [if_pos c7] at H; have c7b0 : decide (t191 < 0) = true := decide_eq_true c7; clear c7; obtain rfl := Option.some.inj H; have p189 : 0 ≤ (x5_1 : Int) := dt; have q189 : x5_1 < (l0.length : Int) := dt; obtain ⟨ad189, A189_1, c189_1, e189, hx189_0, hx189_1, hx189_2, hx189_3, hl189_1, hi189_1⟩ := at_T80 HR0.out x5_1 p189 q189; cases e189; have HR189_1 := kp hi189_1; have HC189_1 := kp hl189_1; clear hi189_1 hl189_1; replace p189 := eq_true p189; replace q189 := eq_true q189; have p190 : 0 ≤ (x5_1 : Int) := dt; have q190 : x5_1 < (l0.length : Int) := dt; obtain ⟨ad190, A190_1, c190_1, e190, hx190_0, hx190_1, hx190_2, hx190_3, hl190_1, hi190_1⟩ := at_T80 HR0.out x5_1 p190 q190; obtain rfl : ad189 = ad190 := (by injection e190); have HR190_1 := kp hi190_1; have HC190_1 := kp hl190_1; clear hi190_1 hl190_1; replace p190 := eq_true p190; replace q190 := eq_true q190; have ea_ := Option.some.inj (hx189_1.symm.trans hx190_1)
       injection ea_ with ea_ en_ ec_
       subst ea_; subst ec_; clear en_
       go_wp2_with (first | ((with_reducible refine gate_callee (f := 59) rfl ?_); refine gl_ 27 Try.func59 #[.slice A189_1 ((rd_T80 l0 x5_1).f1).length c189_1, .int .i64 (wrap64 (x1_1 + 1))] ?_; (with_reducible refine (laws_heldPageS.calls k1 _ _ ((rd_T80 l0 x5_1).f1) (wrap64 (x1_1 + 1)) t191 _ ?side1 ?side2 A6.out).mono ?_); (case side1 => repeat (first | exact HR190_1.out | (with_reducible refine Kd.C_alloc ?_ _) | (with_reducible refine Kd.C_drewN ?_ _) | (with_reducible refine Kd.C_drew ?_))); (case side2 => exact HC190_1.out); rintro e w' ⟨rfl, ⟨nd, rfl⟩⟩; refine ⟨_, rfl, ?_⟩))
       go_ret; exact ⟨by first | rfl | (simp; done) | (simp [*]; done), by repeat (first | exact Drawn0.refl _ | apply Drawn0.step)⟩
      ·rw [if_neg c7] at H; have c7b0 : decide (t191 < 0) = false := decide_eq_false c7; clear c7
       by_cases c8 : ((rd_T80 l0 x5_1).f2) = t191
       ·rw [if_pos c8] at H; have c8b0 : (((rd_T80 l0 x5_1).f2) == t191) = true := beq_iff_eq.mpr c8; have c8b1 : (((rd_T80 l0 x5_1).f2) != t191) = false := bne_eq_false_iff_eq.mpr c8; clear c8
        by_cases c9 : (((rd_T80 l0 x5_1).f3) != ((Int.tmod (wrap64 (t191 + 1)) 3) == 0)) = true
        ·rw [if_pos c9] at H; have c9b0 : (((rd_T80 l0 x5_1).f3) != ((Int.tmod (wrap64 (t191 + 1)) 3) == 0)) = true := c9; (try (have c9b1 : decide (((rd_T80 l0 x5_1).f3) = ((Int.tmod (wrap64 (t191 + 1)) 3) == 0)) = false := by simpa using c9)); (try (have c9b2 : (((rd_T80 l0 x5_1).f3) == ((Int.tmod (wrap64 (t191 + 1)) 3) == 0)) = false := by simpa using c9)); (try (have c9b3 : ¬ (((rd_T80 l0 x5_1).f3) = ((Int.tmod (wrap64 (t191 + 1)) 3) == 0)) := by simpa using c9)); clear c9; obtain rfl := Option.some.inj H; have p189 : 0 ≤ (x5_1 : Int) := dt; have q189 : x5_1 < (l0.length : Int) := dt; obtain ⟨ad189, A189_1, c189_1, e189, hx189_0, hx189_1, hx189_2, hx189_3, hl189_1, hi189_1⟩ := at_T80 HR0.out x5_1 p189 q189; cases e189; have HR189_1 := kp hi189_1; have HC189_1 := kp hl189_1; clear hi189_1 hl189_1; replace p189 := eq_true p189; replace q189 := eq_true q189; have p190 : 0 ≤ (x5_1 : Int) := dt; have q190 : x5_1 < (l0.length : Int) := dt; obtain ⟨ad190, A190_1, c190_1, e190, hx190_0, hx190_1, hx190_2, hx190_3, hl190_1, hi190_1⟩ := at_T80 HR0.out x5_1 p190 q190; obtain rfl : ad189 = ad190 := (by injection e190); have HR190_1 := kp hi190_1; have HC190_1 := kp hl190_1; clear hi190_1 hl190_1; replace p190 := eq_true p190; replace q190 := eq_true q190; have ea_ := Option.some.inj (hx189_1.symm.trans hx190_1)
         injection ea_ with ea_ en_ ec_
         subst ea_; subst ec_; clear en_
         go_wp2_with (first | ((with_reducible refine gate_callee (f := 59) rfl ?_); refine gl_ 27 Try.func59 #[.slice A189_1 ((rd_T80 l0 x5_1).f1).length c189_1, .int .i64 (wrap64 (x1_1 + 1))] ?_; (with_reducible refine (laws_heldPageS.calls k1 _ _ ((rd_T80 l0 x5_1).f1) (wrap64 (x1_1 + 1)) t191 _ ?side1 ?side2 A6.out).mono ?_); (case side1 => repeat (first | exact HR190_1.out | (with_reducible refine Kd.C_alloc ?_ _) | (with_reducible refine Kd.C_drewN ?_ _) | (with_reducible refine Kd.C_drew ?_))); (case side2 => exact HC190_1.out); rintro e w' ⟨rfl, ⟨nd, rfl⟩⟩; refine ⟨_, rfl, ?_⟩; have p192 : 0 ≤ (x5_1 : Int) := dt; have q192 : x5_1 < (l0.length : Int) := dt; obtain ⟨ad192, A192_1, c192_1, e192, hx192_0, hx192_1, hx192_2, hx192_3, hl192_1, hi192_1⟩ := at_T80 HR0.out x5_1 p192 q192; obtain rfl : ad189 = ad192 := (by injection e192); have HR192_1 := kp hi192_1; have HC192_1 := kp hl192_1; clear hi192_1 hl192_1; replace p192 := eq_true p192; replace q192 := eq_true q192; have ea_ := Option.some.inj (hx189_1.symm.trans hx192_1); injection ea_ with ea_ en_ ec_; subst ea_; subst ec_; clear en_; have p193 : 0 ≤ (x5_1 : Int) := dt; have q193 : x5_1 < (l0.length : Int) := dt; obtain ⟨ad193, A193_1, c193_1, e193, hx193_0, hx193_1, hx193_2, hx193_3, hl193_1, hi193_1⟩ := at_T80 HR0.out x5_1 p193 q193; obtain rfl : ad189 = ad193 := (by injection e193); have HR193_1 := kp hi193_1; have HC193_1 := kp hl193_1; clear hi193_1 hl193_1; replace p193 := eq_true p193; replace q193 := eq_true q193; have ea_ := Option.some.inj (hx189_1.symm.trans hx193_1); injection ea_ with ea_ en_ ec_; subst ea_; subst ec_; clear en_))
         go_ret; exact ⟨by first | rfl | (simp; done) | (simp [*]; done), by repeat (first | exact Drawn0.refl _ | apply Drawn0.step)⟩
        ·rw [if_neg c9] at H; have c9b0 : (((rd_T80 l0 x5_1).f3) != ((Int.tmod (wrap64 (t191 + 1)) 3) == 0)) = false := by simpa using c9
         (try (have c9b1 : decide (((rd_T80 l0 x5_1).f3) = ((Int.tmod (wrap64 (t191 + 1)) 3) == 0)) = true := by simpa using c9)); (try (have c9b2 : (((rd_T80 l0 x5_1).f3) == ((Int.tmod (wrap64 (t191 + 1)) 3) == 0)) = true := by simpa using c9)); clear c9; have H' := kp H; clear H; have p189 : 0 ≤ (x5_1 : Int) := dt; have q189 : x5_1 < (l0.length : Int) := dt; obtain ⟨ad189, A189_1, c189_1, e189, hx189_0, hx189_1, hx189_2, hx189_3, hl189_1, hi189_1⟩ := at_T80 HR0.out x5_1 p189 q189; cases e189; have HR189_1 := kp hi189_1; have HC189_1 := kp hl189_1; clear hi189_1 hl189_1; replace p189 := eq_true p189; replace q189 := eq_true q189; have p190 : 0 ≤ (x5_1 : Int) := dt; have q190 : x5_1 < (l0.length : Int) := dt; obtain ⟨ad190, A190_1, c190_1, e190, hx190_0, hx190_1, hx190_2, hx190_3, hl190_1, hi190_1⟩ := at_T80 HR0.out x5_1 p190 q190; obtain rfl : ad189 = ad190 := (by injection e190); have HR190_1 := kp hi190_1; have HC190_1 := kp hl190_1; clear hi190_1 hl190_1; replace p190 := eq_true p190; replace q190 := eq_true q190; have ea_ := Option.some.inj (hx189_1.symm.trans hx190_1)
         injection ea_ with ea_ en_ ec_
         subst ea_; subst ec_; clear en_
         go_wp2_with (first | ((with_reducible refine gate_callee (f := 59) rfl ?_); refine gl_ 27 Try.func59 #[.slice A189_1 ((rd_T80 l0 x5_1).f1).length c189_1, .int .i64 (wrap64 (x1_1 + 1))] ?_; (with_reducible refine (laws_heldPageS.calls k1 _ _ ((rd_T80 l0 x5_1).f1) (wrap64 (x1_1 + 1)) t191 _ ?side1 ?side2 A6.out).mono ?_); (case side1 => repeat (first | exact HR190_1.out | (with_reducible refine Kd.C_alloc ?_ _) | (with_reducible refine Kd.C_drewN ?_ _) | (with_reducible refine Kd.C_drew ?_))); (case side2 => exact HC190_1.out); rintro e w' ⟨rfl, ⟨nd, rfl⟩⟩; refine ⟨_, rfl, ?_⟩; have p192 : 0 ≤ (x5_1 : Int) := dt; have q192 : x5_1 < (l0.length : Int) := dt; obtain ⟨ad192, A192_1, c192_1, e192, hx192_0, hx192_1, hx192_2, hx192_3, hl192_1, hi192_1⟩ := at_T80 HR0.out x5_1 p192 q192; obtain rfl : ad189 = ad192 := (by injection e192); have HR192_1 := kp hi192_1; have HC192_1 := kp hl192_1; clear hi192_1 hl192_1; replace p192 := eq_true p192; replace q192 := eq_true q192; have ea_ := Option.some.inj (hx189_1.symm.trans hx192_1); injection ea_ with ea_ en_ ec_; subst ea_; subst ec_; clear en_; have p193 : 0 ≤ (x5_1 : Int) := dt; have q193 : x5_1 < (l0.length : Int) := dt; obtain ⟨ad193, A193_1, c193_1, e193, hx193_0, hx193_1, hx193_2, hx193_3, hl193_1, hi193_1⟩ := at_T80 HR0.out x5_1 p193 q193; obtain rfl : ad189 = ad193 := (by injection e193); have HR193_1 := kp hi193_1; have HC193_1 := kp hl193_1; clear hi193_1 hl193_1; replace p193 := eq_true p193; replace q193 := eq_true q193; have ea_ := Option.some.inj (hx189_1.symm.trans hx193_1); injection ea_ with ea_ en_ ec_; subst ea_; subst ec_; clear en_))
         go_roundg k1
         case measure => have := HK1.out; omega
         case rel => exact ⟨(wrap64 ((wrap64 (t191 + 1)) + 1)), (wrap64 (x5_1 + 1)), (by first | rfl | (simp; done) | (simp [*]; done)), (by first | rfl | (simp; done) | (simp [*]; done)), H', ⟨by have := HK1.out; omega⟩, by repeat (first | exact Drawn0.refl _ | apply Drawn0.step)⟩
       ·rw [if_neg c8] at H; have c8b0 : (((rd_T80 l0 x5_1).f2) == t191) = false := beq_eq_false_iff_ne.mpr c8; have c8b1 : (((rd_T80 l0 x5_1).f2) != t191) = true := bne_iff_ne.mpr c8; obtain rfl := Option.some.inj H; have p189 : 0 ≤ (x5_1 : Int) := dt; have q189 : x5_1 < (l0.length : Int) := dt; obtain ⟨ad189, A189_1, c189_1, e189, hx189_0, hx189_1, hx189_2, hx189_3, hl189_1, hi189_1⟩ := at_T80 HR0.out x5_1 p189 q189; cases e189; have HR189_1 := kp hi189_1; have HC189_1 := kp hl189_1; clear hi189_1 hl189_1; replace p189 := eq_true p189; replace q189 := eq_true q189; have p190 : 0 ≤ (x5_1 : Int) := dt; have q190 : x5_1 < (l0.length : Int) := dt; obtain ⟨ad190, A190_1, c190_1, e190, hx190_0, hx190_1, hx190_2, hx190_3, hl190_1, hi190_1⟩ := at_T80 HR0.out x5_1 p190 q190; obtain rfl : ad189 = ad190 := (by injection e190); have HR190_1 := kp hi190_1; have HC190_1 := kp hl190_1; clear hi190_1 hl190_1; replace p190 := eq_true p190; replace q190 := eq_true q190; have ea_ := Option.some.inj (hx189_1.symm.trans hx190_1)
        injection ea_ with ea_ en_ ec_
        subst ea_; subst ec_; clear en_
        go_wp2_with (first | ((with_reducible refine gate_callee (f := 59) rfl ?_); refine gl_ 27 Try.func59 #[.slice A189_1 ((rd_T80 l0 x5_1).f1).length c189_1, .int .i64 (wrap64 (x1_1 + 1))] ?_; (with_reducible refine (laws_heldPageS.calls k1 _ _ ((rd_T80 l0 x5_1).f1) (wrap64 (x1_1 + 1)) t191 _ ?side1 ?side2 A6.out).mono ?_); (case side1 => repeat (first | exact HR190_1.out | (with_reducible refine Kd.C_alloc ?_ _) | (with_reducible refine Kd.C_drewN ?_ _) | (with_reducible refine Kd.C_drew ?_))); (case side2 => exact HC190_1.out); rintro e w' ⟨rfl, ⟨nd, rfl⟩⟩; refine ⟨_, rfl, ?_⟩; have p192 : 0 ≤ (x5_1 : Int) := dt; have q192 : x5_1 < (l0.length : Int) := dt; obtain ⟨ad192, A192_1, c192_1, e192, hx192_0, hx192_1, hx192_2, hx192_3, hl192_1, hi192_1⟩ := at_T80 HR0.out x5_1 p192 q192; obtain rfl : ad189 = ad192 := (by injection e192); have HR192_1 := kp hi192_1; have HC192_1 := kp hl192_1; clear hi192_1 hl192_1; replace p192 := eq_true p192; replace q192 := eq_true q192; have ea_ := Option.some.inj (hx189_1.symm.trans hx192_1); injection ea_ with ea_ en_ ec_; subst ea_; subst ec_; clear en_))
        go_ret; exact ⟨by first | rfl | (simp; done) | (simp [*]; done), by repeat (first | exact Drawn0.refl _ | apply Drawn0.step)⟩
     ·rw [if_neg c5] at H; have c5b0 : (((rd_T80 l0 x5_1).f0) == x1_1) = false := beq_eq_false_iff_ne.mpr c5; have c5b1 : (((rd_T80 l0 x5_1).f0) != x1_1) = true := bne_iff_ne.mpr c5; obtain rfl := Option.some.inj H; have p189 : 0 ≤ (x5_1 : Int) := dt; have q189 : x5_1 < (l0.length : Int) := dt; obtain ⟨ad189, A189_1, c189_1, e189, hx189_0, hx189_1, hx189_2, hx189_3, hl189_1, hi189_1⟩ := at_T80 HR0.out x5_1 p189 q189; cases e189; have HR189_1 := kp hi189_1; have HC189_1 := kp hl189_1; clear hi189_1 hl189_1; replace p189 := eq_true p189; replace q189 := eq_true q189; go_wp2; go_ret; exact ⟨by first | rfl | (simp; done) | (simp [*]; done), by repeat (first | exact Drawn0.refl _ | apply Drawn0.step)⟩
    ·rw [if_neg c4] at H; exact absurd H (by simp)
   ·rw [if_neg c3] at H; have c3b0 : decide (x5_1 < (l0.length : Int)) = false := decide_eq_false c3; clear c3; obtain rfl := Option.some.inj H; go_wp2; go_ret; exact ⟨by first | rfl | (simp; done) | (simp [*]; done), by repeat (first | exact Drawn0.refl _ | apply Drawn0.step)⟩
def laws_heldDisk.f (k : Nat) (l0_0 : List (S80)) (a0_1 : Int) (a1 : Int) : Option (Int) := (laws_heldFileS.f k l0_0 a1).bind fun t195 => (if t195 < 0 then (some (-1)) else (some t195))
set_option maxHeartbeats 8000000 in
set_option maxRecDepth 100000 in
theorem laws_heldDisk.calls (k : Nat) (A0_0 : Option Addr) (c0_0 : Nat) (l0_0 : List (S80)) (a0_1 : Int) (a1 : Int) (r : Int) (w : World) (hr0_0 : Kd.C k80 w A0_0 l0_0.length l0_0) (hc0_0 : l0_0.length ≤ c0_0) (h : laws_heldDisk.f k l0_0 a0_1 a1 = some r) :
  Calls Try.prog 19 #[.agg #[.slice A0_0 l0_0.length c0_0, .int .i64 a0_1], .int .i64 a1] w fun e w' => e = .returned (.int .i64 r) ∧ Below w.heap.size w w' := by
 have hu28 := Try.underlying28
 have HR0_0 := kp hr0_0
 have HC0_0 := kp hc0_0
 clear hr0_0 hc0_0
 have HB := kp (Below.refl w.heap.size w)
 have H : ((laws_heldFileS.f k l0_0 a1).bind fun t195 => (if t195 < 0 then (some (-1)) else (some t195))) = some r := h
 clear h
 replace H := Option.bind_eq_some_iff.mp H
 obtain ⟨t195, A30, H⟩ := H
 replace H : (if t195 < 0 then (some (-1)) else (some t195)) = some r := H
 have A3 := kp A30
 clear A30
 by_cases c4 : t195 < 0
 ·rw [if_pos c4] at H; have c4b0 : decide (t195 < 0) = true := decide_eq_true c4; clear c4; obtain rfl := Option.some.inj H
  go_enter Try.func19, Try.ntmps19
  go_wp2_with (first | ((with_reducible refine gate_dst (N := 2) rfl ?_); refine bx_ 2 #[.slice A0_0 l0_0.length c0_0, .int .i64 a0_1] 28 ?_; intro gb194 hg w5 hbox hb; have n0_ := kp (below_step bb hb); have n1_ := kp (hbox); have n2_ := kp (bs hg); have n3_ := kp (bs hg); clear HB; have HB := n0_; have BK194 := n1_; have GW194 := n2_; have GE194 := n3_; clear n0_ n1_ n2_ n3_; clear hb hbox hg; have hcz6_0 : w5.cell? ⟨gb194, 0, none⟩ = some (.slice A0_0 l0_0.length c0_0) := (blk_cell BK194.out 0).trans rfl; have hcz6_1 : w5.cell? ⟨gb194, 1, none⟩ = some (.int .i64 a0_1) := (blk_cell BK194.out 1).trans rfl; have hfz6_0 := blk_frozen BK194.out 0; have hfz6_1 := blk_frozen BK194.out 1) | ((with_reducible refine gate_callee (f := 68) rfl ?_); refine gl_ 8 Try.func68 #[.slice A0_0 l0_0.length c0_0, .int .i64 a1] ?_; (with_reducible refine (laws_heldFileS.calls k _ _ l0_0 a1 t195 _ ?side1 ?side2 A3.out).mono ?_); (case side1 => exact cc HR0_0.out); (case side2 => exact HC0_0.out); rintro e w' ⟨rfl, ⟨nd, rfl⟩⟩; refine ⟨_, rfl, ?_⟩))
  go_ret; exact ⟨er, bb⟩
 ·rw [if_neg c4] at H; have c4b0 : decide (t195 < 0) = false := decide_eq_false c4; clear c4; obtain rfl := Option.some.inj H
  go_enter Try.func19, Try.ntmps19
  go_wp2_with (first | ((with_reducible refine gate_dst (N := 2) rfl ?_); refine bx_ 2 #[.slice A0_0 l0_0.length c0_0, .int .i64 a0_1] 28 ?_; intro gb194 hg w7 hbox hb; have n0_ := kp (below_step bb hb); have n1_ := kp (hbox); have n2_ := kp (bs hg); have n3_ := kp (bs hg); clear HB; have HB := n0_; have BK194 := n1_; have GW194 := n2_; have GE194 := n3_; clear n0_ n1_ n2_ n3_; clear hb hbox hg; have hcz8_0 : w7.cell? ⟨gb194, 0, none⟩ = some (.slice A0_0 l0_0.length c0_0) := (blk_cell BK194.out 0).trans rfl; have hcz8_1 : w7.cell? ⟨gb194, 1, none⟩ = some (.int .i64 a0_1) := (blk_cell BK194.out 1).trans rfl; have hfz8_0 := blk_frozen BK194.out 0; have hfz8_1 := blk_frozen BK194.out 1) | ((with_reducible refine gate_callee (f := 68) rfl ?_); refine gl_ 8 Try.func68 #[.slice A0_0 l0_0.length c0_0, .int .i64 a1] ?_; (with_reducible refine (laws_heldFileS.calls k _ _ l0_0 a1 t195 _ ?side1 ?side2 A3.out).mono ?_); (case side1 => exact cc HR0_0.out); (case side2 => exact HC0_0.out); rintro e w' ⟨rfl, ⟨nd, rfl⟩⟩; refine ⟨_, rfl, ?_⟩))
  go_ret; exact ⟨er, bb⟩
def impl_CountPages.l0 : Nat → Int → List (S80) → Int → Int → Option (Int)
 | 0, _, _, _, _ => none
 | k + 1, x3, x7, x8, x9 => if x9 < x8 then (if 0 ≤ x9 then (if x9 < (x7.length : Int) then (impl_CountPages.l0 k (wrap64 (x3 + (((rd_T80 x7 x9).f1).length : Int))) x7 x8 (wrap64 (x9 + 1))) else (none)) else (none)) else (some x3)
def impl_CountPages.f (k : Nat) (l0_0 : List (S80)) (a0_1 : Int) : Option (Int) := impl_CountPages.l0 k 0 l0_0 (l0_0.length : Int) 0
set_option maxHeartbeats 8000000 in
set_option maxRecDepth 100000 in
theorem impl_CountPages.calls (k : Nat) (A0_0 : Option Addr) (c0_0 : Nat) (l0_0 : List (S80)) (a0_1 : Int) (r : Int) (w : World) (hr0_0 : Kd.C k80 w A0_0 l0_0.length l0_0) (hc0_0 : l0_0.length ≤ c0_0) (h : impl_CountPages.f k l0_0 a0_1 = some r) :
  Calls Try.prog 35 #[.agg #[.slice A0_0 l0_0.length c0_0, .int .i64 a0_1]] w fun e w' => e = .returned (.int .i64 r) ∧ Below w.heap.size w w' := by
 have hu28 := Try.underlying28
 have hu80 := Try.underlying80
 have HR0_0 := kp hr0_0
 have HC0_0 := kp hc0_0
 clear hr0_0 hc0_0
 have HB := kp (Below.refl w.heap.size w)
 have H : (impl_CountPages.l0 k 0 l0_0 (l0_0.length : Int) 0) = some r := h
 clear h
 have H' := kp H
 clear H
 go_enter Try.func35, Try.ntmps35
 go_wp2_with (first | ((with_reducible refine gate_dst (N := 1) rfl ?_); refine bx_ 1 #[.slice A0_0 l0_0.length c0_0, .int .i64 a0_1] 28 ?_; intro gb196 hg w2 hbox hb; have n0_ := kp (below_step bb hb); have n1_ := kp (hbox); have n2_ := kp (bs hg); have n3_ := kp (bs hg); clear HB; have HB := n0_; have BK196 := n1_; have GW196 := n2_; have GE196 := n3_; clear n0_ n1_ n2_ n3_; clear hb hbox hg; have hcz3_0 : w2.cell? ⟨gb196, 0, none⟩ = some (.slice A0_0 l0_0.length c0_0) := (blk_cell BK196.out 0).trans rfl; have hcz3_1 : w2.cell? ⟨gb196, 1, none⟩ = some (.int .i64 a0_1) := (blk_cell BK196.out 1).trans rfl; have hfz3_0 := blk_frozen BK196.out 0; have hfz3_1 := blk_frozen BK196.out 1))
 (try simp only [Act.put, List.setIfInBounds_toArray, List.set_cons_zero, List.set_cons_succ])
 go_loopg [3, 9] k (fun kq v3 v9 w' => ∃ (x3_1 : Int) (x9_1 : Int), v3 = .int .i64 x3_1 ∧ v9 = .int .i64 x9_1 ∧ Aside0 (impl_CountPages.l0 kq x3_1 l0_0 (l0_0.length : Int) x9_1 = some r) ∧ Aside0 (kq ≤ k) ∧ Aside0 (w'.heap[gb196]? = some (.cells #[(.slice A0_0 l0_0.length c0_0), .int .i64 a0_1] 28 (0, 0))) ∧ Aside0 (Below w.heap.size w w'))
 case atStart => exact ⟨(0), (0), (by first | rfl | (simp; done) | (simp [*]; done)), (by first | rfl | (simp; done) | (simp [*]; done)), H', ⟨Nat.le_refl _⟩, ⟨by (with_reducible repeat (first | apply bN | apply bD | apply bA)); exact BK196.out⟩, ⟨bb⟩⟩
 case round =>
  clear H'
  try clear p2
  try clear c3
  try clear hcz3_0
  try clear hcz3_1
  try clear hfz3_0
  try clear hfz3_1
  obtain ⟨x3_1, x9_1, rfl, rfl, HA, HK1, BK196, HB⟩ := hrel
  cases gk with
  | zero => exact absurd HA.out (by simp [impl_CountPages.l0])
  | succ k1 =>
   have H := HA.out; clear HA; simp only [impl_CountPages.l0] at H
   by_cases c4 : x9_1 < (l0_0.length : Int)
   ·rw [if_pos c4] at H; have c4b0 : decide (x9_1 < (l0_0.length : Int)) = true := decide_eq_true c4; clear c4
    by_cases c5 : 0 ≤ x9_1
    ·rw [if_pos c5] at H; have c5b0 : decide (0 ≤ x9_1) = true := decide_eq_true c5; clear c5
     by_cases c6 : x9_1 < (l0_0.length : Int)
     ·rw [if_pos c6] at H; have c6b0 : decide (x9_1 < (l0_0.length : Int)) = true := decide_eq_true c6; clear c6; have H' := kp H; clear H; have p197 : 0 ≤ (x9_1 : Int) := dt; have q197 : x9_1 < (l0_0.length : Int) := dt; obtain ⟨ad197, A197_1, c197_1, e197, hx197_0, hx197_1, hx197_2, hx197_3, hl197_1, hi197_1⟩ := at_T80 HR0_0.out x9_1 p197 q197; cases e197; replace hx197_0 := kc HB.out hx197_0; replace hx197_1 := kc HB.out hx197_1; replace hx197_2 := kc HB.out hx197_2; replace hx197_3 := kc HB.out hx197_3; have HR197_1 := kp hi197_1; have HC197_1 := kp hl197_1; clear hi197_1 hl197_1; replace p197 := eq_true p197; replace q197 := eq_true q197
      go_wp2_with (first | ((with_reducible refine gate_dst (N := 5) rfl ?_); refine bx_ 5 #[.int .i64 0, .slice none 0 0, .int .i64 0, .bool false] 80 ?_; intro gb198 hg w7 hbox hb; have n0_ := kp (kb BK196.out hb); have n1_ := kp (below_step bb hb); have n2_ := kp (hbox); have n3_ := kp (bs hg); have n4_ := kp (bs hg); have n5_ := kp (bl hg BK196.out); have n6_ := kp (bg hg BK196.out); clear BK196; clear HB; have BK196 := n0_; have HB := n1_; have BK198 := n2_; have GW198 := n3_; have GE198 := n4_; have NB196_198 := n5_; have NB198_196 := n6_; clear n0_ n1_ n2_ n3_ n4_ n5_ n6_; clear hb hbox hg; have hnb8 := NB198_196.out; have hnc8 := NB196_198.out; have hcz9_0 : w7.cell? ⟨gb198, 0, none⟩ = some (.int .i64 0) := (blk_cell BK198.out 0).trans rfl; have hcz9_1 : w7.cell? ⟨gb198, 1, none⟩ = some (.slice none 0 0) := (blk_cell BK198.out 1).trans rfl; have hcz9_2 : w7.cell? ⟨gb198, 2, none⟩ = some (.int .i64 0) := (blk_cell BK198.out 2).trans rfl; have hcz9_3 : w7.cell? ⟨gb198, 3, none⟩ = some (.bool false) := (blk_cell BK198.out 3).trans rfl; have hfz9_0 := blk_frozen BK198.out 0; have hfz9_1 := blk_frozen BK198.out 1; have hfz9_2 := blk_frozen BK198.out 2; have hfz9_3 := blk_frozen BK198.out 3))
      go_roundg k1
      case measure => have := HK1.out; omega
      case rel => exact ⟨(wrap64 (x3_1 + (((rd_T80 l0_0 x9_1).f1).length : Int))), (wrap64 (x9_1 + 1)), (by first | rfl | (simp; done) | (simp [*]; done)), (by first | rfl | (simp; done) | (simp [*]; done)), H', ⟨by have := HK1.out; omega⟩, ⟨by refine blk_far ?_ NB196_198.out _; refine blk_far ?_ NB196_198.out _; refine blk_far ?_ NB196_198.out _; refine blk_far ?_ NB196_198.out _; (with_reducible repeat (first | apply bN | apply bD | apply bA)); exact BK196.out⟩, ⟨bb⟩⟩
     ·rw [if_neg c6] at H; exact absurd H (by simp)
    ·rw [if_neg c5] at H; exact absurd H (by simp)
   ·rw [if_neg c4] at H; have c4b0 : decide (x9_1 < (l0_0.length : Int)) = false := decide_eq_false c4; clear c4; obtain rfl := Option.some.inj H; go_wp2; go_ret; exact ⟨er, bb⟩
def impl_within.f (a0 : Int) (a1 : Int) (a2 : Int) : Option (Bool) := if a0 ≥ a1 then (some (decide (a0 ≤ a2))) else (some false)
set_option maxHeartbeats 8000000 in
set_option maxRecDepth 100000 in
theorem impl_within.calls (a0 : Int) (a1 : Int) (a2 : Int) (r : Bool) (w : World) (h : impl_within.f a0 a1 a2 = some r) :
  Calls Try.prog 83 #[.int .i64 a0, .int .i64 a1, .int .i64 a2] w fun e w' => e = .returned (.bool r) ∧ Drawn0 w w' := by
 have H : (if a0 ≥ a1 then (some (decide (a0 ≤ a2))) else (some false)) = some r := h
 clear h
 by_cases c4 : a0 ≥ a1
 ·rw [if_pos c4] at H; have c4b0 : decide (a1 ≤ a0) = true := decide_eq_true c4; clear c4; obtain rfl := Option.some.inj H
  go_enter Try.func83, Try.ntmps83
  go_wp2; go_ret; exact ⟨by first | rfl | (simp; done) | (simp [*]; done), by repeat (first | exact Drawn0.refl _ | apply Drawn0.step)⟩
 ·rw [if_neg c4] at H; have c4b0 : decide (a1 ≤ a0) = false := decide_eq_false c4; clear c4; obtain rfl := Option.some.inj H
  go_enter Try.func83, Try.ntmps83
  go_wp2; go_ret; exact ⟨by first | rfl | (simp; done) | (simp [*]; done), by repeat (first | exact Drawn0.refl _ | apply Drawn0.step)⟩
def impl_IsValidRow.f (a0_0 : Int) (a0_1 : Int) (a0_2 : Int) : Option (Bool) := (impl_within.f a0_0 0 9).bind fun t200 => (if t200 = true then ((impl_within.f a0_1 0 99).bind fun t201 => (if t201 = true then ((impl_within.f a0_2 0 3).bind fun t202 => (some t202)) else (some false))) else (some false))
set_option maxHeartbeats 8000000 in
set_option maxRecDepth 100000 in
theorem impl_IsValidRow.calls (a0_0 : Int) (a0_1 : Int) (a0_2 : Int) (r : Bool) (w : World) (h : impl_IsValidRow.f a0_0 a0_1 a0_2 = some r) :
  Calls Try.prog 125 #[.agg #[.int .i64 a0_0, .int .i64 a0_1, .int .i64 a0_2]] w fun e w' => e = .returned (.bool r) ∧ Below w.heap.size w w' := by
 have hu95 := Try.underlying95
 have HB := kp (Below.refl w.heap.size w)
 have H : ((impl_within.f a0_0 0 9).bind fun t200 => (if t200 = true then ((impl_within.f a0_1 0 99).bind fun t201 => (if t201 = true then ((impl_within.f a0_2 0 3).bind fun t202 => (some t202)) else (some false))) else (some false))) = some r := h
 clear h
 replace H := Option.bind_eq_some_iff.mp H
 obtain ⟨t200, A20, H⟩ := H
 replace H : (if t200 = true then ((impl_within.f a0_1 0 99).bind fun t201 => (if t201 = true then ((impl_within.f a0_2 0 3).bind fun t202 => (some t202)) else (some false))) else (some false)) = some r := H
 have A2 := kp A20
 clear A20
 by_cases c3 : t200 = true
 ·subst c3; have H1 : ((impl_within.f a0_1 0 99).bind fun t201 => (if t201 = true then ((impl_within.f a0_2 0 3).bind fun t202 => (some t202)) else (some false))) = some r := by rw [if_pos rfl] at H; exact H
  clear H; have H := H1; clear H1; replace H := Option.bind_eq_some_iff.mp H; obtain ⟨t201, A40, H⟩ := H; replace H : (if t201 = true then ((impl_within.f a0_2 0 3).bind fun t202 => (some t202)) else (some false)) = some r := H; have A4 := kp A40; clear A40
  by_cases c5 : t201 = true
  ·subst c5; have H1 : ((impl_within.f a0_2 0 3).bind fun t202 => (some t202)) = some r := by rw [if_pos rfl] at H; exact H
   clear H; have H := H1; clear H1; replace H := Option.bind_eq_some_iff.mp H; obtain ⟨t202, A60, H⟩ := H; replace H : (some t202) = some r := H; have A6 := kp A60; clear A60; obtain rfl := Option.some.inj H
   go_enter Try.func125, Try.ntmps125
   go_wp2_with (first | ((with_reducible refine gate_dst (N := 1) rfl ?_); refine bx_ 1 #[.int .i64 a0_0, .int .i64 a0_1, .int .i64 a0_2] 95 ?_; intro gb199 hg w7 hbox hb; have n0_ := kp (below_step bb hb); have n1_ := kp (hbox); have n2_ := kp (bs hg); have n3_ := kp (bs hg); clear HB; have HB := n0_; have BK199 := n1_; have GW199 := n2_; have GE199 := n3_; clear n0_ n1_ n2_ n3_; clear hb hbox hg; have hcz8_0 : w7.cell? ⟨gb199, 0, none⟩ = some (.int .i64 a0_0) := (blk_cell BK199.out 0).trans rfl; have hcz8_1 : w7.cell? ⟨gb199, 1, none⟩ = some (.int .i64 a0_1) := (blk_cell BK199.out 1).trans rfl; have hcz8_2 : w7.cell? ⟨gb199, 2, none⟩ = some (.int .i64 a0_2) := (blk_cell BK199.out 2).trans rfl; have hfz8_0 := blk_frozen BK199.out 0; have hfz8_1 := blk_frozen BK199.out 1; have hfz8_2 := blk_frozen BK199.out 2) | ((with_reducible refine gate_callee (f := 83) rfl ?_); refine gl_ 5 Try.func83 #[.int .i64 a0_0, .int .i64 0, .int .i64 9] ?_; (with_reducible refine (impl_within.calls a0_0 0 9 true _ A2.out).mono ?_); rintro e w' ⟨rfl, ⟨nd, rfl⟩⟩; refine ⟨_, rfl, ?_⟩) | (go_at_call 83; (with_reducible refine (impl_within.calls a0_1 0 99 true _ A4.out).mono ?_); rintro e w' ⟨rfl, ⟨nd, rfl⟩⟩) | (go_at_call 83; (with_reducible refine (impl_within.calls a0_2 0 3 t202 _ A6.out).mono ?_); rintro e w' ⟨rfl, ⟨nd, rfl⟩⟩))
   go_ret; exact ⟨er, bb⟩
  ·replace c5 := Bool.eq_false_iff.mpr c5; subst c5; have H1 : (some false) = some r := by rw [if_neg (show ¬ (false = true) by decide)] at H; exact H
   clear H; have H := H1; clear H1; obtain rfl := Option.some.inj H
   go_enter Try.func125, Try.ntmps125
   go_wp2_with (first | ((with_reducible refine gate_dst (N := 1) rfl ?_); refine bx_ 1 #[.int .i64 a0_0, .int .i64 a0_1, .int .i64 a0_2] 95 ?_; intro gb199 hg w9 hbox hb; have n0_ := kp (below_step bb hb); have n1_ := kp (hbox); have n2_ := kp (bs hg); have n3_ := kp (bs hg); clear HB; have HB := n0_; have BK199 := n1_; have GW199 := n2_; have GE199 := n3_; clear n0_ n1_ n2_ n3_; clear hb hbox hg; have hcz10_0 : w9.cell? ⟨gb199, 0, none⟩ = some (.int .i64 a0_0) := (blk_cell BK199.out 0).trans rfl; have hcz10_1 : w9.cell? ⟨gb199, 1, none⟩ = some (.int .i64 a0_1) := (blk_cell BK199.out 1).trans rfl; have hcz10_2 : w9.cell? ⟨gb199, 2, none⟩ = some (.int .i64 a0_2) := (blk_cell BK199.out 2).trans rfl; have hfz10_0 := blk_frozen BK199.out 0; have hfz10_1 := blk_frozen BK199.out 1; have hfz10_2 := blk_frozen BK199.out 2) | ((with_reducible refine gate_callee (f := 83) rfl ?_); refine gl_ 5 Try.func83 #[.int .i64 a0_0, .int .i64 0, .int .i64 9] ?_; (with_reducible refine (impl_within.calls a0_0 0 9 true _ A2.out).mono ?_); rintro e w' ⟨rfl, ⟨nd, rfl⟩⟩; refine ⟨_, rfl, ?_⟩) | (go_at_call 83; (with_reducible refine (impl_within.calls a0_1 0 99 false _ A4.out).mono ?_); rintro e w' ⟨rfl, ⟨nd, rfl⟩⟩))
   go_ret; exact ⟨er, bb⟩
 ·replace c3 := Bool.eq_false_iff.mpr c3; subst c3; have H1 : (some false) = some r := by rw [if_neg (show ¬ (false = true) by decide)] at H; exact H
  clear H; have H := H1; clear H1; obtain rfl := Option.some.inj H
  go_enter Try.func125, Try.ntmps125
  go_wp2_with (first | ((with_reducible refine gate_dst (N := 1) rfl ?_); refine bx_ 1 #[.int .i64 a0_0, .int .i64 a0_1, .int .i64 a0_2] 95 ?_; intro gb199 hg w11 hbox hb; have n0_ := kp (below_step bb hb); have n1_ := kp (hbox); have n2_ := kp (bs hg); have n3_ := kp (bs hg); clear HB; have HB := n0_; have BK199 := n1_; have GW199 := n2_; have GE199 := n3_; clear n0_ n1_ n2_ n3_; clear hb hbox hg; have hcz12_0 : w11.cell? ⟨gb199, 0, none⟩ = some (.int .i64 a0_0) := (blk_cell BK199.out 0).trans rfl; have hcz12_1 : w11.cell? ⟨gb199, 1, none⟩ = some (.int .i64 a0_1) := (blk_cell BK199.out 1).trans rfl; have hcz12_2 : w11.cell? ⟨gb199, 2, none⟩ = some (.int .i64 a0_2) := (blk_cell BK199.out 2).trans rfl; have hfz12_0 := blk_frozen BK199.out 0; have hfz12_1 := blk_frozen BK199.out 1; have hfz12_2 := blk_frozen BK199.out 2) | ((with_reducible refine gate_callee (f := 83) rfl ?_); refine gl_ 5 Try.func83 #[.int .i64 a0_0, .int .i64 0, .int .i64 9] ?_; (with_reducible refine (impl_within.calls a0_0 0 9 false _ A2.out).mono ?_); rintro e w' ⟨rfl, ⟨nd, rfl⟩⟩; refine ⟨_, rfl, ?_⟩))
  go_ret; exact ⟨er, bb⟩
def impl_allValid.l0 : Nat → List (S95) → Int → Int → Option (Bool)
 | 0, _, _, _ => none
 | k + 1, x5, x6, x7 => if x7 < x6 then (if 0 ≤ x7 then (if x7 < (x5.length : Int) then ((impl_IsValidRow.f ((rd_T95 x5 x7).f0) ((rd_T95 x5 x7).f1) ((rd_T95 x5 x7).f2)).bind fun t205 => (if t205 = true then (impl_allValid.l0 k x5 x6 (wrap64 (x7 + 1))) else (some false))) else (none)) else (none)) else (some true)
def impl_allValid.f (k : Nat) (l0 : List (S95)) : Option (Bool) := impl_allValid.l0 k l0 (l0.length : Int) 0
set_option maxHeartbeats 8000000 in
set_option maxRecDepth 100000 in
theorem impl_allValid.calls (k : Nat) (A0 : Option Addr) (c0 : Nat) (l0 : List (S95)) (r : Bool) (w : World) (hr0 : Kd.C k95 w A0 l0.length l0) (hc0 : l0.length ≤ c0) (h : impl_allValid.f k l0 = some r) :
  Calls Try.prog 116 #[.slice A0 l0.length c0] w fun e w' => e = .returned (.bool r) ∧ Below w.heap.size w w' := by
 have hu95 := Try.underlying95
 have HR0 := kp hr0
 have HC0 := kp hc0
 clear hr0 hc0
 have HB := kp (Below.refl w.heap.size w)
 have H : (impl_allValid.l0 k l0 (l0.length : Int) 0) = some r := h
 clear h
 have H' := kp H
 clear H
 go_enter Try.func116, Try.ntmps116
 go_wp2
 go_loopg [7] k (fun kq v7 w' => ∃ (x7_1 : Int), v7 = .int .i64 x7_1 ∧ Aside0 (impl_allValid.l0 kq l0 (l0.length : Int) x7_1 = some r) ∧ Aside0 (kq ≤ k) ∧ Aside0 (Below w.heap.size w w'))
 case atStart => exact ⟨(0), (by first | rfl | (simp; done) | (simp [*]; done)), H', ⟨Nat.le_refl _⟩, ⟨bb⟩⟩
 case round =>
  clear H'
  try clear c1
  obtain ⟨x7_1, rfl, HA, HK1, HB⟩ := hrel
  cases gk with
  | zero => exact absurd HA.out (by simp [impl_allValid.l0])
  | succ k1 =>
   have H := HA.out; clear HA; simp only [impl_allValid.l0] at H
   by_cases c2 : x7_1 < (l0.length : Int)
   ·rw [if_pos c2] at H; have c2b0 : decide (x7_1 < (l0.length : Int)) = true := decide_eq_true c2; clear c2
    by_cases c3 : 0 ≤ x7_1
    ·rw [if_pos c3] at H; have c3b0 : decide (0 ≤ x7_1) = true := decide_eq_true c3; clear c3
     by_cases c4 : x7_1 < (l0.length : Int)
     ·rw [if_pos c4] at H; have c4b0 : decide (x7_1 < (l0.length : Int)) = true := decide_eq_true c4; clear c4; replace H := Option.bind_eq_some_iff.mp H; obtain ⟨t205, A50, H⟩ := H; replace H : (if t205 = true then (impl_allValid.l0 k1 l0 (l0.length : Int) (wrap64 (x7_1 + 1))) else (some false)) = some r := H; have A5 := kp A50; clear A50
      by_cases c6 : t205 = true
      ·subst c6; have H1 : (impl_allValid.l0 k1 l0 (l0.length : Int) (wrap64 (x7_1 + 1))) = some r := by rw [if_pos rfl] at H; exact H
       clear H; have H := H1; clear H1; have H' := kp H; clear H; have p203 : 0 ≤ (x7_1 : Int) := dt; have q203 : x7_1 < (l0.length : Int) := dt; obtain ⟨ad203, e203, hx203_0, hx203_1, hx203_2⟩ := at_T95 HR0.out x7_1 p203 q203; cases e203; replace hx203_0 := kc HB.out hx203_0; replace hx203_1 := kc HB.out hx203_1; replace hx203_2 := kc HB.out hx203_2; replace p203 := eq_true p203; replace q203 := eq_true q203
       go_wp2_with (first | ((with_reducible refine gate_dst (N := 4) rfl ?_); refine bx_ 4 #[.int .i64 0, .int .i64 0, .int .i64 0] 95 ?_; intro gb204 hg w7 hbox hb; have n0_ := kp (below_step bb hb); have n1_ := kp (hbox); have n2_ := kp (bs hg); have n3_ := kp (bs hg); clear HB; have HB := n0_; have BK204 := n1_; have GW204 := n2_; have GE204 := n3_; clear n0_ n1_ n2_ n3_; clear hb hbox hg; have hcz8_0 : w7.cell? ⟨gb204, 0, none⟩ = some (.int .i64 0) := (blk_cell BK204.out 0).trans rfl; have hcz8_1 : w7.cell? ⟨gb204, 1, none⟩ = some (.int .i64 0) := (blk_cell BK204.out 1).trans rfl; have hcz8_2 : w7.cell? ⟨gb204, 2, none⟩ = some (.int .i64 0) := (blk_cell BK204.out 2).trans rfl; have hfz8_0 := blk_frozen BK204.out 0; have hfz8_1 := blk_frozen BK204.out 1; have hfz8_2 := blk_frozen BK204.out 2) | ((with_reducible refine gate_callee (f := 125) rfl ?_); refine gl_ 12 Try.func125 #[.agg #[.int .i64 ((rd_T95 l0 x7_1).f0), .int .i64 ((rd_T95 l0 x7_1).f1), .int .i64 ((rd_T95 l0 x7_1).f2)]] ?_; (with_reducible refine (impl_IsValidRow.calls ((rd_T95 l0 x7_1).f0) ((rd_T95 l0 x7_1).f1) ((rd_T95 l0 x7_1).f2) true _ A5.out).mono ?_); rintro e w9 ⟨rfl, hb⟩; refine ⟨_, rfl, ?_⟩; have n0_ := kp (blk_below (g := gb204) (o := .cells #[.int .i64 ((rd_T95 l0 x7_1).f0), .int .i64 ((rd_T95 l0 x7_1).f1), .int .i64 ((rd_T95 l0 x7_1).f2)] 95 (0, 0)) (by refine blk_put (cs := #[.int .i64 ((rd_T95 l0 x7_1).f0), .int .i64 ((rd_T95 l0 x7_1).f1), .int .i64 0]) ?_ 2 _ rfl; refine blk_put (cs := #[.int .i64 ((rd_T95 l0 x7_1).f0), .int .i64 0, .int .i64 0]) ?_ 1 _ rfl; refine blk_put (cs := #[.int .i64 0, .int .i64 0, .int .i64 0]) ?_ 0 _ rfl; (with_reducible repeat (first | apply bN | apply bD | apply bA)); exact BK204.out) hb); have n1_ := kp (below_step bb hb); clear BK204; clear HB; have BK204 := n0_; have HB := n1_; clear n0_ n1_; (try clear hb)))
       go_roundg k1
       case measure => have := HK1.out; omega
       case rel => exact ⟨(wrap64 (x7_1 + 1)), (by first | rfl | (simp; done) | (simp [*]; done)), H', ⟨by have := HK1.out; omega⟩, ⟨bb⟩⟩
      ·replace c6 := Bool.eq_false_iff.mpr c6; subst c6; have H1 : (some false) = some r := by rw [if_neg (show ¬ (false = true) by decide)] at H; exact H
       clear H; have H := H1; clear H1; obtain rfl := Option.some.inj H; have p203 : 0 ≤ (x7_1 : Int) := dt; have q203 : x7_1 < (l0.length : Int) := dt; obtain ⟨ad203, e203, hx203_0, hx203_1, hx203_2⟩ := at_T95 HR0.out x7_1 p203 q203; cases e203; replace hx203_0 := kc HB.out hx203_0; replace hx203_1 := kc HB.out hx203_1; replace hx203_2 := kc HB.out hx203_2; replace p203 := eq_true p203; replace q203 := eq_true q203
       go_wp2_with (first | ((with_reducible refine gate_dst (N := 4) rfl ?_); refine bx_ 4 #[.int .i64 0, .int .i64 0, .int .i64 0] 95 ?_; intro gb204 hg w10 hbox hb; have n0_ := kp (below_step bb hb); have n1_ := kp (hbox); have n2_ := kp (bs hg); have n3_ := kp (bs hg); clear HB; have HB := n0_; have BK204 := n1_; have GW204 := n2_; have GE204 := n3_; clear n0_ n1_ n2_ n3_; clear hb hbox hg; have hcz11_0 : w10.cell? ⟨gb204, 0, none⟩ = some (.int .i64 0) := (blk_cell BK204.out 0).trans rfl; have hcz11_1 : w10.cell? ⟨gb204, 1, none⟩ = some (.int .i64 0) := (blk_cell BK204.out 1).trans rfl; have hcz11_2 : w10.cell? ⟨gb204, 2, none⟩ = some (.int .i64 0) := (blk_cell BK204.out 2).trans rfl; have hfz11_0 := blk_frozen BK204.out 0; have hfz11_1 := blk_frozen BK204.out 1; have hfz11_2 := blk_frozen BK204.out 2) | ((with_reducible refine gate_callee (f := 125) rfl ?_); refine gl_ 12 Try.func125 #[.agg #[.int .i64 ((rd_T95 l0 x7_1).f0), .int .i64 ((rd_T95 l0 x7_1).f1), .int .i64 ((rd_T95 l0 x7_1).f2)]] ?_; (with_reducible refine (impl_IsValidRow.calls ((rd_T95 l0 x7_1).f0) ((rd_T95 l0 x7_1).f1) ((rd_T95 l0 x7_1).f2) false _ A5.out).mono ?_); rintro e w12 ⟨rfl, hb⟩; refine ⟨_, rfl, ?_⟩; have n0_ := kp (blk_below (g := gb204) (o := .cells #[.int .i64 ((rd_T95 l0 x7_1).f0), .int .i64 ((rd_T95 l0 x7_1).f1), .int .i64 ((rd_T95 l0 x7_1).f2)] 95 (0, 0)) (by refine blk_put (cs := #[.int .i64 ((rd_T95 l0 x7_1).f0), .int .i64 ((rd_T95 l0 x7_1).f1), .int .i64 0]) ?_ 2 _ rfl; refine blk_put (cs := #[.int .i64 ((rd_T95 l0 x7_1).f0), .int .i64 0, .int .i64 0]) ?_ 1 _ rfl; refine blk_put (cs := #[.int .i64 0, .int .i64 0, .int .i64 0]) ?_ 0 _ rfl; (with_reducible repeat (first | apply bN | apply bD | apply bA)); exact BK204.out) hb); have n1_ := kp (below_step bb hb); clear BK204; clear HB; have BK204 := n0_; have HB := n1_; clear n0_ n1_; (try clear hb)))
       go_ret; exact ⟨er, bb⟩
     ·rw [if_neg c4] at H; exact absurd H (by simp)
    ·rw [if_neg c3] at H; exact absurd H (by simp)
   ·rw [if_neg c2] at H; have c2b0 : decide (x7_1 < (l0.length : Int)) = false := decide_eq_false c2; clear c2; obtain rfl := Option.some.inj H; go_wp2; go_ret; exact ⟨er, bb⟩
def impl_AreValidRows.f (k : Nat) (l0 : List (S95)) : Option (Bool) := if (l0.length : Int) ≤ 24 then ((impl_allValid.f k l0).bind fun t206 => (some t206)) else (some false)
set_option maxHeartbeats 8000000 in
set_option maxRecDepth 100000 in
theorem impl_AreValidRows.calls (k : Nat) (A0 : Option Addr) (c0 : Nat) (l0 : List (S95)) (r : Bool) (w : World) (hr0 : Kd.C k95 w A0 l0.length l0) (hc0 : l0.length ≤ c0) (h : impl_AreValidRows.f k l0 = some r) :
  Calls Try.prog 103 #[.slice A0 l0.length c0] w fun e w' => e = .returned (.bool r) ∧ Below w.heap.size w w' := by
 have HR0 := kp hr0
 have HC0 := kp hc0
 clear hr0 hc0
 have HB := kp (Below.refl w.heap.size w)
 have H : (if (l0.length : Int) ≤ 24 then ((impl_allValid.f k l0).bind fun t206 => (some t206)) else (some false)) = some r := h
 clear h
 by_cases c2 : (l0.length : Int) ≤ 24
 ·rw [if_pos c2] at H; have c2b0 : decide ((l0.length : Int) ≤ 24) = true := decide_eq_true c2; have c2b1 : decide (l0.length ≤ 24) = true := decide_eq_true (by omega); clear c2; replace H := Option.bind_eq_some_iff.mp H; obtain ⟨t206, A30, H⟩ := H; replace H : (some t206) = some r := H; have A3 := kp A30; clear A30; obtain rfl := Option.some.inj H
  go_enter Try.func103, Try.ntmps103
  go_wp2_with (first | (go_at_call 116; (with_reducible refine (impl_allValid.calls k _ _ l0 t206 _ ?side1 ?side2 A3.out).mono ?_); (case side1 => repeat (first | exact HR0.out | (with_reducible refine Kd.C_alloc ?_ _) | (with_reducible refine Kd.C_drewN ?_ _) | (with_reducible refine Kd.C_drew ?_))); (case side2 => exact HC0.out); rintro e w4 ⟨rfl, hb⟩; have n0_ := kp (below_step bb hb); clear HB; have HB := n0_; clear n0_; (try clear hb)))
  go_ret; exact ⟨er, bb⟩
 ·rw [if_neg c2] at H; have c2b0 : decide ((l0.length : Int) ≤ 24) = false := decide_eq_false c2; have c2b1 : decide (l0.length ≤ 24) = false := decide_eq_false (by omega); clear c2; obtain rfl := Option.some.inj H
  go_enter Try.func103, Try.ntmps103
  go_wp2; go_ret; exact ⟨er, bb⟩
def impl_RowCost.f (a0_0 : Int) (a0_1 : Int) (a0_2 : Int) : Option (Int) := (impl_IsValidRow.f a0_0 a0_1 a0_2).bind fun t208 => (if t208 = true then (some (wrap64 (1 + a0_2))) else (some 0))
set_option maxHeartbeats 8000000 in
set_option maxRecDepth 100000 in
theorem impl_RowCost.calls (a0_0 : Int) (a0_1 : Int) (a0_2 : Int) (r : Int) (w : World) (h : impl_RowCost.f a0_0 a0_1 a0_2 = some r) :
  Calls Try.prog 117 #[.agg #[.int .i64 a0_0, .int .i64 a0_1, .int .i64 a0_2]] w fun e w' => e = .returned (.int .i64 r) ∧ Below w.heap.size w w' := by
 have hu95 := Try.underlying95
 have HB := kp (Below.refl w.heap.size w)
 have H : ((impl_IsValidRow.f a0_0 a0_1 a0_2).bind fun t208 => (if t208 = true then (some (wrap64 (1 + a0_2))) else (some 0))) = some r := h
 clear h
 replace H := Option.bind_eq_some_iff.mp H
 obtain ⟨t208, A20, H⟩ := H
 replace H : (if t208 = true then (some (wrap64 (1 + a0_2))) else (some 0)) = some r := H
 have A2 := kp A20
 clear A20
 by_cases c3 : t208 = true
 ·subst c3; have H1 : (some (wrap64 (1 + a0_2))) = some r := by rw [if_pos rfl] at H; exact H
  clear H; have H := H1; clear H1; obtain rfl := Option.some.inj H
  go_enter Try.func117, Try.ntmps117
  go_wp2_with (first | ((with_reducible refine gate_dst (N := 1) rfl ?_); refine bx_ 1 #[.int .i64 a0_0, .int .i64 a0_1, .int .i64 a0_2] 95 ?_; intro gb207 hg w4 hbox hb; have n0_ := kp (below_step bb hb); have n1_ := kp (hbox); have n2_ := kp (bs hg); have n3_ := kp (bs hg); clear HB; have HB := n0_; have BK207 := n1_; have GW207 := n2_; have GE207 := n3_; clear n0_ n1_ n2_ n3_; clear hb hbox hg; have hcz5_0 : w4.cell? ⟨gb207, 0, none⟩ = some (.int .i64 a0_0) := (blk_cell BK207.out 0).trans rfl; have hcz5_1 : w4.cell? ⟨gb207, 1, none⟩ = some (.int .i64 a0_1) := (blk_cell BK207.out 1).trans rfl; have hcz5_2 : w4.cell? ⟨gb207, 2, none⟩ = some (.int .i64 a0_2) := (blk_cell BK207.out 2).trans rfl; have hfz5_0 := blk_frozen BK207.out 0; have hfz5_1 := blk_frozen BK207.out 1; have hfz5_2 := blk_frozen BK207.out 2) | ((with_reducible refine gate_callee (f := 125) rfl ?_); refine gl_ 4 Try.func125 #[.agg #[.int .i64 a0_0, .int .i64 a0_1, .int .i64 a0_2]] ?_; (with_reducible refine (impl_IsValidRow.calls a0_0 a0_1 a0_2 true _ A2.out).mono ?_); rintro e w6 ⟨rfl, hb⟩; refine ⟨_, rfl, ?_⟩; have n0_ := kp (kb BK207.out hb); have n1_ := kp (below_step bb hb); clear BK207; clear HB; have BK207 := n0_; have HB := n1_; clear n0_ n1_; (try clear hb); have hcz7_0 : w6.cell? ⟨gb207, 0, none⟩ = some (.int .i64 a0_0) := (blk_cell BK207.out 0).trans rfl; have hcz7_1 : w6.cell? ⟨gb207, 1, none⟩ = some (.int .i64 a0_1) := (blk_cell BK207.out 1).trans rfl; have hcz7_2 : w6.cell? ⟨gb207, 2, none⟩ = some (.int .i64 a0_2) := (blk_cell BK207.out 2).trans rfl; have hfz7_0 := blk_frozen BK207.out 0; have hfz7_1 := blk_frozen BK207.out 1; have hfz7_2 := blk_frozen BK207.out 2))
  go_ret; exact ⟨er, bb⟩
 ·replace c3 := Bool.eq_false_iff.mpr c3; subst c3; have H1 : (some 0) = some r := by rw [if_neg (show ¬ (false = true) by decide)] at H; exact H
  clear H; have H := H1; clear H1; obtain rfl := Option.some.inj H
  go_enter Try.func117, Try.ntmps117
  go_wp2_with (first | ((with_reducible refine gate_dst (N := 1) rfl ?_); refine bx_ 1 #[.int .i64 a0_0, .int .i64 a0_1, .int .i64 a0_2] 95 ?_; intro gb207 hg w8 hbox hb; have n0_ := kp (below_step bb hb); have n1_ := kp (hbox); have n2_ := kp (bs hg); have n3_ := kp (bs hg); clear HB; have HB := n0_; have BK207 := n1_; have GW207 := n2_; have GE207 := n3_; clear n0_ n1_ n2_ n3_; clear hb hbox hg; have hcz9_0 : w8.cell? ⟨gb207, 0, none⟩ = some (.int .i64 a0_0) := (blk_cell BK207.out 0).trans rfl; have hcz9_1 : w8.cell? ⟨gb207, 1, none⟩ = some (.int .i64 a0_1) := (blk_cell BK207.out 1).trans rfl; have hcz9_2 : w8.cell? ⟨gb207, 2, none⟩ = some (.int .i64 a0_2) := (blk_cell BK207.out 2).trans rfl; have hfz9_0 := blk_frozen BK207.out 0; have hfz9_1 := blk_frozen BK207.out 1; have hfz9_2 := blk_frozen BK207.out 2) | ((with_reducible refine gate_callee (f := 125) rfl ?_); refine gl_ 4 Try.func125 #[.agg #[.int .i64 a0_0, .int .i64 a0_1, .int .i64 a0_2]] ?_; (with_reducible refine (impl_IsValidRow.calls a0_0 a0_1 a0_2 false _ A2.out).mono ?_); rintro e w10 ⟨rfl, hb⟩; refine ⟨_, rfl, ?_⟩; have n0_ := kp (kb BK207.out hb); have n1_ := kp (below_step bb hb); clear BK207; clear HB; have BK207 := n0_; have HB := n1_; clear n0_ n1_; (try clear hb)))
  go_ret; exact ⟨er, bb⟩
end Go.Proofs.Ytinniedbgfgclaa.PFnExactAppendPage
