/- Out of a copy of the print, with function values told: nothing is claimed here. -/
import Derived.Test.YtinniedbgfgclaaVQFnDiskOperationsx0
import Derived.Test.YtinniedbgfgclaaVQFnDiskOperationsx40
import Derived.Test.YtinniedbgfgclaaVPress
import Derived.Test.YtinniedbgfgclaaVFoldT
namespace Go.Proofs.Ytinniedbgfgclaa.PFnDiskOperations
open Go.RowKit Go.Proofs.YtinniedbgfgclaaW.PrintWords Go.Proofs.YtinniedbgfgclaaW.PrintLast Go.Proofs.YtinniedbgfgclaaW.PrintMore Go.Proofs.Ytinniedbgfgclaa.Press Go.Proofs.Ytinniedbgfgclaa.Fold
attribute [local go_sem] max2_int min2_int max_two min_two max_three min_three max_four min_four   -- for this text's walks alone
set_option linter.unusedVariables false
set_option linter.unusedSimpArgs false
attribute [local go_sem high] eqA95
def laws_sameRows.l0 : Nat → List (S95) → List (S95) → Int → Option (Bool)
 | 0, _, _, _ => none
 | k + 1, x0, x1, x5 => if x5 < (x0.length : Int) then (if 0 ≤ x5 then (if x5 < (x1.length : Int) then (if (!(((rd_T95 x0 x5).f0) == ((rd_T95 x1 x5).f0)) || (!(((rd_T95 x0 x5).f1) == ((rd_T95 x1 x5).f1)) || (!(((rd_T95 x0 x5).f2) == ((rd_T95 x1 x5).f2))))) = true then (some false) else (laws_sameRows.l0 k x0 x1 (wrap64 (x5 + 1)))) else (none)) else (none)) else (some true)
def laws_sameRows.f (k : Nat) (l0 : List (S95)) (l1 : List (S95)) : Option (Bool) := if (l0.length : Int) = (l1.length : Int) then (laws_sameRows.l0 k l0 l1 0) else (some false)
set_option maxHeartbeats 8000000 in
set_option maxRecDepth 100000 in
theorem laws_sameRows.calls (k : Nat) (A0 : Option Addr) (c0 : Nat) (l0 : List (S95)) (A1 : Option Addr) (c1 : Nat) (l1 : List (S95)) (r : Bool) (w : World) (hr0 : Kd.C k95 w A0 l0.length l0) (hc0 : l0.length ≤ c0) (hr1 : Kd.C k95 w A1 l1.length l1) (hc1 : l1.length ≤ c1) (h : laws_sameRows.f k l0 l1 = some r) :
  Calls Try.prog 34 #[.slice A0 l0.length c0, .slice A1 l1.length c1] w fun e w' => e = .returned (.bool r) ∧ Drawn0 w w' := by
 have hu95 := Try.underlying95; have HR0 := kp hr0; have HC0 := kp hc0; clear hr0 hc0; have HR1 := kp hr1; have HC1 := kp hc1; clear hr1 hc1; have H := h; clear h; unfold laws_sameRows.f at H; by_cases c3 : (l0.length : Int) = (l1.length : Int)
 ·rw [if_pos c3] at H; have c3b0 : ((l0.length : Int) == (l1.length : Int)) = true := beq_iff_eq.mpr c3; have c3b1 : ((l0.length : Int) != (l1.length : Int)) = false := bne_eq_false_iff_eq.mpr c3; have c3b2 : (l0.length == l1.length) = true := by first | simpa using c3 | (simp at c3 ⊢; omega)
  clear c3; have H' := kp H; clear H; go_enter Try.func34, Try.ntmps34; go_wp2; repeat (go_quiet (fail); try go_wp2)
  go_loopg [5] k (fun kq v5 w' => ∃ (x5_1 : Int), v5 = .int .i64 x5_1 ∧ Aside0 (laws_sameRows.l0 kq l0 l1 x5_1 = some r) ∧ Aside0 (kq ≤ k) ∧ Drawn0 w w'); case atStart => exact ⟨(0), vr, H', ⟨Nat.le_refl _⟩, by repeat (first | exact Drawn0.refl _ | apply Drawn0.step)⟩
  case round =>
   clear H'; try clear c1
   try clear c3
   try clear c3b0
   try clear c3b1
   try clear c3b2
   obtain ⟨x5_1, rfl, HA, HK1, ⟨m1, rfl⟩⟩ := hrel
   cases gk with
   | zero => exact absurd HA.out (by simp [laws_sameRows.l0])
   | succ k1 =>
    have H := HA.out; clear HA; simp only [laws_sameRows.l0] at H; replace H := sp H; rcases H with ⟨c4b0, H⟩ | ⟨c4b0, H⟩
    replace H := sn H; obtain ⟨c5b0, H⟩ := H; replace H := sn H; obtain ⟨c6b0, H⟩ := H; by_cases c7 : (!(((rd_T95 l0 x5_1).f0) == ((rd_T95 l1 x5_1).f0)) || (!(((rd_T95 l0 x5_1).f1) == ((rd_T95 l1 x5_1).f1)) || (!(((rd_T95 l0 x5_1).f2) == ((rd_T95 l1 x5_1).f2))))) = true; rw [if_pos c7] at H; have c7b0 : (!(((rd_T95 l0 x5_1).f0) == ((rd_T95 l1 x5_1).f0)) || (!(((rd_T95 l0 x5_1).f1) == ((rd_T95 l1 x5_1).f1)) || (!(((rd_T95 l0 x5_1).f2) == ((rd_T95 l1 x5_1).f2))))) = true := c7; clear c7; obtain rfl := Option.some.inj H; rotate_left; rw [if_neg c7] at H; have c7b0 : (!(((rd_T95 l0 x5_1).f0) == ((rd_T95 l1 x5_1).f0)) || (!(((rd_T95 l0 x5_1).f1) == ((rd_T95 l1 x5_1).f1)) || (!(((rd_T95 l0 x5_1).f2) == ((rd_T95 l1 x5_1).f2))))) = false := by simpa using c7
    clear c7; have H' := kp H; clear H; have i1_ := kp True.intro; rotate_left; obtain rfl := Option.some.inj H; have i2_ := kp True.intro
    all_goals
     first
     | refine tg i2_ ?_
     | have p743 : 0 ≤ (x5_1 : Int) := dt; have q743 : x5_1 < (l0.length : Int) := dt; obtain ⟨ad743, e743, hx743_0, hx743_1, hx743_2⟩ := at_T95 HR0.out x5_1 p743 q743; cases e743; replace p743 := eq_true p743; replace q743 := eq_true q743; have p744 : 0 ≤ (x5_1 : Int) := dt; have q744 : x5_1 < (l1.length : Int) := dt; obtain ⟨ad744, e744, hx744_0, hx744_1, hx744_2⟩ := at_T95 HR1.out x5_1 p744 q744; cases e744; replace p744 := eq_true p744; replace q744 := eq_true q744
     go_wp2; repeat (go_quiet (fail); try go_wp2)
     first
     | refine tg i1_ ?_; go_roundg k1; case measure => have := HK1.out; omega
       case rel => exact ⟨(wrap64 (x5_1 + 1)), vr, H', ⟨by have := HK1.out; omega⟩, by repeat (first | exact Drawn0.refl _ | apply Drawn0.step)⟩
     | go_ret; exact ⟨by first | rfl | (simp; done) | (simp [*]; done), by repeat (first | exact Drawn0.refl _ | apply Drawn0.step)⟩
 ·rw [if_neg c3] at H; have c3b0 : ((l0.length : Int) == (l1.length : Int)) = false := beq_eq_false_iff_ne.mpr c3; have c3b1 : ((l0.length : Int) != (l1.length : Int)) = true := bne_iff_ne.mpr c3; have c3b2 : (l0.length == l1.length) = false := by first | simpa using c3 | (simp at c3 ⊢; omega)
  obtain rfl := Option.some.inj H; go_enter Try.func34, Try.ntmps34; go_wp2; repeat (go_quiet (fail); try go_wp2)
  go_ret; exact ⟨by first | rfl | (simp; done) | (simp [*]; done), by repeat (first | exact Drawn0.refl _ | apply Drawn0.step)⟩
end Go.Proofs.Ytinniedbgfgclaa.PFnDiskOperations
