/- Out of a copy of the print, with function values told: nothing is claimed here. -/
import Derived.Test.YtljpfogplcdcjaaVQFnPagePackingx0
import Derived.Test.YtljpfogplcdcjaaVQFnPagePackingx3
import Derived.Test.YtljpfogplcdcjaaVQFnPagePackingx4
import Derived.Test.YtljpfogplcdcjaaVQFnPagePackingx10
import Derived.Test.YtljpfogplcdcjaaVShort
import Derived.Test.YtljpfogplcdcjaaVPress
namespace Go.Proofs.Ytljpfogplcdcjaa.PFnPagePacking
open Go.RowKit Go.Proofs.YtljpfogplcdcjaaW.PrintWords Go.Proofs.YtljpfogplcdcjaaW.PrintLast Go.Proofs.YtljpfogplcdcjaaW.PrintMore Go.Proofs.Ytljpfogplcdcjaa.Short Go.Proofs.Ytljpfogplcdcjaa.Press
attribute [local go_sem] max2_int min2_int max_two min_two max_three min_three max_four min_four   -- for this text's walks alone
set_option linter.unusedVariables false
set_option linter.unusedSimpArgs false
mutual
def impl_ParseInt.j0 : Nat → ByteArray → ByteArray → Bool → Option (Int × Bool)
 | 0, _, _, _ => none
 | k + 1, x0, x4, x15 => if x15 = true then (if 1 ≤ (x0.size : Int) then (impl_ParseInt.j1 k x0 (x0.extract 1 x0.size)) else (none)) else (impl_ParseInt.j1 k x0 x4)
def impl_ParseInt.j1 : Nat → ByteArray → ByteArray → Option (Int × Bool)
 | 0, _, _ => none
 | k + 1, x0, x4 => if (x4.size : Int) < 1 then (impl_ParseInt.j2 k x0 x4 true) else (impl_ParseInt.j2 k x0 x4 (decide ((x4.size : Int) > 9)))
def impl_ParseInt.j2 : Nat → ByteArray → ByteArray → Bool → Option (Int × Bool)
 | 0, _, _, _ => none
 | k + 1, x0, x4, x25 => if x25 = true then (some (0, false)) else (impl_ParseInt.l0 k x0 x4 0 (x4.size : Int) 0)
def impl_ParseInt.l0 : Nat → ByteArray → ByteArray → Int → Int → Int → Option (Int × Bool)
 | 0, _, _, _, _, _ => none
 | k + 1, x0, x4, x5, x27, x28 => if x28 < x27 then (if 0 ≤ x28 then (if x28 < (x4.size : Int) then (if (bt x4 x28) < 48 then (some (0, false)) else (if (bt x4 x28) > 57 then (some (0, false)) else (impl_ParseInt.l0 k x0 x4 (wrap64 ((wrap64 (10 * x5)) + (((bt x4 x28) - 48) % 256))) x27 (wrap64 (x28 + 1))))) else (none)) else (none)) else (if (x4.size : Int) < (x0.size : Int) then ((impl_FormatInt.f k (wrap64 (-x5))).bind fun t446 => (if t446.toList = x0.toList then (some (wrap64 (-x5), true)) else (some (0, false)))) else ((impl_FormatInt.f k x5).bind fun t447 => (if t447.toList = x0.toList then (some (x5, true)) else (some (0, false)))))
end
def impl_ParseInt.f (k : Nat) (a0 : ByteArray) : Option (Int × Bool) := if (a0.size : Int) > 0 then (if 0 < (a0.size : Int) then (impl_ParseInt.j0 k a0 a0 ((bt a0 0) == 45)) else (none)) else (impl_ParseInt.j0 k a0 a0 false)
theorem impl_ParseInt.mono_l : ∀ k, (∀ y0 y1 y2, LeO (impl_ParseInt.j0 k y0 y1 y2) (impl_ParseInt.j0 (k + 1) y0 y1 y2)) ∧ (∀ y0 y1, LeO (impl_ParseInt.j1 k y0 y1) (impl_ParseInt.j1 (k + 1) y0 y1)) ∧ (∀ y0 y1 y2, LeO (impl_ParseInt.j2 k y0 y1 y2) (impl_ParseInt.j2 (k + 1) y0 y1 y2)) ∧ (∀ y0 y1 y2 y3 y4, LeO (impl_ParseInt.l0 k y0 y1 y2 y3 y4) (impl_ParseInt.l0 (k + 1) y0 y1 y2 y3 y4))
 | 0 => ⟨fun _ _ _ r h => by simp [impl_ParseInt.j0] at h, fun _ _ r h => by simp [impl_ParseInt.j1] at h, fun _ _ _ r h => by simp [impl_ParseInt.j2] at h, fun _ _ _ _ _ r h => by simp [impl_ParseInt.l0] at h⟩
 | k + 1 => by
  obtain ⟨ih0, ih1, ih2, ih3⟩ := impl_ParseInt.mono_l k
  refine ⟨?_, ?_, ?_, ?_⟩
  ·intro y0 y1 y2
   unfold impl_ParseInt.j0
   repeat' first
   | (with_reducible exact ih0 _ _ _)
   | (with_reducible exact ih1 _ _)
   | (with_reducible exact ih2 _ _ _)
   | (with_reducible exact ih3 _ _ _ _ _)
   | (with_reducible exact impl_FormatInt.mono _ _)
   | (with_reducible exact LeO.refl _)
   | (with_reducible exact LeO.none _)
   | (with_reducible refine LeO.ite ?_ ?_)
   | (with_reducible refine LeO.bind ?_ (fun _ => ?_))
  ·intro y0 y1
   unfold impl_ParseInt.j1
   repeat' first
   | (with_reducible exact ih0 _ _ _)
   | (with_reducible exact ih1 _ _)
   | (with_reducible exact ih2 _ _ _)
   | (with_reducible exact ih3 _ _ _ _ _)
   | (with_reducible exact impl_FormatInt.mono _ _)
   | (with_reducible exact LeO.refl _)
   | (with_reducible exact LeO.none _)
   | (with_reducible refine LeO.ite ?_ ?_)
   | (with_reducible refine LeO.bind ?_ (fun _ => ?_))
  ·intro y0 y1 y2
   unfold impl_ParseInt.j2
   repeat' first
   | (with_reducible exact ih0 _ _ _)
   | (with_reducible exact ih1 _ _)
   | (with_reducible exact ih2 _ _ _)
   | (with_reducible exact ih3 _ _ _ _ _)
   | (with_reducible exact impl_FormatInt.mono _ _)
   | (with_reducible exact LeO.refl _)
   | (with_reducible exact LeO.none _)
   | (with_reducible refine LeO.ite ?_ ?_)
   | (with_reducible refine LeO.bind ?_ (fun _ => ?_))
  ·intro y0 y1 y2 y3 y4
   unfold impl_ParseInt.l0
   repeat' first
   | (with_reducible exact ih0 _ _ _)
   | (with_reducible exact ih1 _ _)
   | (with_reducible exact ih2 _ _ _)
   | (with_reducible exact ih3 _ _ _ _ _)
   | (with_reducible exact impl_FormatInt.mono _ _)
   | (with_reducible exact LeO.refl _)
   | (with_reducible exact LeO.none _)
   | (with_reducible refine LeO.ite ?_ ?_)
   | (with_reducible refine LeO.bind ?_ (fun _ => ?_))
theorem impl_ParseInt.mono : ∀ a0 k, LeO (impl_ParseInt.f k a0) (impl_ParseInt.f (k + 1) a0) := by
 intro a0 k
 obtain ⟨ih0, ih1, ih2, ih3⟩ := impl_ParseInt.mono_l k
 unfold impl_ParseInt.f
 repeat' first
   | (with_reducible exact ih0 _ _ _)
   | (with_reducible exact ih1 _ _)
   | (with_reducible exact ih2 _ _ _)
   | (with_reducible exact ih3 _ _ _ _ _)
   | (with_reducible exact impl_FormatInt.mono _ _)
   | (with_reducible exact LeO.refl _)
   | (with_reducible exact LeO.none _)
   | (with_reducible refine LeO.ite ?_ ?_)
   | (with_reducible refine LeO.bind ?_ (fun _ => ?_))
set_option maxHeartbeats 8000000 in
set_option maxRecDepth 100000 in
theorem impl_ParseInt.calls (k : Nat) (a0 : ByteArray) (r1 : Int) (r2 : Bool) (w : World) (h : impl_ParseInt.f k a0 = some (r1, r2)) :
  Calls Try.prog 99 #[.string a0] w fun e w' => e = .returned (.tuple #[.int .i64 r1, .bool r2]) ∧ Below w.heap.size w w' := by
 have HB := kp (Below.refl w.heap.size w)
 have H : (if (a0.size : Int) > 0 then (if 0 < (a0.size : Int) then (impl_ParseInt.j0 k a0 a0 ((bt a0 0) == 45)) else (none)) else (impl_ParseInt.j0 k a0 a0 false)) = some (r1, r2) := h
 clear h
 have HC2 := kp H
 clear H
 go_enter Try.func99, Try.ntmps99
 go_upto_region 2 with (fail)
 go_cut [15] (fun v15 wc => ∃ (kq : Nat) (x15_1 : Bool), v15 = .bool x15_1 ∧ Aside0 (impl_ParseInt.j0 kq a0 a0 x15_1 = some (r1, r2)) ∧ Aside0 (kq ≤ k) ∧ Aside0 (Below w.heap.size w wc))
 case first =>
  have H := HC2.out; clear HC2
  by_cases c3 : (a0.size : Int) > 0
  ·rw [if_pos c3] at H; have c3b0 : decide (0 < (a0.size : Int)) = true := decide_eq_true c3; have c3b1 : decide (0 < a0.size) = true := decide_eq_true (by omega); clear c3; (first | rw [c3b0] | (simp only [i64_w, i32_w]; rw [c3b0]) | skip)
   by_cases c4 : 0 < (a0.size : Int)
   ·rw [if_pos c4] at H; have c4b0 : decide (0 < (a0.size : Int)) = true := decide_eq_true c4; have c4b1 : decide (0 < a0.size) = true := decide_eq_true (by omega); clear c4; have H' := kp H; clear H; have p5 : 0 ≤ (0 : Int) := (by omega); have q5 : 0 < a0.size := (by have : (0 : Int) < (a0.size : Int) := dt; omega); have hx5 : ∀ h : 0 < a0.size, ((a0[0]'h).toNat : Int) = bt a0 0 := bt_at a0 0; clear p5; have qi5 : (0 < (a0.size : Int)) = True := eq_true (dt); replace q5 := eq_true q5; go_wp2
    go_meet
    case rel => exact ⟨_, (((bt a0 0) == 45)), (by first | rfl | (simp; done) | (simp [*]; done)), H', ⟨by first | omega | exact Nat.le_refl _⟩, ⟨bb⟩⟩
   ·rw [if_neg c4] at H; exact absurd H (by simp)
  ·rw [if_neg c3] at H; have c3b0 : decide (0 < (a0.size : Int)) = false := decide_eq_false c3; have c3b1 : decide (0 < a0.size) = false := decide_eq_false (by omega); clear c3; (first | rw [c3b0] | (simp only [i64_w, i32_w]; rw [c3b0]) | skip); have H' := kp H; clear H; go_wp2
   go_meet
   case rel => exact ⟨_, (false), (by first | rfl | (simp; done) | (simp [*]; done)), H', ⟨by first | omega | exact Nat.le_refl _⟩, ⟨bb⟩⟩
 case rest =>
  clear HC2
  obtain ⟨kq, x15_1, rfl, HA, HJ1, HB⟩ := hcut
  cases kq with
  | zero => exact absurd HA.out (by simp [impl_ParseInt.j0])
  | succ kj1 =>
   have H := HA.out; clear HA; simp only [impl_ParseInt.j0] at H; have HC6 := kp H; clear H
   go_upto_if 15 with (fail)
   go_cut [4] (fun v4 wc => ∃ (kq : Nat) (x4_5 : ByteArray), v4 = .string x4_5 ∧ Aside0 (impl_ParseInt.j1 kq a0 x4_5 = some (r1, r2)) ∧ Aside0 (kq ≤ kj1) ∧ Aside0 (Below w.heap.size w wc))
   case first =>
    have H := HC6.out; clear HC6
    by_cases c7 : x15_1 = true
    ·subst c7; have H1 : (if 1 ≤ (a0.size : Int) then (impl_ParseInt.j1 kj1 a0 (a0.extract 1 a0.size)) else (none)) = some (r1, r2) := by rw [if_pos rfl] at H; exact H
     clear H; have H := H1; clear H1
     by_cases c8 : 1 ≤ (a0.size : Int)
     ·rw [if_pos c8] at H; have c8b0 := eq_true c8; have c8b1 : decide (1 ≤ (a0.size : Int)) = true := decide_eq_true c8; clear c8; have H' := kp H; clear H; go_wp2
      go_meet
      case rel => exact ⟨_, (a0.extract 1 a0.size), (by first | rfl | (simp; done) | (simp [*]; done)), H', ⟨by have := HJ1.out; first | omega | exact Nat.le_refl _⟩, ⟨bb⟩⟩
     ·rw [if_neg c8] at H; exact absurd H (by simp)
    ·replace c7 := Bool.eq_false_iff.mpr c7; subst c7; have H1 : (impl_ParseInt.j1 kj1 a0 a0) = some (r1, r2) := by rw [if_neg (show ¬ (false = true) by decide)] at H; exact H
     clear H; have H := H1; clear H1; have H' := kp H; clear H; go_wp2
     go_meet
     case rel => exact ⟨_, (a0), (by first | rfl | (simp; done) | (simp [*]; done)), H', ⟨by have := HJ1.out; first | omega | exact Nat.le_refl _⟩, ⟨bb⟩⟩
   case rest =>
    clear HC6
    obtain ⟨kq, x4_5, rfl, HA, HJ5, HB⟩ := hcut
    cases kq with
    | zero => exact absurd HA.out (by simp [impl_ParseInt.j1])
    | succ kj5 =>
     have H := HA.out; clear HA; simp only [impl_ParseInt.j1] at H; have HC9 := kp H; clear H
     go_upto_region 4 with (fail)
     go_cut [25] (fun v25 wc => ∃ (kq : Nat) (x25_8 : Bool), v25 = .bool x25_8 ∧ Aside0 (impl_ParseInt.j2 kq a0 x4_5 x25_8 = some (r1, r2)) ∧ Aside0 (kq ≤ kj5) ∧ Aside0 (Below w.heap.size w wc))
     case first =>
      have H := HC9.out; clear HC9
      by_cases c10 : (x4_5.size : Int) < 1
      ·rw [if_pos c10] at H; have c10b0 : decide ((x4_5.size : Int) < 1) = true := decide_eq_true c10; have c10b1 : decide (x4_5.size < 1) = true := decide_eq_true (by omega); clear c10; (first | rw [c10b0] | (simp only [i64_w, i32_w]; rw [c10b0]) | skip); have H' := kp H; clear H; go_wp2
       go_meet
       case rel => exact ⟨_, (true), (by first | rfl | (simp; done) | (simp [*]; done)), H', ⟨by have := HJ1.out; have := HJ5.out; first | omega | exact Nat.le_refl _⟩, ⟨bb⟩⟩
      ·rw [if_neg c10] at H; have c10b0 : decide ((x4_5.size : Int) < 1) = false := decide_eq_false c10; have c10b1 : decide (x4_5.size < 1) = false := decide_eq_false (by omega); clear c10; (first | rw [c10b0] | (simp only [i64_w, i32_w]; rw [c10b0]) | skip); have H' := kp H; clear H; go_wp2
       go_meet
       case rel => exact ⟨_, (decide ((x4_5.size : Int) > 9)), (by first | rfl | (simp; done) | (simp [*]; done)), H', ⟨by have := HJ1.out; have := HJ5.out; first | omega | exact Nat.le_refl _⟩, ⟨bb⟩⟩
     case rest =>
      clear HC9
      obtain ⟨kq, x25_8, rfl, HA, HJ8, HB⟩ := hcut
      cases kq with
      | zero => exact absurd HA.out (by simp [impl_ParseInt.j2])
      | succ kj8 =>
       have H := HA.out; clear HA; simp only [impl_ParseInt.j2] at H
       by_cases c11 : x25_8 = true
       ·subst c11; have H1 : (some (0, false)) = some (r1, r2) := by rw [if_pos rfl] at H; exact H
        clear H; have H := H1; clear H1; simp only [Option.some.injEq, Prod.mk.injEq] at H; obtain ⟨rfl, rfl⟩ := H; go_wp2
        go_ret2
        exact ⟨er, bb⟩
       ·replace c11 := Bool.eq_false_iff.mpr c11; subst c11; have H1 : (impl_ParseInt.l0 kj8 a0 x4_5 0 (x4_5.size : Int) 0) = some (r1, r2) := by rw [if_neg (show ¬ (false = true) by decide)] at H; exact H
        clear H; have H := H1; clear H1; have H' := kp H; clear H; go_wp2
        go_loopg [5, 28] kj8 (fun kq v5 v28 w' => ∃ (x5_4 : Int) (x28_4 : Int), v5 = .int .i64 x5_4 ∧ v28 = .int .i64 x28_4 ∧ Aside0 (impl_ParseInt.l0 kq a0 x4_5 x5_4 (x4_5.size : Int) x28_4 = some (r1, r2)) ∧ Aside0 (kq ≤ kj8) ∧ Aside0 (Below w.heap.size w w'))
        case atStart => exact ⟨(0), (0), (by first | rfl | (simp; done) | (simp [*]; done)), (by first | rfl | (simp; done) | (simp [*]; done)), H', ⟨Nat.le_refl _⟩, ⟨bb⟩⟩
        case round =>
         clear H'
         try clear c11
         obtain ⟨x5_4, x28_4, rfl, rfl, HA, HK4, HB⟩ := hrel
         cases gk with
         | zero => exact absurd HA.out (by simp [impl_ParseInt.l0])
         | succ k4 =>
          have H := HA.out; clear HA; simp only [impl_ParseInt.l0] at H
          by_cases c12 : x28_4 < (x4_5.size : Int)
          ·rw [if_pos c12] at H; have c12b0 : decide (x28_4 < (x4_5.size : Int)) = true := decide_eq_true c12; clear c12
           by_cases c13 : 0 ≤ x28_4
           ·rw [if_pos c13] at H; have c13b0 : decide (0 ≤ x28_4) = true := decide_eq_true c13; clear c13
            by_cases c14 : x28_4 < (x4_5.size : Int)
            ·rw [if_pos c14] at H; have c14b0 : decide (x28_4 < (x4_5.size : Int)) = true := decide_eq_true c14; clear c14
             by_cases c16 : (bt x4_5 x28_4) < 48
             ·rw [if_pos c16] at H; have c16b0 : decide ((bt x4_5 x28_4) < 48) = true := decide_eq_true c16; clear c16; simp only [Option.some.injEq, Prod.mk.injEq] at H; obtain ⟨rfl, rfl⟩ := H; have p15 : 0 ≤ (x28_4 : Int) := dt; have q15 : x28_4 < (x4_5.size : Int) := dt; have hx15 := bt_at x4_5 x28_4; replace p15 := eq_true p15; replace q15 := eq_true q15; go_wp2
              go_ret2
              exact ⟨er, bb⟩
             ·rw [if_neg c16] at H; have c16b0 : decide ((bt x4_5 x28_4) < 48) = false := decide_eq_false c16; clear c16
              by_cases c18 : (bt x4_5 x28_4) > 57
              ·rw [if_pos c18] at H; have c18b0 : decide (57 < (bt x4_5 x28_4)) = true := decide_eq_true c18; clear c18; simp only [Option.some.injEq, Prod.mk.injEq] at H; obtain ⟨rfl, rfl⟩ := H; have p15 : 0 ≤ (x28_4 : Int) := dt; have q15 : x28_4 < (x4_5.size : Int) := dt; have hx15 := bt_at x4_5 x28_4; replace p15 := eq_true p15; replace q15 := eq_true q15; have p17 : 0 ≤ (x28_4 : Int) := dt; have q17 : x28_4 < (x4_5.size : Int) := dt; have hx17 := bt_at x4_5 x28_4; replace p17 := eq_true p17; replace q17 := eq_true q17; go_wp2
               go_ret2
               exact ⟨er, bb⟩
              ·rw [if_neg c18] at H; have c18b0 : decide (57 < (bt x4_5 x28_4)) = false := decide_eq_false c18; clear c18; have H' := kp H; clear H; have p15 : 0 ≤ (x28_4 : Int) := dt; have q15 : x28_4 < (x4_5.size : Int) := dt; have hx15 := bt_at x4_5 x28_4; replace p15 := eq_true p15; replace q15 := eq_true q15; have p17 : 0 ≤ (x28_4 : Int) := dt; have q17 : x28_4 < (x4_5.size : Int) := dt; have hx17 := bt_at x4_5 x28_4; replace p17 := eq_true p17; replace q17 := eq_true q17; have p19 : 0 ≤ (x28_4 : Int) := dt; have q19 : x28_4 < (x4_5.size : Int) := dt; have hx19 := bt_at x4_5 x28_4; replace p19 := eq_true p19; replace q19 := eq_true q19; go_wp2
               go_roundg k4
               case measure => have := HJ1.out; have := HJ5.out; have := HJ8.out; have := HK4.out; omega
               case rel => exact ⟨(wrap64 ((wrap64 (10 * x5_4)) + (((bt x4_5 x28_4) - 48) % 256))), (wrap64 (x28_4 + 1)), (by first | rfl | (simp; done) | (simp [*]; done)), (by first | rfl | (simp; done) | (simp [*]; done)), H', ⟨by have := HJ1.out; have := HJ5.out; have := HJ8.out; have := HK4.out; omega⟩, ⟨bb⟩⟩
            ·rw [if_neg c14] at H; exact absurd H (by simp)
           ·rw [if_neg c13] at H; exact absurd H (by simp)
          ·rw [if_neg c12] at H; have c12b0 : decide (x28_4 < (x4_5.size : Int)) = false := decide_eq_false c12; clear c12
           by_cases c20 : (x4_5.size : Int) < (a0.size : Int)
           ·rw [if_pos c20] at H; have c20b0 : decide ((x4_5.size : Int) < (a0.size : Int)) = true := decide_eq_true c20; have c20b1 : decide (x4_5.size < a0.size) = true := decide_eq_true (Int.ofNat_lt.mp c20); clear c20; replace H := Option.bind_eq_some_iff.mp H; obtain ⟨t446, A210, H⟩ := H; replace H : (if t446.toList = a0.toList then (some (wrap64 (-x5_4), true)) else (some (0, false))) = some (r1, r2) := H; have A21 := kp A210; clear A210
            by_cases c22 : t446.toList = a0.toList
            ·rw [if_pos c22] at H; have c22b0 : (t446.toList == a0.toList) = true := beq_iff_eq.mpr c22; have c22b1 : (t446.toList != a0.toList) = false := bne_eq_false_iff_eq.mpr c22; clear c22; simp only [Option.some.injEq, Prod.mk.injEq] at H; obtain ⟨rfl, rfl⟩ := H
             go_wp2_with (first | ((with_reducible refine gate_callee (f := 104) rfl ?_); refine gl_ 58 Try.func104 #[.int .i64 (wrap64 (-x5_4))] ?_; (with_reducible refine (impl_FormatInt.calls k4 (wrap64 (-x5_4)) t446 _ A21.out).mono ?_); rintro e w23 ⟨rfl, hb⟩; refine ⟨_, rfl, ?_⟩; replace HB := kp (below_step bb hb); (try clear hb)))
             go_ret2
             exact ⟨er, bb⟩
            ·rw [if_neg c22] at H; have c22b0 : (t446.toList == a0.toList) = false := beq_eq_false_iff_ne.mpr c22; have c22b1 : (t446.toList != a0.toList) = true := bne_iff_ne.mpr c22; simp only [Option.some.injEq, Prod.mk.injEq] at H; obtain ⟨rfl, rfl⟩ := H
             go_wp2_with (first | ((with_reducible refine gate_callee (f := 104) rfl ?_); refine gl_ 58 Try.func104 #[.int .i64 (wrap64 (-x5_4))] ?_; (with_reducible refine (impl_FormatInt.calls k4 (wrap64 (-x5_4)) t446 _ A21.out).mono ?_); rintro e w24 ⟨rfl, hb⟩; refine ⟨_, rfl, ?_⟩; replace HB := kp (below_step bb hb); (try clear hb)))
             go_ret2
             exact ⟨er, bb⟩
           ·rw [if_neg c20] at H; have c20b0 : decide ((x4_5.size : Int) < (a0.size : Int)) = false := decide_eq_false c20; have c20b1 : decide (x4_5.size < a0.size) = false := decide_eq_false (fun h => c20 (Int.ofNat_lt.mpr h)); clear c20; replace H := Option.bind_eq_some_iff.mp H; obtain ⟨t447, A250, H⟩ := H; replace H : (if t447.toList = a0.toList then (some (x5_4, true)) else (some (0, false))) = some (r1, r2) := H; have A25 := kp A250; clear A250
            by_cases c26 : t447.toList = a0.toList
            ·rw [if_pos c26] at H; have c26b0 : (t447.toList == a0.toList) = true := beq_iff_eq.mpr c26; have c26b1 : (t447.toList != a0.toList) = false := bne_eq_false_iff_eq.mpr c26; clear c26; simp only [Option.some.injEq, Prod.mk.injEq] at H; obtain ⟨rfl, rfl⟩ := H
             go_wp2_with (first | ((with_reducible refine gate_callee (f := 104) rfl ?_); refine gl_ 58 Try.func104 #[.int .i64 x5_4] ?_; (with_reducible refine (impl_FormatInt.calls k4 x5_4 t447 _ A25.out).mono ?_); rintro e w27 ⟨rfl, hb⟩; refine ⟨_, rfl, ?_⟩; replace HB := kp (below_step bb hb); (try clear hb)))
             go_ret2
             exact ⟨er, bb⟩
            ·rw [if_neg c26] at H; have c26b0 : (t447.toList == a0.toList) = false := beq_eq_false_iff_ne.mpr c26; have c26b1 : (t447.toList != a0.toList) = true := bne_iff_ne.mpr c26; simp only [Option.some.injEq, Prod.mk.injEq] at H; obtain ⟨rfl, rfl⟩ := H
             go_wp2_with (first | ((with_reducible refine gate_callee (f := 104) rfl ?_); refine gl_ 58 Try.func104 #[.int .i64 x5_4] ?_; (with_reducible refine (impl_FormatInt.calls k4 x5_4 t447 _ A25.out).mono ?_); rintro e w28 ⟨rfl, hb⟩; refine ⟨_, rfl, ?_⟩; replace HB := kp (below_step bb hb); (try clear hb)))
             go_ret2
             exact ⟨er, bb⟩
def impl_ParseRow.f (k : Nat) (a0 : ByteArray) : Option (Int × Int × Int × Bool) := (impl_cut.f k a0 46).bind fun t449 => (if (t449.length : Int) = 3 then (if 0 < (t449.length : Int) then ((impl_ParseInt.f k (rdOf ByteArray.empty t449 0)).bind fun bt453 => (if 1 < (t449.length : Int) then ((impl_ParseInt.f k (rdOf ByteArray.empty t449 1)).bind fun bt456 => (if 2 < (t449.length : Int) then ((impl_ParseInt.f k (rdOf ByteArray.empty t449 2)).bind fun bt459 => (if bt453.2 = true then (if bt456.2 = true then (if bt459.2 = true then ((impl_IsValidRow.f bt453.1 bt456.1 bt459.1).bind fun t462 => (if t462 = true then (some (bt453.1, bt456.1, bt459.1, true)) else (some (0, 0, 0, false)))) else (some (0, 0, 0, false))) else (some (0, 0, 0, false))) else (some (0, 0, 0, false)))) else (none))) else (none))) else (none)) else (some (0, 0, 0, false)))
theorem impl_ParseRow.mono : ∀ a0 k, LeO (impl_ParseRow.f k a0) (impl_ParseRow.f (k + 1) a0) := by
 intro a0 k
 unfold impl_ParseRow.f
 repeat' first
   | (with_reducible exact impl_ParseInt.mono _ _)
   | (with_reducible exact impl_cut.mono _ _ _)
   | (with_reducible exact LeO.refl _)
   | (with_reducible exact LeO.none _)
   | (with_reducible refine LeO.ite ?_ ?_)
   | (with_reducible refine LeO.bind ?_ (fun _ => ?_))
set_option maxHeartbeats 8000000 in
set_option maxRecDepth 100000 in
theorem impl_ParseRow.calls (k : Nat) (a0 : ByteArray) (r1 : Int) (r2 : Int) (r3 : Int) (r4 : Bool) (w : World) (h : impl_ParseRow.f k a0 = some (r1, r2, r3, r4)) :
  Calls Try.prog 86 #[.string a0] w fun e w' => e = .returned (.tuple #[.agg #[.int .i64 r1, .int .i64 r2, .int .i64 r3], .bool r4]) ∧ Below w.heap.size w w' := by
 have hu42 := Try.underlying42
 have HB := kp (Below.refl w.heap.size w)
 have H : ((impl_cut.f k a0 46).bind fun t449 => (if (t449.length : Int) = 3 then (if 0 < (t449.length : Int) then ((impl_ParseInt.f k (rdOf ByteArray.empty t449 0)).bind fun bt453 => (if 1 < (t449.length : Int) then ((impl_ParseInt.f k (rdOf ByteArray.empty t449 1)).bind fun bt456 => (if 2 < (t449.length : Int) then ((impl_ParseInt.f k (rdOf ByteArray.empty t449 2)).bind fun bt459 => (if bt453.2 = true then (if bt456.2 = true then (if bt459.2 = true then ((impl_IsValidRow.f bt453.1 bt456.1 bt459.1).bind fun t462 => (if t462 = true then (some (bt453.1, bt456.1, bt459.1, true)) else (some (0, 0, 0, false)))) else (some (0, 0, 0, false))) else (some (0, 0, 0, false))) else (some (0, 0, 0, false)))) else (none))) else (none))) else (none)) else (some (0, 0, 0, false)))) = some (r1, r2, r3, r4) := h
 clear h
 replace H := Option.bind_eq_some_iff.mp H
 obtain ⟨t449, A20, H⟩ := H
 replace H : (if (t449.length : Int) = 3 then (if 0 < (t449.length : Int) then ((impl_ParseInt.f k (rdOf ByteArray.empty t449 0)).bind fun bt453 => (if 1 < (t449.length : Int) then ((impl_ParseInt.f k (rdOf ByteArray.empty t449 1)).bind fun bt456 => (if 2 < (t449.length : Int) then ((impl_ParseInt.f k (rdOf ByteArray.empty t449 2)).bind fun bt459 => (if bt453.2 = true then (if bt456.2 = true then (if bt459.2 = true then ((impl_IsValidRow.f bt453.1 bt456.1 bt459.1).bind fun t462 => (if t462 = true then (some (bt453.1, bt456.1, bt459.1, true)) else (some (0, 0, 0, false)))) else (some (0, 0, 0, false))) else (some (0, 0, 0, false))) else (some (0, 0, 0, false)))) else (none))) else (none))) else (none)) else (some (0, 0, 0, false))) = some (r1, r2, r3, r4) := H
 have A2 := kp A20
 clear A20
 by_cases c3 : (t449.length : Int) = 3
 ·rw [if_pos c3] at H; have c3b0 : ((t449.length : Int) == 3) = true := beq_iff_eq.mpr c3; have c3b1 : ((t449.length : Int) != 3) = false := bne_eq_false_iff_eq.mpr c3; clear c3
  by_cases c4 : 0 < (t449.length : Int)
  ·rw [if_pos c4] at H; have c4b0 : decide (0 < (t449.length : Int)) = true := decide_eq_true c4; have c4b1 : decide (0 < t449.length) = true := decide_eq_true (by omega); clear c4; replace H := Option.bind_eq_some_iff.mp H; obtain ⟨⟨t453, t454⟩, A50, H⟩ := H; replace H : (if 1 < (t449.length : Int) then ((impl_ParseInt.f k (rdOf ByteArray.empty t449 1)).bind fun bt456 => (if 2 < (t449.length : Int) then ((impl_ParseInt.f k (rdOf ByteArray.empty t449 2)).bind fun bt459 => (if t454 = true then (if bt456.2 = true then (if bt459.2 = true then ((impl_IsValidRow.f t453 bt456.1 bt459.1).bind fun t462 => (if t462 = true then (some (t453, bt456.1, bt459.1, true)) else (some (0, 0, 0, false)))) else (some (0, 0, 0, false))) else (some (0, 0, 0, false))) else (some (0, 0, 0, false)))) else (none))) else (none)) = some (r1, r2, r3, r4) := H; have A5 := kp A50; clear A50
   by_cases c6 : 1 < (t449.length : Int)
   ·rw [if_pos c6] at H; have c6b0 : decide (1 < (t449.length : Int)) = true := decide_eq_true c6; have c6b1 : decide (1 < t449.length) = true := decide_eq_true (by omega); clear c6; replace H := Option.bind_eq_some_iff.mp H; obtain ⟨⟨t456, t457⟩, A70, H⟩ := H; replace H : (if 2 < (t449.length : Int) then ((impl_ParseInt.f k (rdOf ByteArray.empty t449 2)).bind fun bt459 => (if t454 = true then (if t457 = true then (if bt459.2 = true then ((impl_IsValidRow.f t453 t456 bt459.1).bind fun t462 => (if t462 = true then (some (t453, t456, bt459.1, true)) else (some (0, 0, 0, false)))) else (some (0, 0, 0, false))) else (some (0, 0, 0, false))) else (some (0, 0, 0, false)))) else (none)) = some (r1, r2, r3, r4) := H; have A7 := kp A70; clear A70
    by_cases c8 : 2 < (t449.length : Int)
    ·rw [if_pos c8] at H; have c8b0 : decide (2 < (t449.length : Int)) = true := decide_eq_true c8; have c8b1 : decide (2 < t449.length) = true := decide_eq_true (by omega); clear c8; replace H := Option.bind_eq_some_iff.mp H; obtain ⟨⟨t459, t460⟩, A90, H⟩ := H; replace H : (if t454 = true then (if t457 = true then (if t460 = true then ((impl_IsValidRow.f t453 t456 t459).bind fun t462 => (if t462 = true then (some (t453, t456, t459, true)) else (some (0, 0, 0, false)))) else (some (0, 0, 0, false))) else (some (0, 0, 0, false))) else (some (0, 0, 0, false))) = some (r1, r2, r3, r4) := H; have A9 := kp A90; clear A90
     by_cases c10 : t454 = true
     ·subst c10; have H1 : (if t457 = true then (if t460 = true then ((impl_IsValidRow.f t453 t456 t459).bind fun t462 => (if t462 = true then (some (t453, t456, t459, true)) else (some (0, 0, 0, false)))) else (some (0, 0, 0, false))) else (some (0, 0, 0, false))) = some (r1, r2, r3, r4) := by rw [if_pos rfl] at H; exact H
      clear H; have H := H1; clear H1
      by_cases c11 : t457 = true
      ·subst c11; have H1 : (if t460 = true then ((impl_IsValidRow.f t453 t456 t459).bind fun t462 => (if t462 = true then (some (t453, t456, t459, true)) else (some (0, 0, 0, false)))) else (some (0, 0, 0, false))) = some (r1, r2, r3, r4) := by rw [if_pos rfl] at H; exact H
       clear H; have H := H1; clear H1
       by_cases c12 : t460 = true
       ·subst c12; have H1 : ((impl_IsValidRow.f t453 t456 t459).bind fun t462 => (if t462 = true then (some (t453, t456, t459, true)) else (some (0, 0, 0, false)))) = some (r1, r2, r3, r4) := by rw [if_pos rfl] at H; exact H
        clear H; have H := H1; clear H1; replace H := Option.bind_eq_some_iff.mp H; obtain ⟨t462, A130, H⟩ := H; replace H : (if t462 = true then (some (t453, t456, t459, true)) else (some (0, 0, 0, false))) = some (r1, r2, r3, r4) := H; have A13 := kp A130; clear A130
        by_cases c14 : t462 = true
        ·subst c14; have H1 : (some (t453, t456, t459, true)) = some (r1, r2, r3, r4) := by rw [if_pos rfl] at H; exact H
         clear H; have H := H1; clear H1; simp only [Option.some.injEq, Prod.mk.injEq] at H; obtain ⟨rfl, rfl, rfl, rfl⟩ := H
         go_enter Try.func86, Try.ntmps86
         go_wp2_with (first | ((with_reducible refine gate_dst (N := 2) rfl ?_); refine bx_ 2 #[.int .i64 0, .int .i64 0, .int .i64 0] 42 ?_; intro gb448 hg w15 hbox hb; have BK448 := kp (hbox); have GW448 := kp (bs hg); have GE448 := kp (bs hg); replace HB := kp (below_step bb hb); clear hb hbox hg) | ((with_reducible refine gate_callee (f := 85) rfl ?_); refine gl_ 13 Try.func85 #[.string a0, .int .u8 46] ?_; (with_reducible refine (impl_cut.calls k a0 46 t449 _ A2.out).mono ?_); rintro e w16 ⟨v450, rfl, ho0, hb⟩; refine ⟨_, rfl, ?_⟩; have HO451 := kp (Kd.R_lower ho0 (below_size bb)); replace BK448 := kp (kb BK448.out hb); replace HB := kp (below_step bb hb); (try clear hb); (try clear ho0); obtain ⟨Ao17, co17, eo17⟩ := Kd.R_slice HO451.out; subst eo17; have p452 : 0 ≤ (0 : Int) := (by omega); have q452 : 0 < (t449.length : Int) := dt; obtain ⟨ad452, e452, hx452_0⟩ := Kd.at_string (Kd.R_reads' HO451.out).2.2 0 p452 q452; cases e452; have qi452 : (0 < t449.length) = True := eq_true (by omega); (try rw [show ((0 : Int)).toNat = 0 from rfl] at hx452_0); (try rw [Addr.add_zero'] at hx452_0); replace p452 := eq_true p452; replace q452 := eq_true q452) | ((with_reducible refine gate_callee (f := 99) rfl ?_); refine gl_ 22 Try.func99 #[.string (rdOf ByteArray.empty t449 0)] ?_; (with_reducible refine (impl_ParseInt.calls k (rdOf ByteArray.empty t449 0) t453 true _ A5.out).mono ?_); rintro e w18 ⟨rfl, hb⟩; refine ⟨_, rfl, ?_⟩; replace HO451 := kp (Kd.R_below (by (with_reducible repeat (first | apply rA | apply rN | apply rD)); exact HO451.out) hb); replace BK448 := kp (kb BK448.out hb); replace HB := kp (below_step bb hb); (try clear hb); have p455 : 0 ≤ (1 : Int) := (by omega); have q455 : 1 < (t449.length : Int) := dt; obtain ⟨ad455, e455, hx455_0⟩ := Kd.at_string (Kd.R_reads' HO451.out).2.2 1 p455 q455; obtain rfl : ad452 = ad455 := (by injection e455); (try simp only [show (1 : Int).toNat = 1 from rfl, Nat.reduceMul, Nat.reduceEqDiff, Go.Addr.add, ↓reduceIte] at hx455_0); have qi455 : (1 < t449.length) = True := eq_true (by omega); (try rw [show ((1 : Int)).toNat = 1 from rfl] at hx455_0); replace p455 := eq_true p455; replace q455 := eq_true q455) | ((with_reducible refine gate_callee (f := 99) rfl ?_); refine gl_ 29 Try.func99 #[.string (rdOf ByteArray.empty t449 1)] ?_; (with_reducible refine (impl_ParseInt.calls k (rdOf ByteArray.empty t449 1) t456 true _ A7.out).mono ?_); rintro e w19 ⟨rfl, hb⟩; refine ⟨_, rfl, ?_⟩; replace HO451 := kp (Kd.R_below (by (with_reducible repeat (first | apply rA | apply rN | apply rD)); exact HO451.out) hb); replace BK448 := kp (kb BK448.out hb); replace HB := kp (below_step bb hb); (try clear hb); have p458 : 0 ≤ (2 : Int) := (by omega); have q458 : 2 < (t449.length : Int) := dt; obtain ⟨ad458, e458, hx458_0⟩ := Kd.at_string (Kd.R_reads' HO451.out).2.2 2 p458 q458; obtain rfl : ad452 = ad458 := (by injection e458); (try simp only [show (2 : Int).toNat = 2 from rfl, Nat.reduceMul, Nat.reduceEqDiff, Go.Addr.add, ↓reduceIte] at hx458_0); have qi458 : (2 < t449.length) = True := eq_true (by omega); (try rw [show ((2 : Int)).toNat = 2 from rfl] at hx458_0); replace p458 := eq_true p458; replace q458 := eq_true q458) | ((with_reducible refine gate_callee (f := 99) rfl ?_); refine gl_ 36 Try.func99 #[.string (rdOf ByteArray.empty t449 2)] ?_; (with_reducible refine (impl_ParseInt.calls k (rdOf ByteArray.empty t449 2) t459 true _ A9.out).mono ?_); rintro e w20 ⟨rfl, hb⟩; refine ⟨_, rfl, ?_⟩; replace HO451 := kp (Kd.R_below (by (with_reducible repeat (first | apply rA | apply rN | apply rD)); exact HO451.out) hb); replace BK448 := kp (kb BK448.out hb); replace HB := kp (below_step bb hb); (try clear hb)) | ((with_reducible refine gate_dst (N := 11) rfl ?_); refine bx_ 11 #[.int .i64 0, .int .i64 0, .int .i64 0] 42 ?_; intro gb461 hg w21 hbox hb; replace HO451 := kp (Kd.R_below (by (with_reducible repeat (first | apply rA | apply rN | apply rD)); exact HO451.out) hb); have BK461 := kp (hbox); have GW461 := kp (bs hg); have GE461 := kp (bs hg); have NB448_461 := kp (bl hg BK448.out); have NB461_448 := kp (bg hg BK448.out); replace BK448 := kp (kb BK448.out hb); replace HB := kp (below_step bb hb); clear hb hbox hg; have hnb22 := NB461_448.out; have hnc22 := NB448_461.out; obtain ⟨hcz23_0, hcz23_1, hcz23_2, hfz23_0, hfz23_1, hfz23_2⟩ := bf3 BK461.out) | (go_at_call 81; (with_reducible refine (impl_IsValidRow.calls t453 t456 t459 true _ A13.out).mono ?_); rintro e w24 ⟨rfl, hb⟩; replace HO451 := kp (Kd.R_below (by (with_reducible repeat (first | apply rA | apply rN | apply rD)); exact (Kd.R_mono (Kd.R_far (p := ⟨gb461, 2, none⟩) (Kd.R_far (p := ⟨gb461, 1, none⟩) (Kd.R_far (p := ⟨gb461, 0, none⟩) (Kd.R_types HO451.out BK461.out (by decide)) (fun _ hk => hk.2) (.int .i64 t453)) (fun _ hk => hk.2) (.int .i64 t456)) (fun _ hk => hk.2) (.int .i64 t459)) (fun _ h_ => h_.1))) hb); replace BK448 := kp (blk_below (g := gb448) (o := .cells #[.int .i64 0, .int .i64 0, .int .i64 0] 42 (0, 0)) (by refine blk_far ?_ NB448_461.out _; refine blk_far ?_ NB448_461.out _; refine blk_far ?_ NB448_461.out _; (with_reducible repeat (first | apply bN | apply bD | apply bA)); exact BK448.out) hb); replace BK461 := kp (blk_below (g := gb461) (o := .cells #[.int .i64 t453, .int .i64 t456, .int .i64 t459] 42 (0, 0)) (by refine blk_put (cs := #[.int .i64 t453, .int .i64 t456, .int .i64 0]) ?_ 2 _ rfl; refine blk_put (cs := #[.int .i64 t453, .int .i64 0, .int .i64 0]) ?_ 1 _ rfl; refine blk_put (cs := #[.int .i64 0, .int .i64 0, .int .i64 0]) ?_ 0 _ rfl; (with_reducible repeat (first | apply bN | apply bD | apply bA)); exact BK461.out) hb); replace HB := kp (below_step bb hb); (try clear hb); obtain ⟨hcz25_0, hcz25_1, hcz25_2, hfz25_0, hfz25_1, hfz25_2⟩ := bf3 BK461.out; obtain ⟨hcz26_0, hcz26_1, hcz26_2, hfz26_0, hfz26_1, hfz26_2⟩ := bf3 BK448.out))
         refine bodyPost_ret (results_ct rfl _ _ gb448 42 #[.int .i64 t453, .int .i64 t456, .int .i64 t459] (0, 0) _ rfl (by refine blk_put (cs := #[.int .i64 t453, .int .i64 t456, .int .i64 0]) ?_ 2 _ rfl; refine blk_put (cs := #[.int .i64 t453, .int .i64 0, .int .i64 0]) ?_ 1 _ rfl; refine blk_put (cs := #[.int .i64 0, .int .i64 0, .int .i64 0]) ?_ 0 _ rfl; (with_reducible repeat (first | apply bN | apply bD | apply bA)); exact BK448.out) Try.underlying42 rfl (by kernel_rfl)) rfl ?_
         exact ⟨er, bb⟩
        ·replace c14 := Bool.eq_false_iff.mpr c14; subst c14; have H1 : (some (0, 0, 0, false)) = some (r1, r2, r3, r4) := by rw [if_neg (show ¬ (false = true) by decide)] at H; exact H
         clear H; have H := H1; clear H1; simp only [Option.some.injEq, Prod.mk.injEq] at H; obtain ⟨rfl, rfl, rfl, rfl⟩ := H
         go_enter Try.func86, Try.ntmps86
         go_wp2_with (first | ((with_reducible refine gate_dst (N := 2) rfl ?_); refine bx_ 2 #[.int .i64 0, .int .i64 0, .int .i64 0] 42 ?_; intro gb448 hg w27 hbox hb; have BK448 := kp (hbox); have GW448 := kp (bs hg); have GE448 := kp (bs hg); replace HB := kp (below_step bb hb); clear hb hbox hg) | ((with_reducible refine gate_callee (f := 85) rfl ?_); refine gl_ 13 Try.func85 #[.string a0, .int .u8 46] ?_; (with_reducible refine (impl_cut.calls k a0 46 t449 _ A2.out).mono ?_); rintro e w28 ⟨v450, rfl, ho0, hb⟩; refine ⟨_, rfl, ?_⟩; have HO451 := kp (Kd.R_lower ho0 (below_size bb)); replace BK448 := kp (kb BK448.out hb); replace HB := kp (below_step bb hb); (try clear hb); (try clear ho0); obtain ⟨Ao29, co29, eo29⟩ := Kd.R_slice HO451.out; subst eo29; have p452 : 0 ≤ (0 : Int) := (by omega); have q452 : 0 < (t449.length : Int) := dt; obtain ⟨ad452, e452, hx452_0⟩ := Kd.at_string (Kd.R_reads' HO451.out).2.2 0 p452 q452; cases e452; have qi452 : (0 < t449.length) = True := eq_true (by omega); (try rw [show ((0 : Int)).toNat = 0 from rfl] at hx452_0); (try rw [Addr.add_zero'] at hx452_0); replace p452 := eq_true p452; replace q452 := eq_true q452) | ((with_reducible refine gate_callee (f := 99) rfl ?_); refine gl_ 22 Try.func99 #[.string (rdOf ByteArray.empty t449 0)] ?_; (with_reducible refine (impl_ParseInt.calls k (rdOf ByteArray.empty t449 0) t453 true _ A5.out).mono ?_); rintro e w30 ⟨rfl, hb⟩; refine ⟨_, rfl, ?_⟩; replace HO451 := kp (Kd.R_below (by (with_reducible repeat (first | apply rA | apply rN | apply rD)); exact HO451.out) hb); replace BK448 := kp (kb BK448.out hb); replace HB := kp (below_step bb hb); (try clear hb); have p455 : 0 ≤ (1 : Int) := (by omega); have q455 : 1 < (t449.length : Int) := dt; obtain ⟨ad455, e455, hx455_0⟩ := Kd.at_string (Kd.R_reads' HO451.out).2.2 1 p455 q455; obtain rfl : ad452 = ad455 := (by injection e455); (try simp only [show (1 : Int).toNat = 1 from rfl, Nat.reduceMul, Nat.reduceEqDiff, Go.Addr.add, ↓reduceIte] at hx455_0); have qi455 : (1 < t449.length) = True := eq_true (by omega); (try rw [show ((1 : Int)).toNat = 1 from rfl] at hx455_0); replace p455 := eq_true p455; replace q455 := eq_true q455) | ((with_reducible refine gate_callee (f := 99) rfl ?_); refine gl_ 29 Try.func99 #[.string (rdOf ByteArray.empty t449 1)] ?_; (with_reducible refine (impl_ParseInt.calls k (rdOf ByteArray.empty t449 1) t456 true _ A7.out).mono ?_); rintro e w31 ⟨rfl, hb⟩; refine ⟨_, rfl, ?_⟩; replace HO451 := kp (Kd.R_below (by (with_reducible repeat (first | apply rA | apply rN | apply rD)); exact HO451.out) hb); replace BK448 := kp (kb BK448.out hb); replace HB := kp (below_step bb hb); (try clear hb); have p458 : 0 ≤ (2 : Int) := (by omega); have q458 : 2 < (t449.length : Int) := dt; obtain ⟨ad458, e458, hx458_0⟩ := Kd.at_string (Kd.R_reads' HO451.out).2.2 2 p458 q458; obtain rfl : ad452 = ad458 := (by injection e458); (try simp only [show (2 : Int).toNat = 2 from rfl, Nat.reduceMul, Nat.reduceEqDiff, Go.Addr.add, ↓reduceIte] at hx458_0); have qi458 : (2 < t449.length) = True := eq_true (by omega); (try rw [show ((2 : Int)).toNat = 2 from rfl] at hx458_0); replace p458 := eq_true p458; replace q458 := eq_true q458) | ((with_reducible refine gate_callee (f := 99) rfl ?_); refine gl_ 36 Try.func99 #[.string (rdOf ByteArray.empty t449 2)] ?_; (with_reducible refine (impl_ParseInt.calls k (rdOf ByteArray.empty t449 2) t459 true _ A9.out).mono ?_); rintro e w32 ⟨rfl, hb⟩; refine ⟨_, rfl, ?_⟩; replace HO451 := kp (Kd.R_below (by (with_reducible repeat (first | apply rA | apply rN | apply rD)); exact HO451.out) hb); replace BK448 := kp (kb BK448.out hb); replace HB := kp (below_step bb hb); (try clear hb)) | ((with_reducible refine gate_dst (N := 11) rfl ?_); refine bx_ 11 #[.int .i64 0, .int .i64 0, .int .i64 0] 42 ?_; intro gb461 hg w33 hbox hb; replace HO451 := kp (Kd.R_below (by (with_reducible repeat (first | apply rA | apply rN | apply rD)); exact HO451.out) hb); have BK461 := kp (hbox); have GW461 := kp (bs hg); have GE461 := kp (bs hg); have NB448_461 := kp (bl hg BK448.out); have NB461_448 := kp (bg hg BK448.out); replace BK448 := kp (kb BK448.out hb); replace HB := kp (below_step bb hb); clear hb hbox hg; have hnb34 := NB461_448.out; have hnc34 := NB448_461.out; obtain ⟨hcz35_0, hcz35_1, hcz35_2, hfz35_0, hfz35_1, hfz35_2⟩ := bf3 BK461.out) | (go_at_call 81; (with_reducible refine (impl_IsValidRow.calls t453 t456 t459 false _ A13.out).mono ?_); rintro e w36 ⟨rfl, hb⟩; replace HO451 := kp (Kd.R_below (by (with_reducible repeat (first | apply rA | apply rN | apply rD)); exact (Kd.R_mono (Kd.R_far (p := ⟨gb461, 2, none⟩) (Kd.R_far (p := ⟨gb461, 1, none⟩) (Kd.R_far (p := ⟨gb461, 0, none⟩) (Kd.R_types HO451.out BK461.out (by decide)) (fun _ hk => hk.2) (.int .i64 t453)) (fun _ hk => hk.2) (.int .i64 t456)) (fun _ hk => hk.2) (.int .i64 t459)) (fun _ h_ => h_.1))) hb); replace BK448 := kp (blk_below (g := gb448) (o := .cells #[.int .i64 0, .int .i64 0, .int .i64 0] 42 (0, 0)) (by refine blk_far ?_ NB448_461.out _; refine blk_far ?_ NB448_461.out _; refine blk_far ?_ NB448_461.out _; (with_reducible repeat (first | apply bN | apply bD | apply bA)); exact BK448.out) hb); replace BK461 := kp (blk_below (g := gb461) (o := .cells #[.int .i64 t453, .int .i64 t456, .int .i64 t459] 42 (0, 0)) (by refine blk_put (cs := #[.int .i64 t453, .int .i64 t456, .int .i64 0]) ?_ 2 _ rfl; refine blk_put (cs := #[.int .i64 t453, .int .i64 0, .int .i64 0]) ?_ 1 _ rfl; refine blk_put (cs := #[.int .i64 0, .int .i64 0, .int .i64 0]) ?_ 0 _ rfl; (with_reducible repeat (first | apply bN | apply bD | apply bA)); exact BK461.out) hb); replace HB := kp (below_step bb hb); (try clear hb); obtain ⟨hcz37_0, hcz37_1, hcz37_2, hfz37_0, hfz37_1, hfz37_2⟩ := bf3 BK448.out))
         refine bodyPost_ret (results_ct rfl _ _ gb448 42 #[.int .i64 0, .int .i64 0, .int .i64 0] (0, 0) _ rfl (by refine blk_put (cs := #[.int .i64 0, .int .i64 0, .int .i64 0]) ?_ 2 _ rfl; refine blk_put (cs := #[.int .i64 0, .int .i64 0, .int .i64 0]) ?_ 1 _ rfl; refine blk_put (cs := #[.int .i64 0, .int .i64 0, .int .i64 0]) ?_ 0 _ rfl; (with_reducible repeat (first | apply bN | apply bD | apply bA)); exact BK448.out) Try.underlying42 rfl (by kernel_rfl)) rfl ?_
         exact ⟨er, bb⟩
       ·replace c12 := Bool.eq_false_iff.mpr c12; subst c12; have H1 : (some (0, 0, 0, false)) = some (r1, r2, r3, r4) := by rw [if_neg (show ¬ (false = true) by decide)] at H; exact H
        clear H; have H := H1; clear H1; simp only [Option.some.injEq, Prod.mk.injEq] at H; obtain ⟨rfl, rfl, rfl, rfl⟩ := H
        go_enter Try.func86, Try.ntmps86
        go_wp2_with (first | ((with_reducible refine gate_dst (N := 2) rfl ?_); refine bx_ 2 #[.int .i64 0, .int .i64 0, .int .i64 0] 42 ?_; intro gb448 hg w38 hbox hb; have BK448 := kp (hbox); have GW448 := kp (bs hg); have GE448 := kp (bs hg); replace HB := kp (below_step bb hb); clear hb hbox hg) | ((with_reducible refine gate_callee (f := 85) rfl ?_); refine gl_ 13 Try.func85 #[.string a0, .int .u8 46] ?_; (with_reducible refine (impl_cut.calls k a0 46 t449 _ A2.out).mono ?_); rintro e w39 ⟨v450, rfl, ho0, hb⟩; refine ⟨_, rfl, ?_⟩; have HO451 := kp (Kd.R_lower ho0 (below_size bb)); replace BK448 := kp (kb BK448.out hb); replace HB := kp (below_step bb hb); (try clear hb); (try clear ho0); obtain ⟨Ao40, co40, eo40⟩ := Kd.R_slice HO451.out; subst eo40; have p452 : 0 ≤ (0 : Int) := (by omega); have q452 : 0 < (t449.length : Int) := dt; obtain ⟨ad452, e452, hx452_0⟩ := Kd.at_string (Kd.R_reads' HO451.out).2.2 0 p452 q452; cases e452; have qi452 : (0 < t449.length) = True := eq_true (by omega); (try rw [show ((0 : Int)).toNat = 0 from rfl] at hx452_0); (try rw [Addr.add_zero'] at hx452_0); replace p452 := eq_true p452; replace q452 := eq_true q452) | ((with_reducible refine gate_callee (f := 99) rfl ?_); refine gl_ 22 Try.func99 #[.string (rdOf ByteArray.empty t449 0)] ?_; (with_reducible refine (impl_ParseInt.calls k (rdOf ByteArray.empty t449 0) t453 true _ A5.out).mono ?_); rintro e w41 ⟨rfl, hb⟩; refine ⟨_, rfl, ?_⟩; replace HO451 := kp (Kd.R_below (by (with_reducible repeat (first | apply rA | apply rN | apply rD)); exact HO451.out) hb); replace BK448 := kp (kb BK448.out hb); replace HB := kp (below_step bb hb); (try clear hb); have p455 : 0 ≤ (1 : Int) := (by omega); have q455 : 1 < (t449.length : Int) := dt; obtain ⟨ad455, e455, hx455_0⟩ := Kd.at_string (Kd.R_reads' HO451.out).2.2 1 p455 q455; obtain rfl : ad452 = ad455 := (by injection e455); (try simp only [show (1 : Int).toNat = 1 from rfl, Nat.reduceMul, Nat.reduceEqDiff, Go.Addr.add, ↓reduceIte] at hx455_0); have qi455 : (1 < t449.length) = True := eq_true (by omega); (try rw [show ((1 : Int)).toNat = 1 from rfl] at hx455_0); replace p455 := eq_true p455; replace q455 := eq_true q455) | ((with_reducible refine gate_callee (f := 99) rfl ?_); refine gl_ 29 Try.func99 #[.string (rdOf ByteArray.empty t449 1)] ?_; (with_reducible refine (impl_ParseInt.calls k (rdOf ByteArray.empty t449 1) t456 true _ A7.out).mono ?_); rintro e w42 ⟨rfl, hb⟩; refine ⟨_, rfl, ?_⟩; replace HO451 := kp (Kd.R_below (by (with_reducible repeat (first | apply rA | apply rN | apply rD)); exact HO451.out) hb); replace BK448 := kp (kb BK448.out hb); replace HB := kp (below_step bb hb); (try clear hb); have p458 : 0 ≤ (2 : Int) := (by omega); have q458 : 2 < (t449.length : Int) := dt; obtain ⟨ad458, e458, hx458_0⟩ := Kd.at_string (Kd.R_reads' HO451.out).2.2 2 p458 q458; obtain rfl : ad452 = ad458 := (by injection e458); (try simp only [show (2 : Int).toNat = 2 from rfl, Nat.reduceMul, Nat.reduceEqDiff, Go.Addr.add, ↓reduceIte] at hx458_0); have qi458 : (2 < t449.length) = True := eq_true (by omega); (try rw [show ((2 : Int)).toNat = 2 from rfl] at hx458_0); replace p458 := eq_true p458; replace q458 := eq_true q458) | ((with_reducible refine gate_callee (f := 99) rfl ?_); refine gl_ 36 Try.func99 #[.string (rdOf ByteArray.empty t449 2)] ?_; (with_reducible refine (impl_ParseInt.calls k (rdOf ByteArray.empty t449 2) t459 false _ A9.out).mono ?_); rintro e w43 ⟨rfl, hb⟩; refine ⟨_, rfl, ?_⟩; replace HO451 := kp (Kd.R_below (by (with_reducible repeat (first | apply rA | apply rN | apply rD)); exact HO451.out) hb); replace BK448 := kp (kb BK448.out hb); replace HB := kp (below_step bb hb); (try clear hb)) | ((with_reducible refine gate_dst (N := 11) rfl ?_); refine bx_ 11 #[.int .i64 0, .int .i64 0, .int .i64 0] 42 ?_; intro gb461 hg w44 hbox hb; replace HO451 := kp (Kd.R_below (by (with_reducible repeat (first | apply rA | apply rN | apply rD)); exact HO451.out) hb); have BK461 := kp (hbox); have GW461 := kp (bs hg); have GE461 := kp (bs hg); have NB448_461 := kp (bl hg BK448.out); have NB461_448 := kp (bg hg BK448.out); replace BK448 := kp (kb BK448.out hb); replace HB := kp (below_step bb hb); clear hb hbox hg; have hnb45 := NB461_448.out; have hnc45 := NB448_461.out; obtain ⟨hcz46_0, hcz46_1, hcz46_2, hfz46_0, hfz46_1, hfz46_2⟩ := bf3 BK461.out; obtain ⟨hcz47_0, hcz47_1, hcz47_2, hfz47_0, hfz47_1, hfz47_2⟩ := bf3 BK448.out))
        refine bodyPost_ret (results_ct rfl _ _ gb448 42 #[.int .i64 0, .int .i64 0, .int .i64 0] (0, 0) _ rfl (by refine blk_put (cs := #[.int .i64 0, .int .i64 0, .int .i64 0]) ?_ 2 _ rfl; refine blk_put (cs := #[.int .i64 0, .int .i64 0, .int .i64 0]) ?_ 1 _ rfl; refine blk_put (cs := #[.int .i64 0, .int .i64 0, .int .i64 0]) ?_ 0 _ rfl; refine blk_far ?_ NB448_461.out _; refine blk_far ?_ NB448_461.out _; refine blk_far ?_ NB448_461.out _; (with_reducible repeat (first | apply bN | apply bD | apply bA)); exact BK448.out) Try.underlying42 rfl (by kernel_rfl)) rfl ?_
        exact ⟨er, bb⟩
      ·replace c11 := Bool.eq_false_iff.mpr c11; subst c11; have H1 : (some (0, 0, 0, false)) = some (r1, r2, r3, r4) := by rw [if_neg (show ¬ (false = true) by decide)] at H; exact H
       clear H; have H := H1; clear H1; simp only [Option.some.injEq, Prod.mk.injEq] at H; obtain ⟨rfl, rfl, rfl, rfl⟩ := H
       go_enter Try.func86, Try.ntmps86
       go_wp2_with (first | ((with_reducible refine gate_dst (N := 2) rfl ?_); refine bx_ 2 #[.int .i64 0, .int .i64 0, .int .i64 0] 42 ?_; intro gb448 hg w48 hbox hb; have BK448 := kp (hbox); have GW448 := kp (bs hg); have GE448 := kp (bs hg); replace HB := kp (below_step bb hb); clear hb hbox hg) | ((with_reducible refine gate_callee (f := 85) rfl ?_); refine gl_ 13 Try.func85 #[.string a0, .int .u8 46] ?_; (with_reducible refine (impl_cut.calls k a0 46 t449 _ A2.out).mono ?_); rintro e w49 ⟨v450, rfl, ho0, hb⟩; refine ⟨_, rfl, ?_⟩; have HO451 := kp (Kd.R_lower ho0 (below_size bb)); replace BK448 := kp (kb BK448.out hb); replace HB := kp (below_step bb hb); (try clear hb); (try clear ho0); obtain ⟨Ao50, co50, eo50⟩ := Kd.R_slice HO451.out; subst eo50; have p452 : 0 ≤ (0 : Int) := (by omega); have q452 : 0 < (t449.length : Int) := dt; obtain ⟨ad452, e452, hx452_0⟩ := Kd.at_string (Kd.R_reads' HO451.out).2.2 0 p452 q452; cases e452; have qi452 : (0 < t449.length) = True := eq_true (by omega); (try rw [show ((0 : Int)).toNat = 0 from rfl] at hx452_0); (try rw [Addr.add_zero'] at hx452_0); replace p452 := eq_true p452; replace q452 := eq_true q452) | ((with_reducible refine gate_callee (f := 99) rfl ?_); refine gl_ 22 Try.func99 #[.string (rdOf ByteArray.empty t449 0)] ?_; (with_reducible refine (impl_ParseInt.calls k (rdOf ByteArray.empty t449 0) t453 true _ A5.out).mono ?_); rintro e w51 ⟨rfl, hb⟩; refine ⟨_, rfl, ?_⟩; replace HO451 := kp (Kd.R_below (by (with_reducible repeat (first | apply rA | apply rN | apply rD)); exact HO451.out) hb); replace BK448 := kp (kb BK448.out hb); replace HB := kp (below_step bb hb); (try clear hb); have p455 : 0 ≤ (1 : Int) := (by omega); have q455 : 1 < (t449.length : Int) := dt; obtain ⟨ad455, e455, hx455_0⟩ := Kd.at_string (Kd.R_reads' HO451.out).2.2 1 p455 q455; obtain rfl : ad452 = ad455 := (by injection e455); (try simp only [show (1 : Int).toNat = 1 from rfl, Nat.reduceMul, Nat.reduceEqDiff, Go.Addr.add, ↓reduceIte] at hx455_0); have qi455 : (1 < t449.length) = True := eq_true (by omega); (try rw [show ((1 : Int)).toNat = 1 from rfl] at hx455_0); replace p455 := eq_true p455; replace q455 := eq_true q455) | ((with_reducible refine gate_callee (f := 99) rfl ?_); refine gl_ 29 Try.func99 #[.string (rdOf ByteArray.empty t449 1)] ?_; (with_reducible refine (impl_ParseInt.calls k (rdOf ByteArray.empty t449 1) t456 false _ A7.out).mono ?_); rintro e w52 ⟨rfl, hb⟩; refine ⟨_, rfl, ?_⟩; replace HO451 := kp (Kd.R_below (by (with_reducible repeat (first | apply rA | apply rN | apply rD)); exact HO451.out) hb); replace BK448 := kp (kb BK448.out hb); replace HB := kp (below_step bb hb); (try clear hb); have p458 : 0 ≤ (2 : Int) := (by omega); have q458 : 2 < (t449.length : Int) := dt; obtain ⟨ad458, e458, hx458_0⟩ := Kd.at_string (Kd.R_reads' HO451.out).2.2 2 p458 q458; obtain rfl : ad452 = ad458 := (by injection e458); (try simp only [show (2 : Int).toNat = 2 from rfl, Nat.reduceMul, Nat.reduceEqDiff, Go.Addr.add, ↓reduceIte] at hx458_0); have qi458 : (2 < t449.length) = True := eq_true (by omega); (try rw [show ((2 : Int)).toNat = 2 from rfl] at hx458_0); replace p458 := eq_true p458; replace q458 := eq_true q458) | ((with_reducible refine gate_callee (f := 99) rfl ?_); refine gl_ 36 Try.func99 #[.string (rdOf ByteArray.empty t449 2)] ?_; (with_reducible refine (impl_ParseInt.calls k (rdOf ByteArray.empty t449 2) t459 t460 _ A9.out).mono ?_); rintro e w53 ⟨rfl, hb⟩; refine ⟨_, rfl, ?_⟩; replace HO451 := kp (Kd.R_below (by (with_reducible repeat (first | apply rA | apply rN | apply rD)); exact HO451.out) hb); replace BK448 := kp (kb BK448.out hb); replace HB := kp (below_step bb hb); (try clear hb)) | ((with_reducible refine gate_dst (N := 11) rfl ?_); refine bx_ 11 #[.int .i64 0, .int .i64 0, .int .i64 0] 42 ?_; intro gb461 hg w54 hbox hb; replace HO451 := kp (Kd.R_below (by (with_reducible repeat (first | apply rA | apply rN | apply rD)); exact HO451.out) hb); have BK461 := kp (hbox); have GW461 := kp (bs hg); have GE461 := kp (bs hg); have NB448_461 := kp (bl hg BK448.out); have NB461_448 := kp (bg hg BK448.out); replace BK448 := kp (kb BK448.out hb); replace HB := kp (below_step bb hb); clear hb hbox hg; have hnb55 := NB461_448.out; have hnc55 := NB448_461.out; obtain ⟨hcz56_0, hcz56_1, hcz56_2, hfz56_0, hfz56_1, hfz56_2⟩ := bf3 BK461.out; obtain ⟨hcz57_0, hcz57_1, hcz57_2, hfz57_0, hfz57_1, hfz57_2⟩ := bf3 BK448.out))
       refine bodyPost_ret (results_ct rfl _ _ gb448 42 #[.int .i64 0, .int .i64 0, .int .i64 0] (0, 0) _ rfl (by refine blk_put (cs := #[.int .i64 0, .int .i64 0, .int .i64 0]) ?_ 2 _ rfl; refine blk_put (cs := #[.int .i64 0, .int .i64 0, .int .i64 0]) ?_ 1 _ rfl; refine blk_put (cs := #[.int .i64 0, .int .i64 0, .int .i64 0]) ?_ 0 _ rfl; refine blk_far ?_ NB448_461.out _; refine blk_far ?_ NB448_461.out _; refine blk_far ?_ NB448_461.out _; (with_reducible repeat (first | apply bN | apply bD | apply bA)); exact BK448.out) Try.underlying42 rfl (by kernel_rfl)) rfl ?_
       exact ⟨er, bb⟩
     ·replace c10 := Bool.eq_false_iff.mpr c10; subst c10; have H1 : (some (0, 0, 0, false)) = some (r1, r2, r3, r4) := by rw [if_neg (show ¬ (false = true) by decide)] at H; exact H
      clear H; have H := H1; clear H1; simp only [Option.some.injEq, Prod.mk.injEq] at H; obtain ⟨rfl, rfl, rfl, rfl⟩ := H
      go_enter Try.func86, Try.ntmps86
      go_wp2_with (first | ((with_reducible refine gate_dst (N := 2) rfl ?_); refine bx_ 2 #[.int .i64 0, .int .i64 0, .int .i64 0] 42 ?_; intro gb448 hg w58 hbox hb; have BK448 := kp (hbox); have GW448 := kp (bs hg); have GE448 := kp (bs hg); replace HB := kp (below_step bb hb); clear hb hbox hg) | ((with_reducible refine gate_callee (f := 85) rfl ?_); refine gl_ 13 Try.func85 #[.string a0, .int .u8 46] ?_; (with_reducible refine (impl_cut.calls k a0 46 t449 _ A2.out).mono ?_); rintro e w59 ⟨v450, rfl, ho0, hb⟩; refine ⟨_, rfl, ?_⟩; have HO451 := kp (Kd.R_lower ho0 (below_size bb)); replace BK448 := kp (kb BK448.out hb); replace HB := kp (below_step bb hb); (try clear hb); (try clear ho0); obtain ⟨Ao60, co60, eo60⟩ := Kd.R_slice HO451.out; subst eo60; have p452 : 0 ≤ (0 : Int) := (by omega); have q452 : 0 < (t449.length : Int) := dt; obtain ⟨ad452, e452, hx452_0⟩ := Kd.at_string (Kd.R_reads' HO451.out).2.2 0 p452 q452; cases e452; have qi452 : (0 < t449.length) = True := eq_true (by omega); (try rw [show ((0 : Int)).toNat = 0 from rfl] at hx452_0); (try rw [Addr.add_zero'] at hx452_0); replace p452 := eq_true p452; replace q452 := eq_true q452) | ((with_reducible refine gate_callee (f := 99) rfl ?_); refine gl_ 22 Try.func99 #[.string (rdOf ByteArray.empty t449 0)] ?_; (with_reducible refine (impl_ParseInt.calls k (rdOf ByteArray.empty t449 0) t453 false _ A5.out).mono ?_); rintro e w61 ⟨rfl, hb⟩; refine ⟨_, rfl, ?_⟩; replace HO451 := kp (Kd.R_below (by (with_reducible repeat (first | apply rA | apply rN | apply rD)); exact HO451.out) hb); replace BK448 := kp (kb BK448.out hb); replace HB := kp (below_step bb hb); (try clear hb); have p455 : 0 ≤ (1 : Int) := (by omega); have q455 : 1 < (t449.length : Int) := dt; obtain ⟨ad455, e455, hx455_0⟩ := Kd.at_string (Kd.R_reads' HO451.out).2.2 1 p455 q455; obtain rfl : ad452 = ad455 := (by injection e455); (try simp only [show (1 : Int).toNat = 1 from rfl, Nat.reduceMul, Nat.reduceEqDiff, Go.Addr.add, ↓reduceIte] at hx455_0); have qi455 : (1 < t449.length) = True := eq_true (by omega); (try rw [show ((1 : Int)).toNat = 1 from rfl] at hx455_0); replace p455 := eq_true p455; replace q455 := eq_true q455) | ((with_reducible refine gate_callee (f := 99) rfl ?_); refine gl_ 29 Try.func99 #[.string (rdOf ByteArray.empty t449 1)] ?_; (with_reducible refine (impl_ParseInt.calls k (rdOf ByteArray.empty t449 1) t456 t457 _ A7.out).mono ?_); rintro e w62 ⟨rfl, hb⟩; refine ⟨_, rfl, ?_⟩; replace HO451 := kp (Kd.R_below (by (with_reducible repeat (first | apply rA | apply rN | apply rD)); exact HO451.out) hb); replace BK448 := kp (kb BK448.out hb); replace HB := kp (below_step bb hb); (try clear hb); have p458 : 0 ≤ (2 : Int) := (by omega); have q458 : 2 < (t449.length : Int) := dt; obtain ⟨ad458, e458, hx458_0⟩ := Kd.at_string (Kd.R_reads' HO451.out).2.2 2 p458 q458; obtain rfl : ad452 = ad458 := (by injection e458); (try simp only [show (2 : Int).toNat = 2 from rfl, Nat.reduceMul, Nat.reduceEqDiff, Go.Addr.add, ↓reduceIte] at hx458_0); have qi458 : (2 < t449.length) = True := eq_true (by omega); (try rw [show ((2 : Int)).toNat = 2 from rfl] at hx458_0); replace p458 := eq_true p458; replace q458 := eq_true q458) | ((with_reducible refine gate_callee (f := 99) rfl ?_); refine gl_ 36 Try.func99 #[.string (rdOf ByteArray.empty t449 2)] ?_; (with_reducible refine (impl_ParseInt.calls k (rdOf ByteArray.empty t449 2) t459 t460 _ A9.out).mono ?_); rintro e w63 ⟨rfl, hb⟩; refine ⟨_, rfl, ?_⟩; replace HO451 := kp (Kd.R_below (by (with_reducible repeat (first | apply rA | apply rN | apply rD)); exact HO451.out) hb); replace BK448 := kp (kb BK448.out hb); replace HB := kp (below_step bb hb); (try clear hb)) | ((with_reducible refine gate_dst (N := 11) rfl ?_); refine bx_ 11 #[.int .i64 0, .int .i64 0, .int .i64 0] 42 ?_; intro gb461 hg w64 hbox hb; replace HO451 := kp (Kd.R_below (by (with_reducible repeat (first | apply rA | apply rN | apply rD)); exact HO451.out) hb); have BK461 := kp (hbox); have GW461 := kp (bs hg); have GE461 := kp (bs hg); have NB448_461 := kp (bl hg BK448.out); have NB461_448 := kp (bg hg BK448.out); replace BK448 := kp (kb BK448.out hb); replace HB := kp (below_step bb hb); clear hb hbox hg; have hnb65 := NB461_448.out; have hnc65 := NB448_461.out; obtain ⟨hcz66_0, hcz66_1, hcz66_2, hfz66_0, hfz66_1, hfz66_2⟩ := bf3 BK461.out; obtain ⟨hcz67_0, hcz67_1, hcz67_2, hfz67_0, hfz67_1, hfz67_2⟩ := bf3 BK448.out))
      refine bodyPost_ret (results_ct rfl _ _ gb448 42 #[.int .i64 0, .int .i64 0, .int .i64 0] (0, 0) _ rfl (by refine blk_put (cs := #[.int .i64 0, .int .i64 0, .int .i64 0]) ?_ 2 _ rfl; refine blk_put (cs := #[.int .i64 0, .int .i64 0, .int .i64 0]) ?_ 1 _ rfl; refine blk_put (cs := #[.int .i64 0, .int .i64 0, .int .i64 0]) ?_ 0 _ rfl; refine blk_far ?_ NB448_461.out _; refine blk_far ?_ NB448_461.out _; refine blk_far ?_ NB448_461.out _; (with_reducible repeat (first | apply bN | apply bD | apply bA)); exact BK448.out) Try.underlying42 rfl (by kernel_rfl)) rfl ?_
      exact ⟨er, bb⟩
    ·rw [if_neg c8] at H; exact absurd H (by simp)
   ·rw [if_neg c6] at H; exact absurd H (by simp)
  ·rw [if_neg c4] at H; exact absurd H (by simp)
 ·rw [if_neg c3] at H; have c3b0 : ((t449.length : Int) == 3) = false := beq_eq_false_iff_ne.mpr c3; have c3b1 : ((t449.length : Int) != 3) = true := bne_iff_ne.mpr c3; simp only [Option.some.injEq, Prod.mk.injEq] at H; obtain ⟨rfl, rfl, rfl, rfl⟩ := H
  go_enter Try.func86, Try.ntmps86
  go_wp2_with (first | ((with_reducible refine gate_dst (N := 2) rfl ?_); refine bx_ 2 #[.int .i64 0, .int .i64 0, .int .i64 0] 42 ?_; intro gb448 hg w68 hbox hb; have BK448 := kp (hbox); have GW448 := kp (bs hg); have GE448 := kp (bs hg); replace HB := kp (below_step bb hb); clear hb hbox hg) | ((with_reducible refine gate_callee (f := 85) rfl ?_); refine gl_ 13 Try.func85 #[.string a0, .int .u8 46] ?_; (with_reducible refine (impl_cut.calls k a0 46 t449 _ A2.out).mono ?_); rintro e w69 ⟨v450, rfl, ho0, hb⟩; refine ⟨_, rfl, ?_⟩; have HO451 := kp (Kd.R_lower ho0 (below_size bb)); replace BK448 := kp (kb BK448.out hb); replace HB := kp (below_step bb hb); (try clear hb); (try clear ho0); obtain ⟨Ao70, co70, eo70⟩ := Kd.R_slice HO451.out; subst eo70; obtain ⟨hcz71_0, hcz71_1, hcz71_2, hfz71_0, hfz71_1, hfz71_2⟩ := bf3 BK448.out))
  refine bodyPost_ret (results_ct rfl _ _ gb448 42 #[.int .i64 0, .int .i64 0, .int .i64 0] (0, 0) _ rfl (by refine blk_put (cs := #[.int .i64 0, .int .i64 0, .int .i64 0]) ?_ 2 _ rfl; refine blk_put (cs := #[.int .i64 0, .int .i64 0, .int .i64 0]) ?_ 1 _ rfl; refine blk_put (cs := #[.int .i64 0, .int .i64 0, .int .i64 0]) ?_ 0 _ rfl; (with_reducible repeat (first | apply bN | apply bD | apply bA)); exact BK448.out) Try.underlying42 rfl (by kernel_rfl)) rfl ?_
  exact ⟨er, bb⟩
def impl_ParseRows.l0 : Nat → List (S42) → List ByteArray → Int → Int → Option ((List (S42)) × Bool)
 | 0, _, _, _, _ => none
 | k + 1, x4, x13, x14, x15 => if x15 < x14 then (if 0 ≤ x15 then (if x15 < (x13.length : Int) then ((impl_ParseRow.f k (rdOf ByteArray.empty x13 x15)).bind fun bt470 => (if bt470.2.2.2 = true then (if x4.length < 5864062014805 then (impl_ParseRows.l0 k (x4 ++ [(⟨bt470.1, bt470.2.1, bt470.2.2.1⟩ : S42)]) x13 x14 (wrap64 (x15 + 1))) else (none)) else (some (([] : List (S42)), false)))) else (none)) else (none)) else ((impl_AreValidRows.f k x4).bind fun t478 => (if t478 = true then (some (x4, true)) else (some (([] : List (S42)), false))))
def impl_ParseRows.f (k : Nat) (a0 : ByteArray) : Option ((List (S42)) × Bool) := if a0.toList = ([] : List UInt8) then (some (([] : List (S42)), true)) else ((impl_cut.f k a0 32).bind fun t466 => (impl_ParseRows.l0 k (([] : List (S42))) t466 (t466.length : Int) 0))
theorem impl_ParseRows.mono_l : ∀ k, (∀ y0 y1 y2 y3, LeO (impl_ParseRows.l0 k y0 y1 y2 y3) (impl_ParseRows.l0 (k + 1) y0 y1 y2 y3))
 | 0 => fun _ _ _ _ r h => by simp [impl_ParseRows.l0] at h
 | k + 1 => by
  have ih0 := impl_ParseRows.mono_l k
  ·intro y0 y1 y2 y3
   unfold impl_ParseRows.l0
   repeat' first
   | (with_reducible exact ih0 _ _ _ _)
   | (with_reducible exact impl_AreValidRows.mono _ _)
   | (with_reducible exact impl_ParseRow.mono _ _)
   | (with_reducible exact impl_cut.mono _ _ _)
   | (with_reducible exact LeO.refl _)
   | (with_reducible exact LeO.none _)
   | (with_reducible refine LeO.ite ?_ ?_)
   | (with_reducible refine LeO.bind ?_ (fun _ => ?_))
theorem impl_ParseRows.mono : ∀ a0 k, LeO (impl_ParseRows.f k a0) (impl_ParseRows.f (k + 1) a0) := by
 intro a0 k
 have ih0 := impl_ParseRows.mono_l k
 unfold impl_ParseRows.f
 repeat' first
   | (with_reducible exact ih0 _ _ _ _)
   | (with_reducible exact impl_AreValidRows.mono _ _)
   | (with_reducible exact impl_ParseRow.mono _ _)
   | (with_reducible exact impl_cut.mono _ _ _)
   | (with_reducible exact LeO.refl _)
   | (with_reducible exact LeO.none _)
   | (with_reducible refine LeO.ite ?_ ?_)
   | (with_reducible refine LeO.bind ?_ (fun _ => ?_))
set_option maxHeartbeats 8000000 in
set_option maxRecDepth 100000 in
theorem impl_ParseRows.calls (k : Nat) (a0 : ByteArray) (r1 : List (S42)) (r2 : Bool) (w : World) (h : impl_ParseRows.f k a0 = some (r1, r2)) :
  Calls Try.prog 61 #[.string a0] w fun e w' => ∃ v0_ : Value, e = .returned (.tuple #[v0_, .bool r2]) ∧ Kd.R k42 42 w' w.heap.size (fun _ => True) v0_ r1 ∧ Below w.heap.size w w' := by
 have hu42 := Try.underlying42
 have HB := kp (Below.refl w.heap.size w)
 have H : (if a0.toList = ([] : List UInt8) then (some (([] : List (S42)), true)) else ((impl_cut.f k a0 32).bind fun t466 => (impl_ParseRows.l0 k (([] : List (S42))) t466 (t466.length : Int) 0))) = some (r1, r2) := h
 clear h
 by_cases c2 : a0.toList = ([] : List UInt8)
 ·rw [if_pos c2] at H; have c2b0 : (a0.toList == ([] : List UInt8)) = true := beq_iff_eq.mpr c2; have c2b1 : (a0.toList != ([] : List UInt8)) = false := bne_eq_false_iff_eq.mpr c2; clear c2; simp only [Option.some.injEq, Prod.mk.injEq] at H; obtain ⟨rfl, rfl⟩ := H
  go_enter Try.func61, Try.ntmps61
  go_wp2
  go_ret2
  exact ⟨_, er, by first | exact Kd.R_nil _ _ _ _ _ | exact Kd.N_nil _ _ _ _ _ | exact Kd.V_nil _ _ _ _ _ | exact Kd.Q_nil _ _ _ _ _ | exact Kd.S_nil _ _ _ _ _, bb⟩
 ·rw [if_neg c2] at H; have c2b0 : (a0.toList == ([] : List UInt8)) = false := beq_eq_false_iff_ne.mpr c2; have c2b1 : (a0.toList != ([] : List UInt8)) = true := bne_iff_ne.mpr c2; obtain ⟨y463, hy463⟩ : ∃ y_ : List (S42), y_ = (([] : List (S42))) := ⟨_, rfl⟩; replace H : ((impl_cut.f k a0 32).bind fun t466 => (impl_ParseRows.l0 k y463 t466 (t466.length : Int) 0)) = some (r1, r2) := by first | (rw [hy463]; with_reducible exact H) | (have H2_ := (Option.bind_some _ _).symm.trans H; rw [hy463]; with_reducible exact H2_) | (have H2_ := (Option.bind_some _ _).symm.trans H; with_reducible exact H2_) | with_reducible exact H | (rw [hy463]; exact H) | exact H
  have Ny463 := kp hy463; clear hy463; replace H := Option.bind_eq_some_iff.mp H; obtain ⟨t466, A30, H⟩ := H; replace H : (impl_ParseRows.l0 k y463 t466 (t466.length : Int) 0) = some (r1, r2) := H; have A3 := kp A30; clear A30; have H' := kp H; clear H
  go_enter Try.func61, Try.ntmps61
  go_wp2_with (first | ((with_reducible refine gate_dst (N := 11) rfl ?_); refine Kd.R_lit k42 _ 42 ?hg (N := 11) ?hd (xs := ([] : List (S42))) (inner := []) (ok := fun _ => True) (okp := fun _ => True) ?hr ?hp (fun _ hk => hk) trivial (Below.refl _ _) (Nat.le_refl _) (by simp) ?_; (case hd => rfl); (case hg => rfl); (case hr => first | (go_simp; done) | (go_simp; rfl)); (case hp => exact (Reps.none _ _)); intro v464 w4 ho5 hb hg_ hnew_; clear hg_ hnew_; (first | rw [← Ny463.out] at ho5 | (simp only [Int.reduceToNat] at ho5; rw [← Ny463.out] at ho5)); have HO465 := kp (Kd.R_lower ho5 (below_size bb)); replace HB := kp (below_step bb hb); clear hb ho5) | ((with_reducible refine gate_callee (f := 85) rfl ?_); refine gl_ 13 Try.func85 #[.string a0, .int .u8 32] ?_; (with_reducible refine (impl_cut.calls k a0 32 t466 _ A3.out).mono ?_); rintro e w6 ⟨v467, rfl, ho0, hb⟩; refine ⟨_, rfl, ?_⟩; replace HO465 := kp (Kd.R_below (by (with_reducible repeat (first | apply rA | apply rN | apply rD)); exact HO465.out) hb); have HO468 := kp (Kd.R_lower ho0 (below_size bb)); replace HB := kp (below_step bb hb); (try clear hb); (try clear ho0); obtain ⟨Ao7, co7, eo7⟩ := Kd.R_slice HO468.out; subst eo7))
  (try simp only [Act.put, List.setIfInBounds_toArray, List.set_cons_zero, List.set_cons_succ])
  go_loopg [4, 15] k (fun kq v4 v15 w' => ∃ (x4_1 : List (S42)) (x15_1 : Int), v15 = .int .i64 x15_1 ∧ Aside0 (impl_ParseRows.l0 kq x4_1 t466 (t466.length : Int) x15_1 = some (r1, r2)) ∧ Aside0 (kq ≤ k) ∧ Aside0 (Kd.R k42 42 w' w.heap.size (fun _ => True) v4 x4_1) ∧ Aside0 (Kd.R Kd.string 9 w' w.heap.size (fun _ => True) (.slice Ao7 t466.length co7) t466) ∧ Aside0 (Below w.heap.size w w'))
  case atStart => exact ⟨(y463), (0), (by first | rfl | (simp; done) | (simp [*]; done)), H', ⟨Nat.le_refl _⟩, ⟨by (with_reducible repeat (first | apply rA | apply rN | apply rD)); exact HO465.out⟩, ⟨by (with_reducible repeat (first | apply rA | apply rN | apply rD)); exact HO468.out⟩, ⟨bb⟩⟩
  case round =>
   clear H'
   try clear c2
   try clear c2b0
   try clear c2b1
   obtain ⟨x4_1, x15_1, rfl, HA, HK1, HO_4, HO_13, HB⟩ := hrel
   cases gk with
   | zero => exact absurd HA.out (by simp [impl_ParseRows.l0])
   | succ k1 =>
    have H := HA.out; clear HA; simp only [impl_ParseRows.l0] at H
    by_cases c8 : x15_1 < (t466.length : Int)
    ·rw [if_pos c8] at H; have c8b0 : decide (x15_1 < (t466.length : Int)) = true := decide_eq_true c8; clear c8
     by_cases c9 : 0 ≤ x15_1
     ·rw [if_pos c9] at H; have c9b0 : decide (0 ≤ x15_1) = true := decide_eq_true c9; clear c9
      by_cases c10 : x15_1 < (t466.length : Int)
      ·rw [if_pos c10] at H; have c10b0 : decide (x15_1 < (t466.length : Int)) = true := decide_eq_true c10; clear c10; replace H := Option.bind_eq_some_iff.mp H; obtain ⟨⟨t470, t471, t472, t473⟩, A110, H⟩ := H; replace H : (if t473 = true then (if x4_1.length < 5864062014805 then (impl_ParseRows.l0 k1 (x4_1 ++ [(⟨t470, t471, t472⟩ : S42)]) t466 (t466.length : Int) (wrap64 (x15_1 + 1))) else (none)) else (some (([] : List (S42)), false))) = some (r1, r2) := H; have A11 := kp A110; clear A110
       by_cases c12 : t473 = true
       ·subst c12; have H1 : (if x4_1.length < 5864062014805 then (impl_ParseRows.l0 k1 (x4_1 ++ [(⟨t470, t471, t472⟩ : S42)]) t466 (t466.length : Int) (wrap64 (x15_1 + 1))) else (none)) = some (r1, r2) := by rw [if_pos rfl] at H; exact H
        clear H; have H := H1; clear H1
        by_cases c13 : x4_1.length < 5864062014805
        ·rw [if_pos c13] at H; have LMc13 := kp c13; clear c13; obtain ⟨y475, hy475⟩ : ∃ y_ : List (S42), y_ = (x4_1 ++ [(⟨t470, t471, t472⟩ : S42)]) := ⟨_, rfl⟩; replace H : (impl_ParseRows.l0 k1 y475 t466 (t466.length : Int) (wrap64 (x15_1 + 1))) = some (r1, r2) := by first | (rw [hy475]; with_reducible exact H) | (have H2_ := (Option.bind_some _ _).symm.trans H; rw [hy475]; with_reducible exact H2_) | (have H2_ := (Option.bind_some _ _).symm.trans H; with_reducible exact H2_) | with_reducible exact H | (rw [hy475]; exact H) | exact H
         have Ny475 := kp hy475; clear hy475; have H' := kp H; clear H; have p469 : 0 ≤ (x15_1 : Int) := dt; have q469 : x15_1 < (t466.length : Int) := dt; obtain ⟨ad469, e469, hx469_0⟩ := Kd.at_string (Kd.R_reads' HO_13.out).2.2 x15_1 p469 q469; cases e469; replace p469 := eq_true p469; replace q469 := eq_true q469
         go_wp2_with (first | ((with_reducible refine gate_callee (f := 86) rfl ?_); refine gl_ 21 Try.func86 #[.string (rdOf ByteArray.empty t466 x15_1)] ?_; (with_reducible refine (impl_ParseRow.calls k1 (rdOf ByteArray.empty t466 x15_1) t470 t471 t472 true _ A11.out).mono ?_); rintro e w14 ⟨rfl, hb⟩; refine ⟨_, rfl, ?_⟩; replace HO_4 := kp (Kd.R_below (by (with_reducible repeat (first | apply rA | apply rN | apply rD)); exact HO_4.out) hb); replace HO_13 := kp (Kd.R_below (by (with_reducible repeat (first | apply rA | apply rN | apply rD)); exact HO_13.out) hb); replace HB := kp (below_step bb hb); (try clear hb)) | ((with_reducible refine gate_dst (N := 7) rfl ?_); refine bx_ 7 #[.int .i64 0, .int .i64 0, .int .i64 0] 42 ?_; intro gb474 hg w15 hbox hb; replace HO_4 := kp (Kd.R_below (Kd.R_elderB (by (with_reducible repeat (first | apply rA | apply rN | apply rD)); exact HO_4.out) gb474 (Nat.le_of_eq hg.symm)) hb); replace HO_13 := kp (Kd.R_below (by (with_reducible repeat (first | apply rA | apply rN | apply rD)); exact HO_13.out) hb); have BK474 := kp (hbox); have GW474 := kp (bs hg); have GE474 := kp (bs hg); replace HB := kp (below_step bb hb); clear hb hbox hg; obtain ⟨hcz16_0, hcz16_1, hcz16_2, hfz16_0, hfz16_1, hfz16_2⟩ := bf3 BK474.out) | ((with_reducible refine gate_builtin (b := .append) (xs := #[.tmp 26, .tmp 28]) rfl ?_); at_builtin; refine Kd.R_append k42 (w0 := w) w.heap.size rfl (.tmp 26) (.tmp 28) 26 42 (.agg #[(.int .i64 0), (.int .i64 0), (.int .i64 0)]) 24 rfl Try.underlying26 info42 rfl (by decide) (by omega) u4 x4_1 (⟨t470, t471, t472⟩ : S42) [.int .i64 t470, .int .i64 t471, .int .i64 t472] (fun k_ => k_ ≠ gb474) (fun _ => False) rfl (by first | (go_simp; done) | (go_simp; rfl)) ?aP (fun _ hk => hk.elim) ?aF ?aO ?aB ?aS ?aL ?_; (case aP => exact k42_mkM _ _ _ (⟨t470, t471, t472⟩ : S42)); (case aB => exact bb); (case aF => exact (fun k_ hk => Kd.freshB (g := gb474) (o := .cells #[.int .i64 t470, .int .i64 t471, .int .i64 t472] 42 (0, 0)) (by refine blk_put (cs := #[.int .i64 t470, .int .i64 t471, .int .i64 0]) ?_ 2 _ rfl; refine blk_put (cs := #[.int .i64 t470, .int .i64 0, .int .i64 0]) ?_ 1 _ rfl; refine blk_put (cs := #[.int .i64 0, .int .i64 0, .int .i64 0]) ?_ 0 _ rfl; (with_reducible repeat (first | apply bN | apply bD | apply bA)); exact BK474.out) k_ hk)); (case aO => exact (by (with_reducible repeat (first | apply rA | apply rN | apply rD)); exact Kd.R_mono (Kd.R_far (p := ⟨gb474, 2, none⟩) (Kd.R_far (p := ⟨gb474, 1, none⟩) (Kd.R_far (p := ⟨gb474, 0, none⟩) (Kd.R_mono HO_4.out (fun k_ hk => (⟨hk, hk.2⟩ : _ ∧ k_ ≠ gb474))) (fun _ hk => hk.2) (.int .i64 t470)) (fun _ hk => hk.2) (.int .i64 t471)) (fun _ hk => hk.2) (.int .i64 t472)) (fun _ hk => hk.1.2))); (case aS => exact (below_size bb)); (case aL => have := LMc13.out; omega); intro v476 w17 ho hb hg hat; rw [← Ny475.out] at ho; replace HO_13 := kp (Kd.R_over' (by (with_reducible repeat (first | apply rA | apply rN | apply rD)); exact (Kd.R_mono (Kd.R_far (p := ⟨gb474, 2, none⟩) (Kd.R_far (p := ⟨gb474, 1, none⟩) (Kd.R_far (p := ⟨gb474, 0, none⟩) (Kd.R_types HO_13.out BK474.out (by decide)) (fun _ hk => hk.2) (.int .i64 t470)) (fun _ hk => hk.2) (.int .i64 t471)) (fun _ hk => hk.2) (.int .i64 t472)) (fun _ h_ => h_.1))) (Kd.R_typed (by (with_reducible repeat (first | apply rA | apply rN | apply rD)); exact (Kd.R_mono (Kd.R_far (p := ⟨gb474, 2, none⟩) (Kd.R_far (p := ⟨gb474, 1, none⟩) (Kd.R_far (p := ⟨gb474, 0, none⟩) (Kd.R_mono HO_4.out (fun k_ hk => (⟨hk, hk.2⟩ : _ ∧ k_ ≠ gb474))) (fun _ hk => hk.2) (.int .i64 t470)) (fun _ hk => hk.2) (.int .i64 t471)) (fun _ hk => hk.2) (.int .i64 t472)) (fun _ h_ => h_.1)))) (by decide) hg); replace BK474 := kp (blk_grown (g := gb474) (o := .cells #[.int .i64 t470, .int .i64 t471, .int .i64 t472] 42 (0, 0)) (by refine blk_put (cs := #[.int .i64 t470, .int .i64 t471, .int .i64 0]) ?_ 2 _ rfl; refine blk_put (cs := #[.int .i64 t470, .int .i64 0, .int .i64 0]) ?_ 1 _ rfl; refine blk_put (cs := #[.int .i64 0, .int .i64 0, .int .i64 0]) ?_ 0 _ rfl; (with_reducible repeat (first | apply bN | apply bD | apply bA)); exact BK474.out) hg (Kd.R_away HO_4.out (fun _ hk => hk.2))); replace HB := kp (hb); have HO477 := kp (ho); clear HO_4; clear ho hb hg hat))
         go_roundg k1
         case measure => have := HK1.out; omega
         case rel => exact ⟨(y475), (wrap64 (x15_1 + 1)), (by first | rfl | (simp; done) | (simp [*]; done)), H', ⟨by have := HK1.out; omega⟩, ⟨by (with_reducible repeat (first | apply rA | apply rN | apply rD)); exact Kd.R_mono HO477.out (fun _ hk => trivial)⟩, ⟨by (with_reducible repeat (first | apply rA | apply rN | apply rD)); exact HO_13.out⟩, ⟨bb⟩⟩
        ·rw [if_neg c13] at H; exact absurd H (by simp)
       ·replace c12 := Bool.eq_false_iff.mpr c12; subst c12; have H1 : (some (([] : List (S42)), false)) = some (r1, r2) := by rw [if_neg (show ¬ (false = true) by decide)] at H; exact H
        clear H; have H := H1; clear H1; simp only [Option.some.injEq, Prod.mk.injEq] at H; obtain ⟨rfl, rfl⟩ := H; have p469 : 0 ≤ (x15_1 : Int) := dt; have q469 : x15_1 < (t466.length : Int) := dt; obtain ⟨ad469, e469, hx469_0⟩ := Kd.at_string (Kd.R_reads' HO_13.out).2.2 x15_1 p469 q469; cases e469; replace p469 := eq_true p469; replace q469 := eq_true q469
        go_wp2_with (first | ((with_reducible refine gate_callee (f := 86) rfl ?_); refine gl_ 21 Try.func86 #[.string (rdOf ByteArray.empty t466 x15_1)] ?_; (with_reducible refine (impl_ParseRow.calls k1 (rdOf ByteArray.empty t466 x15_1) t470 t471 t472 false _ A11.out).mono ?_); rintro e w18 ⟨rfl, hb⟩; refine ⟨_, rfl, ?_⟩; replace HO_4 := kp (Kd.R_below (by (with_reducible repeat (first | apply rA | apply rN | apply rD)); exact HO_4.out) hb); replace HO_13 := kp (Kd.R_below (by (with_reducible repeat (first | apply rA | apply rN | apply rD)); exact HO_13.out) hb); replace HB := kp (below_step bb hb); (try clear hb)) | ((with_reducible refine gate_dst (N := 7) rfl ?_); refine bx_ 7 #[.int .i64 0, .int .i64 0, .int .i64 0] 42 ?_; intro gb474 hg w19 hbox hb; replace HO_4 := kp (Kd.R_below (Kd.R_elderB (by (with_reducible repeat (first | apply rA | apply rN | apply rD)); exact HO_4.out) gb474 (Nat.le_of_eq hg.symm)) hb); replace HO_13 := kp (Kd.R_below (by (with_reducible repeat (first | apply rA | apply rN | apply rD)); exact HO_13.out) hb); have BK474 := kp (hbox); have GW474 := kp (bs hg); have GE474 := kp (bs hg); replace HB := kp (below_step bb hb); clear hb hbox hg; obtain ⟨hcz20_0, hcz20_1, hcz20_2, hfz20_0, hfz20_1, hfz20_2⟩ := bf3 BK474.out))
        go_ret2
        exact ⟨_, er, by first | exact Kd.R_nil _ _ _ _ _ | exact Kd.N_nil _ _ _ _ _ | exact Kd.V_nil _ _ _ _ _ | exact Kd.Q_nil _ _ _ _ _ | exact Kd.S_nil _ _ _ _ _, bb⟩
      ·rw [if_neg c10] at H; exact absurd H (by simp)
     ·rw [if_neg c9] at H; exact absurd H (by simp)
    ·rw [if_neg c8] at H; have c8b0 : decide (x15_1 < (t466.length : Int)) = false := decide_eq_false c8; clear c8; replace H := Option.bind_eq_some_iff.mp H; obtain ⟨t478, A210, H⟩ := H; replace H : (if t478 = true then (some (x4_1, true)) else (some (([] : List (S42)), false))) = some (r1, r2) := H; have A21 := kp A210; clear A210
     by_cases c22 : t478 = true
     ·subst c22; have H1 : (some (x4_1, true)) = some (r1, r2) := by rw [if_pos rfl] at H; exact H
      clear H; have H := H1; clear H1; simp only [Option.some.injEq, Prod.mk.injEq] at H; obtain ⟨rfl, rfl⟩ := H; obtain ⟨Ao23, co23, eo23⟩ := Kd.R_slice HO_4.out; subst eo23
      go_wp2_with (first | ((with_reducible refine gate_callee (f := 45) rfl ?_); refine gl_ 32 Try.func45 #[.slice Ao23 x4_1.length co23] ?_; (with_reducible refine (impl_AreValidRows.calls k1 _ _ x4_1 true _ ?side1 ?side2 A21.out).mono ?_); (case side1 => repeat (first | exact (Kd.R_reads' HO_4.out).2.2 | (with_reducible refine Kd.C_alloc ?_ _) | (with_reducible refine Kd.C_drewN ?_ _) | (with_reducible refine Kd.C_drew ?_))); (case side2 => exact (Kd.R_reads' HO_4.out).2.1); rintro e w24 ⟨rfl, hb⟩; refine ⟨_, rfl, ?_⟩; replace HO_4 := kp (Kd.R_below (by (with_reducible repeat (first | apply rA | apply rN | apply rD)); exact HO_4.out) hb); replace HO_13 := kp (Kd.R_below (by (with_reducible repeat (first | apply rA | apply rN | apply rD)); exact HO_13.out) hb); replace HB := kp (below_step bb hb); (try clear hb)))
      go_ret2
      exact ⟨_, er, by (with_reducible repeat (first | apply rA | apply rN | apply rD)); exact HO_4.out, bb⟩
     ·replace c22 := Bool.eq_false_iff.mpr c22; subst c22; have H1 : (some (([] : List (S42)), false)) = some (r1, r2) := by rw [if_neg (show ¬ (false = true) by decide)] at H; exact H
      clear H; have H := H1; clear H1; simp only [Option.some.injEq, Prod.mk.injEq] at H; obtain ⟨rfl, rfl⟩ := H; obtain ⟨Ao25, co25, eo25⟩ := Kd.R_slice HO_4.out; subst eo25
      go_wp2_with (first | ((with_reducible refine gate_callee (f := 45) rfl ?_); refine gl_ 32 Try.func45 #[.slice Ao25 x4_1.length co25] ?_; (with_reducible refine (impl_AreValidRows.calls k1 _ _ x4_1 false _ ?side1 ?side2 A21.out).mono ?_); (case side1 => repeat (first | exact (Kd.R_reads' HO_4.out).2.2 | (with_reducible refine Kd.C_alloc ?_ _) | (with_reducible refine Kd.C_drewN ?_ _) | (with_reducible refine Kd.C_drew ?_))); (case side2 => exact (Kd.R_reads' HO_4.out).2.1); rintro e w26 ⟨rfl, hb⟩; refine ⟨_, rfl, ?_⟩; replace HO_4 := kp (Kd.R_below (by (with_reducible repeat (first | apply rA | apply rN | apply rD)); exact HO_4.out) hb); replace HO_13 := kp (Kd.R_below (by (with_reducible repeat (first | apply rA | apply rN | apply rD)); exact HO_13.out) hb); replace HB := kp (below_step bb hb); (try clear hb)))
      go_ret2
      exact ⟨_, er, by first | exact Kd.R_nil _ _ _ _ _ | exact Kd.N_nil _ _ _ _ _ | exact Kd.V_nil _ _ _ _ _ | exact Kd.Q_nil _ _ _ _ _ | exact Kd.S_nil _ _ _ _ _, bb⟩
end Go.Proofs.Ytljpfogplcdcjaa.PFnPagePacking
