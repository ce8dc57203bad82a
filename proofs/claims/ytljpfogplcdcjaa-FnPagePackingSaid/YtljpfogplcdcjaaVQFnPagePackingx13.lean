/- Out of a copy of the print, with function values told: nothing is claimed here. -/
import Derived.Test.YtljpfogplcdcjaaVQFnPagePackingx0
import Derived.Test.YtljpfogplcdcjaaVQFnPagePackingx2
import Derived.Test.YtljpfogplcdcjaaVQFnPagePackingx7
import Derived.Test.YtljpfogplcdcjaaVQFnPagePackingx8
import Derived.Test.YtljpfogplcdcjaaVQFnPagePackingx12
import Derived.Test.YtljpfogplcdcjaaVShort
import Derived.Test.YtljpfogplcdcjaaVPress
namespace Go.Proofs.Ytljpfogplcdcjaa.PFnPagePacking
open Go.RowKit Go.Proofs.YtljpfogplcdcjaaW.PrintWords Go.Proofs.YtljpfogplcdcjaaW.PrintLast Go.Proofs.YtljpfogplcdcjaaW.PrintMore Go.Proofs.Ytljpfogplcdcjaa.Short Go.Proofs.Ytljpfogplcdcjaa.Press
attribute [local go_sem] max2_int min2_int max_two min_two max_three min_three max_four min_four   -- for this text's walks alone
set_option linter.unusedVariables false
set_option linter.unusedSimpArgs false
mutual
def spec_ParseInt.l0 : Nat → ByteArray → Int → Int → Int → Option (Int × Bool)
 | 0, _, _, _, _ => none
 | k + 1, x0, x4, x5, x6 => if x6 < (x0.size : Int) then (spec_ParseInt.j1 k x0 x4 x5 x6 (decide (x6 < 11))) else (spec_ParseInt.j1 k x0 x4 x5 x6 false)
def spec_ParseInt.j1 : Nat → ByteArray → Int → Int → Int → Bool → Option (Int × Bool)
 | 0, _, _, _, _, _ => none
 | k + 1, x0, x4, x5, x6, x14 => if x14 = true then (if 0 ≤ x6 then (if x6 < (x0.size : Int) then (if (bt x0 x6) ≥ 48 then (if (bt x0 x6) ≤ 57 then (spec_ParseInt.l0 k x0 (wrap64 ((wrap64 (x4 * 10)) + (((bt x0 x6) - 48) % 256))) (wrap64 (x5 + 1)) (wrap64 (x6 + 1))) else (spec_ParseInt.l0 k x0 x4 x5 (wrap64 (x6 + 1)))) else (spec_ParseInt.l0 k x0 x4 x5 (wrap64 (x6 + 1)))) else (none)) else (none)) else (if (x0.size : Int) > 0 then (if 0 < (x0.size : Int) then (spec_ParseInt.j2 k x0 x4 x5 ((bt x0 0) == 45)) else (none)) else (spec_ParseInt.j2 k x0 x4 x5 false))
def spec_ParseInt.j2 : Nat → ByteArray → Int → Int → Bool → Option (Int × Bool)
 | 0, _, _, _, _ => none
 | k + 1, x0, x4, x5, x44 => if x44 = true then (if x5 > 9 then (some (0, false)) else (if (x0.size : Int) > 10 then (some (0, false)) else ((spec_FormatInt.f k (wrap64 (-x4))).bind fun t500 => (if t500.toList = x0.toList then (some (wrap64 (-x4), true)) else (some (0, false)))))) else (if x5 > 9 then (some (0, false)) else (if (x0.size : Int) > 10 then (some (0, false)) else ((spec_FormatInt.f k x4).bind fun t501 => (if t501.toList = x0.toList then (some (x4, true)) else (some (0, false))))))
end
def spec_ParseInt.f (k : Nat) (a0 : ByteArray) : Option (Int × Bool) := spec_ParseInt.l0 k a0 0 0 0
theorem spec_ParseInt.mono_l : ∀ k, (∀ y0 y1 y2 y3, LeO (spec_ParseInt.l0 k y0 y1 y2 y3) (spec_ParseInt.l0 (k + 1) y0 y1 y2 y3)) ∧ (∀ y0 y1 y2 y3 y4, LeO (spec_ParseInt.j1 k y0 y1 y2 y3 y4) (spec_ParseInt.j1 (k + 1) y0 y1 y2 y3 y4)) ∧ (∀ y0 y1 y2 y3, LeO (spec_ParseInt.j2 k y0 y1 y2 y3) (spec_ParseInt.j2 (k + 1) y0 y1 y2 y3))
 | 0 => ⟨fun _ _ _ _ r h => by simp [spec_ParseInt.l0] at h, fun _ _ _ _ _ r h => by simp [spec_ParseInt.j1] at h, fun _ _ _ _ r h => by simp [spec_ParseInt.j2] at h⟩
 | k + 1 => by
  obtain ⟨ih0, ih1, ih2⟩ := spec_ParseInt.mono_l k
  refine ⟨?_, ?_, ?_⟩
  ·intro y0 y1 y2 y3
   unfold spec_ParseInt.l0
   repeat' first
   | (with_reducible exact ih0 _ _ _ _)
   | (with_reducible exact ih1 _ _ _ _ _)
   | (with_reducible exact ih2 _ _ _ _)
   | (with_reducible exact spec_FormatInt.mono _ _)
   | (with_reducible exact LeO.refl _)
   | (with_reducible exact LeO.none _)
   | (with_reducible refine LeO.ite ?_ ?_)
   | (with_reducible refine LeO.bind ?_ (fun _ => ?_))
  ·intro y0 y1 y2 y3 y4
   unfold spec_ParseInt.j1
   repeat' first
   | (with_reducible exact ih0 _ _ _ _)
   | (with_reducible exact ih1 _ _ _ _ _)
   | (with_reducible exact ih2 _ _ _ _)
   | (with_reducible exact spec_FormatInt.mono _ _)
   | (with_reducible exact LeO.refl _)
   | (with_reducible exact LeO.none _)
   | (with_reducible refine LeO.ite ?_ ?_)
   | (with_reducible refine LeO.bind ?_ (fun _ => ?_))
  ·intro y0 y1 y2 y3
   unfold spec_ParseInt.j2
   repeat' first
   | (with_reducible exact ih0 _ _ _ _)
   | (with_reducible exact ih1 _ _ _ _ _)
   | (with_reducible exact ih2 _ _ _ _)
   | (with_reducible exact spec_FormatInt.mono _ _)
   | (with_reducible exact LeO.refl _)
   | (with_reducible exact LeO.none _)
   | (with_reducible refine LeO.ite ?_ ?_)
   | (with_reducible refine LeO.bind ?_ (fun _ => ?_))
theorem spec_ParseInt.mono : ∀ a0 k, LeO (spec_ParseInt.f k a0) (spec_ParseInt.f (k + 1) a0) := by
 intro a0 k
 obtain ⟨ih0, ih1, ih2⟩ := spec_ParseInt.mono_l k
 unfold spec_ParseInt.f
 repeat' first
   | (with_reducible exact ih0 _ _ _ _)
   | (with_reducible exact ih1 _ _ _ _ _)
   | (with_reducible exact ih2 _ _ _ _)
   | (with_reducible exact spec_FormatInt.mono _ _)
   | (with_reducible exact LeO.refl _)
   | (with_reducible exact LeO.none _)
   | (with_reducible refine LeO.ite ?_ ?_)
   | (with_reducible refine LeO.bind ?_ (fun _ => ?_))
set_option maxHeartbeats 8000000 in
set_option maxRecDepth 100000 in
theorem spec_ParseInt.calls (k : Nat) (a0 : ByteArray) (r1 : Int) (r2 : Bool) (w : World) (h : spec_ParseInt.f k a0 = some (r1, r2)) :
  Calls Try.prog 100 #[.string a0] w fun e w' => e = .returned (.tuple #[.int .i64 r1, .bool r2]) ∧ Below w.heap.size w w' := by
 have HB := kp (Below.refl w.heap.size w)
 have H : (spec_ParseInt.l0 k a0 0 0 0) = some (r1, r2) := h
 clear h
 have H' := kp H
 clear H
 go_enter Try.func100, Try.ntmps100
 go_wp2
 go_loopg [4, 5, 6] k (fun kq v4 v5 v6 w' => ∃ (x4_1 : Int) (x5_1 : Int) (x6_1 : Int), v4 = .int .i64 x4_1 ∧ v5 = .int .i64 x5_1 ∧ v6 = .int .i64 x6_1 ∧ Aside0 (spec_ParseInt.l0 kq a0 x4_1 x5_1 x6_1 = some (r1, r2)) ∧ Aside0 (kq ≤ k) ∧ Aside0 (Below w.heap.size w w'))
 case atStart => exact ⟨(0), (0), (0), (by first | rfl | (simp; done) | (simp [*]; done)), (by first | rfl | (simp; done) | (simp [*]; done)), (by first | rfl | (simp; done) | (simp [*]; done)), H', ⟨Nat.le_refl _⟩, ⟨bb⟩⟩
 case round =>
  clear H'
  obtain ⟨x4_1, x5_1, x6_1, rfl, rfl, rfl, HA, HK1, HB⟩ := hrel
  cases gk with
  | zero => exact absurd HA.out (by simp [spec_ParseInt.l0])
  | succ k1 =>
   have H := HA.out; clear HA; simp only [spec_ParseInt.l0] at H; have HC2 := kp H; clear H
   go_upto_region 4 with (fail)
   go_cut [14] (fun v14 wc => ∃ (kq : Nat) (x14_1 : Bool), v14 = .bool x14_1 ∧ Aside0 (spec_ParseInt.j1 kq a0 x4_1 x5_1 x6_1 x14_1 = some (r1, r2)) ∧ Aside0 (kq ≤ k1) ∧ Aside0 (Below w.heap.size w wc))
   case first =>
    have H := HC2.out; clear HC2
    by_cases c3 : x6_1 < (a0.size : Int)
    ·rw [if_pos c3] at H; have c3b0 : decide (x6_1 < (a0.size : Int)) = true := decide_eq_true c3; clear c3; (first | rw [c3b0] | (simp only [i64_w, i32_w]; rw [c3b0]) | skip); have H' := kp H; clear H; go_wp2
     go_meet
     case rel => exact ⟨_, (decide (x6_1 < 11)), (by first | rfl | (simp; done) | (simp [*]; done)), H', ⟨by have := HK1.out; first | omega | exact Nat.le_refl _⟩, ⟨bb⟩⟩
    ·rw [if_neg c3] at H; have c3b0 : decide (x6_1 < (a0.size : Int)) = false := decide_eq_false c3; clear c3; (first | rw [c3b0] | (simp only [i64_w, i32_w]; rw [c3b0]) | skip); have H' := kp H; clear H; go_wp2
     go_meet
     case rel => exact ⟨_, (false), (by first | rfl | (simp; done) | (simp [*]; done)), H', ⟨by have := HK1.out; first | omega | exact Nat.le_refl _⟩, ⟨bb⟩⟩
   case rest =>
    clear HC2
    obtain ⟨kq, x14_1, rfl, HA, HJ1, HB⟩ := hcut
    cases kq with
    | zero => exact absurd HA.out (by simp [spec_ParseInt.j1])
    | succ kj1 =>
     have H := HA.out; clear HA; simp only [spec_ParseInt.j1] at H
     by_cases c4 : x14_1 = true
     ·subst c4; have H1 : (if 0 ≤ x6_1 then (if x6_1 < (a0.size : Int) then (if (bt a0 x6_1) ≥ 48 then (if (bt a0 x6_1) ≤ 57 then (spec_ParseInt.l0 kj1 a0 (wrap64 ((wrap64 (x4_1 * 10)) + (((bt a0 x6_1) - 48) % 256))) (wrap64 (x5_1 + 1)) (wrap64 (x6_1 + 1))) else (spec_ParseInt.l0 kj1 a0 x4_1 x5_1 (wrap64 (x6_1 + 1)))) else (spec_ParseInt.l0 kj1 a0 x4_1 x5_1 (wrap64 (x6_1 + 1)))) else (none)) else (none)) = some (r1, r2) := by rw [if_pos rfl] at H; exact H
      clear H; have H := H1; clear H1
      by_cases c5 : 0 ≤ x6_1
      ·rw [if_pos c5] at H; have c5b0 : decide (0 ≤ x6_1) = true := decide_eq_true c5; clear c5
       by_cases c6 : x6_1 < (a0.size : Int)
       ·rw [if_pos c6] at H; have c6b0 : decide (x6_1 < (a0.size : Int)) = true := decide_eq_true c6; clear c6
        by_cases c8 : (bt a0 x6_1) ≥ 48
        ·rw [if_pos c8] at H; have c8b0 : decide (48 ≤ (bt a0 x6_1)) = true := decide_eq_true c8; clear c8
         by_cases c10 : (bt a0 x6_1) ≤ 57
         ·rw [if_pos c10] at H; have c10b0 : decide ((bt a0 x6_1) ≤ 57) = true := decide_eq_true c10; clear c10; have H' := kp H; clear H; have p7 : 0 ≤ (x6_1 : Int) := dt; have q7 : x6_1 < (a0.size : Int) := dt; have hx7 := bt_at a0 x6_1; replace p7 := eq_true p7; replace q7 := eq_true q7; have p9 : 0 ≤ (x6_1 : Int) := dt; have q9 : x6_1 < (a0.size : Int) := dt; have hx9 := bt_at a0 x6_1; replace p9 := eq_true p9; replace q9 := eq_true q9; have p11 : 0 ≤ (x6_1 : Int) := dt; have q11 : x6_1 < (a0.size : Int) := dt; have hx11 := bt_at a0 x6_1; replace p11 := eq_true p11; replace q11 := eq_true q11; go_wp2
          go_roundg kj1
          case measure => have := HK1.out; have := HJ1.out; omega
          case rel => exact ⟨(wrap64 ((wrap64 (x4_1 * 10)) + (((bt a0 x6_1) - 48) % 256))), (wrap64 (x5_1 + 1)), (wrap64 (x6_1 + 1)), (by first | rfl | (simp; done) | (simp [*]; done)), (by first | rfl | (simp; done) | (simp [*]; done)), (by first | rfl | (simp; done) | (simp [*]; done)), H', ⟨by have := HK1.out; have := HJ1.out; omega⟩, ⟨bb⟩⟩
         ·rw [if_neg c10] at H; have c10b0 : decide ((bt a0 x6_1) ≤ 57) = false := decide_eq_false c10; clear c10; have H' := kp H; clear H; have p7 : 0 ≤ (x6_1 : Int) := dt; have q7 : x6_1 < (a0.size : Int) := dt; have hx7 := bt_at a0 x6_1; replace p7 := eq_true p7; replace q7 := eq_true q7; have p9 : 0 ≤ (x6_1 : Int) := dt; have q9 : x6_1 < (a0.size : Int) := dt; have hx9 := bt_at a0 x6_1; replace p9 := eq_true p9; replace q9 := eq_true q9; go_wp2
          go_roundg kj1
          case measure => have := HK1.out; have := HJ1.out; omega
          case rel => exact ⟨(x4_1), (x5_1), (wrap64 (x6_1 + 1)), (by first | rfl | (simp; done) | (simp [*]; done)), (by first | rfl | (simp; done) | (simp [*]; done)), (by first | rfl | (simp; done) | (simp [*]; done)), H', ⟨by have := HK1.out; have := HJ1.out; omega⟩, ⟨bb⟩⟩
        ·rw [if_neg c8] at H; have c8b0 : decide (48 ≤ (bt a0 x6_1)) = false := decide_eq_false c8; clear c8; have H' := kp H; clear H; have p7 : 0 ≤ (x6_1 : Int) := dt; have q7 : x6_1 < (a0.size : Int) := dt; have hx7 := bt_at a0 x6_1; replace p7 := eq_true p7; replace q7 := eq_true q7; go_wp2
         go_roundg kj1
         case measure => have := HK1.out; have := HJ1.out; omega
         case rel => exact ⟨(x4_1), (x5_1), (wrap64 (x6_1 + 1)), (by first | rfl | (simp; done) | (simp [*]; done)), (by first | rfl | (simp; done) | (simp [*]; done)), (by first | rfl | (simp; done) | (simp [*]; done)), H', ⟨by have := HK1.out; have := HJ1.out; omega⟩, ⟨bb⟩⟩
       ·rw [if_neg c6] at H; exact absurd H (by simp)
      ·rw [if_neg c5] at H; exact absurd H (by simp)
     ·replace c4 := Bool.eq_false_iff.mpr c4; subst c4; have H1 : (if (a0.size : Int) > 0 then (if 0 < (a0.size : Int) then (spec_ParseInt.j2 kj1 a0 x4_1 x5_1 ((bt a0 0) == 45)) else (none)) else (spec_ParseInt.j2 kj1 a0 x4_1 x5_1 false)) = some (r1, r2) := by rw [if_neg (show ¬ (false = true) by decide)] at H; exact H
      clear H; have H := H1; clear H1; have HC12 := kp H; clear H
      go_upto_region 9 with (fail)
      go_cut [44] (fun v44 wc => ∃ (kq : Nat) (x44_11 : Bool), v44 = .bool x44_11 ∧ Aside0 (spec_ParseInt.j2 kq a0 x4_1 x5_1 x44_11 = some (r1, r2)) ∧ Aside0 (kq ≤ kj1) ∧ Aside0 (Below w.heap.size w wc))
      case first =>
       have H := HC12.out; clear HC12
       by_cases c13 : (a0.size : Int) > 0
       ·rw [if_pos c13] at H; have c13b0 : decide (0 < (a0.size : Int)) = true := decide_eq_true c13; have c13b1 : decide (0 < a0.size) = true := decide_eq_true (by omega); clear c13; (first | rw [c13b0] | (simp only [i64_w, i32_w]; rw [c13b0]) | skip)
        by_cases c14 : 0 < (a0.size : Int)
        ·rw [if_pos c14] at H; have c14b0 : decide (0 < (a0.size : Int)) = true := decide_eq_true c14; have c14b1 : decide (0 < a0.size) = true := decide_eq_true (by omega); clear c14; have H' := kp H; clear H; have p15 : 0 ≤ (0 : Int) := (by omega); have q15 : 0 < a0.size := (by have : (0 : Int) < (a0.size : Int) := dt; omega); have hx15 : ∀ h : 0 < a0.size, ((a0[0]'h).toNat : Int) = bt a0 0 := bt_at a0 0; clear p15; have qi15 : (0 < (a0.size : Int)) = True := eq_true (dt); replace q15 := eq_true q15; go_wp2
         go_meet
         case rel => exact ⟨_, (((bt a0 0) == 45)), (by first | rfl | (simp; done) | (simp [*]; done)), H', ⟨by have := HK1.out; have := HJ1.out; first | omega | exact Nat.le_refl _⟩, ⟨bb⟩⟩
        ·rw [if_neg c14] at H; exact absurd H (by simp)
       ·rw [if_neg c13] at H; have c13b0 : decide (0 < (a0.size : Int)) = false := decide_eq_false c13; have c13b1 : decide (0 < a0.size) = false := decide_eq_false (by omega); clear c13; (first | rw [c13b0] | (simp only [i64_w, i32_w]; rw [c13b0]) | skip); have H' := kp H; clear H; go_wp2
        go_meet
        case rel => exact ⟨_, (false), (by first | rfl | (simp; done) | (simp [*]; done)), H', ⟨by have := HK1.out; have := HJ1.out; first | omega | exact Nat.le_refl _⟩, ⟨bb⟩⟩
      case rest =>
       clear HC12
       try clear c4
       obtain ⟨kq, x44_11, rfl, HA, HJ11, HB⟩ := hcut
       cases kq with
       | zero => exact absurd HA.out (by simp [spec_ParseInt.j2])
       | succ kj11 =>
        have H := HA.out; clear HA; simp only [spec_ParseInt.j2] at H
        by_cases c16 : x44_11 = true
        ·subst c16; have H1 : (if x5_1 > 9 then (some (0, false)) else (if (a0.size : Int) > 10 then (some (0, false)) else ((spec_FormatInt.f kj11 (wrap64 (-x4_1))).bind fun t500 => (if t500.toList = a0.toList then (some (wrap64 (-x4_1), true)) else (some (0, false)))))) = some (r1, r2) := by rw [if_pos rfl] at H; exact H
         clear H; have H := H1; clear H1
         by_cases c17 : x5_1 > 9
         ·rw [if_pos c17] at H; have c17b0 : decide (9 < x5_1) = true := decide_eq_true c17; clear c17; simp only [Option.some.injEq, Prod.mk.injEq] at H; obtain ⟨rfl, rfl⟩ := H; go_wp2
          go_ret2
          exact ⟨er, bb⟩
         ·rw [if_neg c17] at H; have c17b0 : decide (9 < x5_1) = false := decide_eq_false c17; clear c17
          by_cases c18 : (a0.size : Int) > 10
          ·rw [if_pos c18] at H; have c18b0 : decide (10 < (a0.size : Int)) = true := decide_eq_true c18; have c18b1 : decide (10 < a0.size) = true := decide_eq_true (by omega); clear c18; simp only [Option.some.injEq, Prod.mk.injEq] at H; obtain ⟨rfl, rfl⟩ := H; go_wp2
           go_ret2
           exact ⟨er, bb⟩
          ·rw [if_neg c18] at H; have c18b0 : decide (10 < (a0.size : Int)) = false := decide_eq_false c18; have c18b1 : decide (10 < a0.size) = false := decide_eq_false (by omega); clear c18; replace H := Option.bind_eq_some_iff.mp H; obtain ⟨t500, A190, H⟩ := H; replace H : (if t500.toList = a0.toList then (some (wrap64 (-x4_1), true)) else (some (0, false))) = some (r1, r2) := H; have A19 := kp A190; clear A190
           by_cases c20 : t500.toList = a0.toList
           ·rw [if_pos c20] at H; have c20b0 : (t500.toList == a0.toList) = true := beq_iff_eq.mpr c20; have c20b1 : (t500.toList != a0.toList) = false := bne_eq_false_iff_eq.mpr c20; clear c20; simp only [Option.some.injEq, Prod.mk.injEq] at H; obtain ⟨rfl, rfl⟩ := H
            go_wp2_with (first | (go_at_call 103; (with_reducible refine (spec_FormatInt.calls kj11 (wrap64 (-x4_1)) t500 _ A19.out).mono ?_); rintro e w21 ⟨rfl, hb⟩; replace HB := kp (below_step bb hb); (try clear hb)))
            go_ret2
            exact ⟨er, bb⟩
           ·rw [if_neg c20] at H; have c20b0 : (t500.toList == a0.toList) = false := beq_eq_false_iff_ne.mpr c20; have c20b1 : (t500.toList != a0.toList) = true := bne_iff_ne.mpr c20; simp only [Option.some.injEq, Prod.mk.injEq] at H; obtain ⟨rfl, rfl⟩ := H
            go_wp2_with (first | (go_at_call 103; (with_reducible refine (spec_FormatInt.calls kj11 (wrap64 (-x4_1)) t500 _ A19.out).mono ?_); rintro e w22 ⟨rfl, hb⟩; replace HB := kp (below_step bb hb); (try clear hb)))
            go_ret2
            exact ⟨er, bb⟩
        ·replace c16 := Bool.eq_false_iff.mpr c16; subst c16; have H1 : (if x5_1 > 9 then (some (0, false)) else (if (a0.size : Int) > 10 then (some (0, false)) else ((spec_FormatInt.f kj11 x4_1).bind fun t501 => (if t501.toList = a0.toList then (some (x4_1, true)) else (some (0, false)))))) = some (r1, r2) := by rw [if_neg (show ¬ (false = true) by decide)] at H; exact H
         clear H; have H := H1; clear H1
         by_cases c23 : x5_1 > 9
         ·rw [if_pos c23] at H; have c23b0 : decide (9 < x5_1) = true := decide_eq_true c23; clear c23; simp only [Option.some.injEq, Prod.mk.injEq] at H; obtain ⟨rfl, rfl⟩ := H; go_wp2
          go_ret2
          exact ⟨er, bb⟩
         ·rw [if_neg c23] at H; have c23b0 : decide (9 < x5_1) = false := decide_eq_false c23; clear c23
          by_cases c24 : (a0.size : Int) > 10
          ·rw [if_pos c24] at H; have c24b0 : decide (10 < (a0.size : Int)) = true := decide_eq_true c24; have c24b1 : decide (10 < a0.size) = true := decide_eq_true (by omega); clear c24; simp only [Option.some.injEq, Prod.mk.injEq] at H; obtain ⟨rfl, rfl⟩ := H; go_wp2
           go_ret2
           exact ⟨er, bb⟩
          ·rw [if_neg c24] at H; have c24b0 : decide (10 < (a0.size : Int)) = false := decide_eq_false c24; have c24b1 : decide (10 < a0.size) = false := decide_eq_false (by omega); clear c24; replace H := Option.bind_eq_some_iff.mp H; obtain ⟨t501, A250, H⟩ := H; replace H : (if t501.toList = a0.toList then (some (x4_1, true)) else (some (0, false))) = some (r1, r2) := H; have A25 := kp A250; clear A250
           by_cases c26 : t501.toList = a0.toList
           ·rw [if_pos c26] at H; have c26b0 : (t501.toList == a0.toList) = true := beq_iff_eq.mpr c26; have c26b1 : (t501.toList != a0.toList) = false := bne_eq_false_iff_eq.mpr c26; clear c26; simp only [Option.some.injEq, Prod.mk.injEq] at H; obtain ⟨rfl, rfl⟩ := H
            go_wp2_with (first | (go_at_call 103; (with_reducible refine (spec_FormatInt.calls kj11 x4_1 t501 _ A25.out).mono ?_); rintro e w27 ⟨rfl, hb⟩; replace HB := kp (below_step bb hb); (try clear hb)))
            go_ret2
            exact ⟨er, bb⟩
           ·rw [if_neg c26] at H; have c26b0 : (t501.toList == a0.toList) = false := beq_eq_false_iff_ne.mpr c26; have c26b1 : (t501.toList != a0.toList) = true := bne_iff_ne.mpr c26; simp only [Option.some.injEq, Prod.mk.injEq] at H; obtain ⟨rfl, rfl⟩ := H
            go_wp2_with (first | (go_at_call 103; (with_reducible refine (spec_FormatInt.calls kj11 x4_1 t501 _ A25.out).mono ?_); rintro e w28 ⟨rfl, hb⟩; replace HB := kp (below_step bb hb); (try clear hb)))
            go_ret2
            exact ⟨er, bb⟩
def spec_ParseRow.f (k : Nat) (a0 : ByteArray) : Option (Int × Int × Int × Bool) := (spec_l2Cut.f k a0 46).bind fun t503 => (if (t503.length : Int) = 3 then (if 0 < (t503.length : Int) then ((spec_ParseInt.f k (rdOf ByteArray.empty t503 0)).bind fun bt508 => (if 1 < (t503.length : Int) then ((spec_ParseInt.f k (rdOf ByteArray.empty t503 1)).bind fun bt511 => (if 2 < (t503.length : Int) then ((spec_ParseInt.f k (rdOf ByteArray.empty t503 2)).bind fun bt514 => ((spec_FormatRow.f k bt508.1 bt511.1 bt514.1).bind fun t516 => (if t516.toList = a0.toList then (some (bt508.1, bt511.1, bt514.1, true)) else (some (0, 0, 0, false))))) else (none))) else (none))) else (none)) else (some (0, 0, 0, false)))
theorem spec_ParseRow.mono : ∀ a0 k, LeO (spec_ParseRow.f k a0) (spec_ParseRow.f (k + 1) a0) := by
 intro a0 k
 unfold spec_ParseRow.f
 repeat' first
   | (with_reducible exact spec_FormatRow.mono _ _ _ _)
   | (with_reducible exact spec_ParseInt.mono _ _)
   | (with_reducible exact spec_l2Cut.mono _ _ _)
   | (with_reducible exact LeO.refl _)
   | (with_reducible exact LeO.none _)
   | (with_reducible refine LeO.ite ?_ ?_)
   | (with_reducible refine LeO.bind ?_ (fun _ => ?_))
set_option maxHeartbeats 8000000 in
set_option maxRecDepth 100000 in
theorem spec_ParseRow.calls (k : Nat) (a0 : ByteArray) (r1 : Int) (r2 : Int) (r3 : Int) (r4 : Bool) (w : World) (h : spec_ParseRow.f k a0 = some (r1, r2, r3, r4)) :
  Calls Try.prog 87 #[.string a0] w fun e w' => e = .returned (.tuple #[.agg #[.int .i64 r1, .int .i64 r2, .int .i64 r3], .bool r4]) ∧ Below w.heap.size w w' := by
 have hu42 := Try.underlying42
 have HB := kp (Below.refl w.heap.size w)
 have H : ((spec_l2Cut.f k a0 46).bind fun t503 => (if (t503.length : Int) = 3 then (if 0 < (t503.length : Int) then ((spec_ParseInt.f k (rdOf ByteArray.empty t503 0)).bind fun bt508 => (if 1 < (t503.length : Int) then ((spec_ParseInt.f k (rdOf ByteArray.empty t503 1)).bind fun bt511 => (if 2 < (t503.length : Int) then ((spec_ParseInt.f k (rdOf ByteArray.empty t503 2)).bind fun bt514 => ((spec_FormatRow.f k bt508.1 bt511.1 bt514.1).bind fun t516 => (if t516.toList = a0.toList then (some (bt508.1, bt511.1, bt514.1, true)) else (some (0, 0, 0, false))))) else (none))) else (none))) else (none)) else (some (0, 0, 0, false)))) = some (r1, r2, r3, r4) := h
 clear h
 replace H := Option.bind_eq_some_iff.mp H
 obtain ⟨t503, A20, H⟩ := H
 replace H : (if (t503.length : Int) = 3 then (if 0 < (t503.length : Int) then ((spec_ParseInt.f k (rdOf ByteArray.empty t503 0)).bind fun bt508 => (if 1 < (t503.length : Int) then ((spec_ParseInt.f k (rdOf ByteArray.empty t503 1)).bind fun bt511 => (if 2 < (t503.length : Int) then ((spec_ParseInt.f k (rdOf ByteArray.empty t503 2)).bind fun bt514 => ((spec_FormatRow.f k bt508.1 bt511.1 bt514.1).bind fun t516 => (if t516.toList = a0.toList then (some (bt508.1, bt511.1, bt514.1, true)) else (some (0, 0, 0, false))))) else (none))) else (none))) else (none)) else (some (0, 0, 0, false))) = some (r1, r2, r3, r4) := H
 have A2 := kp A20
 clear A20
 by_cases c3 : (t503.length : Int) = 3
 ·rw [if_pos c3] at H; have c3b0 : ((t503.length : Int) == 3) = true := beq_iff_eq.mpr c3; have c3b1 : ((t503.length : Int) != 3) = false := bne_eq_false_iff_eq.mpr c3; clear c3
  by_cases c4 : 0 < (t503.length : Int)
  ·rw [if_pos c4] at H; have c4b0 : decide (0 < (t503.length : Int)) = true := decide_eq_true c4; have c4b1 : decide (0 < t503.length) = true := decide_eq_true (by omega); clear c4; replace H := Option.bind_eq_some_iff.mp H; obtain ⟨⟨t508, t509⟩, A50, H⟩ := H; replace H : (if 1 < (t503.length : Int) then ((spec_ParseInt.f k (rdOf ByteArray.empty t503 1)).bind fun bt511 => (if 2 < (t503.length : Int) then ((spec_ParseInt.f k (rdOf ByteArray.empty t503 2)).bind fun bt514 => ((spec_FormatRow.f k t508 bt511.1 bt514.1).bind fun t516 => (if t516.toList = a0.toList then (some (t508, bt511.1, bt514.1, true)) else (some (0, 0, 0, false))))) else (none))) else (none)) = some (r1, r2, r3, r4) := H; have A5 := kp A50; clear A50
   by_cases c6 : 1 < (t503.length : Int)
   ·rw [if_pos c6] at H; have c6b0 : decide (1 < (t503.length : Int)) = true := decide_eq_true c6; have c6b1 : decide (1 < t503.length) = true := decide_eq_true (by omega); clear c6; replace H := Option.bind_eq_some_iff.mp H; obtain ⟨⟨t511, t512⟩, A70, H⟩ := H; replace H : (if 2 < (t503.length : Int) then ((spec_ParseInt.f k (rdOf ByteArray.empty t503 2)).bind fun bt514 => ((spec_FormatRow.f k t508 t511 bt514.1).bind fun t516 => (if t516.toList = a0.toList then (some (t508, t511, bt514.1, true)) else (some (0, 0, 0, false))))) else (none)) = some (r1, r2, r3, r4) := H; have A7 := kp A70; clear A70
    by_cases c8 : 2 < (t503.length : Int)
    ·rw [if_pos c8] at H; have c8b0 : decide (2 < (t503.length : Int)) = true := decide_eq_true c8; have c8b1 : decide (2 < t503.length) = true := decide_eq_true (by omega); clear c8; replace H := Option.bind_eq_some_iff.mp H; obtain ⟨⟨t514, t515⟩, A90, H⟩ := H; replace H : ((spec_FormatRow.f k t508 t511 t514).bind fun t516 => (if t516.toList = a0.toList then (some (t508, t511, t514, true)) else (some (0, 0, 0, false)))) = some (r1, r2, r3, r4) := H; have A9 := kp A90; clear A90; replace H := Option.bind_eq_some_iff.mp H; obtain ⟨t516, A100, H⟩ := H; replace H : (if t516.toList = a0.toList then (some (t508, t511, t514, true)) else (some (0, 0, 0, false))) = some (r1, r2, r3, r4) := H; have A10 := kp A100; clear A100
     by_cases c11 : t516.toList = a0.toList
     ·rw [if_pos c11] at H; have c11b0 : (t516.toList == a0.toList) = true := beq_iff_eq.mpr c11; have c11b1 : (t516.toList != a0.toList) = false := bne_eq_false_iff_eq.mpr c11; clear c11; simp only [Option.some.injEq, Prod.mk.injEq] at H; obtain ⟨rfl, rfl, rfl, rfl⟩ := H
      go_enter Try.func87, Try.ntmps87
      go_wp2_with (first | ((with_reducible refine gate_dst (N := 2) rfl ?_); refine bx_ 2 #[.int .i64 0, .int .i64 0, .int .i64 0] 42 ?_; intro gb502 hg w12 hbox hb; have BK502 := kp (hbox); have GW502 := kp (bs hg); have GE502 := kp (bs hg); replace HB := kp (below_step bb hb); clear hb hbox hg) | ((with_reducible refine gate_callee (f := 62) rfl ?_); refine gl_ 7 Try.func62 #[.string a0, .int .u8 46] ?_; (with_reducible refine (spec_l2Cut.calls k a0 46 t503 _ A2.out).mono ?_); rintro e w13 ⟨v504, rfl, ho0, hb⟩; refine ⟨_, rfl, ?_⟩; have HO505 := kp (Kd.R_lower ho0 (below_size bb)); replace BK502 := kp (kb BK502.out hb); replace HB := kp (below_step bb hb); (try clear hb); (try clear ho0); obtain ⟨Ao14, co14, eo14⟩ := Kd.R_slice HO505.out; subst eo14) | ((with_reducible refine gate_dst (N := 5) rfl ?_); refine bx_ 5 #[.int .i64 0, .int .i64 0, .int .i64 0] 42 ?_; intro gb506 hg w15 hbox hb; replace HO505 := kp (Kd.R_below (by (with_reducible repeat (first | apply rA | apply rN | apply rD)); exact HO505.out) hb); have BK506 := kp (hbox); have GW506 := kp (bs hg); have GE506 := kp (bs hg); have NB502_506 := kp (bl hg BK502.out); have NB506_502 := kp (bg hg BK502.out); replace BK502 := kp (kb BK502.out hb); replace HB := kp (below_step bb hb); clear hb hbox hg; have hnb16 := NB506_502.out; have hnc16 := NB502_506.out; obtain ⟨hcz17_0, hcz17_1, hcz17_2, hfz17_0, hfz17_1, hfz17_2⟩ := bf3 BK506.out; have p507 : 0 ≤ (0 : Int) := (by omega); have q507 : 0 < (t503.length : Int) := dt; obtain ⟨ad507, e507, hx507_0⟩ := Kd.at_string (Kd.R_reads' HO505.out).2.2 0 p507 q507; cases e507; have qi507 : (0 < t503.length) = True := eq_true (by omega); (try rw [show ((0 : Int)).toNat = 0 from rfl] at hx507_0); (try rw [Addr.add_zero'] at hx507_0); have hn507_0 : ad507.block ≠ gb506 := Kd.own_blk (Kd.R_ne HO505.out BK506.out (by decide)); have hn507_1 : ad507.block ≠ gb506 := Kd.own_blk (Kd.R_ne HO505.out BK506.out (by decide)); have hn507_2 : ad507.block ≠ gb506 := Kd.own_blk (Kd.R_ne HO505.out BK506.out (by decide)); replace hx507_0 := (cell_far (p := ⟨gb506, 0, none⟩) (by first | (rw [add_block]; exact hn507_0) | (show (Addr.add _ _).block ≠ _; rw [add_block]; exact hn507_0) | exact hn507_0) (.int .i64 0)).trans hx507_0; replace hx507_0 := (cell_far (p := ⟨gb506, 1, none⟩) (by first | (rw [add_block]; exact hn507_1) | (show (Addr.add _ _).block ≠ _; rw [add_block]; exact hn507_1) | exact hn507_1) (.int .i64 0)).trans hx507_0; replace hx507_0 := (cell_far (p := ⟨gb506, 2, none⟩) (by first | (rw [add_block]; exact hn507_2) | (show (Addr.add _ _).block ≠ _; rw [add_block]; exact hn507_2) | exact hn507_2) (.int .i64 0)).trans hx507_0; clear hn507_0; clear hn507_1; clear hn507_2; replace p507 := eq_true p507; replace q507 := eq_true q507) | ((with_reducible refine gate_callee (f := 100) rfl ?_); refine gl_ 17 Try.func100 #[.string (rdOf ByteArray.empty t503 0)] ?_; (with_reducible refine (spec_ParseInt.calls k (rdOf ByteArray.empty t503 0) t508 t509 _ A5.out).mono ?_); rintro e w18 ⟨rfl, hb⟩; refine ⟨_, rfl, ?_⟩; replace HO505 := kp (Kd.R_below (by (with_reducible repeat (first | apply rA | apply rN | apply rD)); exact (Kd.R_mono (Kd.R_far (p := ⟨gb506, 2, none⟩) (Kd.R_far (p := ⟨gb506, 1, none⟩) (Kd.R_far (p := ⟨gb506, 0, none⟩) (Kd.R_types HO505.out BK506.out (by decide)) (fun _ hk => hk.2) (.int .i64 0)) (fun _ hk => hk.2) (.int .i64 0)) (fun _ hk => hk.2) (.int .i64 0)) (fun _ h_ => h_.1))) hb); replace BK502 := kp (blk_below (g := gb502) (o := .cells #[.int .i64 0, .int .i64 0, .int .i64 0] 42 (0, 0)) (by refine blk_far ?_ NB502_506.out _; refine blk_far ?_ NB502_506.out _; refine blk_far ?_ NB502_506.out _; (with_reducible repeat (first | apply bN | apply bD | apply bA)); exact BK502.out) hb); replace BK506 := kp (blk_below (g := gb506) (o := .cells #[.int .i64 0, .int .i64 0, .int .i64 0] 42 (0, 0)) (by refine blk_put (cs := #[.int .i64 0, .int .i64 0, .int .i64 0]) ?_ 2 _ rfl; refine blk_put (cs := #[.int .i64 0, .int .i64 0, .int .i64 0]) ?_ 1 _ rfl; refine blk_put (cs := #[.int .i64 0, .int .i64 0, .int .i64 0]) ?_ 0 _ rfl; (with_reducible repeat (first | apply bN | apply bD | apply bA)); exact BK506.out) hb); replace HB := kp (below_step bb hb); (try clear hb); obtain ⟨hcz19_0, hcz19_1, hcz19_2, hfz19_0, hfz19_1, hfz19_2⟩ := bf3 BK506.out; have p510 : 0 ≤ (1 : Int) := (by omega); have q510 : 1 < (t503.length : Int) := dt; obtain ⟨ad510, e510, hx510_0⟩ := Kd.at_string (Kd.R_reads' HO505.out).2.2 1 p510 q510; obtain rfl : ad507 = ad510 := (by injection e510); (try simp only [show (1 : Int).toNat = 1 from rfl, Nat.reduceMul, Nat.reduceEqDiff, Go.Addr.add, ↓reduceIte] at hx510_0); have qi510 : (1 < t503.length) = True := eq_true (by omega); (try rw [show ((1 : Int)).toNat = 1 from rfl] at hx510_0); have hn510_0 : ad507.block ≠ gb506 := Kd.own_blk (Kd.R_ne HO505.out BK506.out (by decide)); replace hx510_0 := (cell_far (p := ⟨gb506, 0, none⟩) (by first | (rw [add_block]; exact hn510_0) | (show (Addr.add _ _).block ≠ _; rw [add_block]; exact hn510_0) | exact hn510_0) (.int .i64 t508)).trans hx510_0; clear hn510_0; replace p510 := eq_true p510; replace q510 := eq_true q510) | ((with_reducible refine gate_callee (f := 100) rfl ?_); refine gl_ 25 Try.func100 #[.string (rdOf ByteArray.empty t503 1)] ?_; (with_reducible refine (spec_ParseInt.calls k (rdOf ByteArray.empty t503 1) t511 t512 _ A7.out).mono ?_); rintro e w20 ⟨rfl, hb⟩; refine ⟨_, rfl, ?_⟩; replace HO505 := kp (Kd.R_below (by (with_reducible repeat (first | apply rA | apply rN | apply rD)); exact (Kd.R_mono (Kd.R_far (p := ⟨gb506, 0, none⟩) (Kd.R_types HO505.out BK506.out (by decide)) (fun _ hk => hk.2) (.int .i64 t508)) (fun _ h_ => h_.1))) hb); replace BK502 := kp (blk_below (g := gb502) (o := .cells #[.int .i64 0, .int .i64 0, .int .i64 0] 42 (0, 0)) (by refine blk_far ?_ NB502_506.out _; (with_reducible repeat (first | apply bN | apply bD | apply bA)); exact BK502.out) hb); replace BK506 := kp (blk_below (g := gb506) (o := .cells #[.int .i64 t508, .int .i64 0, .int .i64 0] 42 (0, 0)) (by refine blk_put (cs := #[.int .i64 0, .int .i64 0, .int .i64 0]) ?_ 0 _ rfl; (with_reducible repeat (first | apply bN | apply bD | apply bA)); exact BK506.out) hb); replace HB := kp (below_step bb hb); (try clear hb); obtain ⟨hcz21_0, hcz21_1, hcz21_2, hfz21_0, hfz21_1, hfz21_2⟩ := bf3 BK506.out; have p513 : 0 ≤ (2 : Int) := (by omega); have q513 : 2 < (t503.length : Int) := dt; obtain ⟨ad513, e513, hx513_0⟩ := Kd.at_string (Kd.R_reads' HO505.out).2.2 2 p513 q513; obtain rfl : ad507 = ad513 := (by injection e513); (try simp only [show (2 : Int).toNat = 2 from rfl, Nat.reduceMul, Nat.reduceEqDiff, Go.Addr.add, ↓reduceIte] at hx513_0); have qi513 : (2 < t503.length) = True := eq_true (by omega); (try rw [show ((2 : Int)).toNat = 2 from rfl] at hx513_0); have hn513_0 : ad507.block ≠ gb506 := Kd.own_blk (Kd.R_ne HO505.out BK506.out (by decide)); replace hx513_0 := (cell_far (p := ⟨gb506, 1, none⟩) (by first | (rw [add_block]; exact hn513_0) | (show (Addr.add _ _).block ≠ _; rw [add_block]; exact hn513_0) | exact hn513_0) (.int .i64 t511)).trans hx513_0; clear hn513_0; replace p513 := eq_true p513; replace q513 := eq_true q513) | ((with_reducible refine gate_callee (f := 100) rfl ?_); refine gl_ 33 Try.func100 #[.string (rdOf ByteArray.empty t503 2)] ?_; (with_reducible refine (spec_ParseInt.calls k (rdOf ByteArray.empty t503 2) t514 t515 _ A9.out).mono ?_); rintro e w22 ⟨rfl, hb⟩; refine ⟨_, rfl, ?_⟩; replace HO505 := kp (Kd.R_below (by (with_reducible repeat (first | apply rA | apply rN | apply rD)); exact (Kd.R_mono (Kd.R_far (p := ⟨gb506, 1, none⟩) (Kd.R_types HO505.out BK506.out (by decide)) (fun _ hk => hk.2) (.int .i64 t511)) (fun _ h_ => h_.1))) hb); replace BK502 := kp (blk_below (g := gb502) (o := .cells #[.int .i64 0, .int .i64 0, .int .i64 0] 42 (0, 0)) (by refine blk_far ?_ NB502_506.out _; (with_reducible repeat (first | apply bN | apply bD | apply bA)); exact BK502.out) hb); replace BK506 := kp (blk_below (g := gb506) (o := .cells #[.int .i64 t508, .int .i64 t511, .int .i64 0] 42 (0, 0)) (by refine blk_put (cs := #[.int .i64 t508, .int .i64 0, .int .i64 0]) ?_ 1 _ rfl; (with_reducible repeat (first | apply bN | apply bD | apply bA)); exact BK506.out) hb); replace HB := kp (below_step bb hb); (try clear hb); obtain ⟨hcz23_0, hcz23_1, hcz23_2, hfz23_0, hfz23_1, hfz23_2⟩ := bf3 BK506.out) | ((with_reducible refine gate_callee (f := 89) rfl ?_); refine gl_ 38 Try.func89 #[.agg #[.int .i64 t508, .int .i64 t511, .int .i64 t514]] ?_; (with_reducible refine (spec_FormatRow.calls k t508 t511 t514 t516 _ A10.out).mono ?_); rintro e w24 ⟨rfl, hb⟩; refine ⟨_, rfl, ?_⟩; replace HO505 := kp (Kd.R_below (by (with_reducible repeat (first | apply rA | apply rN | apply rD)); exact (Kd.R_mono (Kd.R_far (p := ⟨gb506, 2, none⟩) (Kd.R_types HO505.out BK506.out (by decide)) (fun _ hk => hk.2) (.int .i64 t514)) (fun _ h_ => h_.1))) hb); replace BK502 := kp (blk_below (g := gb502) (o := .cells #[.int .i64 0, .int .i64 0, .int .i64 0] 42 (0, 0)) (by refine blk_far ?_ NB502_506.out _; (with_reducible repeat (first | apply bN | apply bD | apply bA)); exact BK502.out) hb); replace BK506 := kp (blk_below (g := gb506) (o := .cells #[.int .i64 t508, .int .i64 t511, .int .i64 t514] 42 (0, 0)) (by refine blk_put (cs := #[.int .i64 t508, .int .i64 t511, .int .i64 0]) ?_ 2 _ rfl; (with_reducible repeat (first | apply bN | apply bD | apply bA)); exact BK506.out) hb); replace HB := kp (below_step bb hb); (try clear hb); obtain ⟨hcz25_0, hcz25_1, hcz25_2, hfz25_0, hfz25_1, hfz25_2⟩ := bf3 BK506.out; obtain ⟨hcz26_0, hcz26_1, hcz26_2, hfz26_0, hfz26_1, hfz26_2⟩ := bf3 BK502.out))
      refine bodyPost_ret (results_ct rfl _ _ gb502 42 #[.int .i64 t508, .int .i64 t511, .int .i64 t514] (0, 0) _ rfl (by refine blk_put (cs := #[.int .i64 t508, .int .i64 t511, .int .i64 0]) ?_ 2 _ rfl; refine blk_put (cs := #[.int .i64 t508, .int .i64 0, .int .i64 0]) ?_ 1 _ rfl; refine blk_put (cs := #[.int .i64 0, .int .i64 0, .int .i64 0]) ?_ 0 _ rfl; (with_reducible repeat (first | apply bN | apply bD | apply bA)); exact BK502.out) Try.underlying42 rfl (by kernel_rfl)) rfl ?_
      exact ⟨er, bb⟩
     ·rw [if_neg c11] at H; have c11b0 : (t516.toList == a0.toList) = false := beq_eq_false_iff_ne.mpr c11; have c11b1 : (t516.toList != a0.toList) = true := bne_iff_ne.mpr c11; simp only [Option.some.injEq, Prod.mk.injEq] at H; obtain ⟨rfl, rfl, rfl, rfl⟩ := H
      go_enter Try.func87, Try.ntmps87
      go_wp2_with (first | ((with_reducible refine gate_dst (N := 2) rfl ?_); refine bx_ 2 #[.int .i64 0, .int .i64 0, .int .i64 0] 42 ?_; intro gb502 hg w27 hbox hb; have BK502 := kp (hbox); have GW502 := kp (bs hg); have GE502 := kp (bs hg); replace HB := kp (below_step bb hb); clear hb hbox hg) | ((with_reducible refine gate_callee (f := 62) rfl ?_); refine gl_ 7 Try.func62 #[.string a0, .int .u8 46] ?_; (with_reducible refine (spec_l2Cut.calls k a0 46 t503 _ A2.out).mono ?_); rintro e w28 ⟨v504, rfl, ho0, hb⟩; refine ⟨_, rfl, ?_⟩; have HO505 := kp (Kd.R_lower ho0 (below_size bb)); replace BK502 := kp (kb BK502.out hb); replace HB := kp (below_step bb hb); (try clear hb); (try clear ho0); obtain ⟨Ao29, co29, eo29⟩ := Kd.R_slice HO505.out; subst eo29) | ((with_reducible refine gate_dst (N := 5) rfl ?_); refine bx_ 5 #[.int .i64 0, .int .i64 0, .int .i64 0] 42 ?_; intro gb506 hg w30 hbox hb; replace HO505 := kp (Kd.R_below (by (with_reducible repeat (first | apply rA | apply rN | apply rD)); exact HO505.out) hb); have BK506 := kp (hbox); have GW506 := kp (bs hg); have GE506 := kp (bs hg); have NB502_506 := kp (bl hg BK502.out); have NB506_502 := kp (bg hg BK502.out); replace BK502 := kp (kb BK502.out hb); replace HB := kp (below_step bb hb); clear hb hbox hg; have hnb31 := NB506_502.out; have hnc31 := NB502_506.out; obtain ⟨hcz32_0, hcz32_1, hcz32_2, hfz32_0, hfz32_1, hfz32_2⟩ := bf3 BK506.out; have p507 : 0 ≤ (0 : Int) := (by omega); have q507 : 0 < (t503.length : Int) := dt; obtain ⟨ad507, e507, hx507_0⟩ := Kd.at_string (Kd.R_reads' HO505.out).2.2 0 p507 q507; cases e507; have qi507 : (0 < t503.length) = True := eq_true (by omega); (try rw [show ((0 : Int)).toNat = 0 from rfl] at hx507_0); (try rw [Addr.add_zero'] at hx507_0); have hn507_0 : ad507.block ≠ gb506 := Kd.own_blk (Kd.R_ne HO505.out BK506.out (by decide)); have hn507_1 : ad507.block ≠ gb506 := Kd.own_blk (Kd.R_ne HO505.out BK506.out (by decide)); have hn507_2 : ad507.block ≠ gb506 := Kd.own_blk (Kd.R_ne HO505.out BK506.out (by decide)); replace hx507_0 := (cell_far (p := ⟨gb506, 0, none⟩) (by first | (rw [add_block]; exact hn507_0) | (show (Addr.add _ _).block ≠ _; rw [add_block]; exact hn507_0) | exact hn507_0) (.int .i64 0)).trans hx507_0; replace hx507_0 := (cell_far (p := ⟨gb506, 1, none⟩) (by first | (rw [add_block]; exact hn507_1) | (show (Addr.add _ _).block ≠ _; rw [add_block]; exact hn507_1) | exact hn507_1) (.int .i64 0)).trans hx507_0; replace hx507_0 := (cell_far (p := ⟨gb506, 2, none⟩) (by first | (rw [add_block]; exact hn507_2) | (show (Addr.add _ _).block ≠ _; rw [add_block]; exact hn507_2) | exact hn507_2) (.int .i64 0)).trans hx507_0; clear hn507_0; clear hn507_1; clear hn507_2; replace p507 := eq_true p507; replace q507 := eq_true q507) | ((with_reducible refine gate_callee (f := 100) rfl ?_); refine gl_ 17 Try.func100 #[.string (rdOf ByteArray.empty t503 0)] ?_; (with_reducible refine (spec_ParseInt.calls k (rdOf ByteArray.empty t503 0) t508 t509 _ A5.out).mono ?_); rintro e w33 ⟨rfl, hb⟩; refine ⟨_, rfl, ?_⟩; replace HO505 := kp (Kd.R_below (by (with_reducible repeat (first | apply rA | apply rN | apply rD)); exact (Kd.R_mono (Kd.R_far (p := ⟨gb506, 2, none⟩) (Kd.R_far (p := ⟨gb506, 1, none⟩) (Kd.R_far (p := ⟨gb506, 0, none⟩) (Kd.R_types HO505.out BK506.out (by decide)) (fun _ hk => hk.2) (.int .i64 0)) (fun _ hk => hk.2) (.int .i64 0)) (fun _ hk => hk.2) (.int .i64 0)) (fun _ h_ => h_.1))) hb); replace BK502 := kp (blk_below (g := gb502) (o := .cells #[.int .i64 0, .int .i64 0, .int .i64 0] 42 (0, 0)) (by refine blk_far ?_ NB502_506.out _; refine blk_far ?_ NB502_506.out _; refine blk_far ?_ NB502_506.out _; (with_reducible repeat (first | apply bN | apply bD | apply bA)); exact BK502.out) hb); replace BK506 := kp (blk_below (g := gb506) (o := .cells #[.int .i64 0, .int .i64 0, .int .i64 0] 42 (0, 0)) (by refine blk_put (cs := #[.int .i64 0, .int .i64 0, .int .i64 0]) ?_ 2 _ rfl; refine blk_put (cs := #[.int .i64 0, .int .i64 0, .int .i64 0]) ?_ 1 _ rfl; refine blk_put (cs := #[.int .i64 0, .int .i64 0, .int .i64 0]) ?_ 0 _ rfl; (with_reducible repeat (first | apply bN | apply bD | apply bA)); exact BK506.out) hb); replace HB := kp (below_step bb hb); (try clear hb); obtain ⟨hcz34_0, hcz34_1, hcz34_2, hfz34_0, hfz34_1, hfz34_2⟩ := bf3 BK506.out; have p510 : 0 ≤ (1 : Int) := (by omega); have q510 : 1 < (t503.length : Int) := dt; obtain ⟨ad510, e510, hx510_0⟩ := Kd.at_string (Kd.R_reads' HO505.out).2.2 1 p510 q510; obtain rfl : ad507 = ad510 := (by injection e510); (try simp only [show (1 : Int).toNat = 1 from rfl, Nat.reduceMul, Nat.reduceEqDiff, Go.Addr.add, ↓reduceIte] at hx510_0); have qi510 : (1 < t503.length) = True := eq_true (by omega); (try rw [show ((1 : Int)).toNat = 1 from rfl] at hx510_0); have hn510_0 : ad507.block ≠ gb506 := Kd.own_blk (Kd.R_ne HO505.out BK506.out (by decide)); replace hx510_0 := (cell_far (p := ⟨gb506, 0, none⟩) (by first | (rw [add_block]; exact hn510_0) | (show (Addr.add _ _).block ≠ _; rw [add_block]; exact hn510_0) | exact hn510_0) (.int .i64 t508)).trans hx510_0; clear hn510_0; replace p510 := eq_true p510; replace q510 := eq_true q510) | ((with_reducible refine gate_callee (f := 100) rfl ?_); refine gl_ 25 Try.func100 #[.string (rdOf ByteArray.empty t503 1)] ?_; (with_reducible refine (spec_ParseInt.calls k (rdOf ByteArray.empty t503 1) t511 t512 _ A7.out).mono ?_); rintro e w35 ⟨rfl, hb⟩; refine ⟨_, rfl, ?_⟩; replace HO505 := kp (Kd.R_below (by (with_reducible repeat (first | apply rA | apply rN | apply rD)); exact (Kd.R_mono (Kd.R_far (p := ⟨gb506, 0, none⟩) (Kd.R_types HO505.out BK506.out (by decide)) (fun _ hk => hk.2) (.int .i64 t508)) (fun _ h_ => h_.1))) hb); replace BK502 := kp (blk_below (g := gb502) (o := .cells #[.int .i64 0, .int .i64 0, .int .i64 0] 42 (0, 0)) (by refine blk_far ?_ NB502_506.out _; (with_reducible repeat (first | apply bN | apply bD | apply bA)); exact BK502.out) hb); replace BK506 := kp (blk_below (g := gb506) (o := .cells #[.int .i64 t508, .int .i64 0, .int .i64 0] 42 (0, 0)) (by refine blk_put (cs := #[.int .i64 0, .int .i64 0, .int .i64 0]) ?_ 0 _ rfl; (with_reducible repeat (first | apply bN | apply bD | apply bA)); exact BK506.out) hb); replace HB := kp (below_step bb hb); (try clear hb); obtain ⟨hcz36_0, hcz36_1, hcz36_2, hfz36_0, hfz36_1, hfz36_2⟩ := bf3 BK506.out; have p513 : 0 ≤ (2 : Int) := (by omega); have q513 : 2 < (t503.length : Int) := dt; obtain ⟨ad513, e513, hx513_0⟩ := Kd.at_string (Kd.R_reads' HO505.out).2.2 2 p513 q513; obtain rfl : ad507 = ad513 := (by injection e513); (try simp only [show (2 : Int).toNat = 2 from rfl, Nat.reduceMul, Nat.reduceEqDiff, Go.Addr.add, ↓reduceIte] at hx513_0); have qi513 : (2 < t503.length) = True := eq_true (by omega); (try rw [show ((2 : Int)).toNat = 2 from rfl] at hx513_0); have hn513_0 : ad507.block ≠ gb506 := Kd.own_blk (Kd.R_ne HO505.out BK506.out (by decide)); replace hx513_0 := (cell_far (p := ⟨gb506, 1, none⟩) (by first | (rw [add_block]; exact hn513_0) | (show (Addr.add _ _).block ≠ _; rw [add_block]; exact hn513_0) | exact hn513_0) (.int .i64 t511)).trans hx513_0; clear hn513_0; replace p513 := eq_true p513; replace q513 := eq_true q513) | ((with_reducible refine gate_callee (f := 100) rfl ?_); refine gl_ 33 Try.func100 #[.string (rdOf ByteArray.empty t503 2)] ?_; (with_reducible refine (spec_ParseInt.calls k (rdOf ByteArray.empty t503 2) t514 t515 _ A9.out).mono ?_); rintro e w37 ⟨rfl, hb⟩; refine ⟨_, rfl, ?_⟩; replace HO505 := kp (Kd.R_below (by (with_reducible repeat (first | apply rA | apply rN | apply rD)); exact (Kd.R_mono (Kd.R_far (p := ⟨gb506, 1, none⟩) (Kd.R_types HO505.out BK506.out (by decide)) (fun _ hk => hk.2) (.int .i64 t511)) (fun _ h_ => h_.1))) hb); replace BK502 := kp (blk_below (g := gb502) (o := .cells #[.int .i64 0, .int .i64 0, .int .i64 0] 42 (0, 0)) (by refine blk_far ?_ NB502_506.out _; (with_reducible repeat (first | apply bN | apply bD | apply bA)); exact BK502.out) hb); replace BK506 := kp (blk_below (g := gb506) (o := .cells #[.int .i64 t508, .int .i64 t511, .int .i64 0] 42 (0, 0)) (by refine blk_put (cs := #[.int .i64 t508, .int .i64 0, .int .i64 0]) ?_ 1 _ rfl; (with_reducible repeat (first | apply bN | apply bD | apply bA)); exact BK506.out) hb); replace HB := kp (below_step bb hb); (try clear hb); obtain ⟨hcz38_0, hcz38_1, hcz38_2, hfz38_0, hfz38_1, hfz38_2⟩ := bf3 BK506.out) | ((with_reducible refine gate_callee (f := 89) rfl ?_); refine gl_ 38 Try.func89 #[.agg #[.int .i64 t508, .int .i64 t511, .int .i64 t514]] ?_; (with_reducible refine (spec_FormatRow.calls k t508 t511 t514 t516 _ A10.out).mono ?_); rintro e w39 ⟨rfl, hb⟩; refine ⟨_, rfl, ?_⟩; replace HO505 := kp (Kd.R_below (by (with_reducible repeat (first | apply rA | apply rN | apply rD)); exact (Kd.R_mono (Kd.R_far (p := ⟨gb506, 2, none⟩) (Kd.R_types HO505.out BK506.out (by decide)) (fun _ hk => hk.2) (.int .i64 t514)) (fun _ h_ => h_.1))) hb); replace BK502 := kp (blk_below (g := gb502) (o := .cells #[.int .i64 0, .int .i64 0, .int .i64 0] 42 (0, 0)) (by refine blk_far ?_ NB502_506.out _; (with_reducible repeat (first | apply bN | apply bD | apply bA)); exact BK502.out) hb); replace BK506 := kp (blk_below (g := gb506) (o := .cells #[.int .i64 t508, .int .i64 t511, .int .i64 t514] 42 (0, 0)) (by refine blk_put (cs := #[.int .i64 t508, .int .i64 t511, .int .i64 0]) ?_ 2 _ rfl; (with_reducible repeat (first | apply bN | apply bD | apply bA)); exact BK506.out) hb); replace HB := kp (below_step bb hb); (try clear hb); obtain ⟨hcz40_0, hcz40_1, hcz40_2, hfz40_0, hfz40_1, hfz40_2⟩ := bf3 BK502.out))
      refine bodyPost_ret (results_ct rfl _ _ gb502 42 #[.int .i64 0, .int .i64 0, .int .i64 0] (0, 0) _ rfl (by refine blk_put (cs := #[.int .i64 0, .int .i64 0, .int .i64 0]) ?_ 2 _ rfl; refine blk_put (cs := #[.int .i64 0, .int .i64 0, .int .i64 0]) ?_ 1 _ rfl; refine blk_put (cs := #[.int .i64 0, .int .i64 0, .int .i64 0]) ?_ 0 _ rfl; (with_reducible repeat (first | apply bN | apply bD | apply bA)); exact BK502.out) Try.underlying42 rfl (by kernel_rfl)) rfl ?_
      exact ⟨er, bb⟩
    ·rw [if_neg c8] at H; exact absurd H (by simp)
   ·rw [if_neg c6] at H; exact absurd H (by simp)
  ·rw [if_neg c4] at H; exact absurd H (by simp)
 ·rw [if_neg c3] at H; have c3b0 : ((t503.length : Int) == 3) = false := beq_eq_false_iff_ne.mpr c3; have c3b1 : ((t503.length : Int) != 3) = true := bne_iff_ne.mpr c3; simp only [Option.some.injEq, Prod.mk.injEq] at H; obtain ⟨rfl, rfl, rfl, rfl⟩ := H
  go_enter Try.func87, Try.ntmps87
  go_wp2_with (first | ((with_reducible refine gate_dst (N := 2) rfl ?_); refine bx_ 2 #[.int .i64 0, .int .i64 0, .int .i64 0] 42 ?_; intro gb502 hg w41 hbox hb; have BK502 := kp (hbox); have GW502 := kp (bs hg); have GE502 := kp (bs hg); replace HB := kp (below_step bb hb); clear hb hbox hg) | ((with_reducible refine gate_callee (f := 62) rfl ?_); refine gl_ 7 Try.func62 #[.string a0, .int .u8 46] ?_; (with_reducible refine (spec_l2Cut.calls k a0 46 t503 _ A2.out).mono ?_); rintro e w42 ⟨v504, rfl, ho0, hb⟩; refine ⟨_, rfl, ?_⟩; have HO505 := kp (Kd.R_lower ho0 (below_size bb)); replace BK502 := kp (kb BK502.out hb); replace HB := kp (below_step bb hb); (try clear hb); (try clear ho0); obtain ⟨Ao43, co43, eo43⟩ := Kd.R_slice HO505.out; subst eo43; obtain ⟨hcz44_0, hcz44_1, hcz44_2, hfz44_0, hfz44_1, hfz44_2⟩ := bf3 BK502.out))
  refine bodyPost_ret (results_ct rfl _ _ gb502 42 #[.int .i64 0, .int .i64 0, .int .i64 0] (0, 0) _ rfl (by refine blk_put (cs := #[.int .i64 0, .int .i64 0, .int .i64 0]) ?_ 2 _ rfl; refine blk_put (cs := #[.int .i64 0, .int .i64 0, .int .i64 0]) ?_ 1 _ rfl; refine blk_put (cs := #[.int .i64 0, .int .i64 0, .int .i64 0]) ?_ 0 _ rfl; (with_reducible repeat (first | apply bN | apply bD | apply bA)); exact BK502.out) Try.underlying42 rfl (by kernel_rfl)) rfl ?_
  exact ⟨er, bb⟩
mutual
def spec_ParseRows.l0 : Nat → ByteArray → List (S42) → List ByteArray → Int → Option ((List (S42)) × Bool)
 | 0, _, _, _, _ => none
 | k + 1, x0, x4, x5, x6 => if x6 < (x5.length : Int) then (spec_ParseRows.j1 k x0 x4 x5 x6 (x0.toList != ([] : List UInt8))) else (spec_ParseRows.j1 k x0 x4 x5 x6 false)
def spec_ParseRows.j1 : Nat → ByteArray → List (S42) → List ByteArray → Int → Bool → Option ((List (S42)) × Bool)
 | 0, _, _, _, _, _ => none
 | k + 1, x0, x4, x5, x6, x19 => if x19 = true then (if 0 ≤ x6 then (if x6 < (x5.length : Int) then ((spec_ParseRow.f k (rdOf ByteArray.empty x5 x6)).bind fun bt524 => (if bt524.2.2.2 = true then (if x4.length < 5864062014805 then (spec_ParseRows.l0 k x0 (x4 ++ [(⟨bt524.1, bt524.2.1, bt524.2.2.1⟩ : S42)]) x5 (wrap64 (x6 + 1))) else (none)) else (some ((([] : List (S42))), false)))) else (none)) else (none)) else ((spec_AreValidRows.f k x4).bind fun t535 => (if t535 = true then (some (x4, true)) else (some ((([] : List (S42))), false))))
end
def spec_ParseRows.f (k : Nat) (a0 : ByteArray) : Option ((List (S42)) × Bool) := (spec_l2Cut.f k a0 32).bind fun t520 => (spec_ParseRows.l0 k a0 (([] : List (S42))) t520 0)
theorem spec_ParseRows.mono_l : ∀ k, (∀ y0 y1 y2 y3, LeO (spec_ParseRows.l0 k y0 y1 y2 y3) (spec_ParseRows.l0 (k + 1) y0 y1 y2 y3)) ∧ (∀ y0 y1 y2 y3 y4, LeO (spec_ParseRows.j1 k y0 y1 y2 y3 y4) (spec_ParseRows.j1 (k + 1) y0 y1 y2 y3 y4))
 | 0 => ⟨fun _ _ _ _ r h => by simp [spec_ParseRows.l0] at h, fun _ _ _ _ _ r h => by simp [spec_ParseRows.j1] at h⟩
 | k + 1 => by
  obtain ⟨ih0, ih1⟩ := spec_ParseRows.mono_l k
  refine ⟨?_, ?_⟩
  ·intro y0 y1 y2 y3
   unfold spec_ParseRows.l0
   repeat' first
   | (with_reducible exact ih0 _ _ _ _)
   | (with_reducible exact ih1 _ _ _ _ _)
   | (with_reducible exact spec_AreValidRows.mono _ _)
   | (with_reducible exact spec_ParseRow.mono _ _)
   | (with_reducible exact spec_l2Cut.mono _ _ _)
   | (with_reducible exact LeO.refl _)
   | (with_reducible exact LeO.none _)
   | (with_reducible refine LeO.ite ?_ ?_)
   | (with_reducible refine LeO.bind ?_ (fun _ => ?_))
  ·intro y0 y1 y2 y3 y4
   unfold spec_ParseRows.j1
   repeat' first
   | (with_reducible exact ih0 _ _ _ _)
   | (with_reducible exact ih1 _ _ _ _ _)
   | (with_reducible exact spec_AreValidRows.mono _ _)
   | (with_reducible exact spec_ParseRow.mono _ _)
   | (with_reducible exact spec_l2Cut.mono _ _ _)
   | (with_reducible exact LeO.refl _)
   | (with_reducible exact LeO.none _)
   | (with_reducible refine LeO.ite ?_ ?_)
   | (with_reducible refine LeO.bind ?_ (fun _ => ?_))
theorem spec_ParseRows.mono : ∀ a0 k, LeO (spec_ParseRows.f k a0) (spec_ParseRows.f (k + 1) a0) := by
 intro a0 k
 obtain ⟨ih0, ih1⟩ := spec_ParseRows.mono_l k
 unfold spec_ParseRows.f
 repeat' first
   | (with_reducible exact ih0 _ _ _ _)
   | (with_reducible exact ih1 _ _ _ _ _)
   | (with_reducible exact spec_AreValidRows.mono _ _)
   | (with_reducible exact spec_ParseRow.mono _ _)
   | (with_reducible exact spec_l2Cut.mono _ _ _)
   | (with_reducible exact LeO.refl _)
   | (with_reducible exact LeO.none _)
   | (with_reducible refine LeO.ite ?_ ?_)
   | (with_reducible refine LeO.bind ?_ (fun _ => ?_))
set_option maxHeartbeats 8000000 in
set_option maxRecDepth 100000 in
theorem spec_ParseRows.calls (k : Nat) (a0 : ByteArray) (r1 : List (S42)) (r2 : Bool) (w : World) (h : spec_ParseRows.f k a0 = some (r1, r2)) :
  Calls Try.prog 63 #[.string a0] w fun e w' => ∃ v0_ : Value, e = .returned (.tuple #[v0_, .bool r2]) ∧ Kd.R k42 42 w' w.heap.size (fun _ => True) v0_ r1 ∧ Below w.heap.size w w' := by
 have hu42 := Try.underlying42
 have HB := kp (Below.refl w.heap.size w)
 have H : ((spec_l2Cut.f k a0 32).bind fun t520 => (spec_ParseRows.l0 k a0 (([] : List (S42))) t520 0)) = some (r1, r2) := h
 clear h
 obtain ⟨y517, hy517⟩ : ∃ y_ : List (S42), y_ = (([] : List (S42))) := ⟨_, rfl⟩
 replace H : ((spec_l2Cut.f k a0 32).bind fun t520 => (spec_ParseRows.l0 k a0 y517 t520 0)) = some (r1, r2) := by first | (rw [hy517]; with_reducible exact H) | (have H2_ := (Option.bind_some _ _).symm.trans H; rw [hy517]; with_reducible exact H2_) | (have H2_ := (Option.bind_some _ _).symm.trans H; with_reducible exact H2_) | with_reducible exact H | (rw [hy517]; exact H) | exact H
 have Ny517 := kp hy517
 clear hy517
 replace H := Option.bind_eq_some_iff.mp H
 obtain ⟨t520, A20, H⟩ := H
 replace H : (spec_ParseRows.l0 k a0 y517 t520 0) = some (r1, r2) := H
 have A2 := kp A20
 clear A20
 have H' := kp H
 clear H
 go_enter Try.func63, Try.ntmps63
 go_wp2_with (first | ((with_reducible refine gate_dst (N := 9) rfl ?_); refine Kd.R_lit k42 _ 42 ?hg (N := 9) ?hd (xs := ([] : List (S42))) (inner := []) (ok := fun _ => True) (okp := fun _ => True) ?hr ?hp (fun _ hk => hk) trivial (Below.refl _ _) (Nat.le_refl _) (by simp) ?_; (case hd => rfl); (case hg => rfl); (case hr => first | (go_simp; done) | (go_simp; rfl)); (case hp => exact (Reps.none _ _)); intro v518 w3 ho4 hb hg_ hnew_; clear hg_ hnew_; (first | rw [← Ny517.out] at ho4 | (simp only [Int.reduceToNat] at ho4; rw [← Ny517.out] at ho4)); have HO519 := kp (Kd.R_lower ho4 (below_size bb)); replace HB := kp (below_step bb hb); clear hb ho4) | ((with_reducible refine gate_callee (f := 62) rfl ?_); refine gl_ 11 Try.func62 #[.string a0, .int .u8 32] ?_; (with_reducible refine (spec_l2Cut.calls k a0 32 t520 _ A2.out).mono ?_); rintro e w5 ⟨v521, rfl, ho0, hb⟩; refine ⟨_, rfl, ?_⟩; replace HO519 := kp (Kd.R_below (by (with_reducible repeat (first | apply rA | apply rN | apply rD)); exact HO519.out) hb); have HO522 := kp (Kd.R_lower ho0 (below_size bb)); replace HB := kp (below_step bb hb); (try clear hb); (try clear ho0)))
 (try simp only [Act.put, List.setIfInBounds_toArray, List.set_cons_zero, List.set_cons_succ])
 go_loopg [4, 6] k (fun kq v4 v6 w' => ∃ (x4_1 : List (S42)) (x6_1 : Int), v6 = .int .i64 x6_1 ∧ Aside0 (spec_ParseRows.l0 kq a0 x4_1 t520 x6_1 = some (r1, r2)) ∧ Aside0 (kq ≤ k) ∧ Aside0 (Kd.R k42 42 w' w.heap.size (fun _ => True) v4 x4_1) ∧ Aside0 (Kd.R Kd.string 9 w' w.heap.size (fun _ => True) v521 t520) ∧ Aside0 (Below w.heap.size w w'))
 case atStart => exact ⟨(y517), (0), (by first | rfl | (simp; done) | (simp [*]; done)), H', ⟨Nat.le_refl _⟩, ⟨by (with_reducible repeat (first | apply rA | apply rN | apply rD)); exact HO519.out⟩, ⟨by (with_reducible repeat (first | apply rA | apply rN | apply rD)); exact HO522.out⟩, ⟨bb⟩⟩
 case round =>
  clear H'
  obtain ⟨x4_1, x6_1, rfl, HA, HK1, HO_4, HO_5, HB⟩ := hrel
  cases gk with
  | zero => exact absurd HA.out (by simp [spec_ParseRows.l0])
  | succ k1 =>
   have H := HA.out; clear HA; simp only [spec_ParseRows.l0] at H; have HC6 := kp H; clear H
   go_upto_region 4 with (fail)
   go_cut [19] (fun v19 wc => ∃ (kq : Nat) (x19_5 : Bool), v19 = .bool x19_5 ∧ Aside0 (spec_ParseRows.j1 kq a0 x4_1 t520 x6_1 x19_5 = some (r1, r2)) ∧ Aside0 (kq ≤ k1) ∧ Aside0 (Kd.R k42 42 wc w.heap.size (fun _ => True) u4 x4_1) ∧ Aside0 (Kd.R Kd.string 9 wc w.heap.size (fun _ => True) v521 t520) ∧ Aside0 (Below w.heap.size w wc))
   case first =>
    have H := HC6.out; clear HC6
    by_cases c7 : x6_1 < (t520.length : Int)
    ·rw [if_pos c7] at H; have c7b0 : decide (x6_1 < (t520.length : Int)) = true := decide_eq_true c7; clear c7; (first | rw [c7b0] | (simp only [i64_w, i32_w]; rw [c7b0]) | skip); have H' := kp H; clear H; obtain ⟨Ao8, co8, eo8⟩ := Kd.R_slice HO_5.out; subst eo8; go_wp2
     go_meet
     case rel => exact ⟨_, ((a0.toList != ([] : List UInt8))), (by first | rfl | (simp; done) | (simp [*]; done) | (generalize a0.toList = q_; cases q_ <;> rfl)), H', ⟨by have := HK1.out; first | omega | exact Nat.le_refl _⟩, ⟨by (with_reducible repeat (first | apply rA | apply rN | apply rD)); exact HO_4.out⟩, ⟨by (with_reducible repeat (first | apply rA | apply rN | apply rD)); exact HO_5.out⟩, ⟨bb⟩⟩
    ·rw [if_neg c7] at H; have c7b0 : decide (x6_1 < (t520.length : Int)) = false := decide_eq_false c7; clear c7; (first | rw [c7b0] | (simp only [i64_w, i32_w]; rw [c7b0]) | skip); have H' := kp H; clear H; obtain ⟨Ao9, co9, eo9⟩ := Kd.R_slice HO_5.out; subst eo9; go_wp2
     go_meet
     case rel => exact ⟨_, (false), (by first | rfl | (simp; done) | (simp [*]; done)), H', ⟨by have := HK1.out; first | omega | exact Nat.le_refl _⟩, ⟨by (with_reducible repeat (first | apply rA | apply rN | apply rD)); exact HO_4.out⟩, ⟨by (with_reducible repeat (first | apply rA | apply rN | apply rD)); exact HO_5.out⟩, ⟨bb⟩⟩
   case rest =>
    clear HC6
    obtain ⟨kq, x19_5, rfl, HA, HJ5, HO_4, HO_5, HB⟩ := hcut
    cases kq with
    | zero => exact absurd HA.out (by simp [spec_ParseRows.j1])
    | succ kj5 =>
     have H := HA.out; clear HA; simp only [spec_ParseRows.j1] at H
     by_cases c10 : x19_5 = true
     ·subst c10; have H1 : (if 0 ≤ x6_1 then (if x6_1 < (t520.length : Int) then ((spec_ParseRow.f kj5 (rdOf ByteArray.empty t520 x6_1)).bind fun bt524 => (if bt524.2.2.2 = true then (if x4_1.length < 5864062014805 then (spec_ParseRows.l0 kj5 a0 (x4_1 ++ [(⟨bt524.1, bt524.2.1, bt524.2.2.1⟩ : S42)]) t520 (wrap64 (x6_1 + 1))) else (none)) else (some ((([] : List (S42))), false)))) else (none)) else (none)) = some (r1, r2) := by rw [if_pos rfl] at H; exact H
      clear H; have H := H1; clear H1
      by_cases c11 : 0 ≤ x6_1
      ·rw [if_pos c11] at H; have c11b0 : decide (0 ≤ x6_1) = true := decide_eq_true c11; clear c11
       by_cases c12 : x6_1 < (t520.length : Int)
       ·rw [if_pos c12] at H; have c12b0 : decide (x6_1 < (t520.length : Int)) = true := decide_eq_true c12; clear c12; replace H := Option.bind_eq_some_iff.mp H; obtain ⟨⟨t524, t525, t526, t527⟩, A130, H⟩ := H; replace H : (if t527 = true then (if x4_1.length < 5864062014805 then (spec_ParseRows.l0 kj5 a0 (x4_1 ++ [(⟨t524, t525, t526⟩ : S42)]) t520 (wrap64 (x6_1 + 1))) else (none)) else (some ((([] : List (S42))), false))) = some (r1, r2) := H; have A13 := kp A130; clear A130
        by_cases c14 : t527 = true
        ·subst c14; have H1 : (if x4_1.length < 5864062014805 then (spec_ParseRows.l0 kj5 a0 (x4_1 ++ [(⟨t524, t525, t526⟩ : S42)]) t520 (wrap64 (x6_1 + 1))) else (none)) = some (r1, r2) := by rw [if_pos rfl] at H; exact H
         clear H; have H := H1; clear H1
         by_cases c15 : x4_1.length < 5864062014805
         ·rw [if_pos c15] at H; have LMc15 := kp c15; clear c15; obtain ⟨y529, hy529⟩ : ∃ y_ : List (S42), y_ = (x4_1 ++ [(⟨t524, t525, t526⟩ : S42)]) := ⟨_, rfl⟩; replace H : (spec_ParseRows.l0 kj5 a0 y529 t520 (wrap64 (x6_1 + 1))) = some (r1, r2) := by first | (rw [hy529]; with_reducible exact H) | (have H2_ := (Option.bind_some _ _).symm.trans H; rw [hy529]; with_reducible exact H2_) | (have H2_ := (Option.bind_some _ _).symm.trans H; with_reducible exact H2_) | with_reducible exact H | (rw [hy529]; exact H) | exact H
          have Ny529 := kp hy529; clear hy529; have H' := kp H; clear H; obtain ⟨Ao16, co16, eo16⟩ := Kd.R_slice HO_5.out; subst eo16; have p523 : 0 ≤ (x6_1 : Int) := dt; have q523 : x6_1 < (t520.length : Int) := dt; obtain ⟨ad523, e523, hx523_0⟩ := Kd.at_string (Kd.R_reads' HO_5.out).2.2 x6_1 p523 q523; cases e523; replace p523 := eq_true p523; replace q523 := eq_true q523
          go_wp2_with (first | ((with_reducible refine gate_callee (f := 87) rfl ?_); refine gl_ 27 Try.func87 #[.string (rdOf ByteArray.empty t520 x6_1)] ?_; (with_reducible refine (spec_ParseRow.calls kj5 (rdOf ByteArray.empty t520 x6_1) t524 t525 t526 true _ A13.out).mono ?_); rintro e w17 ⟨rfl, hb⟩; refine ⟨_, rfl, ?_⟩; replace HO_4 := kp (Kd.R_below (by (with_reducible repeat (first | apply rA | apply rN | apply rD)); exact HO_4.out) hb); replace HO_5 := kp (Kd.R_below (by (with_reducible repeat (first | apply rA | apply rN | apply rD)); exact HO_5.out) hb); replace HB := kp (below_step bb hb); (try clear hb)) | ((with_reducible refine gate_dst (N := 7) rfl ?_); refine bx_ 7 #[.int .i64 0, .int .i64 0, .int .i64 0] 42 ?_; intro gb528 hg w18 hbox hb; replace HO_4 := kp (Kd.R_below (Kd.R_elderB (by (with_reducible repeat (first | apply rA | apply rN | apply rD)); exact HO_4.out) gb528 (Nat.le_of_eq hg.symm)) hb); replace HO_5 := kp (Kd.R_below (by (with_reducible repeat (first | apply rA | apply rN | apply rD)); exact HO_5.out) hb); have BK528 := kp (hbox); have GW528 := kp (bs hg); have GE528 := kp (bs hg); replace HB := kp (below_step bb hb); clear hb hbox hg; obtain ⟨hcz19_0, hcz19_1, hcz19_2, hfz19_0, hfz19_1, hfz19_2⟩ := bf3 BK528.out) | ((with_reducible refine gate_builtin (b := .append) (xs := #[.tmp 33, .tmp 35]) rfl ?_); at_builtin; refine Kd.R_append k42 (w0 := w) w.heap.size rfl (.tmp 33) (.tmp 35) 26 42 (.agg #[(.int .i64 0), (.int .i64 0), (.int .i64 0)]) 24 rfl Try.underlying26 info42 rfl (by decide) (by omega) u4 x4_1 (⟨t524, t525, t526⟩ : S42) [.int .i64 t524, .int .i64 t525, .int .i64 t526] (fun k_ => k_ ≠ gb528) (fun _ => False) rfl (by first | (go_simp; done) | (go_simp; rfl)) ?aP (fun _ hk => hk.elim) ?aF ?aO ?aB ?aS ?aL ?_; (case aP => exact k42_mkM _ _ _ (⟨t524, t525, t526⟩ : S42)); (case aB => exact bb); (case aF => exact (fun k_ hk => Kd.freshB (g := gb528) (o := .cells #[.int .i64 t524, .int .i64 t525, .int .i64 t526] 42 (0, 0)) (by refine blk_put (cs := #[.int .i64 t524, .int .i64 t525, .int .i64 0]) ?_ 2 _ rfl; refine blk_put (cs := #[.int .i64 t524, .int .i64 0, .int .i64 0]) ?_ 1 _ rfl; refine blk_put (cs := #[.int .i64 0, .int .i64 0, .int .i64 0]) ?_ 0 _ rfl; (with_reducible repeat (first | apply bN | apply bD | apply bA)); exact BK528.out) k_ hk)); (case aO => exact (by (with_reducible repeat (first | apply rA | apply rN | apply rD)); exact Kd.R_mono (Kd.R_far (p := ⟨gb528, 2, none⟩) (Kd.R_far (p := ⟨gb528, 1, none⟩) (Kd.R_far (p := ⟨gb528, 0, none⟩) (Kd.R_mono HO_4.out (fun k_ hk => (⟨hk, hk.2⟩ : _ ∧ k_ ≠ gb528))) (fun _ hk => hk.2) (.int .i64 t524)) (fun _ hk => hk.2) (.int .i64 t525)) (fun _ hk => hk.2) (.int .i64 t526)) (fun _ hk => hk.1.2))); (case aS => exact (below_size bb)); (case aL => have := LMc15.out; omega); intro v530 w20 ho hb hg hat; rw [← Ny529.out] at ho; replace HO_5 := kp (Kd.R_over' (by (with_reducible repeat (first | apply rA | apply rN | apply rD)); exact (Kd.R_mono (Kd.R_far (p := ⟨gb528, 2, none⟩) (Kd.R_far (p := ⟨gb528, 1, none⟩) (Kd.R_far (p := ⟨gb528, 0, none⟩) (Kd.R_types HO_5.out BK528.out (by decide)) (fun _ hk => hk.2) (.int .i64 t524)) (fun _ hk => hk.2) (.int .i64 t525)) (fun _ hk => hk.2) (.int .i64 t526)) (fun _ h_ => h_.1))) (Kd.R_typed (by (with_reducible repeat (first | apply rA | apply rN | apply rD)); exact (Kd.R_mono (Kd.R_far (p := ⟨gb528, 2, none⟩) (Kd.R_far (p := ⟨gb528, 1, none⟩) (Kd.R_far (p := ⟨gb528, 0, none⟩) (Kd.R_mono HO_4.out (fun k_ hk => (⟨hk, hk.2⟩ : _ ∧ k_ ≠ gb528))) (fun _ hk => hk.2) (.int .i64 t524)) (fun _ hk => hk.2) (.int .i64 t525)) (fun _ hk => hk.2) (.int .i64 t526)) (fun _ h_ => h_.1)))) (by decide) hg); replace BK528 := kp (blk_grown (g := gb528) (o := .cells #[.int .i64 t524, .int .i64 t525, .int .i64 t526] 42 (0, 0)) (by refine blk_put (cs := #[.int .i64 t524, .int .i64 t525, .int .i64 0]) ?_ 2 _ rfl; refine blk_put (cs := #[.int .i64 t524, .int .i64 0, .int .i64 0]) ?_ 1 _ rfl; refine blk_put (cs := #[.int .i64 0, .int .i64 0, .int .i64 0]) ?_ 0 _ rfl; (with_reducible repeat (first | apply bN | apply bD | apply bA)); exact BK528.out) hg (Kd.R_away HO_4.out (fun _ hk => hk.2))); replace HB := kp (hb); have HO531 := kp (ho); clear HO_4; clear ho hb hg hat))
          go_roundg kj5
          case measure => have := HK1.out; have := HJ5.out; omega
          case rel => exact ⟨(y529), (wrap64 (x6_1 + 1)), (by first | rfl | (simp; done) | (simp [*]; done)), H', ⟨by have := HK1.out; have := HJ5.out; omega⟩, ⟨by (with_reducible repeat (first | apply rA | apply rN | apply rD)); exact Kd.R_mono HO531.out (fun _ hk => trivial)⟩, ⟨by (with_reducible repeat (first | apply rA | apply rN | apply rD)); exact HO_5.out⟩, ⟨bb⟩⟩
         ·rw [if_neg c15] at H; exact absurd H (by simp)
        ·replace c14 := Bool.eq_false_iff.mpr c14; subst c14; have H1 : (some ((([] : List (S42))), false)) = some (r1, r2) := by rw [if_neg (show ¬ (false = true) by decide)] at H; exact H
         clear H; have H := H1; clear H1; obtain ⟨y532, hy532⟩ : ∃ y_ : List (S42), y_ = (([] : List (S42))) := ⟨_, rfl⟩; replace H : (some (y532, false)) = some (r1, r2) := by first | (rw [hy532]; with_reducible exact H) | (have H2_ := (Option.bind_some _ _).symm.trans H; rw [hy532]; with_reducible exact H2_) | (have H2_ := (Option.bind_some _ _).symm.trans H; with_reducible exact H2_) | with_reducible exact H | (rw [hy532]; exact H) | exact H
         have Ny532 := kp hy532; clear hy532; simp only [Option.some.injEq, Prod.mk.injEq] at H; obtain ⟨rfl, rfl⟩ := H; obtain ⟨Ao21, co21, eo21⟩ := Kd.R_slice HO_5.out; subst eo21; have p523 : 0 ≤ (x6_1 : Int) := dt; have q523 : x6_1 < (t520.length : Int) := dt; obtain ⟨ad523, e523, hx523_0⟩ := Kd.at_string (Kd.R_reads' HO_5.out).2.2 x6_1 p523 q523; cases e523; replace p523 := eq_true p523; replace q523 := eq_true q523
         go_wp2_with (first | ((with_reducible refine gate_callee (f := 87) rfl ?_); refine gl_ 27 Try.func87 #[.string (rdOf ByteArray.empty t520 x6_1)] ?_; (with_reducible refine (spec_ParseRow.calls kj5 (rdOf ByteArray.empty t520 x6_1) t524 t525 t526 false _ A13.out).mono ?_); rintro e w22 ⟨rfl, hb⟩; refine ⟨_, rfl, ?_⟩; replace HO_4 := kp (Kd.R_below (by (with_reducible repeat (first | apply rA | apply rN | apply rD)); exact HO_4.out) hb); replace HO_5 := kp (Kd.R_below (by (with_reducible repeat (first | apply rA | apply rN | apply rD)); exact HO_5.out) hb); replace HB := kp (below_step bb hb); (try clear hb)) | ((with_reducible refine gate_dst (N := 7) rfl ?_); refine bx_ 7 #[.int .i64 0, .int .i64 0, .int .i64 0] 42 ?_; intro gb528 hg w23 hbox hb; replace HO_4 := kp (Kd.R_below (Kd.R_elderB (by (with_reducible repeat (first | apply rA | apply rN | apply rD)); exact HO_4.out) gb528 (Nat.le_of_eq hg.symm)) hb); replace HO_5 := kp (Kd.R_below (by (with_reducible repeat (first | apply rA | apply rN | apply rD)); exact HO_5.out) hb); have BK528 := kp (hbox); have GW528 := kp (bs hg); have GE528 := kp (bs hg); replace HB := kp (below_step bb hb); clear hb hbox hg; obtain ⟨hcz24_0, hcz24_1, hcz24_2, hfz24_0, hfz24_1, hfz24_2⟩ := bf3 BK528.out) | ((with_reducible refine gate_dst (N := 32) rfl ?_); refine Kd.R_lit k42 _ 42 ?hg (N := 32) ?hd (xs := ([] : List (S42))) (inner := []) (ok := fun _ => True) (okp := fun _ => True) ?hr ?hp (fun _ hk => hk) trivial (Below.refl _ _) (Nat.le_refl _) (by simp) ?_; (case hd => rfl); (case hg => rfl); (case hr => first | (go_simp; done) | (go_simp; rfl)); (case hp => exact (Reps.none _ _)); intro v533 w25 ho26 hb hg_ hnew_; clear hg_ hnew_; (first | rw [← Ny532.out] at ho26 | (simp only [Int.reduceToNat] at ho26; rw [← Ny532.out] at ho26)); replace HO_5 := kp (Kd.R_below (by (with_reducible repeat (first | apply rA | apply rN | apply rD)); exact (Kd.R_mono (Kd.R_far (p := ⟨gb528, 2, none⟩) (Kd.R_far (p := ⟨gb528, 1, none⟩) (Kd.R_far (p := ⟨gb528, 0, none⟩) (Kd.R_types HO_5.out BK528.out (by decide)) (fun _ hk => hk.2) (.int .i64 t524)) (fun _ hk => hk.2) (.int .i64 t525)) (fun _ hk => hk.2) (.int .i64 t526)) (fun _ h_ => h_.1))) hb); have HO534 := kp (Kd.R_lower (Kd.R_newB (Kd.R_new' ho26 (Kd.R_lt (by (with_reducible repeat (first | apply rA | apply rN | apply rD)); exact (Kd.R_mono (Kd.R_far (p := ⟨gb528, 2, none⟩) (Kd.R_far (p := ⟨gb528, 1, none⟩) (Kd.R_far (p := ⟨gb528, 0, none⟩) (Kd.R_mono HO_4.out (fun k_ hk => (⟨hk, hk.2⟩ : _ ∧ k_ ≠ gb528))) (fun _ hk => hk.2) (.int .i64 t524)) (fun _ hk => hk.2) (.int .i64 t525)) (fun _ hk => hk.2) (.int .i64 t526)) (fun _ h_ => h_.1))))) (g := gb528) (o := .cells #[.int .i64 t524, .int .i64 t525, .int .i64 t526] 42 (0, 0)) (by refine blk_put (cs := #[.int .i64 t524, .int .i64 t525, .int .i64 0]) ?_ 2 _ rfl; refine blk_put (cs := #[.int .i64 t524, .int .i64 0, .int .i64 0]) ?_ 1 _ rfl; refine blk_put (cs := #[.int .i64 0, .int .i64 0, .int .i64 0]) ?_ 0 _ rfl; (with_reducible repeat (first | apply bN | apply bD | apply bA)); exact BK528.out)) (below_size bb)); replace HO_4 := kp (Kd.R_elder' (by (with_reducible repeat (first | apply rA | apply rN | apply rD)); exact (Kd.R_mono (Kd.R_far (p := ⟨gb528, 2, none⟩) (Kd.R_far (p := ⟨gb528, 1, none⟩) (Kd.R_far (p := ⟨gb528, 0, none⟩) (Kd.R_mono HO_4.out (fun k_ hk => (⟨hk, hk.2⟩ : _ ∧ k_ ≠ gb528))) (fun _ hk => hk.2) (.int .i64 t524)) (fun _ hk => hk.2) (.int .i64 t525)) (fun _ hk => hk.2) (.int .i64 t526)) (fun _ h_ => h_.1))) (Kd.R_base ho26) hb); replace BK528 := kp (blk_below (g := gb528) (o := .cells #[.int .i64 t524, .int .i64 t525, .int .i64 t526] 42 (0, 0)) (by refine blk_put (cs := #[.int .i64 t524, .int .i64 t525, .int .i64 0]) ?_ 2 _ rfl; refine blk_put (cs := #[.int .i64 t524, .int .i64 0, .int .i64 0]) ?_ 1 _ rfl; refine blk_put (cs := #[.int .i64 0, .int .i64 0, .int .i64 0]) ?_ 0 _ rfl; (with_reducible repeat (first | apply bN | apply bD | apply bA)); exact BK528.out) hb); replace HB := kp (below_step bb hb); clear hb ho26))
         go_ret2
         exact ⟨_, er, by (with_reducible repeat (first | apply rA | apply rN | apply rD)); exact Kd.R_mono HO534.out (fun _ hk => trivial), bb⟩
       ·rw [if_neg c12] at H; exact absurd H (by simp)
      ·rw [if_neg c11] at H; exact absurd H (by simp)
     ·replace c10 := Bool.eq_false_iff.mpr c10; subst c10; have H1 : ((spec_AreValidRows.f kj5 x4_1).bind fun t535 => (if t535 = true then (some (x4_1, true)) else (some ((([] : List (S42))), false)))) = some (r1, r2) := by rw [if_neg (show ¬ (false = true) by decide)] at H; exact H
      clear H; have H := H1; clear H1; replace H := Option.bind_eq_some_iff.mp H; obtain ⟨t535, A270, H⟩ := H; replace H : (if t535 = true then (some (x4_1, true)) else (some ((([] : List (S42))), false))) = some (r1, r2) := H; have A27 := kp A270; clear A270
      by_cases c28 : t535 = true
      ·subst c28; have H1 : (some (x4_1, true)) = some (r1, r2) := by rw [if_pos rfl] at H; exact H
       clear H; have H := H1; clear H1; simp only [Option.some.injEq, Prod.mk.injEq] at H; obtain ⟨rfl, rfl⟩ := H; obtain ⟨Ao29, co29, eo29⟩ := Kd.R_slice HO_4.out; subst eo29
       go_wp2_with (first | ((with_reducible refine gate_callee (f := 17) rfl ?_); refine gl_ 38 Try.func17 #[.slice Ao29 x4_1.length co29] ?_; (with_reducible refine (spec_AreValidRows.calls kj5 _ _ x4_1 true _ ?side1 ?side2 A27.out).mono ?_); (case side1 => repeat (first | exact (Kd.R_reads' HO_4.out).2.2 | (with_reducible refine Kd.C_alloc ?_ _) | (with_reducible refine Kd.C_drewN ?_ _) | (with_reducible refine Kd.C_drew ?_))); (case side2 => exact (Kd.R_reads' HO_4.out).2.1); rintro e w30 ⟨rfl, hb⟩; refine ⟨_, rfl, ?_⟩; replace HO_4 := kp (Kd.R_below (by (with_reducible repeat (first | apply rA | apply rN | apply rD)); exact HO_4.out) hb); replace HO_5 := kp (Kd.R_below (by (with_reducible repeat (first | apply rA | apply rN | apply rD)); exact HO_5.out) hb); replace HB := kp (below_step bb hb); (try clear hb)))
       go_ret2
       exact ⟨_, er, by (with_reducible repeat (first | apply rA | apply rN | apply rD)); exact HO_4.out, bb⟩
      ·replace c28 := Bool.eq_false_iff.mpr c28; subst c28; have H1 : (some ((([] : List (S42))), false)) = some (r1, r2) := by rw [if_neg (show ¬ (false = true) by decide)] at H; exact H
       clear H; have H := H1; clear H1; obtain ⟨y536, hy536⟩ : ∃ y_ : List (S42), y_ = (([] : List (S42))) := ⟨_, rfl⟩; replace H : (some (y536, false)) = some (r1, r2) := by first | (rw [hy536]; with_reducible exact H) | (have H2_ := (Option.bind_some _ _).symm.trans H; rw [hy536]; with_reducible exact H2_) | (have H2_ := (Option.bind_some _ _).symm.trans H; with_reducible exact H2_) | with_reducible exact H | (rw [hy536]; exact H) | exact H
       have Ny536 := kp hy536; clear hy536; simp only [Option.some.injEq, Prod.mk.injEq] at H; obtain ⟨rfl, rfl⟩ := H; obtain ⟨Ao31, co31, eo31⟩ := Kd.R_slice HO_4.out; subst eo31
       go_wp2_with (first | ((with_reducible refine gate_callee (f := 17) rfl ?_); refine gl_ 38 Try.func17 #[.slice Ao31 x4_1.length co31] ?_; (with_reducible refine (spec_AreValidRows.calls kj5 _ _ x4_1 false _ ?side1 ?side2 A27.out).mono ?_); (case side1 => repeat (first | exact (Kd.R_reads' HO_4.out).2.2 | (with_reducible refine Kd.C_alloc ?_ _) | (with_reducible refine Kd.C_drewN ?_ _) | (with_reducible refine Kd.C_drew ?_))); (case side2 => exact (Kd.R_reads' HO_4.out).2.1); rintro e w32 ⟨rfl, hb⟩; refine ⟨_, rfl, ?_⟩; replace HO_4 := kp (Kd.R_below (by (with_reducible repeat (first | apply rA | apply rN | apply rD)); exact HO_4.out) hb); replace HO_5 := kp (Kd.R_below (by (with_reducible repeat (first | apply rA | apply rN | apply rD)); exact HO_5.out) hb); replace HB := kp (below_step bb hb); (try clear hb)) | ((with_reducible refine gate_dst (N := 40) rfl ?_); refine Kd.R_lit k42 _ 42 ?hg (N := 40) ?hd (xs := ([] : List (S42))) (inner := []) (ok := fun _ => True) (okp := fun _ => True) ?hr ?hp (fun _ hk => hk) trivial (Below.refl _ _) (Nat.le_refl _) (by simp) ?_; (case hd => rfl); (case hg => rfl); (case hr => first | (go_simp; done) | (go_simp; rfl)); (case hp => exact (Reps.none _ _)); intro v537 w33 ho34 hb hg_ hnew_; clear hg_ hnew_; (first | rw [← Ny536.out] at ho34 | (simp only [Int.reduceToNat] at ho34; rw [← Ny536.out] at ho34)); replace HO_5 := kp (Kd.R_below (by (with_reducible repeat (first | apply rA | apply rN | apply rD)); exact HO_5.out) hb); have HO538 := kp (Kd.R_lower (Kd.R_new' ho34 (Kd.R_lt (by (with_reducible repeat (first | apply rA | apply rN | apply rD)); exact HO_4.out))) (below_size bb)); replace HO_4 := kp (Kd.R_elder' (by (with_reducible repeat (first | apply rA | apply rN | apply rD)); exact HO_4.out) (Kd.R_base ho34) hb); replace HB := kp (below_step bb hb); clear hb ho34))
       go_ret2
       exact ⟨_, er, by (with_reducible repeat (first | apply rA | apply rN | apply rD)); exact Kd.R_mono HO538.out (fun _ hk => trivial), bb⟩
end Go.Proofs.Ytljpfogplcdcjaa.PFnPagePacking
