/- Out of a copy of the print, with function values told: nothing is claimed here. -/
import Derived.Test.YtinniedbgfgclaaVQFnExactReadFilex0
import Derived.Test.YtinniedbgfgclaaVQFnExactReadFilex10
import Derived.Test.YtinniedbgfgclaaVShort
import Derived.Test.YtinniedbgfgclaaVPress
namespace Go.Proofs.Ytinniedbgfgclaa.PFnExactReadFile
open Go.RowKit Go.Proofs.YtinniedbgfgclaaW.PrintWords Go.Proofs.YtinniedbgfgclaaW.PrintLast Go.Proofs.YtinniedbgfgclaaW.PrintMore Go.Proofs.Ytinniedbgfgclaa.Short Go.Proofs.Ytinniedbgfgclaa.Press
attribute [local go_sem] max2_int min2_int max_two min_two max_three min_three max_four min_four   -- for this text's walks alone
set_option linter.unusedVariables false
set_option linter.unusedSimpArgs false
/-! ### spec_FormatRow: function 107 -/
def spec_FormatRow.f (k : Nat) (a0_0 : Int) (a0_1 : Int) (a0_2 : Int) : Option (ByteArray) := (spec_IsValidRow.f a0_0 a0_1 a0_2).bind fun t293 => (if t293 = true then ((spec_FormatInt.f k a0_0).bind fun t294 => (if t294.size + 1 ≤ 9223372036854775807 then ((spec_FormatInt.f k a0_1).bind fun t295 => (if (t294 ++ (⟨#[46]⟩ : ByteArray)).size + t295.size ≤ 9223372036854775807 then (if ((t294 ++ (⟨#[46]⟩ : ByteArray)) ++ t295).size + 1 ≤ 9223372036854775807 then ((spec_FormatInt.f k a0_2).bind fun t296 => (if (((t294 ++ (⟨#[46]⟩ : ByteArray)) ++ t295) ++ (⟨#[46]⟩ : ByteArray)).size + t296.size ≤ 9223372036854775807 then (some ((((t294 ++ (⟨#[46]⟩ : ByteArray)) ++ t295) ++ (⟨#[46]⟩ : ByteArray)) ++ t296)) else (none))) else (none)) else (none))) else (none))) else (some (⟨#[]⟩ : ByteArray)))
def spec_FormatRow.T3 : Bool × List (List Nat × List Nat) := (true, [([], []), ([0], [0]), ([1], [1]), ([2], [2]), ([], []), ([4], [4]), ([5, 2], [5]), ([3, 6], [3, 6]), ([7], [7]), ([], []), ([9], [9]), ([10, 6], [10]), ([8, 11], [8, 11]), ([12, 11, 0, 1, 2, 3, 4, 5, 6, 7, 8, 9, 10, 11, 12], [12])])
def spec_FormatRow.B3 : List Nat := [0, 1, 3, 7, 0, 16, 55, 127, 255, 0, 512, 1655, 4095, 8191]
theorem spec_FormatRow.tab3 : rtab .any (opsOf Try.f107 3) = spec_FormatRow.T3 := by kernel_rfl
theorem spec_FormatRow.bits3 : waitsOk spec_FormatRow.T3.2 spec_FormatRow.B3 = true := by kernel_rfl
set_option maxHeartbeats 8000000 in
set_option maxRecDepth 100000 in
theorem spec_FormatRow.calls (k : Nat) (a0_0 : Int) (a0_1 : Int) (a0_2 : Int) (r : ByteArray) (w : World) (h : spec_FormatRow.f k a0_0 a0_1 a0_2 = some r) :
  Calls Try.prog 107 #[.agg #[.int .i64 a0_0, .int .i64 a0_1, .int .i64 a0_2]] w fun e w' => e = .returned (.string r) ∧ Below w.heap.size w w' := by
 have hu95 := Try.underlying95
 have HB := kp (Below.refl w.heap.size w)
 have H : ((spec_IsValidRow.f a0_0 a0_1 a0_2).bind fun t293 => (if t293 = true then ((spec_FormatInt.f k a0_0).bind fun t294 => (if t294.size + 1 ≤ 9223372036854775807 then ((spec_FormatInt.f k a0_1).bind fun t295 => (if (t294 ++ (⟨#[46]⟩ : ByteArray)).size + t295.size ≤ 9223372036854775807 then (if ((t294 ++ (⟨#[46]⟩ : ByteArray)) ++ t295).size + 1 ≤ 9223372036854775807 then ((spec_FormatInt.f k a0_2).bind fun t296 => (if (((t294 ++ (⟨#[46]⟩ : ByteArray)) ++ t295) ++ (⟨#[46]⟩ : ByteArray)).size + t296.size ≤ 9223372036854775807 then (some ((((t294 ++ (⟨#[46]⟩ : ByteArray)) ++ t295) ++ (⟨#[46]⟩ : ByteArray)) ++ t296)) else (none))) else (none)) else (none))) else (none))) else (some (⟨#[]⟩ : ByteArray)))) = some r := h
 clear h
 replace H := Option.bind_eq_some_iff.mp H
 obtain ⟨t293, A20, H⟩ := H
 replace H : (if t293 = true then ((spec_FormatInt.f k a0_0).bind fun t294 => (if t294.size + 1 ≤ 9223372036854775807 then ((spec_FormatInt.f k a0_1).bind fun t295 => (if (t294 ++ (⟨#[46]⟩ : ByteArray)).size + t295.size ≤ 9223372036854775807 then (if ((t294 ++ (⟨#[46]⟩ : ByteArray)) ++ t295).size + 1 ≤ 9223372036854775807 then ((spec_FormatInt.f k a0_2).bind fun t296 => (if (((t294 ++ (⟨#[46]⟩ : ByteArray)) ++ t295) ++ (⟨#[46]⟩ : ByteArray)).size + t296.size ≤ 9223372036854775807 then (some ((((t294 ++ (⟨#[46]⟩ : ByteArray)) ++ t295) ++ (⟨#[46]⟩ : ByteArray)) ++ t296)) else (none))) else (none)) else (none))) else (none))) else (some (⟨#[]⟩ : ByteArray))) = some r := H
 have A2 := kp A20
 clear A20
 by_cases c3 : t293 = true
 ·subst c3; have H1 : ((spec_FormatInt.f k a0_0).bind fun t294 => (if t294.size + 1 ≤ 9223372036854775807 then ((spec_FormatInt.f k a0_1).bind fun t295 => (if (t294 ++ (⟨#[46]⟩ : ByteArray)).size + t295.size ≤ 9223372036854775807 then (if ((t294 ++ (⟨#[46]⟩ : ByteArray)) ++ t295).size + 1 ≤ 9223372036854775807 then ((spec_FormatInt.f k a0_2).bind fun t296 => (if (((t294 ++ (⟨#[46]⟩ : ByteArray)) ++ t295) ++ (⟨#[46]⟩ : ByteArray)).size + t296.size ≤ 9223372036854775807 then (some ((((t294 ++ (⟨#[46]⟩ : ByteArray)) ++ t295) ++ (⟨#[46]⟩ : ByteArray)) ++ t296)) else (none))) else (none)) else (none))) else (none))) = some r := by rw [if_pos rfl] at H; exact H
  clear H; have H := H1; clear H1; replace H := Option.bind_eq_some_iff.mp H; obtain ⟨t294, A40, H⟩ := H; replace H : (if t294.size + 1 ≤ 9223372036854775807 then ((spec_FormatInt.f k a0_1).bind fun t295 => (if (t294 ++ (⟨#[46]⟩ : ByteArray)).size + t295.size ≤ 9223372036854775807 then (if ((t294 ++ (⟨#[46]⟩ : ByteArray)) ++ t295).size + 1 ≤ 9223372036854775807 then ((spec_FormatInt.f k a0_2).bind fun t296 => (if (((t294 ++ (⟨#[46]⟩ : ByteArray)) ++ t295) ++ (⟨#[46]⟩ : ByteArray)).size + t296.size ≤ 9223372036854775807 then (some ((((t294 ++ (⟨#[46]⟩ : ByteArray)) ++ t295) ++ (⟨#[46]⟩ : ByteArray)) ++ t296)) else (none))) else (none)) else (none))) else (none)) = some r := H; have A4 := kp A40; clear A40
  by_cases c5 : t294.size + 1 ≤ 9223372036854775807
  ·rw [if_pos c5] at H; have c5b0 := eq_true c5; have c5b1 : decide (t294.size + 1 ≤ 9223372036854775807) = true := decide_eq_true c5
   try have c5b2 : (9223372036854775807 < t294.size + 1) = False := eq_false (Nat.not_lt.2 c5)
   replace H := Option.bind_eq_some_iff.mp H; obtain ⟨t295, A60, H⟩ := H; replace H : (if (t294 ++ (⟨#[46]⟩ : ByteArray)).size + t295.size ≤ 9223372036854775807 then (if ((t294 ++ (⟨#[46]⟩ : ByteArray)) ++ t295).size + 1 ≤ 9223372036854775807 then ((spec_FormatInt.f k a0_2).bind fun t296 => (if (((t294 ++ (⟨#[46]⟩ : ByteArray)) ++ t295) ++ (⟨#[46]⟩ : ByteArray)).size + t296.size ≤ 9223372036854775807 then (some ((((t294 ++ (⟨#[46]⟩ : ByteArray)) ++ t295) ++ (⟨#[46]⟩ : ByteArray)) ++ t296)) else (none))) else (none)) else (none)) = some r := H; have A6 := kp A60; clear A60
   by_cases c7 : (t294 ++ (⟨#[46]⟩ : ByteArray)).size + t295.size ≤ 9223372036854775807
   ·rw [if_pos c7] at H; have c7b0 := eq_true c7; have c7b1 : decide ((t294 ++ (⟨#[46]⟩ : ByteArray)).size + t295.size ≤ 9223372036854775807) = true := decide_eq_true c7
    try have c7b2 : (9223372036854775807 < (t294 ++ (⟨#[46]⟩ : ByteArray)).size + t295.size) = False := eq_false (Nat.not_lt.2 c7)
    have c7b3 : (9223372036854775807 < t294.size + 1 + t295.size) = False := eq_false (by have h_ := c7; have e_ : (⟨#[46]⟩ : ByteArray).size = 1 := rfl; have e2_ : (⟨#[32]⟩ : ByteArray).size = 1 := rfl; have e3_ : (⟨#[91]⟩ : ByteArray).size = 1 := rfl; have e4_ : (⟨#[93]⟩ : ByteArray).size = 1 := rfl; simp only [ByteArray.size_append] at h_; omega)
    by_cases c8 : ((t294 ++ (⟨#[46]⟩ : ByteArray)) ++ t295).size + 1 ≤ 9223372036854775807
    ·rw [if_pos c8] at H; have c8b0 := eq_true c8; have c8b1 : decide (((t294 ++ (⟨#[46]⟩ : ByteArray)) ++ t295).size + 1 ≤ 9223372036854775807) = true := decide_eq_true c8
     try have c8b2 : (9223372036854775807 < ((t294 ++ (⟨#[46]⟩ : ByteArray)) ++ t295).size + 1) = False := eq_false (Nat.not_lt.2 c8)
     have c8b3 : (9223372036854775807 < t294.size + 1 + t295.size + 1) = False := eq_false (by have h_ := c8; have e_ : (⟨#[46]⟩ : ByteArray).size = 1 := rfl; have e2_ : (⟨#[32]⟩ : ByteArray).size = 1 := rfl; have e3_ : (⟨#[91]⟩ : ByteArray).size = 1 := rfl; have e4_ : (⟨#[93]⟩ : ByteArray).size = 1 := rfl; simp only [ByteArray.size_append] at h_; omega); replace H := Option.bind_eq_some_iff.mp H; obtain ⟨t296, A90, H⟩ := H; replace H : (if (((t294 ++ (⟨#[46]⟩ : ByteArray)) ++ t295) ++ (⟨#[46]⟩ : ByteArray)).size + t296.size ≤ 9223372036854775807 then (some ((((t294 ++ (⟨#[46]⟩ : ByteArray)) ++ t295) ++ (⟨#[46]⟩ : ByteArray)) ++ t296)) else (none)) = some r := H; have A9 := kp A90; clear A90
     by_cases c10 : (((t294 ++ (⟨#[46]⟩ : ByteArray)) ++ t295) ++ (⟨#[46]⟩ : ByteArray)).size + t296.size ≤ 9223372036854775807
     ·rw [if_pos c10] at H; have c10b0 := eq_true c10; have c10b1 : decide ((((t294 ++ (⟨#[46]⟩ : ByteArray)) ++ t295) ++ (⟨#[46]⟩ : ByteArray)).size + t296.size ≤ 9223372036854775807) = true := decide_eq_true c10
      try have c10b2 : (9223372036854775807 < (((t294 ++ (⟨#[46]⟩ : ByteArray)) ++ t295) ++ (⟨#[46]⟩ : ByteArray)).size + t296.size) = False := eq_false (Nat.not_lt.2 c10)
      have c10b3 : (9223372036854775807 < t294.size + 1 + t295.size + 1 + t296.size) = False := eq_false (by have h_ := c10; have e_ : (⟨#[46]⟩ : ByteArray).size = 1 := rfl; have e2_ : (⟨#[32]⟩ : ByteArray).size = 1 := rfl; have e3_ : (⟨#[91]⟩ : ByteArray).size = 1 := rfl; have e4_ : (⟨#[93]⟩ : ByteArray).size = 1 := rfl; simp only [ByteArray.size_append] at h_; omega); obtain rfl := Option.some.inj H
      go_enter Try.func107, Try.ntmps107
      try go_wp2_with (first | ((with_reducible refine gate_dst (N := 1) rfl ?_); refine bx_ 1 #[.int .i64 a0_0, .int .i64 a0_1, .int .i64 a0_2] 95 ?_; intro gb292 hg w11 hbox hb; have n0_ := kp (below_step (by with_reducible repeat (first | exact HB.out | apply cA | apply cN | apply cD)) hb); have n1_ := kp (hbox); have n2_ := kp ((by rw [hg]; exact (below_size (by with_reducible repeat (first | exact HB.out | apply cA | apply cN | apply cD))) : w.heap.size ≤ gb292)); have n3_ := kp ((by rw [hg]; exact (below_size (by with_reducible repeat (first | exact HB.out | apply cA | apply cN | apply cD))) : w.heap.size ≤ gb292)); clear HB; have HB := n0_; have BK292 := n1_; have GW292 := n2_; have GE292 := n3_; clear n0_ n1_ n2_ n3_; clear hb hbox hg; have hcz12_0 : w11.cell? ⟨gb292, 0, none⟩ = some (.int .i64 a0_0) := (blk_cell BK292.out 0).trans rfl; have hcz12_1 : w11.cell? ⟨gb292, 1, none⟩ = some (.int .i64 a0_1) := (blk_cell BK292.out 1).trans rfl; have hcz12_2 : w11.cell? ⟨gb292, 2, none⟩ = some (.int .i64 a0_2) := (blk_cell BK292.out 2).trans rfl; have hfz12_0 := blk_frozen BK292.out 0; have hfz12_1 := blk_frozen BK292.out 1; have hfz12_2 := blk_frozen BK292.out 2) | ((with_reducible refine gate_callee (f := 118) rfl ?_); refine gl_ 4 Try.func118 #[.agg #[.int .i64 a0_0, .int .i64 a0_1, .int .i64 a0_2]] ?_; (with_reducible refine (spec_IsValidRow.calls a0_0 a0_1 a0_2 true _ A2.out).mono ?_); rintro e w13 ⟨rfl, hb⟩; refine ⟨_, rfl, ?_⟩; have n0_ := kp (blk_below (g := gb292) (o := .cells #[.int .i64 a0_0, .int .i64 a0_1, .int .i64 a0_2] 95 (0, 0)) (by (with_reducible repeat (first | apply bN | apply bD | apply bA)); exact BK292.out) hb); have n1_ := kp (below_step (by with_reducible repeat (first | exact HB.out | apply cA | apply cN | apply cD | refine below_set ?_ GE292.out)) hb); clear BK292; clear HB; have BK292 := n0_; have HB := n1_; clear n0_ n1_; (try clear hb)))
      have n0_ := kp (blk_drew BK292.out); have n1_ := kp (below_drew1 HB.out); clear BK292; clear HB; have BK292 := n0_; have HB := n1_; clear n0_ n1_
      refine start_ (n := 14) (S := fun w' => w'.cell? ⟨gb292, 0, none⟩ = some (.int .i64 a0_0) ∧ w'.cell? ⟨gb292, 1, none⟩ = some (.int .i64 a0_1) ∧ w'.cell? ⟨gb292, 2, none⟩ = some (.int .i64 a0_2)) (ds := []) #[false, false, false, false, false, false, false, false, false, false, false, false, false, false] (by kernel_rfl) rfl rfl ⟨(blk_cell BK292.out 0).trans rfl, (blk_cell BK292.out 1).trans rfl, (blk_cell BK292.out 2).trans rfl⟩ (fun hHeld => ?_); refine with_tabW spec_FormatRow.tab3 spec_FormatRow.bits3 (fun HT_ HW_ => ?_)
      generalize w13.drew = w14 at BK292 HB hHeld ⊢; refine pu_ 0 (some 6) HT_ (h := ?_); refine pu_ 4 (some 10) HT_ (h := ?_); refine pu_ 9 (some 15) HT_ (h := ?_); refine ta_ 1 (some 7) HT_ HW_ hHeld (h := ?_); refine ta_ 5 (some 11) HT_ HW_ hHeld (h := ?_); refine ta_ 10 (some 16) HT_ HW_ hHeld (h := ?_); refine on_ 2 (some 8) HT_ (fun K hK => ?_); refine gs_ Try.func120 #[.int .i64 a0_0] ?_; with_reducible refine (spec_FormatInt.calls k a0_0 t294 _ A4.out).mono ?_
      rintro e w15 ⟨rfl, hb⟩; refine ⟨_, rfl, ?_⟩; have n0_ := kp (blk_below (g := gb292) (o := .cells #[.int .i64 a0_0, .int .i64 a0_1, .int .i64 a0_2] 95 (0, 0)) (by (with_reducible repeat (first | apply bN | apply bD | apply bA)); exact BK292.out) hb); have n1_ := kp (below_step (by with_reducible repeat (first | exact HB.out | apply cA | apply cN | apply cD | refine below_set ?_ GE292.out)) hb); clear BK292; clear HB; have BK292 := n0_; have HB := n1_; clear n0_ n1_; (try clear hb); (try clear hk); refine hK.out _ _ ⟨(blk_cell BK292.out 0).trans rfl, (blk_cell BK292.out 1).trans rfl, (blk_cell BK292.out 2).trans rfl⟩ (fun hHeld => ?_); clear hK K; refine nm_ (some 8) ?_; refine pu_ 3 (some 9) HT_ (h := ?_); refine on_ 6 (some 12) HT_ (fun K hK => ?_); refine gs_ Try.func120 #[.int .i64 a0_1] ?_; with_reducible refine (spec_FormatInt.calls k a0_1 t295 _ A6.out).mono ?_
      rintro e w16 ⟨rfl, hb⟩; refine ⟨_, rfl, ?_⟩; have n0_ := kp (blk_below (g := gb292) (o := .cells #[.int .i64 a0_0, .int .i64 a0_1, .int .i64 a0_2] 95 (0, 0)) (by (with_reducible repeat (first | apply bN | apply bD | apply bA)); exact BK292.out) hb); have n1_ := kp (below_step (by with_reducible repeat (first | exact HB.out | apply cA | apply cN | apply cD | refine below_set ?_ GE292.out)) hb); clear BK292; clear HB; have BK292 := n0_; have HB := n1_; clear n0_ n1_; (try clear hb); (try clear hk); refine hK.out _ _ ⟨(blk_cell BK292.out 0).trans rfl, (blk_cell BK292.out 1).trans rfl, (blk_cell BK292.out 2).trans rfl⟩ (fun hHeld => ?_); clear hK K; refine nm_ (some 12) ?_; refine pu_ 7 (some 13) HT_ (h := ?_); refine pu_ 8 (some 14) HT_ (h := ?_); refine on_ 11 (some 17) HT_ (fun K hK => ?_); refine gs_ Try.func120 #[.int .i64 a0_2] ?_; with_reducible refine (spec_FormatInt.calls k a0_2 t296 _ A9.out).mono ?_
      rintro e w17 ⟨rfl, hb⟩; refine ⟨_, rfl, ?_⟩; have n0_ := kp (blk_below (g := gb292) (o := .cells #[.int .i64 a0_0, .int .i64 a0_1, .int .i64 a0_2] 95 (0, 0)) (by (with_reducible repeat (first | apply bN | apply bD | apply bA)); exact BK292.out) hb); have n1_ := kp (below_step (by with_reducible repeat (first | exact HB.out | apply cA | apply cN | apply cD | refine below_set ?_ GE292.out)) hb); clear BK292; clear HB; have BK292 := n0_; have HB := n1_; clear n0_ n1_; (try clear hb); (try clear hk); refine hK.out _ _ ⟨(blk_cell BK292.out 0).trans rfl, (blk_cell BK292.out 1).trans rfl, (blk_cell BK292.out 2).trans rfl⟩ (fun hHeld => ?_); clear hK K; refine nm_ (some 17) ?_; refine pu_ 12 (some 18) HT_ (h := ?_); refine pu_ 13 (some 2) HT_ (h := ?_); refine done_ (done_of HT_.out (by kernel_rfl)) ?_
      try go_wp2
      go_ret; exact ⟨er, by with_reducible repeat (first | exact HB.out | apply cA | apply cN | apply cD | refine below_set ?_ GE292.out)⟩
     ·rw [if_neg c10] at H; exact absurd H (by simp)
    ·rw [if_neg c8] at H; exact absurd H (by simp)
   ·rw [if_neg c7] at H; exact absurd H (by simp)
  ·rw [if_neg c5] at H; exact absurd H (by simp)
 ·replace c3 := Bool.eq_false_iff.mpr c3; subst c3; have H1 : (some (⟨#[]⟩ : ByteArray)) = some r := by rw [if_neg (show ¬ (false = true) by decide)] at H; exact H
  clear H; have H := H1; clear H1; obtain rfl := Option.some.inj H
  go_enter Try.func107, Try.ntmps107
  go_wp2_with (first | ((with_reducible refine gate_dst (N := 1) rfl ?_); refine bx_ 1 #[.int .i64 a0_0, .int .i64 a0_1, .int .i64 a0_2] 95 ?_; intro gb292 hg w18 hbox hb; have n0_ := kp (below_step (by with_reducible repeat (first | exact HB.out | apply cA | apply cN | apply cD)) hb); have n1_ := kp (hbox); have n2_ := kp ((by rw [hg]; exact (below_size (by with_reducible repeat (first | exact HB.out | apply cA | apply cN | apply cD))) : w.heap.size ≤ gb292)); have n3_ := kp ((by rw [hg]; exact (below_size (by with_reducible repeat (first | exact HB.out | apply cA | apply cN | apply cD))) : w.heap.size ≤ gb292)); clear HB; have HB := n0_; have BK292 := n1_; have GW292 := n2_; have GE292 := n3_; clear n0_ n1_ n2_ n3_; clear hb hbox hg; have hcz19_0 : w18.cell? ⟨gb292, 0, none⟩ = some (.int .i64 a0_0) := (blk_cell BK292.out 0).trans rfl; have hcz19_1 : w18.cell? ⟨gb292, 1, none⟩ = some (.int .i64 a0_1) := (blk_cell BK292.out 1).trans rfl; have hcz19_2 : w18.cell? ⟨gb292, 2, none⟩ = some (.int .i64 a0_2) := (blk_cell BK292.out 2).trans rfl; have hfz19_0 := blk_frozen BK292.out 0; have hfz19_1 := blk_frozen BK292.out 1; have hfz19_2 := blk_frozen BK292.out 2) | ((with_reducible refine gate_callee (f := 118) rfl ?_); refine gl_ 4 Try.func118 #[.agg #[.int .i64 a0_0, .int .i64 a0_1, .int .i64 a0_2]] ?_; (with_reducible refine (spec_IsValidRow.calls a0_0 a0_1 a0_2 false _ A2.out).mono ?_); rintro e w20 ⟨rfl, hb⟩; refine ⟨_, rfl, ?_⟩; have n0_ := kp (blk_below (g := gb292) (o := .cells #[.int .i64 a0_0, .int .i64 a0_1, .int .i64 a0_2] 95 (0, 0)) (by (with_reducible repeat (first | apply bN | apply bD | apply bA)); exact BK292.out) hb); have n1_ := kp (below_step (by with_reducible repeat (first | exact HB.out | apply cA | apply cN | apply cD | refine below_set ?_ GE292.out)) hb); clear BK292; clear HB; have BK292 := n0_; have HB := n1_; clear n0_ n1_; (try clear hb)))
  go_ret; exact ⟨er, by with_reducible repeat (first | exact HB.out | apply cA | apply cN | apply cD | refine below_set ?_ GE292.out)⟩
/-! ### spec_FormatRows: function 86 -/
mutual
def spec_FormatRows.l0 : Nat → List (S95) → ByteArray → Int → Option (ByteArray)
 | 0, _, _, _ => none
 | k + 1, x0, x3, x4 => if x4 < (x0.length : Int) then ((spec_AreValidRows.f k x0).bind fun t297 => (spec_FormatRows.j1 k x0 x3 x4 t297)) else (spec_FormatRows.j1 k x0 x3 x4 false)
def spec_FormatRows.j1 : Nat → List (S95) → ByteArray → Int → Bool → Option (ByteArray)
 | 0, _, _, _, _ => none
 | k + 1, x0, x3, x4, x12 => if x12 = true then (if x4 > 0 then (if x3.size + 1 ≤ 9223372036854775807 then (if 0 ≤ x4 then (if x4 < (x0.length : Int) then ((spec_FormatRow.f k ((rd_T95 x0 x4).f0) ((rd_T95 x0 x4).f1) ((rd_T95 x0 x4).f2)).bind fun t299 => (if (x3 ++ (⟨#[32]⟩ : ByteArray)).size + t299.size ≤ 9223372036854775807 then (spec_FormatRows.l0 k x0 ((x3 ++ (⟨#[32]⟩ : ByteArray)) ++ t299) (wrap64 (x4 + 1))) else (none))) else (none)) else (none)) else (none)) else (if 0 ≤ x4 then (if x4 < (x0.length : Int) then ((spec_FormatRow.f k ((rd_T95 x0 x4).f0) ((rd_T95 x0 x4).f1) ((rd_T95 x0 x4).f2)).bind fun t301 => (if x3.size + t301.size ≤ 9223372036854775807 then (spec_FormatRows.l0 k x0 (x3 ++ t301) (wrap64 (x4 + 1))) else (none))) else (none)) else (none))) else (some x3)
end
def spec_FormatRows.f (k : Nat) (l0 : List (S95)) : Option (ByteArray) := spec_FormatRows.l0 k l0 (⟨#[]⟩ : ByteArray) 0
set_option maxHeartbeats 8000000 in
set_option maxRecDepth 100000 in
theorem spec_FormatRows.calls (k : Nat) (A0 : Option Addr) (c0 : Nat) (l0 : List (S95)) (r : ByteArray) (w : World) (hr0 : Kd.C k95 w A0 l0.length l0) (hc0 : l0.length ≤ c0) (h : spec_FormatRows.f k l0 = some r) :
  Calls Try.prog 86 #[.slice A0 l0.length c0] w fun e w' => e = .returned (.string r) ∧ Below w.heap.size w w' := by
 have hu95 := Try.underlying95
 have HR0 := kp hr0
 have HC0 := kp hc0
 clear hr0 hc0
 have HB := kp (Below.refl w.heap.size w)
 have H : (spec_FormatRows.l0 k l0 (⟨#[]⟩ : ByteArray) 0) = some r := h
 clear h
 have H' := kp H
 clear H
 go_enter Try.func86, Try.ntmps86
 go_wp2
 go_loopg [3, 4] k (fun kq v3 v4 w' => ∃ (x3_1 : ByteArray) (x4_1 : Int), v3 = .string x3_1 ∧ v4 = .int .i64 x4_1 ∧ Aside0 (spec_FormatRows.l0 kq l0 x3_1 x4_1 = some r) ∧ Aside0 (kq ≤ k) ∧ Aside0 (Below w.heap.size w w'))
 case atStart => exact ⟨((⟨#[]⟩ : ByteArray)), (0), (by first | rfl | (simp; done) | (simp [*]; done)), (by first | rfl | (simp; done) | (simp [*]; done)), H', ⟨Nat.le_refl _⟩, ⟨by with_reducible repeat (first | exact HB.out | apply cA | apply cN | apply cD)⟩⟩
 case round =>
  clear H'; obtain ⟨x3_1, x4_1, rfl, rfl, HA, HK1, HB⟩ := hrel
  cases gk with
  | zero => exact absurd HA.out (by simp [spec_FormatRows.l0])
  | succ k1 =>
   have H := HA.out; clear HA; simp only [spec_FormatRows.l0] at H; have HC2 := kp H; clear H
   go_upto_region 3 with (fail)
   go_cut [12] (fun v12 wc => ∃ (kq : Nat) (x12_1 : Bool), v12 = .bool x12_1 ∧ Aside0 (spec_FormatRows.j1 kq l0 x3_1 x4_1 x12_1 = some r) ∧ Aside0 (kq ≤ k1) ∧ Aside0 (Below w.heap.size w wc))
   case first =>
    have H := HC2.out; clear HC2
    by_cases c3 : x4_1 < (l0.length : Int)
    ·rw [if_pos c3] at H; have c3b0 : decide (x4_1 < (l0.length : Int)) = true := decide_eq_true c3; clear c3; (first | rw [c3b0] | (simp only [i64_w, i32_w]; rw [c3b0]) | skip); replace H := Option.bind_eq_some_iff.mp H; obtain ⟨t297, A40, H⟩ := H; replace H : (spec_FormatRows.j1 k1 l0 x3_1 x4_1 t297) = some r := H; have A4 := kp A40; clear A40; have H' := kp H; clear H
     go_wp2_with (first | (go_at_call 105; (with_reducible refine (spec_AreValidRows.calls k1 _ _ l0 t297 _ ?side1 ?side2 A4.out).mono ?_); (case side1 => repeat (first | exact (Kd.C_below HR0.out HB.out) | (with_reducible refine Kd.C_alloc ?_ _) | (with_reducible refine Kd.C_drewN ?_ _) | (with_reducible refine Kd.C_drew ?_))); (case side2 => exact HC0.out); rintro e w5 ⟨rfl, hb⟩; have n0_ := kp (below_step (by with_reducible repeat (first | exact HB.out | apply cA | apply cN | apply cD)) hb); clear HB; have HB := n0_; clear n0_; (try clear hb)))
     go_meet
     case rel => exact ⟨_, (t297), (by first | rfl | (simp; done) | (simp [*]; done)), H', ⟨by have := HK1.out; first | omega | exact Nat.le_refl _⟩, ⟨by with_reducible repeat (first | exact HB.out | apply cA | apply cN | apply cD)⟩⟩
    ·rw [if_neg c3] at H; have c3b0 : decide (x4_1 < (l0.length : Int)) = false := decide_eq_false c3; clear c3; (first | rw [c3b0] | (simp only [i64_w, i32_w]; rw [c3b0]) | skip); have H' := kp H; clear H; go_wp2
     go_meet
     case rel => exact ⟨_, (false), (by first | rfl | (simp; done) | (simp [*]; done)), H', ⟨by have := HK1.out; first | omega | exact Nat.le_refl _⟩, ⟨by with_reducible repeat (first | exact HB.out | apply cA | apply cN | apply cD)⟩⟩
   case rest =>
    clear HC2
    try clear p2
    try clear c3
    try clear c3b0
    obtain ⟨kq, x12_1, rfl, HA, HJ1, HB⟩ := hcut
    cases kq with
    | zero => exact absurd HA.out (by simp [spec_FormatRows.j1])
    | succ kj1 =>
     have H := HA.out; clear HA; simp only [spec_FormatRows.j1] at H
     by_cases c6 : x12_1 = true
     ·subst c6; have H1 : (if x4_1 > 0 then (if x3_1.size + 1 ≤ 9223372036854775807 then (if 0 ≤ x4_1 then (if x4_1 < (l0.length : Int) then ((spec_FormatRow.f kj1 ((rd_T95 l0 x4_1).f0) ((rd_T95 l0 x4_1).f1) ((rd_T95 l0 x4_1).f2)).bind fun t299 => (if (x3_1 ++ (⟨#[32]⟩ : ByteArray)).size + t299.size ≤ 9223372036854775807 then (spec_FormatRows.l0 kj1 l0 ((x3_1 ++ (⟨#[32]⟩ : ByteArray)) ++ t299) (wrap64 (x4_1 + 1))) else (none))) else (none)) else (none)) else (none)) else (if 0 ≤ x4_1 then (if x4_1 < (l0.length : Int) then ((spec_FormatRow.f kj1 ((rd_T95 l0 x4_1).f0) ((rd_T95 l0 x4_1).f1) ((rd_T95 l0 x4_1).f2)).bind fun t301 => (if x3_1.size + t301.size ≤ 9223372036854775807 then (spec_FormatRows.l0 kj1 l0 (x3_1 ++ t301) (wrap64 (x4_1 + 1))) else (none))) else (none)) else (none))) = some r := by rw [if_pos rfl] at H; exact H
      clear H; have H := H1; clear H1
      by_cases c7 : x4_1 > 0
      ·rw [if_pos c7] at H; have c7b0 : decide (0 < x4_1) = true := decide_eq_true c7; clear c7
       by_cases c8 : x3_1.size + 1 ≤ 9223372036854775807
       ·rw [if_pos c8] at H; have c8b0 := eq_true c8; have c8b1 : decide (x3_1.size + 1 ≤ 9223372036854775807) = true := decide_eq_true c8
        try have c8b2 : (9223372036854775807 < x3_1.size + 1) = False := eq_false (Nat.not_lt.2 c8)
        by_cases c9 : 0 ≤ x4_1
        ·rw [if_pos c9] at H; have c9b0 : decide (0 ≤ x4_1) = true := decide_eq_true c9; clear c9
         by_cases c10 : x4_1 < (l0.length : Int)
         ·rw [if_pos c10] at H; have c10b0 : decide (x4_1 < (l0.length : Int)) = true := decide_eq_true c10; clear c10; replace H := Option.bind_eq_some_iff.mp H; obtain ⟨t299, A110, H⟩ := H; replace H : (if (x3_1 ++ (⟨#[32]⟩ : ByteArray)).size + t299.size ≤ 9223372036854775807 then (spec_FormatRows.l0 kj1 l0 ((x3_1 ++ (⟨#[32]⟩ : ByteArray)) ++ t299) (wrap64 (x4_1 + 1))) else (none)) = some r := H; have A11 := kp A110; clear A110
          by_cases c12 : (x3_1 ++ (⟨#[32]⟩ : ByteArray)).size + t299.size ≤ 9223372036854775807
          ·rw [if_pos c12] at H; have c12b0 := eq_true c12; have c12b1 : decide ((x3_1 ++ (⟨#[32]⟩ : ByteArray)).size + t299.size ≤ 9223372036854775807) = true := decide_eq_true c12
           try have c12b2 : (9223372036854775807 < (x3_1 ++ (⟨#[32]⟩ : ByteArray)).size + t299.size) = False := eq_false (Nat.not_lt.2 c12)
           have c12b3 : (9223372036854775807 < x3_1.size + 1 + t299.size) = False := eq_false (by have h_ := c12; have e_ : (⟨#[46]⟩ : ByteArray).size = 1 := rfl; have e2_ : (⟨#[32]⟩ : ByteArray).size = 1 := rfl; have e3_ : (⟨#[91]⟩ : ByteArray).size = 1 := rfl; have e4_ : (⟨#[93]⟩ : ByteArray).size = 1 := rfl; simp only [ByteArray.size_append] at h_; omega); have H' := kp H; clear H; have p298 : 0 ≤ (x4_1 : Int) := dt; have q298 : x4_1 < (l0.length : Int) := dt; obtain ⟨ad298, e298, hx298_0, hx298_1, hx298_2⟩ := at_T95 HR0.out x4_1 p298 q298; cases e298; replace hx298_0 := kc HB.out hx298_0; replace hx298_1 := kc HB.out hx298_1; replace hx298_2 := kc HB.out hx298_2; replace p298 := eq_true p298; replace q298 := eq_true q298
           go_wp2_with (first | ((with_reducible refine gate_callee (f := 107) rfl ?_); refine gl_ 24 Try.func107 #[.agg #[.int .i64 ((rd_T95 l0 x4_1).f0), .int .i64 ((rd_T95 l0 x4_1).f1), .int .i64 ((rd_T95 l0 x4_1).f2)]] ?_; (with_reducible refine (spec_FormatRow.calls kj1 ((rd_T95 l0 x4_1).f0) ((rd_T95 l0 x4_1).f1) ((rd_T95 l0 x4_1).f2) t299 _ A11.out).mono ?_); rintro e w13 ⟨rfl, hb⟩; refine ⟨_, rfl, ?_⟩; have n0_ := kp (below_step (by with_reducible repeat (first | exact HB.out | apply cA | apply cN | apply cD)) hb); clear HB; have HB := n0_; clear n0_; (try clear hb)))
           go_roundg kj1
           case measure => have := HK1.out; have := HJ1.out; omega
           case rel => exact ⟨((x3_1 ++ (⟨#[32]⟩ : ByteArray)) ++ t299), (wrap64 (x4_1 + 1)), (by first | rfl | (simp; done) | (simp [*]; done)), (by first | rfl | (simp; done) | (simp [*]; done)), H', ⟨by have := HK1.out; have := HJ1.out; omega⟩, ⟨by with_reducible repeat (first | exact HB.out | apply cA | apply cN | apply cD)⟩⟩
          ·rw [if_neg c12] at H; exact absurd H (by simp)
         ·rw [if_neg c10] at H; exact absurd H (by simp)
        ·rw [if_neg c9] at H; exact absurd H (by simp)
       ·rw [if_neg c8] at H; exact absurd H (by simp)
      ·rw [if_neg c7] at H; have c7b0 : decide (0 < x4_1) = false := decide_eq_false c7; clear c7
       by_cases c14 : 0 ≤ x4_1
       ·rw [if_pos c14] at H; have c14b0 : decide (0 ≤ x4_1) = true := decide_eq_true c14; clear c14
        by_cases c15 : x4_1 < (l0.length : Int)
        ·rw [if_pos c15] at H; have c15b0 : decide (x4_1 < (l0.length : Int)) = true := decide_eq_true c15; clear c15; replace H := Option.bind_eq_some_iff.mp H; obtain ⟨t301, A160, H⟩ := H; replace H : (if x3_1.size + t301.size ≤ 9223372036854775807 then (spec_FormatRows.l0 kj1 l0 (x3_1 ++ t301) (wrap64 (x4_1 + 1))) else (none)) = some r := H; have A16 := kp A160; clear A160
         by_cases c17 : x3_1.size + t301.size ≤ 9223372036854775807
         ·rw [if_pos c17] at H; have c17b0 := eq_true c17; have c17b1 : decide (x3_1.size + t301.size ≤ 9223372036854775807) = true := decide_eq_true c17
          try have c17b2 : (9223372036854775807 < x3_1.size + t301.size) = False := eq_false (Nat.not_lt.2 c17)
          have H' := kp H; clear H; have p300 : 0 ≤ (x4_1 : Int) := dt; have q300 : x4_1 < (l0.length : Int) := dt; obtain ⟨ad300, e300, hx300_0, hx300_1, hx300_2⟩ := at_T95 HR0.out x4_1 p300 q300; cases e300; replace hx300_0 := kc HB.out hx300_0; replace hx300_1 := kc HB.out hx300_1; replace hx300_2 := kc HB.out hx300_2; replace p300 := eq_true p300; replace q300 := eq_true q300
          go_wp2_with (first | ((with_reducible refine gate_callee (f := 107) rfl ?_); refine gl_ 24 Try.func107 #[.agg #[.int .i64 ((rd_T95 l0 x4_1).f0), .int .i64 ((rd_T95 l0 x4_1).f1), .int .i64 ((rd_T95 l0 x4_1).f2)]] ?_; (with_reducible refine (spec_FormatRow.calls kj1 ((rd_T95 l0 x4_1).f0) ((rd_T95 l0 x4_1).f1) ((rd_T95 l0 x4_1).f2) t301 _ A16.out).mono ?_); rintro e w18 ⟨rfl, hb⟩; refine ⟨_, rfl, ?_⟩; have n0_ := kp (below_step (by with_reducible repeat (first | exact HB.out | apply cA | apply cN | apply cD)) hb); clear HB; have HB := n0_; clear n0_; (try clear hb)))
          go_roundg kj1
          case measure => have := HK1.out; have := HJ1.out; omega
          case rel => exact ⟨(x3_1 ++ t301), (wrap64 (x4_1 + 1)), (by first | rfl | (simp; done) | (simp [*]; done)), (by first | rfl | (simp; done) | (simp [*]; done)), H', ⟨by have := HK1.out; have := HJ1.out; omega⟩, ⟨by with_reducible repeat (first | exact HB.out | apply cA | apply cN | apply cD)⟩⟩
         ·rw [if_neg c17] at H; exact absurd H (by simp)
        ·rw [if_neg c15] at H; exact absurd H (by simp)
       ·rw [if_neg c14] at H; exact absurd H (by simp)
     ·replace c6 := Bool.eq_false_iff.mpr c6; subst c6; have H1 : (some x3_1) = some r := by rw [if_neg (show ¬ (false = true) by decide)] at H; exact H
      clear H; have H := H1; clear H1; obtain rfl := Option.some.inj H; go_wp2; go_ret; exact ⟨er, by with_reducible repeat (first | exact HB.out | apply cA | apply cN | apply cD)⟩
/-! ### spec_FormatPages: function 42 -/
def spec_FormatPages.l0 : Nat → List (S39) → ByteArray → Int → Option (ByteArray)
 | 0, _, _, _ => none
 | k + 1, x0, x3, x4 => if x4 < (x0.length : Int) then ((spec_l4Pages.f k x0).bind fun t302 => (if t302 = true then (if x3.size + 1 ≤ 9223372036854775807 then (if 0 ≤ x4 then ((spec_FormatRows.f k ((rd_T39 x0 x4).f0)).bind fun t304 => (if (x3 ++ (⟨#[91]⟩ : ByteArray)).size + t304.size ≤ 9223372036854775807 then (if ((x3 ++ (⟨#[91]⟩ : ByteArray)) ++ t304).size + 1 ≤ 9223372036854775807 then (spec_FormatPages.l0 k x0 (((x3 ++ (⟨#[91]⟩ : ByteArray)) ++ t304) ++ (⟨#[93]⟩ : ByteArray)) (wrap64 (x4 + 1))) else (none)) else (none))) else (none)) else (none)) else (some x3))) else (some x3)
def spec_FormatPages.f (k : Nat) (l0 : List (S39)) : Option (ByteArray) := spec_FormatPages.l0 k l0 (⟨#[]⟩ : ByteArray) 0
set_option maxHeartbeats 8000000 in
set_option maxRecDepth 100000 in
theorem spec_FormatPages.calls (k : Nat) (A0 : Option Addr) (c0 : Nat) (l0 : List (S39)) (r : ByteArray) (w : World) (hr0 : Kd.C k39 w A0 l0.length l0) (hc0 : l0.length ≤ c0) (h : spec_FormatPages.f k l0 = some r) :
  Calls Try.prog 42 #[.slice A0 l0.length c0] w fun e w' => e = .returned (.string r) ∧ Below w.heap.size w w' := by
 have HR0 := kp hr0
 have HC0 := kp hc0
 clear hr0 hc0
 have HB := kp (Below.refl w.heap.size w)
 have H : (spec_FormatPages.l0 k l0 (⟨#[]⟩ : ByteArray) 0) = some r := h
 clear h
 have H' := kp H
 clear H
 go_enter Try.func42, Try.ntmps42
 go_wp2
 go_loopg [3, 4] k (fun kq v3 v4 w' => ∃ (x3_1 : ByteArray) (x4_1 : Int), v3 = .string x3_1 ∧ v4 = .int .i64 x4_1 ∧ Aside0 (spec_FormatPages.l0 kq l0 x3_1 x4_1 = some r) ∧ Aside0 (kq ≤ k) ∧ Aside0 (Below w.heap.size w w'))
 case atStart => exact ⟨((⟨#[]⟩ : ByteArray)), (0), (by first | rfl | (simp; done) | (simp [*]; done)), (by first | rfl | (simp; done) | (simp [*]; done)), H', ⟨Nat.le_refl _⟩, ⟨by with_reducible repeat (first | exact HB.out | apply cA | apply cN | apply cD)⟩⟩
 case round =>
  clear H'; obtain ⟨x3_1, x4_1, rfl, rfl, HA, HK1, HB⟩ := hrel
  cases gk with
  | zero => exact absurd HA.out (by simp [spec_FormatPages.l0])
  | succ k1 =>
   have H := HA.out; clear HA; simp only [spec_FormatPages.l0] at H
   by_cases c2 : x4_1 < (l0.length : Int)
   ·rw [if_pos c2] at H; have c2b0 : decide (x4_1 < (l0.length : Int)) = true := decide_eq_true c2; clear c2; replace H := Option.bind_eq_some_iff.mp H; obtain ⟨t302, A30, H⟩ := H; replace H : (if t302 = true then (if x3_1.size + 1 ≤ 9223372036854775807 then (if 0 ≤ x4_1 then ((spec_FormatRows.f k1 ((rd_T39 l0 x4_1).f0)).bind fun t304 => (if (x3_1 ++ (⟨#[91]⟩ : ByteArray)).size + t304.size ≤ 9223372036854775807 then (if ((x3_1 ++ (⟨#[91]⟩ : ByteArray)) ++ t304).size + 1 ≤ 9223372036854775807 then (spec_FormatPages.l0 k1 l0 (((x3_1 ++ (⟨#[91]⟩ : ByteArray)) ++ t304) ++ (⟨#[93]⟩ : ByteArray)) (wrap64 (x4_1 + 1))) else (none)) else (none))) else (none)) else (none)) else (some x3_1)) = some r := H; have A3 := kp A30; clear A30
    by_cases c4 : t302 = true
    ·subst c4; have H1 : (if x3_1.size + 1 ≤ 9223372036854775807 then (if 0 ≤ x4_1 then ((spec_FormatRows.f k1 ((rd_T39 l0 x4_1).f0)).bind fun t304 => (if (x3_1 ++ (⟨#[91]⟩ : ByteArray)).size + t304.size ≤ 9223372036854775807 then (if ((x3_1 ++ (⟨#[91]⟩ : ByteArray)) ++ t304).size + 1 ≤ 9223372036854775807 then (spec_FormatPages.l0 k1 l0 (((x3_1 ++ (⟨#[91]⟩ : ByteArray)) ++ t304) ++ (⟨#[93]⟩ : ByteArray)) (wrap64 (x4_1 + 1))) else (none)) else (none))) else (none)) else (none)) = some r := by rw [if_pos rfl] at H; exact H
     clear H; have H := H1; clear H1
     by_cases c5 : x3_1.size + 1 ≤ 9223372036854775807
     ·rw [if_pos c5] at H; have c5b0 := eq_true c5; have c5b1 : decide (x3_1.size + 1 ≤ 9223372036854775807) = true := decide_eq_true c5
      try have c5b2 : (9223372036854775807 < x3_1.size + 1) = False := eq_false (Nat.not_lt.2 c5)
      by_cases c6 : 0 ≤ x4_1
      ·rw [if_pos c6] at H; have c6b0 : decide (0 ≤ x4_1) = true := decide_eq_true c6; clear c6; replace H := Option.bind_eq_some_iff.mp H; obtain ⟨t304, A70, H⟩ := H; replace H : (if (x3_1 ++ (⟨#[91]⟩ : ByteArray)).size + t304.size ≤ 9223372036854775807 then (if ((x3_1 ++ (⟨#[91]⟩ : ByteArray)) ++ t304).size + 1 ≤ 9223372036854775807 then (spec_FormatPages.l0 k1 l0 (((x3_1 ++ (⟨#[91]⟩ : ByteArray)) ++ t304) ++ (⟨#[93]⟩ : ByteArray)) (wrap64 (x4_1 + 1))) else (none)) else (none)) = some r := H; have A7 := kp A70; clear A70
       by_cases c8 : (x3_1 ++ (⟨#[91]⟩ : ByteArray)).size + t304.size ≤ 9223372036854775807
       ·rw [if_pos c8] at H; have c8b0 := eq_true c8; have c8b1 : decide ((x3_1 ++ (⟨#[91]⟩ : ByteArray)).size + t304.size ≤ 9223372036854775807) = true := decide_eq_true c8
        try have c8b2 : (9223372036854775807 < (x3_1 ++ (⟨#[91]⟩ : ByteArray)).size + t304.size) = False := eq_false (Nat.not_lt.2 c8)
        have c8b3 : (9223372036854775807 < x3_1.size + 1 + t304.size) = False := eq_false (by have h_ := c8; have e_ : (⟨#[46]⟩ : ByteArray).size = 1 := rfl; have e2_ : (⟨#[32]⟩ : ByteArray).size = 1 := rfl; have e3_ : (⟨#[91]⟩ : ByteArray).size = 1 := rfl; have e4_ : (⟨#[93]⟩ : ByteArray).size = 1 := rfl; simp only [ByteArray.size_append] at h_; omega)
        by_cases c9 : ((x3_1 ++ (⟨#[91]⟩ : ByteArray)) ++ t304).size + 1 ≤ 9223372036854775807
        ·rw [if_pos c9] at H; have c9b0 := eq_true c9; have c9b1 : decide (((x3_1 ++ (⟨#[91]⟩ : ByteArray)) ++ t304).size + 1 ≤ 9223372036854775807) = true := decide_eq_true c9
         try have c9b2 : (9223372036854775807 < ((x3_1 ++ (⟨#[91]⟩ : ByteArray)) ++ t304).size + 1) = False := eq_false (Nat.not_lt.2 c9)
         have c9b3 : (9223372036854775807 < x3_1.size + 1 + t304.size + 1) = False := eq_false (by have h_ := c9; have e_ : (⟨#[46]⟩ : ByteArray).size = 1 := rfl; have e2_ : (⟨#[32]⟩ : ByteArray).size = 1 := rfl; have e3_ : (⟨#[91]⟩ : ByteArray).size = 1 := rfl; have e4_ : (⟨#[93]⟩ : ByteArray).size = 1 := rfl; simp only [ByteArray.size_append] at h_; omega); have H' := kp H; clear H
         go_wp2_with (first | (go_at_call 85; (with_reducible refine (spec_l4Pages.calls k1 _ _ l0 true _ ?side1 ?side2 A3.out).mono ?_); (case side1 => repeat (first | exact (Kd.C_below HR0.out HB.out) | (with_reducible refine Kd.C_alloc ?_ _) | (with_reducible refine Kd.C_drewN ?_ _) | (with_reducible refine Kd.C_drew ?_))); (case side2 => exact HC0.out); rintro e w10 ⟨rfl, hb⟩; have n0_ := kp (below_step (by with_reducible repeat (first | exact HB.out | apply cA | apply cN | apply cD)) hb); clear HB; have HB := n0_; clear n0_; (try clear hb); have p303 : 0 ≤ (x4_1 : Int) := dt; have q303 : x4_1 < (l0.length : Int) := dt; obtain ⟨ad303, A303_0, c303_0, e303, hx303_0, hl303_0, hi303_0⟩ := at_T39 HR0.out x4_1 p303 q303; cases e303; replace hx303_0 := kc HB.out hx303_0; have HR303_0 := kp hi303_0; have HC303_0 := kp hl303_0; clear hi303_0 hl303_0; replace p303 := eq_true p303; replace q303 := eq_true q303) | ((with_reducible refine gate_callee (f := 86) rfl ?_); refine gl_ 22 Try.func86 #[.slice A303_0 ((rd_T39 l0 x4_1).f0).length c303_0] ?_; (with_reducible refine (spec_FormatRows.calls k1 _ _ ((rd_T39 l0 x4_1).f0) t304 _ ?side1 ?side2 A7.out).mono ?_); (case side1 => repeat (first | exact (Kd.C_below HR303_0.out HB.out) | (with_reducible refine Kd.C_alloc ?_ _) | (with_reducible refine Kd.C_drewN ?_ _) | (with_reducible refine Kd.C_drew ?_))); (case side2 => exact HC303_0.out); rintro e w11 ⟨rfl, hb⟩; refine ⟨_, rfl, ?_⟩; have n0_ := kp (below_step (by with_reducible repeat (first | exact HB.out | apply cA | apply cN | apply cD)) hb); clear HB; have HB := n0_; clear n0_; (try clear hb)))
         go_roundg k1
         case measure => have := HK1.out; omega
         case rel => exact ⟨(((x3_1 ++ (⟨#[91]⟩ : ByteArray)) ++ t304) ++ (⟨#[93]⟩ : ByteArray)), (wrap64 (x4_1 + 1)), (by first | rfl | (simp; done) | (simp [*]; done)), (by first | rfl | (simp; done) | (simp [*]; done)), H', ⟨by have := HK1.out; omega⟩, ⟨by with_reducible repeat (first | exact HB.out | apply cA | apply cN | apply cD)⟩⟩
        ·rw [if_neg c9] at H; exact absurd H (by simp)
       ·rw [if_neg c8] at H; exact absurd H (by simp)
      ·rw [if_neg c6] at H; exact absurd H (by simp)
     ·rw [if_neg c5] at H; exact absurd H (by simp)
    ·replace c4 := Bool.eq_false_iff.mpr c4; subst c4; have H1 : (some x3_1) = some r := by rw [if_neg (show ¬ (false = true) by decide)] at H; exact H
     clear H; have H := H1; clear H1; obtain rfl := Option.some.inj H
     go_wp2_with (first | (go_at_call 85; (with_reducible refine (spec_l4Pages.calls k1 _ _ l0 false _ ?side1 ?side2 A3.out).mono ?_); (case side1 => repeat (first | exact (Kd.C_below HR0.out HB.out) | (with_reducible refine Kd.C_alloc ?_ _) | (with_reducible refine Kd.C_drewN ?_ _) | (with_reducible refine Kd.C_drew ?_))); (case side2 => exact HC0.out); rintro e w12 ⟨rfl, hb⟩; have n0_ := kp (below_step (by with_reducible repeat (first | exact HB.out | apply cA | apply cN | apply cD)) hb); clear HB; have HB := n0_; clear n0_; (try clear hb)))
     go_ret; exact ⟨er, by with_reducible repeat (first | exact HB.out | apply cA | apply cN | apply cD)⟩
   ·rw [if_neg c2] at H; have c2b0 : decide (x4_1 < (l0.length : Int)) = false := decide_eq_false c2; clear c2; obtain rfl := Option.some.inj H; go_wp2; go_ret; exact ⟨er, by with_reducible repeat (first | exact HB.out | apply cA | apply cN | apply cD)⟩
/-! ### spec_CountPages: function 76 -/
def spec_CountPages.l0 : Nat → Int → Int → List (S80) → Int → Option (Int)
 | 0, _, _, _, _ => none
 | k + 1, x3, x4, x306000, x306001 => if x4 < (x306000.length : Int) then (if 0 ≤ x4 then (spec_CountPages.l0 k (wrap64 (x3 + (((rd_T80 x306000 x4).f1).length : Int))) (wrap64 (x4 + 1)) x306000 x306001) else (none)) else (some x3)
def spec_CountPages.f (k : Nat) (l0_0 : List (S80)) (a0_1 : Int) : Option (Int) := spec_CountPages.l0 k 0 0 l0_0 a0_1
set_option maxHeartbeats 8000000 in
set_option maxRecDepth 100000 in
theorem spec_CountPages.calls (k : Nat) (A0_0 : Option Addr) (c0_0 : Nat) (l0_0 : List (S80)) (a0_1 : Int) (r : Int) (w : World) (hr0_0 : Kd.C k80 w A0_0 l0_0.length l0_0) (hc0_0 : l0_0.length ≤ c0_0) (h : spec_CountPages.f k l0_0 a0_1 = some r) :
  Calls Try.prog 76 #[.agg #[.slice A0_0 l0_0.length c0_0, .int .i64 a0_1]] w fun e w' => e = .returned (.int .i64 r) ∧ Below w.heap.size w w' := by
 have hu28 := Try.underlying28
 have HR0_0 := kp hr0_0
 have HC0_0 := kp hc0_0
 clear hr0_0 hc0_0
 have HB := kp (Below.refl w.heap.size w)
 have H : (spec_CountPages.l0 k 0 0 l0_0 a0_1) = some r := h
 clear h
 have H' := kp H
 clear H
 go_enter Try.func76, Try.ntmps76
 go_wp2_with (first | ((with_reducible refine gate_dst (N := 1) rfl ?_); refine bx_ 1 #[.slice A0_0 l0_0.length c0_0, .int .i64 a0_1] 28 ?_; intro gb305 hg w2 hbox hb; have n0_ := kp (below_step (by with_reducible repeat (first | exact HB.out | apply cA | apply cN | apply cD)) hb); have n1_ := kp (hbox); have n2_ := kp ((by rw [hg]; exact (below_size (by with_reducible repeat (first | exact HB.out | apply cA | apply cN | apply cD))) : w.heap.size ≤ gb305)); have n3_ := kp ((by rw [hg]; exact (below_size (by with_reducible repeat (first | exact HB.out | apply cA | apply cN | apply cD))) : w.heap.size ≤ gb305)); clear HB; have HB := n0_; have BK305 := n1_; have GW305 := n2_; have GE305 := n3_; clear n0_ n1_ n2_ n3_; clear hb hbox hg))
 (try simp only [Act.put, List.setIfInBounds_toArray, List.set_cons_zero, List.set_cons_succ])
 go_loopg [3, 4] k (fun kq v3 v4 w' => ∃ (x3_1 : Int) (x4_1 : Int), v3 = .int .i64 x3_1 ∧ v4 = .int .i64 x4_1 ∧ Aside0 (spec_CountPages.l0 kq x3_1 x4_1 l0_0 a0_1 = some r) ∧ Aside0 (kq ≤ k) ∧ Aside0 (w'.heap[gb305]? = some (.cells #[(.slice A0_0 l0_0.length c0_0), .int .i64 a0_1] 28 (0, 0))) ∧ Aside0 (Below w.heap.size w w'))
 case atStart => exact ⟨(0), (0), (by first | rfl | (simp; done) | (simp [*]; done)), (by first | rfl | (simp; done) | (simp [*]; done)), H', ⟨Nat.le_refl _⟩, ⟨by (with_reducible repeat (first | apply bN | apply bD | apply bA)); exact BK305.out⟩, ⟨by with_reducible repeat (first | exact HB.out | apply cA | apply cN | apply cD | refine below_set ?_ GE305.out)⟩⟩
 case round =>
  clear H'
  try clear p2
  obtain ⟨x3_1, x4_1, rfl, rfl, HA, HK1, BK305, HB⟩ := hrel
  cases gk with
  | zero => exact absurd HA.out (by simp [spec_CountPages.l0])
  | succ k1 =>
   have H := HA.out; clear HA; simp only [spec_CountPages.l0] at H
   by_cases c3 : x4_1 < (l0_0.length : Int)
   ·rw [if_pos c3] at H; have c3b0 : decide (x4_1 < (l0_0.length : Int)) = true := decide_eq_true c3; clear c3
    by_cases c4 : 0 ≤ x4_1
    ·rw [if_pos c4] at H; have c4b0 : decide (0 ≤ x4_1) = true := decide_eq_true c4; clear c4; have H' := kp H; clear H; have hcz5_0 : wr.cell? ⟨gb305, 0, none⟩ = some (.slice A0_0 l0_0.length c0_0) := (blk_cell BK305.out 0).trans rfl; have hcz5_1 : wr.cell? ⟨gb305, 1, none⟩ = some (.int .i64 a0_1) := (blk_cell BK305.out 1).trans rfl; have hfz5_0 := blk_frozen BK305.out 0; have hfz5_1 := blk_frozen BK305.out 1; have p306 : 0 ≤ (x4_1 : Int) := dt; have q306 : x4_1 < (l0_0.length : Int) := dt; obtain ⟨ad306, A306_1, c306_1, e306, hx306_0, hx306_1, hx306_2, hx306_3, hl306_1, hi306_1⟩ := at_T80 HR0_0.out x4_1 p306 q306; cases e306; replace hx306_0 := kc HB.out hx306_0; replace hx306_1 := kc HB.out hx306_1; replace hx306_2 := kc HB.out hx306_2; replace hx306_3 := kc HB.out hx306_3; have HR306_1 := kp hi306_1; have HC306_1 := kp hl306_1; clear hi306_1 hl306_1; replace p306 := eq_true p306; replace q306 := eq_true q306; go_wp2
     go_roundg k1
     case measure => have := HK1.out; omega
     case rel => exact ⟨(wrap64 (x3_1 + (((rd_T80 l0_0 x4_1).f1).length : Int))), (wrap64 (x4_1 + 1)), (by first | rfl | (simp; done) | (simp [*]; done)), (by first | rfl | (simp; done) | (simp [*]; done)), H', ⟨by have := HK1.out; omega⟩, ⟨by (with_reducible repeat (first | apply bN | apply bD | apply bA)); exact BK305.out⟩, ⟨by with_reducible repeat (first | exact HB.out | apply cA | apply cN | apply cD | refine below_set ?_ GE305.out)⟩⟩
    ·rw [if_neg c4] at H; exact absurd H (by simp)
   ·rw [if_neg c3] at H; have c3b0 : decide (x4_1 < (l0_0.length : Int)) = false := decide_eq_false c3; clear c3; obtain rfl := Option.some.inj H; have hcz6_0 : wr.cell? ⟨gb305, 0, none⟩ = some (.slice A0_0 l0_0.length c0_0) := (blk_cell BK305.out 0).trans rfl; have hcz6_1 : wr.cell? ⟨gb305, 1, none⟩ = some (.int .i64 a0_1) := (blk_cell BK305.out 1).trans rfl; have hfz6_0 := blk_frozen BK305.out 0; have hfz6_1 := blk_frozen BK305.out 1; go_wp2; go_ret; exact ⟨er, by with_reducible repeat (first | exact HB.out | apply cA | apply cN | apply cD | refine below_set ?_ GE305.out)⟩
end Go.Proofs.Ytinniedbgfgclaa.PFnExactReadFile
