/- Out of a copy of the print, with function values told: nothing is claimed here. -/
import Derived.Test.YtljpfogplcdcjaaVQFnPagePackingx0
import Derived.Test.YtljpfogplcdcjaaVQFnPagePackingx2
import Derived.Test.YtljpfogplcdcjaaVQFnPagePackingx6
import Derived.Test.YtljpfogplcdcjaaVQFnPagePackingx7
import Derived.Test.YtljpfogplcdcjaaVShort
import Derived.Test.YtljpfogplcdcjaaVPress
namespace Go.Proofs.Ytljpfogplcdcjaa.PFnPagePacking
open Go.RowKit Go.Proofs.YtljpfogplcdcjaaW.PrintWords Go.Proofs.YtljpfogplcdcjaaW.PrintLast Go.Proofs.YtljpfogplcdcjaaW.PrintMore Go.Proofs.Ytljpfogplcdcjaa.Short Go.Proofs.Ytljpfogplcdcjaa.Press
attribute [local go_sem] max2_int min2_int max_two min_two max_three min_three max_four min_four   -- for this text's walks alone
set_option linter.unusedVariables false
set_option linter.unusedSimpArgs false
def spec_FormatRow.f (k : Nat) (a0_0 : Int) (a0_1 : Int) (a0_2 : Int) : Option (ByteArray) := (spec_IsValidRow.f a0_0 a0_1 a0_2).bind fun t345 => (if t345 = true then ((spec_FormatInt.f k a0_0).bind fun t346 => (if t346.size + 1 ≤ 9223372036854775807 then ((spec_FormatInt.f k a0_1).bind fun t347 => (if (t346 ++ (⟨#[46]⟩ : ByteArray)).size + t347.size ≤ 9223372036854775807 then (if ((t346 ++ (⟨#[46]⟩ : ByteArray)) ++ t347).size + 1 ≤ 9223372036854775807 then ((spec_FormatInt.f k a0_2).bind fun t348 => (if (((t346 ++ (⟨#[46]⟩ : ByteArray)) ++ t347) ++ (⟨#[46]⟩ : ByteArray)).size + t348.size ≤ 9223372036854775807 then (some ((((t346 ++ (⟨#[46]⟩ : ByteArray)) ++ t347) ++ (⟨#[46]⟩ : ByteArray)) ++ t348)) else (none))) else (none)) else (none))) else (none))) else (some (⟨#[]⟩ : ByteArray)))
theorem spec_FormatRow.mono : ∀ a0 a1 a2 k, LeO (spec_FormatRow.f k a0 a1 a2) (spec_FormatRow.f (k + 1) a0 a1 a2) := by
 intro a0 a1 a2 k
 unfold spec_FormatRow.f
 repeat' first
   | (with_reducible exact spec_FormatInt.mono _ _)
   | (with_reducible exact LeO.refl _)
   | (with_reducible exact LeO.none _)
   | (with_reducible refine LeO.ite ?_ ?_)
   | (with_reducible refine LeO.bind ?_ (fun _ => ?_))
def spec_FormatRow.T3 : Bool × List (List Nat × List Nat) := (true, [([], []), ([0], [0]), ([1], [1]), ([2], [2]), ([], []), ([4], [4]), ([5, 2], [5]), ([3, 6], [3, 6]), ([7], [7]), ([], []), ([9], [9]), ([10, 6], [10]), ([8, 11], [8, 11]), ([12, 11, 0, 1, 2, 3, 4, 5, 6, 7, 8, 9, 10, 11, 12], [12])])
def spec_FormatRow.B3 : List Nat := [0, 1, 3, 7, 0, 16, 55, 127, 255, 0, 512, 1655, 4095, 8191]
theorem spec_FormatRow.tab3 : rtab .any (opsOf Try.f89 3) = spec_FormatRow.T3 := by kernel_rfl
theorem spec_FormatRow.bits3 : waitsOk spec_FormatRow.T3.2 spec_FormatRow.B3 = true := by kernel_rfl
set_option maxHeartbeats 8000000 in
set_option maxRecDepth 100000 in
theorem spec_FormatRow.calls (k : Nat) (a0_0 : Int) (a0_1 : Int) (a0_2 : Int) (r : ByteArray) (w : World) (h : spec_FormatRow.f k a0_0 a0_1 a0_2 = some r) :
  Calls Try.prog 89 #[.agg #[.int .i64 a0_0, .int .i64 a0_1, .int .i64 a0_2]] w fun e w' => e = .returned (.string r) ∧ Below w.heap.size w w' := by
 have hu42 := Try.underlying42
 have HB := kp (Below.refl w.heap.size w)
 have H : ((spec_IsValidRow.f a0_0 a0_1 a0_2).bind fun t345 => (if t345 = true then ((spec_FormatInt.f k a0_0).bind fun t346 => (if t346.size + 1 ≤ 9223372036854775807 then ((spec_FormatInt.f k a0_1).bind fun t347 => (if (t346 ++ (⟨#[46]⟩ : ByteArray)).size + t347.size ≤ 9223372036854775807 then (if ((t346 ++ (⟨#[46]⟩ : ByteArray)) ++ t347).size + 1 ≤ 9223372036854775807 then ((spec_FormatInt.f k a0_2).bind fun t348 => (if (((t346 ++ (⟨#[46]⟩ : ByteArray)) ++ t347) ++ (⟨#[46]⟩ : ByteArray)).size + t348.size ≤ 9223372036854775807 then (some ((((t346 ++ (⟨#[46]⟩ : ByteArray)) ++ t347) ++ (⟨#[46]⟩ : ByteArray)) ++ t348)) else (none))) else (none)) else (none))) else (none))) else (some (⟨#[]⟩ : ByteArray)))) = some r := h
 clear h
 replace H := Option.bind_eq_some_iff.mp H
 obtain ⟨t345, A20, H⟩ := H
 replace H : (if t345 = true then ((spec_FormatInt.f k a0_0).bind fun t346 => (if t346.size + 1 ≤ 9223372036854775807 then ((spec_FormatInt.f k a0_1).bind fun t347 => (if (t346 ++ (⟨#[46]⟩ : ByteArray)).size + t347.size ≤ 9223372036854775807 then (if ((t346 ++ (⟨#[46]⟩ : ByteArray)) ++ t347).size + 1 ≤ 9223372036854775807 then ((spec_FormatInt.f k a0_2).bind fun t348 => (if (((t346 ++ (⟨#[46]⟩ : ByteArray)) ++ t347) ++ (⟨#[46]⟩ : ByteArray)).size + t348.size ≤ 9223372036854775807 then (some ((((t346 ++ (⟨#[46]⟩ : ByteArray)) ++ t347) ++ (⟨#[46]⟩ : ByteArray)) ++ t348)) else (none))) else (none)) else (none))) else (none))) else (some (⟨#[]⟩ : ByteArray))) = some r := H
 have A2 := kp A20
 clear A20
 by_cases c3 : t345 = true
 ·subst c3; have H1 : ((spec_FormatInt.f k a0_0).bind fun t346 => (if t346.size + 1 ≤ 9223372036854775807 then ((spec_FormatInt.f k a0_1).bind fun t347 => (if (t346 ++ (⟨#[46]⟩ : ByteArray)).size + t347.size ≤ 9223372036854775807 then (if ((t346 ++ (⟨#[46]⟩ : ByteArray)) ++ t347).size + 1 ≤ 9223372036854775807 then ((spec_FormatInt.f k a0_2).bind fun t348 => (if (((t346 ++ (⟨#[46]⟩ : ByteArray)) ++ t347) ++ (⟨#[46]⟩ : ByteArray)).size + t348.size ≤ 9223372036854775807 then (some ((((t346 ++ (⟨#[46]⟩ : ByteArray)) ++ t347) ++ (⟨#[46]⟩ : ByteArray)) ++ t348)) else (none))) else (none)) else (none))) else (none))) = some r := by rw [if_pos rfl] at H; exact H
  clear H; have H := H1; clear H1; replace H := Option.bind_eq_some_iff.mp H; obtain ⟨t346, A40, H⟩ := H; replace H : (if t346.size + 1 ≤ 9223372036854775807 then ((spec_FormatInt.f k a0_1).bind fun t347 => (if (t346 ++ (⟨#[46]⟩ : ByteArray)).size + t347.size ≤ 9223372036854775807 then (if ((t346 ++ (⟨#[46]⟩ : ByteArray)) ++ t347).size + 1 ≤ 9223372036854775807 then ((spec_FormatInt.f k a0_2).bind fun t348 => (if (((t346 ++ (⟨#[46]⟩ : ByteArray)) ++ t347) ++ (⟨#[46]⟩ : ByteArray)).size + t348.size ≤ 9223372036854775807 then (some ((((t346 ++ (⟨#[46]⟩ : ByteArray)) ++ t347) ++ (⟨#[46]⟩ : ByteArray)) ++ t348)) else (none))) else (none)) else (none))) else (none)) = some r := H; have A4 := kp A40; clear A40
  by_cases c5 : t346.size + 1 ≤ 9223372036854775807
  ·rw [if_pos c5] at H; have c5b0 := eq_true c5; have c5b1 : decide (t346.size + 1 ≤ 9223372036854775807) = true := decide_eq_true c5
   try have c5b2 : (9223372036854775807 < t346.size + 1) = False := eq_false (Nat.not_lt.2 c5)
   replace H := Option.bind_eq_some_iff.mp H; obtain ⟨t347, A60, H⟩ := H; replace H : (if (t346 ++ (⟨#[46]⟩ : ByteArray)).size + t347.size ≤ 9223372036854775807 then (if ((t346 ++ (⟨#[46]⟩ : ByteArray)) ++ t347).size + 1 ≤ 9223372036854775807 then ((spec_FormatInt.f k a0_2).bind fun t348 => (if (((t346 ++ (⟨#[46]⟩ : ByteArray)) ++ t347) ++ (⟨#[46]⟩ : ByteArray)).size + t348.size ≤ 9223372036854775807 then (some ((((t346 ++ (⟨#[46]⟩ : ByteArray)) ++ t347) ++ (⟨#[46]⟩ : ByteArray)) ++ t348)) else (none))) else (none)) else (none)) = some r := H; have A6 := kp A60; clear A60
   by_cases c7 : (t346 ++ (⟨#[46]⟩ : ByteArray)).size + t347.size ≤ 9223372036854775807
   ·rw [if_pos c7] at H; have c7b0 := eq_true c7; have c7b1 : decide ((t346 ++ (⟨#[46]⟩ : ByteArray)).size + t347.size ≤ 9223372036854775807) = true := decide_eq_true c7
    try have c7b2 : (9223372036854775807 < (t346 ++ (⟨#[46]⟩ : ByteArray)).size + t347.size) = False := eq_false (Nat.not_lt.2 c7)
    have c7b3 : (9223372036854775807 < t346.size + 1 + t347.size) = False := eq_false (by have h_ := c7; have e_ : (⟨#[46]⟩ : ByteArray).size = 1 := rfl; have e2_ : (⟨#[32]⟩ : ByteArray).size = 1 := rfl; have e3_ : (⟨#[91]⟩ : ByteArray).size = 1 := rfl; have e4_ : (⟨#[93]⟩ : ByteArray).size = 1 := rfl; simp only [ByteArray.size_append] at h_; omega)
    by_cases c8 : ((t346 ++ (⟨#[46]⟩ : ByteArray)) ++ t347).size + 1 ≤ 9223372036854775807
    ·rw [if_pos c8] at H; have c8b0 := eq_true c8; have c8b1 : decide (((t346 ++ (⟨#[46]⟩ : ByteArray)) ++ t347).size + 1 ≤ 9223372036854775807) = true := decide_eq_true c8
     try have c8b2 : (9223372036854775807 < ((t346 ++ (⟨#[46]⟩ : ByteArray)) ++ t347).size + 1) = False := eq_false (Nat.not_lt.2 c8)
     have c8b3 : (9223372036854775807 < t346.size + 1 + t347.size + 1) = False := eq_false (by have h_ := c8; have e_ : (⟨#[46]⟩ : ByteArray).size = 1 := rfl; have e2_ : (⟨#[32]⟩ : ByteArray).size = 1 := rfl; have e3_ : (⟨#[91]⟩ : ByteArray).size = 1 := rfl; have e4_ : (⟨#[93]⟩ : ByteArray).size = 1 := rfl; simp only [ByteArray.size_append] at h_; omega); replace H := Option.bind_eq_some_iff.mp H; obtain ⟨t348, A90, H⟩ := H; replace H : (if (((t346 ++ (⟨#[46]⟩ : ByteArray)) ++ t347) ++ (⟨#[46]⟩ : ByteArray)).size + t348.size ≤ 9223372036854775807 then (some ((((t346 ++ (⟨#[46]⟩ : ByteArray)) ++ t347) ++ (⟨#[46]⟩ : ByteArray)) ++ t348)) else (none)) = some r := H; have A9 := kp A90; clear A90
     by_cases c10 : (((t346 ++ (⟨#[46]⟩ : ByteArray)) ++ t347) ++ (⟨#[46]⟩ : ByteArray)).size + t348.size ≤ 9223372036854775807
     ·rw [if_pos c10] at H; have c10b0 := eq_true c10; have c10b1 : decide ((((t346 ++ (⟨#[46]⟩ : ByteArray)) ++ t347) ++ (⟨#[46]⟩ : ByteArray)).size + t348.size ≤ 9223372036854775807) = true := decide_eq_true c10
      try have c10b2 : (9223372036854775807 < (((t346 ++ (⟨#[46]⟩ : ByteArray)) ++ t347) ++ (⟨#[46]⟩ : ByteArray)).size + t348.size) = False := eq_false (Nat.not_lt.2 c10)
      have c10b3 : (9223372036854775807 < t346.size + 1 + t347.size + 1 + t348.size) = False := eq_false (by have h_ := c10; have e_ : (⟨#[46]⟩ : ByteArray).size = 1 := rfl; have e2_ : (⟨#[32]⟩ : ByteArray).size = 1 := rfl; have e3_ : (⟨#[91]⟩ : ByteArray).size = 1 := rfl; have e4_ : (⟨#[93]⟩ : ByteArray).size = 1 := rfl; simp only [ByteArray.size_append] at h_; omega); obtain rfl := Option.some.inj H
      go_enter Try.func89, Try.ntmps89
      try go_wp2_with (first | ((with_reducible refine gate_dst (N := 1) rfl ?_); refine bx_ 1 #[.int .i64 a0_0, .int .i64 a0_1, .int .i64 a0_2] 42 ?_; intro gb344 hg w11 hbox hb; have BK344 := kp (hbox); have GW344 := kp (bs hg); have GE344 := kp (bs hg); replace HB := kp (below_step bb hb); clear hb hbox hg; obtain ⟨hcz12_0, hcz12_1, hcz12_2, hfz12_0, hfz12_1, hfz12_2⟩ := bf3 BK344.out) | ((with_reducible refine gate_callee (f := 51) rfl ?_); refine gl_ 4 Try.func51 #[.agg #[.int .i64 a0_0, .int .i64 a0_1, .int .i64 a0_2]] ?_; (with_reducible refine (spec_IsValidRow.calls a0_0 a0_1 a0_2 true _ A2.out).mono ?_); rintro e w13 ⟨rfl, hb⟩; refine ⟨_, rfl, ?_⟩; replace BK344 := kp (kb BK344.out hb); replace HB := kp (below_step bb hb); (try clear hb)))
      replace BK344 := kp (blk_drew BK344.out); replace HB := kp (below_drew1 HB.out)
      refine start_ (n := 14) (S := fun w' => w'.cell? ⟨gb344, 0, none⟩ = some (.int .i64 a0_0) ∧ w'.cell? ⟨gb344, 1, none⟩ = some (.int .i64 a0_1) ∧ w'.cell? ⟨gb344, 2, none⟩ = some (.int .i64 a0_2)) (ds := []) #[false, false, false, false, false, false, false, false, false, false, false, false, false, false] (by kernel_rfl) rfl rfl ⟨bc BK344.out, bc BK344.out, bc BK344.out⟩ (fun hHeld => ?_); refine with_tabW spec_FormatRow.tab3 spec_FormatRow.bits3 (fun HT_ HW_ => ?_)
      generalize w13.drew = w14 at BK344 HB hHeld ⊢
      refine pq 0 6 HT_ ?_
      refine pq 4 10 HT_ ?_
      refine pq 9 15 HT_ ?_
      refine tq 1 7 HT_ HW_ hHeld ?_
      refine tq 5 11 HT_ HW_ hHeld ?_
      refine tq 10 16 HT_ HW_ hHeld ?_
      refine on_ 2 (some 8) HT_ (fun K hK => ?_); refine gs_ Try.func103 #[.int .i64 a0_0] ?_; with_reducible refine (spec_FormatInt.calls k a0_0 t346 _ A4.out).mono ?_
      rintro e w15 ⟨rfl, hb⟩; refine ⟨_, rfl, ?_⟩; replace BK344 := kp (kb BK344.out hb); replace HB := kp (below_step bb hb); (try clear hb); (try clear hk); refine hK.out _ _ ⟨bc BK344.out, bc BK344.out, bc BK344.out⟩ (fun hHeld => ?_); clear hK K; refine nm_ (some 8) ?_
      refine pq 3 9 HT_ ?_
      refine on_ 6 (some 12) HT_ (fun K hK => ?_); refine gs_ Try.func103 #[.int .i64 a0_1] ?_; with_reducible refine (spec_FormatInt.calls k a0_1 t347 _ A6.out).mono ?_
      rintro e w16 ⟨rfl, hb⟩; refine ⟨_, rfl, ?_⟩; replace BK344 := kp (kb BK344.out hb); replace HB := kp (below_step bb hb); (try clear hb); (try clear hk); refine hK.out _ _ ⟨bc BK344.out, bc BK344.out, bc BK344.out⟩ (fun hHeld => ?_); clear hK K; refine nm_ (some 12) ?_
      refine pq 7 13 HT_ ?_
      refine pq 8 14 HT_ ?_
      refine on_ 11 (some 17) HT_ (fun K hK => ?_); refine gs_ Try.func103 #[.int .i64 a0_2] ?_; with_reducible refine (spec_FormatInt.calls k a0_2 t348 _ A9.out).mono ?_
      rintro e w17 ⟨rfl, hb⟩; refine ⟨_, rfl, ?_⟩; replace BK344 := kp (kb BK344.out hb); replace HB := kp (below_step bb hb); (try clear hb); (try clear hk); refine hK.out _ _ ⟨bc BK344.out, bc BK344.out, bc BK344.out⟩ (fun hHeld => ?_); clear hK K; refine nm_ (some 17) ?_
      refine pq 12 18 HT_ ?_
      refine pq 13 2 HT_ ?_
      refine done_ (done_of HT_.out (by kernel_rfl)) ?_
      try go_wp2
      go_ret; exact ⟨er, bb⟩
     ·rw [if_neg c10] at H; exact absurd H (by simp)
    ·rw [if_neg c8] at H; exact absurd H (by simp)
   ·rw [if_neg c7] at H; exact absurd H (by simp)
  ·rw [if_neg c5] at H; exact absurd H (by simp)
 ·replace c3 := Bool.eq_false_iff.mpr c3; subst c3; have H1 : (some (⟨#[]⟩ : ByteArray)) = some r := by rw [if_neg (show ¬ (false = true) by decide)] at H; exact H
  clear H; have H := H1; clear H1; obtain rfl := Option.some.inj H
  go_enter Try.func89, Try.ntmps89
  go_wp2_with (first | ((with_reducible refine gate_dst (N := 1) rfl ?_); refine bx_ 1 #[.int .i64 a0_0, .int .i64 a0_1, .int .i64 a0_2] 42 ?_; intro gb344 hg w18 hbox hb; have BK344 := kp (hbox); have GW344 := kp (bs hg); have GE344 := kp (bs hg); replace HB := kp (below_step bb hb); clear hb hbox hg; obtain ⟨hcz19_0, hcz19_1, hcz19_2, hfz19_0, hfz19_1, hfz19_2⟩ := bf3 BK344.out) | ((with_reducible refine gate_callee (f := 51) rfl ?_); refine gl_ 4 Try.func51 #[.agg #[.int .i64 a0_0, .int .i64 a0_1, .int .i64 a0_2]] ?_; (with_reducible refine (spec_IsValidRow.calls a0_0 a0_1 a0_2 false _ A2.out).mono ?_); rintro e w20 ⟨rfl, hb⟩; refine ⟨_, rfl, ?_⟩; replace BK344 := kp (kb BK344.out hb); replace HB := kp (below_step bb hb); (try clear hb)))
  go_ret; exact ⟨er, bb⟩
mutual
def spec_FormatRows.l0 : Nat → List (S42) → ByteArray → Int → Option (ByteArray)
 | 0, _, _, _ => none
 | k + 1, x0, x3, x4 => if x4 < (x0.length : Int) then ((spec_AreValidRows.f k x0).bind fun t349 => (spec_FormatRows.j1 k x0 x3 x4 t349)) else (spec_FormatRows.j1 k x0 x3 x4 false)
def spec_FormatRows.j1 : Nat → List (S42) → ByteArray → Int → Bool → Option (ByteArray)
 | 0, _, _, _, _ => none
 | k + 1, x0, x3, x4, x12 => if x12 = true then (if x4 > 0 then (if x3.size + 1 ≤ 9223372036854775807 then (if 0 ≤ x4 then (if x4 < (x0.length : Int) then ((spec_FormatRow.f k ((rd_T42 x0 x4).f0) ((rd_T42 x0 x4).f1) ((rd_T42 x0 x4).f2)).bind fun t351 => (if (x3 ++ (⟨#[32]⟩ : ByteArray)).size + t351.size ≤ 9223372036854775807 then (spec_FormatRows.l0 k x0 ((x3 ++ (⟨#[32]⟩ : ByteArray)) ++ t351) (wrap64 (x4 + 1))) else (none))) else (none)) else (none)) else (none)) else (if 0 ≤ x4 then (if x4 < (x0.length : Int) then ((spec_FormatRow.f k ((rd_T42 x0 x4).f0) ((rd_T42 x0 x4).f1) ((rd_T42 x0 x4).f2)).bind fun t353 => (if x3.size + t353.size ≤ 9223372036854775807 then (spec_FormatRows.l0 k x0 (x3 ++ t353) (wrap64 (x4 + 1))) else (none))) else (none)) else (none))) else (some x3)
end
def spec_FormatRows.f (k : Nat) (l0 : List (S42)) : Option (ByteArray) := spec_FormatRows.l0 k l0 (⟨#[]⟩ : ByteArray) 0
theorem spec_FormatRows.mono_l : ∀ k, (∀ y0 y1 y2, LeO (spec_FormatRows.l0 k y0 y1 y2) (spec_FormatRows.l0 (k + 1) y0 y1 y2)) ∧ (∀ y0 y1 y2 y3, LeO (spec_FormatRows.j1 k y0 y1 y2 y3) (spec_FormatRows.j1 (k + 1) y0 y1 y2 y3))
 | 0 => ⟨fun _ _ _ r h => by simp [spec_FormatRows.l0] at h, fun _ _ _ _ r h => by simp [spec_FormatRows.j1] at h⟩
 | k + 1 => by
  obtain ⟨ih0, ih1⟩ := spec_FormatRows.mono_l k
  refine ⟨?_, ?_⟩
  ·intro y0 y1 y2
   unfold spec_FormatRows.l0
   repeat' first
   | (with_reducible exact ih0 _ _ _)
   | (with_reducible exact ih1 _ _ _ _)
   | (with_reducible exact spec_AreValidRows.mono _ _)
   | (with_reducible exact spec_FormatRow.mono _ _ _ _)
   | (with_reducible exact LeO.refl _)
   | (with_reducible exact LeO.none _)
   | (with_reducible refine LeO.ite ?_ ?_)
   | (with_reducible refine LeO.bind ?_ (fun _ => ?_))
  ·intro y0 y1 y2 y3
   unfold spec_FormatRows.j1
   repeat' first
   | (with_reducible exact ih0 _ _ _)
   | (with_reducible exact ih1 _ _ _ _)
   | (with_reducible exact spec_AreValidRows.mono _ _)
   | (with_reducible exact spec_FormatRow.mono _ _ _ _)
   | (with_reducible exact LeO.refl _)
   | (with_reducible exact LeO.none _)
   | (with_reducible refine LeO.ite ?_ ?_)
   | (with_reducible refine LeO.bind ?_ (fun _ => ?_))
theorem spec_FormatRows.mono : ∀ a0 k, LeO (spec_FormatRows.f k a0) (spec_FormatRows.f (k + 1) a0) := by
 intro a0 k
 obtain ⟨ih0, ih1⟩ := spec_FormatRows.mono_l k
 unfold spec_FormatRows.f
 repeat' first
   | (with_reducible exact ih0 _ _ _)
   | (with_reducible exact ih1 _ _ _ _)
   | (with_reducible exact spec_AreValidRows.mono _ _)
   | (with_reducible exact spec_FormatRow.mono _ _ _ _)
   | (with_reducible exact LeO.refl _)
   | (with_reducible exact LeO.none _)
   | (with_reducible refine LeO.ite ?_ ?_)
   | (with_reducible refine LeO.bind ?_ (fun _ => ?_))
set_option maxHeartbeats 8000000 in
set_option maxRecDepth 100000 in
theorem spec_FormatRows.calls (k : Nat) (A0 : Option Addr) (c0 : Nat) (l0 : List (S42)) (r : ByteArray) (w : World) (hr0 : Kd.C k42 w A0 l0.length l0) (hc0 : l0.length ≤ c0) (h : spec_FormatRows.f k l0 = some r) :
  Calls Try.prog 67 #[.slice A0 l0.length c0] w fun e w' => e = .returned (.string r) ∧ Below w.heap.size w w' := by
 have hu42 := Try.underlying42
 have HR0 := kp hr0
 have HC0 := kp hc0
 clear hr0 hc0
 have HB := kp (Below.refl w.heap.size w)
 have H : (spec_FormatRows.l0 k l0 (⟨#[]⟩ : ByteArray) 0) = some r := h
 clear h
 have H' := kp H
 clear H
 go_enter Try.func67, Try.ntmps67
 go_wp2
 go_loopg [3, 4] k (fun kq v3 v4 w' => ∃ (x3_1 : ByteArray) (x4_1 : Int), v3 = .string x3_1 ∧ v4 = .int .i64 x4_1 ∧ Aside0 (spec_FormatRows.l0 kq l0 x3_1 x4_1 = some r) ∧ Aside0 (kq ≤ k) ∧ Aside0 (Below w.heap.size w w'))
 case atStart => exact ⟨((⟨#[]⟩ : ByteArray)), (0), (by first | rfl | (simp; done) | (simp [*]; done)), (by first | rfl | (simp; done) | (simp [*]; done)), H', ⟨Nat.le_refl _⟩, ⟨bb⟩⟩
 case round =>
  clear H'; obtain ⟨x3_1, x4_1, rfl, rfl, HA, HK1, HB⟩ := hrel
  cases gk with
  | zero => exact absurd HA.out (by simp [spec_FormatRows.l0])
  | succ k1 =>
   have H := HA.out; clear HA; simp only [spec_FormatRows.l0] at H; have HC2 := kp H; clear H
   go_upto_region 3 with (fail)
   go_cut [12] (fun v12 wc => ∃ (kq : Nat) (x12_1 : Bool), v12 = .bool x12_1 ∧ Aside0 (spec_FormatRows.j1 kq l0 x3_1 x4_1 x12_1 = some r) ∧ Aside0 (kq ≤ k1) ∧ Aside0 (Below w.heap.size w wc))
   case first =>
    have H := HC2.out; clear HC2
    by_cases c3 : x4_1 < (l0.length : Int)
    ·rw [if_pos c3] at H; have c3b0 : decide (x4_1 < (l0.length : Int)) = true := decide_eq_true c3; clear c3; (first | rw [c3b0] | (simp only [i64_w, i32_w]; rw [c3b0]) | skip); replace H := Option.bind_eq_some_iff.mp H; obtain ⟨t349, A40, H⟩ := H; replace H : (spec_FormatRows.j1 k1 l0 x3_1 x4_1 t349) = some r := H; have A4 := kp A40; clear A40; have H' := kp H; clear H
     go_wp2_with (first | (go_at_call 17; (with_reducible refine (spec_AreValidRows.calls k1 _ _ l0 t349 _ ?side1 ?side2 A4.out).mono ?_); (case side1 => exact cc HR0.out); (case side2 => exact HC0.out); rintro e w5 ⟨rfl, hb⟩; replace HB := kp (below_step bb hb); (try clear hb)))
     go_meet
     case rel => exact ⟨_, (t349), (by first | rfl | (simp; done) | (simp [*]; done)), H', ⟨by have := HK1.out; first | omega | exact Nat.le_refl _⟩, ⟨bb⟩⟩
    ·rw [if_neg c3] at H; have c3b0 : decide (x4_1 < (l0.length : Int)) = false := decide_eq_false c3; clear c3; (first | rw [c3b0] | (simp only [i64_w, i32_w]; rw [c3b0]) | skip); have H' := kp H; clear H; go_wp2
     go_meet
     case rel => exact ⟨_, (false), (by first | rfl | (simp; done) | (simp [*]; done)), H', ⟨by have := HK1.out; first | omega | exact Nat.le_refl _⟩, ⟨bb⟩⟩
   case rest =>
    clear HC2
    obtain ⟨kq, x12_1, rfl, HA, HJ1, HB⟩ := hcut
    cases kq with
    | zero => exact absurd HA.out (by simp [spec_FormatRows.j1])
    | succ kj1 =>
     have H := HA.out; clear HA; simp only [spec_FormatRows.j1] at H
     by_cases c6 : x12_1 = true
     ·subst c6; have H1 : (if x4_1 > 0 then (if x3_1.size + 1 ≤ 9223372036854775807 then (if 0 ≤ x4_1 then (if x4_1 < (l0.length : Int) then ((spec_FormatRow.f kj1 ((rd_T42 l0 x4_1).f0) ((rd_T42 l0 x4_1).f1) ((rd_T42 l0 x4_1).f2)).bind fun t351 => (if (x3_1 ++ (⟨#[32]⟩ : ByteArray)).size + t351.size ≤ 9223372036854775807 then (spec_FormatRows.l0 kj1 l0 ((x3_1 ++ (⟨#[32]⟩ : ByteArray)) ++ t351) (wrap64 (x4_1 + 1))) else (none))) else (none)) else (none)) else (none)) else (if 0 ≤ x4_1 then (if x4_1 < (l0.length : Int) then ((spec_FormatRow.f kj1 ((rd_T42 l0 x4_1).f0) ((rd_T42 l0 x4_1).f1) ((rd_T42 l0 x4_1).f2)).bind fun t353 => (if x3_1.size + t353.size ≤ 9223372036854775807 then (spec_FormatRows.l0 kj1 l0 (x3_1 ++ t353) (wrap64 (x4_1 + 1))) else (none))) else (none)) else (none))) = some r := by rw [if_pos rfl] at H; exact H
      clear H; have H := H1; clear H1
      by_cases c7 : x4_1 > 0
      ·rw [if_pos c7] at H; have c7b0 : decide (0 < x4_1) = true := decide_eq_true c7; clear c7
       by_cases c8 : x3_1.size + 1 ≤ 9223372036854775807
       ·rw [if_pos c8] at H; have c8b0 := eq_true c8; have c8b1 : decide (x3_1.size + 1 ≤ 9223372036854775807) = true := decide_eq_true c8
        try have c8b2 : (9223372036854775807 < x3_1.size + 1) = False := eq_false (Nat.not_lt.2 c8)
        by_cases c9 : 0 ≤ x4_1
        ·rw [if_pos c9] at H; have c9b0 : decide (0 ≤ x4_1) = true := decide_eq_true c9; clear c9
         by_cases c10 : x4_1 < (l0.length : Int)
         ·rw [if_pos c10] at H; have c10b0 : decide (x4_1 < (l0.length : Int)) = true := decide_eq_true c10; clear c10; replace H := Option.bind_eq_some_iff.mp H; obtain ⟨t351, A110, H⟩ := H; replace H : (if (x3_1 ++ (⟨#[32]⟩ : ByteArray)).size + t351.size ≤ 9223372036854775807 then (spec_FormatRows.l0 kj1 l0 ((x3_1 ++ (⟨#[32]⟩ : ByteArray)) ++ t351) (wrap64 (x4_1 + 1))) else (none)) = some r := H; have A11 := kp A110; clear A110
          by_cases c12 : (x3_1 ++ (⟨#[32]⟩ : ByteArray)).size + t351.size ≤ 9223372036854775807
          ·rw [if_pos c12] at H; have c12b0 := eq_true c12; have c12b1 : decide ((x3_1 ++ (⟨#[32]⟩ : ByteArray)).size + t351.size ≤ 9223372036854775807) = true := decide_eq_true c12
           try have c12b2 : (9223372036854775807 < (x3_1 ++ (⟨#[32]⟩ : ByteArray)).size + t351.size) = False := eq_false (Nat.not_lt.2 c12)
           have c12b3 : (9223372036854775807 < x3_1.size + 1 + t351.size) = False := eq_false (by have h_ := c12; have e_ : (⟨#[46]⟩ : ByteArray).size = 1 := rfl; have e2_ : (⟨#[32]⟩ : ByteArray).size = 1 := rfl; have e3_ : (⟨#[91]⟩ : ByteArray).size = 1 := rfl; have e4_ : (⟨#[93]⟩ : ByteArray).size = 1 := rfl; simp only [ByteArray.size_append] at h_; omega); have H' := kp H; clear H; have p350 : 0 ≤ (x4_1 : Int) := dt; have q350 : x4_1 < (l0.length : Int) := dt; obtain ⟨ad350, e350, hx350_0, hx350_1, hx350_2⟩ := at_T42 HR0.out x4_1 p350 q350; cases e350; replace hx350_0 := kc HB.out hx350_0; replace hx350_1 := kc HB.out hx350_1; replace hx350_2 := kc HB.out hx350_2; replace p350 := eq_true p350; replace q350 := eq_true q350
           go_wp2_with (first | ((with_reducible refine gate_callee (f := 89) rfl ?_); refine gl_ 24 Try.func89 #[.agg #[.int .i64 ((rd_T42 l0 x4_1).f0), .int .i64 ((rd_T42 l0 x4_1).f1), .int .i64 ((rd_T42 l0 x4_1).f2)]] ?_; (with_reducible refine (spec_FormatRow.calls kj1 ((rd_T42 l0 x4_1).f0) ((rd_T42 l0 x4_1).f1) ((rd_T42 l0 x4_1).f2) t351 _ A11.out).mono ?_); rintro e w13 ⟨rfl, hb⟩; refine ⟨_, rfl, ?_⟩; replace HB := kp (below_step bb hb); (try clear hb)))
           go_roundg kj1
           case measure => have := HK1.out; have := HJ1.out; omega
           case rel => exact ⟨((x3_1 ++ (⟨#[32]⟩ : ByteArray)) ++ t351), (wrap64 (x4_1 + 1)), (by first | rfl | (simp; done) | (simp [*]; done)), (by first | rfl | (simp; done) | (simp [*]; done)), H', ⟨by have := HK1.out; have := HJ1.out; omega⟩, ⟨bb⟩⟩
          ·rw [if_neg c12] at H; exact absurd H (by simp)
         ·rw [if_neg c10] at H; exact absurd H (by simp)
        ·rw [if_neg c9] at H; exact absurd H (by simp)
       ·rw [if_neg c8] at H; exact absurd H (by simp)
      ·rw [if_neg c7] at H; have c7b0 : decide (0 < x4_1) = false := decide_eq_false c7; clear c7
       by_cases c14 : 0 ≤ x4_1
       ·rw [if_pos c14] at H; have c14b0 : decide (0 ≤ x4_1) = true := decide_eq_true c14; clear c14
        by_cases c15 : x4_1 < (l0.length : Int)
        ·rw [if_pos c15] at H; have c15b0 : decide (x4_1 < (l0.length : Int)) = true := decide_eq_true c15; clear c15; replace H := Option.bind_eq_some_iff.mp H; obtain ⟨t353, A160, H⟩ := H; replace H : (if x3_1.size + t353.size ≤ 9223372036854775807 then (spec_FormatRows.l0 kj1 l0 (x3_1 ++ t353) (wrap64 (x4_1 + 1))) else (none)) = some r := H; have A16 := kp A160; clear A160
         by_cases c17 : x3_1.size + t353.size ≤ 9223372036854775807
         ·rw [if_pos c17] at H; have c17b0 := eq_true c17; have c17b1 : decide (x3_1.size + t353.size ≤ 9223372036854775807) = true := decide_eq_true c17
          try have c17b2 : (9223372036854775807 < x3_1.size + t353.size) = False := eq_false (Nat.not_lt.2 c17)
          have H' := kp H; clear H; have p352 : 0 ≤ (x4_1 : Int) := dt; have q352 : x4_1 < (l0.length : Int) := dt; obtain ⟨ad352, e352, hx352_0, hx352_1, hx352_2⟩ := at_T42 HR0.out x4_1 p352 q352; cases e352; replace hx352_0 := kc HB.out hx352_0; replace hx352_1 := kc HB.out hx352_1; replace hx352_2 := kc HB.out hx352_2; replace p352 := eq_true p352; replace q352 := eq_true q352
          go_wp2_with (first | ((with_reducible refine gate_callee (f := 89) rfl ?_); refine gl_ 24 Try.func89 #[.agg #[.int .i64 ((rd_T42 l0 x4_1).f0), .int .i64 ((rd_T42 l0 x4_1).f1), .int .i64 ((rd_T42 l0 x4_1).f2)]] ?_; (with_reducible refine (spec_FormatRow.calls kj1 ((rd_T42 l0 x4_1).f0) ((rd_T42 l0 x4_1).f1) ((rd_T42 l0 x4_1).f2) t353 _ A16.out).mono ?_); rintro e w18 ⟨rfl, hb⟩; refine ⟨_, rfl, ?_⟩; replace HB := kp (below_step bb hb); (try clear hb)))
          go_roundg kj1
          case measure => have := HK1.out; have := HJ1.out; omega
          case rel => exact ⟨(x3_1 ++ t353), (wrap64 (x4_1 + 1)), (by first | rfl | (simp; done) | (simp [*]; done)), (by first | rfl | (simp; done) | (simp [*]; done)), H', ⟨by have := HK1.out; have := HJ1.out; omega⟩, ⟨bb⟩⟩
         ·rw [if_neg c17] at H; exact absurd H (by simp)
        ·rw [if_neg c15] at H; exact absurd H (by simp)
       ·rw [if_neg c14] at H; exact absurd H (by simp)
     ·replace c6 := Bool.eq_false_iff.mpr c6; subst c6; have H1 : (some x3_1) = some r := by rw [if_neg (show ¬ (false = true) by decide)] at H; exact H
      clear H; have H := H1; clear H1; obtain rfl := Option.some.inj H; go_wp2; go_ret; exact ⟨er, bb⟩
def spec_FormatPages.l0 : Nat → List (S39) → ByteArray → Int → Option (ByteArray)
 | 0, _, _, _ => none
 | k + 1, x0, x3, x4 => if x4 < (x0.length : Int) then ((spec_l4Pages.f k x0).bind fun t354 => (if t354 = true then (if x3.size + 1 ≤ 9223372036854775807 then (if 0 ≤ x4 then ((spec_FormatRows.f k ((rd_T39 x0 x4).f0)).bind fun t356 => (if (x3 ++ (⟨#[91]⟩ : ByteArray)).size + t356.size ≤ 9223372036854775807 then (if ((x3 ++ (⟨#[91]⟩ : ByteArray)) ++ t356).size + 1 ≤ 9223372036854775807 then (spec_FormatPages.l0 k x0 (((x3 ++ (⟨#[91]⟩ : ByteArray)) ++ t356) ++ (⟨#[93]⟩ : ByteArray)) (wrap64 (x4 + 1))) else (none)) else (none))) else (none)) else (none)) else (some x3))) else (some x3)
def spec_FormatPages.f (k : Nat) (l0 : List (S39)) : Option (ByteArray) := spec_FormatPages.l0 k l0 (⟨#[]⟩ : ByteArray) 0
theorem spec_FormatPages.mono_l : ∀ k, (∀ y0 y1 y2, LeO (spec_FormatPages.l0 k y0 y1 y2) (spec_FormatPages.l0 (k + 1) y0 y1 y2))
 | 0 => fun _ _ _ r h => by simp [spec_FormatPages.l0] at h
 | k + 1 => by
  have ih0 := spec_FormatPages.mono_l k
  ·intro y0 y1 y2
   unfold spec_FormatPages.l0
   repeat' first
   | (with_reducible exact ih0 _ _ _)
   | (with_reducible exact spec_FormatRows.mono _ _)
   | (with_reducible exact spec_l4Pages.mono _ _)
   | (with_reducible exact LeO.refl _)
   | (with_reducible exact LeO.none _)
   | (with_reducible refine LeO.ite ?_ ?_)
   | (with_reducible refine LeO.bind ?_ (fun _ => ?_))
theorem spec_FormatPages.mono : ∀ a0 k, LeO (spec_FormatPages.f k a0) (spec_FormatPages.f (k + 1) a0) := by
 intro a0 k
 have ih0 := spec_FormatPages.mono_l k
 unfold spec_FormatPages.f
 repeat' first
   | (with_reducible exact ih0 _ _ _)
   | (with_reducible exact spec_FormatRows.mono _ _)
   | (with_reducible exact spec_l4Pages.mono _ _)
   | (with_reducible exact LeO.refl _)
   | (with_reducible exact LeO.none _)
   | (with_reducible refine LeO.ite ?_ ?_)
   | (with_reducible refine LeO.bind ?_ (fun _ => ?_))
set_option maxHeartbeats 8000000 in
set_option maxRecDepth 100000 in
theorem spec_FormatPages.calls (k : Nat) (A0 : Option Addr) (c0 : Nat) (l0 : List (S39)) (r : ByteArray) (w : World) (hr0 : Kd.C k39 w A0 l0.length l0) (hc0 : l0.length ≤ c0) (h : spec_FormatPages.f k l0 = some r) :
  Calls Try.prog 28 #[.slice A0 l0.length c0] w fun e w' => e = .returned (.string r) ∧ Below w.heap.size w w' := by
 have HR0 := kp hr0
 have HC0 := kp hc0
 clear hr0 hc0
 have HB := kp (Below.refl w.heap.size w)
 have H : (spec_FormatPages.l0 k l0 (⟨#[]⟩ : ByteArray) 0) = some r := h
 clear h
 have H' := kp H
 clear H
 go_enter Try.func28, Try.ntmps28
 go_wp2
 go_loopg [3, 4] k (fun kq v3 v4 w' => ∃ (x3_1 : ByteArray) (x4_1 : Int), v3 = .string x3_1 ∧ v4 = .int .i64 x4_1 ∧ Aside0 (spec_FormatPages.l0 kq l0 x3_1 x4_1 = some r) ∧ Aside0 (kq ≤ k) ∧ Aside0 (Below w.heap.size w w'))
 case atStart => exact ⟨((⟨#[]⟩ : ByteArray)), (0), (by first | rfl | (simp; done) | (simp [*]; done)), (by first | rfl | (simp; done) | (simp [*]; done)), H', ⟨Nat.le_refl _⟩, ⟨bb⟩⟩
 case round =>
  clear H'; obtain ⟨x3_1, x4_1, rfl, rfl, HA, HK1, HB⟩ := hrel
  cases gk with
  | zero => exact absurd HA.out (by simp [spec_FormatPages.l0])
  | succ k1 =>
   have H := HA.out; clear HA; simp only [spec_FormatPages.l0] at H
   by_cases c2 : x4_1 < (l0.length : Int)
   ·rw [if_pos c2] at H; have c2b0 : decide (x4_1 < (l0.length : Int)) = true := decide_eq_true c2; clear c2; replace H := Option.bind_eq_some_iff.mp H; obtain ⟨t354, A30, H⟩ := H; replace H : (if t354 = true then (if x3_1.size + 1 ≤ 9223372036854775807 then (if 0 ≤ x4_1 then ((spec_FormatRows.f k1 ((rd_T39 l0 x4_1).f0)).bind fun t356 => (if (x3_1 ++ (⟨#[91]⟩ : ByteArray)).size + t356.size ≤ 9223372036854775807 then (if ((x3_1 ++ (⟨#[91]⟩ : ByteArray)) ++ t356).size + 1 ≤ 9223372036854775807 then (spec_FormatPages.l0 k1 l0 (((x3_1 ++ (⟨#[91]⟩ : ByteArray)) ++ t356) ++ (⟨#[93]⟩ : ByteArray)) (wrap64 (x4_1 + 1))) else (none)) else (none))) else (none)) else (none)) else (some x3_1)) = some r := H; have A3 := kp A30; clear A30
    by_cases c4 : t354 = true
    ·subst c4; have H1 : (if x3_1.size + 1 ≤ 9223372036854775807 then (if 0 ≤ x4_1 then ((spec_FormatRows.f k1 ((rd_T39 l0 x4_1).f0)).bind fun t356 => (if (x3_1 ++ (⟨#[91]⟩ : ByteArray)).size + t356.size ≤ 9223372036854775807 then (if ((x3_1 ++ (⟨#[91]⟩ : ByteArray)) ++ t356).size + 1 ≤ 9223372036854775807 then (spec_FormatPages.l0 k1 l0 (((x3_1 ++ (⟨#[91]⟩ : ByteArray)) ++ t356) ++ (⟨#[93]⟩ : ByteArray)) (wrap64 (x4_1 + 1))) else (none)) else (none))) else (none)) else (none)) = some r := by rw [if_pos rfl] at H; exact H
     clear H; have H := H1; clear H1
     by_cases c5 : x3_1.size + 1 ≤ 9223372036854775807
     ·rw [if_pos c5] at H; have c5b0 := eq_true c5; have c5b1 : decide (x3_1.size + 1 ≤ 9223372036854775807) = true := decide_eq_true c5
      try have c5b2 : (9223372036854775807 < x3_1.size + 1) = False := eq_false (Nat.not_lt.2 c5)
      by_cases c6 : 0 ≤ x4_1
      ·rw [if_pos c6] at H; have c6b0 : decide (0 ≤ x4_1) = true := decide_eq_true c6; clear c6; replace H := Option.bind_eq_some_iff.mp H; obtain ⟨t356, A70, H⟩ := H; replace H : (if (x3_1 ++ (⟨#[91]⟩ : ByteArray)).size + t356.size ≤ 9223372036854775807 then (if ((x3_1 ++ (⟨#[91]⟩ : ByteArray)) ++ t356).size + 1 ≤ 9223372036854775807 then (spec_FormatPages.l0 k1 l0 (((x3_1 ++ (⟨#[91]⟩ : ByteArray)) ++ t356) ++ (⟨#[93]⟩ : ByteArray)) (wrap64 (x4_1 + 1))) else (none)) else (none)) = some r := H; have A7 := kp A70; clear A70
       by_cases c8 : (x3_1 ++ (⟨#[91]⟩ : ByteArray)).size + t356.size ≤ 9223372036854775807
       ·rw [if_pos c8] at H; have c8b0 := eq_true c8; have c8b1 : decide ((x3_1 ++ (⟨#[91]⟩ : ByteArray)).size + t356.size ≤ 9223372036854775807) = true := decide_eq_true c8
        try have c8b2 : (9223372036854775807 < (x3_1 ++ (⟨#[91]⟩ : ByteArray)).size + t356.size) = False := eq_false (Nat.not_lt.2 c8)
        have c8b3 : (9223372036854775807 < x3_1.size + 1 + t356.size) = False := eq_false (by have h_ := c8; have e_ : (⟨#[46]⟩ : ByteArray).size = 1 := rfl; have e2_ : (⟨#[32]⟩ : ByteArray).size = 1 := rfl; have e3_ : (⟨#[91]⟩ : ByteArray).size = 1 := rfl; have e4_ : (⟨#[93]⟩ : ByteArray).size = 1 := rfl; simp only [ByteArray.size_append] at h_; omega)
        by_cases c9 : ((x3_1 ++ (⟨#[91]⟩ : ByteArray)) ++ t356).size + 1 ≤ 9223372036854775807
        ·rw [if_pos c9] at H; have c9b0 := eq_true c9; have c9b1 : decide (((x3_1 ++ (⟨#[91]⟩ : ByteArray)) ++ t356).size + 1 ≤ 9223372036854775807) = true := decide_eq_true c9
         try have c9b2 : (9223372036854775807 < ((x3_1 ++ (⟨#[91]⟩ : ByteArray)) ++ t356).size + 1) = False := eq_false (Nat.not_lt.2 c9)
         have c9b3 : (9223372036854775807 < x3_1.size + 1 + t356.size + 1) = False := eq_false (by have h_ := c9; have e_ : (⟨#[46]⟩ : ByteArray).size = 1 := rfl; have e2_ : (⟨#[32]⟩ : ByteArray).size = 1 := rfl; have e3_ : (⟨#[91]⟩ : ByteArray).size = 1 := rfl; have e4_ : (⟨#[93]⟩ : ByteArray).size = 1 := rfl; simp only [ByteArray.size_append] at h_; omega); have H' := kp H; clear H
         go_wp2_with (first | (go_at_call 64; (with_reducible refine (spec_l4Pages.calls k1 _ _ l0 true _ ?side1 ?side2 A3.out).mono ?_); (case side1 => exact cc HR0.out); (case side2 => exact HC0.out); rintro e w10 ⟨rfl, hb⟩; replace HB := kp (below_step bb hb); (try clear hb); have p355 : 0 ≤ (x4_1 : Int) := dt; have q355 : x4_1 < (l0.length : Int) := dt; obtain ⟨ad355, A355_0, c355_0, e355, hx355_0, hl355_0, hi355_0⟩ := at_T39 HR0.out x4_1 p355 q355; cases e355; replace hx355_0 := kc HB.out hx355_0; have HR355_0 := kp hi355_0; have HC355_0 := kp hl355_0; clear hi355_0 hl355_0; replace p355 := eq_true p355; replace q355 := eq_true q355) | ((with_reducible refine gate_callee (f := 67) rfl ?_); refine gl_ 22 Try.func67 #[.slice A355_0 ((rd_T39 l0 x4_1).f0).length c355_0] ?_; (with_reducible refine (spec_FormatRows.calls k1 _ _ ((rd_T39 l0 x4_1).f0) t356 _ ?side1 ?side2 A7.out).mono ?_); (case side1 => exact cc HR355_0.out); (case side2 => exact HC355_0.out); rintro e w11 ⟨rfl, hb⟩; refine ⟨_, rfl, ?_⟩; replace HB := kp (below_step bb hb); (try clear hb)))
         go_roundg k1
         case measure => have := HK1.out; omega
         case rel => exact ⟨(((x3_1 ++ (⟨#[91]⟩ : ByteArray)) ++ t356) ++ (⟨#[93]⟩ : ByteArray)), (wrap64 (x4_1 + 1)), (by first | rfl | (simp; done) | (simp [*]; done)), (by first | rfl | (simp; done) | (simp [*]; done)), H', ⟨by have := HK1.out; omega⟩, ⟨bb⟩⟩
        ·rw [if_neg c9] at H; exact absurd H (by simp)
       ·rw [if_neg c8] at H; exact absurd H (by simp)
      ·rw [if_neg c6] at H; exact absurd H (by simp)
     ·rw [if_neg c5] at H; exact absurd H (by simp)
    ·replace c4 := Bool.eq_false_iff.mpr c4; subst c4; have H1 : (some x3_1) = some r := by rw [if_neg (show ¬ (false = true) by decide)] at H; exact H
     clear H; have H := H1; clear H1; obtain rfl := Option.some.inj H
     go_wp2_with (first | (go_at_call 64; (with_reducible refine (spec_l4Pages.calls k1 _ _ l0 false _ ?side1 ?side2 A3.out).mono ?_); (case side1 => exact cc HR0.out); (case side2 => exact HC0.out); rintro e w12 ⟨rfl, hb⟩; replace HB := kp (below_step bb hb); (try clear hb)))
     go_ret; exact ⟨er, bb⟩
   ·rw [if_neg c2] at H; have c2b0 : decide (x4_1 < (l0.length : Int)) = false := decide_eq_false c2; clear c2; obtain rfl := Option.some.inj H; go_wp2; go_ret; exact ⟨er, bb⟩
def spec_l1Pick.f (s0_0 : List Int) (s0_1 : Int) (s0_2 : Int) (l1 : List ByteArray) : Option (ByteArray × Int × Int) := (spec_l1Below.f s0_0 s0_1 s0_2 (l1.length : Int)).bind fun bt357 => (if 0 ≤ bt357.1 then (if bt357.1 < (l1.length : Int) then (some (rdOf ByteArray.empty l1 bt357.1, bt357.2.1, bt357.2.2)) else (none)) else (none))
set_option maxHeartbeats 8000000 in
set_option maxRecDepth 100000 in
theorem spec_l1Pick.calls (g : Nat) (s0_0 : List Int) (s0_1 : Int) (s0_2 : Int) (A1 : Option Addr) (c1 : Nat) (l1 : List ByteArray) (r1 : ByteArray) (r2 : Int) (r3 : Int) (w0 w : World) (hI : IsS93 w0 w g s0_0 s0_1 s0_2) (hB : Below w0.heap.size w0 w) (hr1 : Kd.C Kd.string w A1 l1.length l1) (hc1 : l1.length ≤ c1) (hf1 : ∀ ad, A1 = some ad → 0 < l1.length → ad.block ≠ g) (h : spec_l1Pick.f s0_0 s0_1 s0_2 l1 = some (r1, r2, r3)) :
  Calls Try.prog 59 #[.pointer (some ⟨g, 0, none⟩), .slice A1 l1.length c1] w fun e w' => e = .returned (.string r1) ∧ IsS93 w0 w' g s0_0 r2 r3 ∧ Below w0.heap.size w0 w' ∧ KeepBut w w' g none := by
 have HR1 := kp hr1
 have HC1 := kp hc1
 clear hr1 hc1
 have HI0 := kp hI
 have HK := kp (KeepBut.refl w g none)
 have HL := kp hB.size
 clear hI
 have HW0 := kp hB.size
 have HB := kp hB
 clear hB
 have H : ((spec_l1Below.f s0_0 s0_1 s0_2 (l1.length : Int)).bind fun bt357 => (if 0 ≤ bt357.1 then (if bt357.1 < (l1.length : Int) then (some (rdOf ByteArray.empty l1 bt357.1, bt357.2.1, bt357.2.2)) else (none)) else (none))) = some (r1, r2, r3) := h
 clear h
 replace H := Option.bind_eq_some_iff.mp H
 obtain ⟨⟨t357, t358, t359⟩, A30, H⟩ := H
 replace H : (if 0 ≤ t357 then (if t357 < (l1.length : Int) then (some (rdOf ByteArray.empty l1 t357, t358, t359)) else (none)) else (none)) = some (r1, r2, r3) := H
 have A3 := kp A30
 clear A30
 by_cases c4 : 0 ≤ t357
 ·rw [if_pos c4] at H; have c4b0 : decide (0 ≤ t357) = true := decide_eq_true c4; clear c4
  by_cases c5 : t357 < (l1.length : Int)
  ·rw [if_pos c5] at H; have c5b0 : decide (t357 < (l1.length : Int)) = true := decide_eq_true c5; clear c5; simp only [Option.some.injEq, Prod.mk.injEq] at H; obtain ⟨rfl, rfl, rfl⟩ := H
   go_enter Try.func59, Try.ntmps59
   go_wp2_with (first | ((with_reducible refine gate_callee (f := 82) rfl ?_); refine gl_ 9 Try.func82 #[.pointer (some ⟨g, 0, none⟩), .int .i64 (l1.length : Int)] ?_; (with_reducible refine (spec_l1Below.calls g s0_0 s0_1 s0_2 (l1.length : Int) t357 t358 t359 w0 _ ?side1 ?side2 A3.out).mono ?_); (case side1 => repeat (first | (with_reducible first | exact HI0.out | apply IsS93.alloc | apply IsS93.drewN | apply IsS93.drew | apply IsS93.set_1 | apply IsS93.set_2) | exact HI0.out)); (case side2 => with_reducible repeat (first | exact HB.out | apply cA | apply cN | apply cD | refine below_set ?_ (IsS93.ge HI0.out))); rintro e w6 ⟨rfl, hi, hb, hk⟩; refine ⟨_, rfl, ?_⟩; replace HK := kp (KeepBut.trans (by repeat (first | (with_reducible first | exact HK.out | apply KeepBut.set_ | apply keep_drewN | apply keep_drew | apply keep_alloc) | exact HK.out)) hk (.inl rfl)); replace HB := kp (hb); replace HI0 := kp (hi); (try clear hb); (try clear hk); (try clear hi); have p360 : 0 ≤ (t357 : Int) := dt; have q360 : t357 < (l1.length : Int) := dt; obtain ⟨ad360, e360, hx360_0⟩ := Kd.at_string HR1.out t357 p360 q360; cases e360; replace hx360_0 := keep_cell HK.out hx360_0 (by first | (rw [add_block]; exact hf1 _ rfl (by omega)) | exact hf1 _ rfl (by omega) | exact hf1 ad360 rfl (by omega)); replace p360 := eq_true p360; replace q360 := eq_true q360))
   go_ret; exact ⟨er, by repeat (first | (with_reducible first | exact HI0.out | apply IsS93.alloc | apply IsS93.drewN | apply IsS93.drew | apply IsS93.set_1 | apply IsS93.set_2) | exact HI0.out), by with_reducible repeat (first | exact HB.out | apply cA | apply cN | apply cD | refine below_set ?_ (IsS93.ge HI0.out)), by repeat (first | (with_reducible first | exact HK.out | apply KeepBut.set_ | apply keep_drewN | apply keep_drew | apply keep_alloc) | exact HK.out)⟩
  ·rw [if_neg c5] at H; exact absurd H (by simp)
 ·rw [if_neg c4] at H; exact absurd H (by simp)
def spec_l1Text.l0 : Nat → List Int → Int → Int → List Int → Int → Int → Option (ByteArray × Int × Int)
 | 0, _, _, _, _, _, _ => none
 | k + 1, x5, x6, x7, x1000, x1001, x1002 => if x7 > 0 then ((spec_l1Byte.f x1000 x1001 x1002).bind fun bt370 => (if x6 = 1 then (if x6 = 2 then (if x5.length < 140737488355328 then (spec_l1Text.l0 k (x5 ++ [(wrap64 (97 + (Int.tmod (Int.tmod bt370.1 2) 4))) % 256]) x6 (wrap64 (x7 - 1)) x1000 bt370.2.1 bt370.2.2) else (none)) else (if x5.length < 140737488355328 then (spec_l1Text.l0 k (x5 ++ [(Int.tmod bt370.1 2) % 256]) x6 (wrap64 (x7 - 1)) x1000 bt370.2.1 bt370.2.2) else (none))) else (if x6 = 2 then (if x5.length < 140737488355328 then (spec_l1Text.l0 k (x5 ++ [(wrap64 (97 + (Int.tmod bt370.1 4))) % 256]) x6 (wrap64 (x7 - 1)) x1000 bt370.2.1 bt370.2.2) else (none)) else (if x5.length < 140737488355328 then (spec_l1Text.l0 k (x5 ++ [(bt370.1) % 256]) x6 (wrap64 (x7 - 1)) x1000 bt370.2.1 bt370.2.2) else (none))))) else (some (strOfNums x5, x1001, x1002))
def spec_l1Text.f (k : Nat) (s0_0 : List Int) (s0_1 : Int) (s0_2 : Int) (a1 : Int) : Option (ByteArray × Int × Int) := (spec_l1Below.f s0_0 s0_1 s0_2 4).bind fun bt364 => ((spec_l1Below.f s0_0 bt364.2.1 bt364.2.2 (wrap64 (a1 + 1))).bind fun bt367 => (spec_l1Text.l0 k (([] : List Int)) bt364.1 bt367.1 s0_0 bt367.2.1 bt367.2.2))
theorem spec_l1Text.mono_l : ∀ k, (∀ y0 y1 y2 y3 y4 y5, LeO (spec_l1Text.l0 k y0 y1 y2 y3 y4 y5) (spec_l1Text.l0 (k + 1) y0 y1 y2 y3 y4 y5))
 | 0 => fun _ _ _ _ _ _ r h => by simp [spec_l1Text.l0] at h
 | k + 1 => by
  have ih0 := spec_l1Text.mono_l k
  ·intro y0 y1 y2 y3 y4 y5
   unfold spec_l1Text.l0
   repeat' first
   | (with_reducible exact ih0 _ _ _ _ _ _)
   | (with_reducible exact LeO.refl _)
   | (with_reducible exact LeO.none _)
   | (with_reducible refine LeO.ite ?_ ?_)
   | (with_reducible refine LeO.bind ?_ (fun _ => ?_))
theorem spec_l1Text.mono : ∀ a0 a1 a2 a3 k, LeO (spec_l1Text.f k a0 a1 a2 a3) (spec_l1Text.f (k + 1) a0 a1 a2 a3) := by
 intro a0 a1 a2 a3 k
 have ih0 := spec_l1Text.mono_l k
 unfold spec_l1Text.f
 repeat' first
   | (with_reducible exact ih0 _ _ _ _ _ _)
   | (with_reducible exact LeO.refl _)
   | (with_reducible exact LeO.none _)
   | (with_reducible refine LeO.ite ?_ ?_)
   | (with_reducible refine LeO.bind ?_ (fun _ => ?_))
set_option maxHeartbeats 8000000 in
set_option maxRecDepth 100000 in
theorem spec_l1Text.calls (k : Nat) (g : Nat) (s0_0 : List Int) (s0_1 : Int) (s0_2 : Int) (a1 : Int) (r1 : ByteArray) (r2 : Int) (r3 : Int) (w0 w : World) (hI : IsS93 w0 w g s0_0 s0_1 s0_2) (hB : Below w0.heap.size w0 w) (h : spec_l1Text.f k s0_0 s0_1 s0_2 a1 = some (r1, r2, r3)) :
  Calls Try.prog 83 #[.pointer (some ⟨g, 0, none⟩), .int .i64 a1] w fun e w' => e = .returned (.string r1) ∧ IsS93 w0 w' g s0_0 r2 r3 ∧ Below w0.heap.size w0 w' ∧ KeepBut w w' g none := by
 have HI0 := kp hI
 have HK := kp (KeepBut.refl w g none)
 have HL := kp hB.size
 clear hI
 have HW0 := kp hB.size
 have HB := kp hB
 clear hB
 have H : ((spec_l1Below.f s0_0 s0_1 s0_2 4).bind fun bt364 => ((spec_l1Below.f s0_0 bt364.2.1 bt364.2.2 (wrap64 (a1 + 1))).bind fun bt367 => (spec_l1Text.l0 k (([] : List Int)) bt364.1 bt367.1 s0_0 bt367.2.1 bt367.2.2))) = some (r1, r2, r3) := h
 clear h
 obtain ⟨y361, hy361⟩ : ∃ y_ : List Int, y_ = (([] : List Int)) := ⟨_, rfl⟩
 replace H : ((spec_l1Below.f s0_0 s0_1 s0_2 4).bind fun bt364 => ((spec_l1Below.f s0_0 bt364.2.1 bt364.2.2 (wrap64 (a1 + 1))).bind fun bt367 => (spec_l1Text.l0 k y361 bt364.1 bt367.1 s0_0 bt367.2.1 bt367.2.2))) = some (r1, r2, r3) := by first | (rw [hy361]; with_reducible exact H) | (have H2_ := (Option.bind_some _ _).symm.trans H; rw [hy361]; with_reducible exact H2_) | (have H2_ := (Option.bind_some _ _).symm.trans H; with_reducible exact H2_) | with_reducible exact H | (rw [hy361]; exact H) | exact H
 have Ny361 := kp hy361
 clear hy361
 replace H := Option.bind_eq_some_iff.mp H
 obtain ⟨⟨t364, t365, t366⟩, A30, H⟩ := H
 replace H : ((spec_l1Below.f s0_0 t365 t366 (wrap64 (a1 + 1))).bind fun bt367 => (spec_l1Text.l0 k y361 t364 bt367.1 s0_0 bt367.2.1 bt367.2.2)) = some (r1, r2, r3) := H
 have A3 := kp A30
 clear A30
 replace H := Option.bind_eq_some_iff.mp H
 obtain ⟨⟨t367, t368, t369⟩, A40, H⟩ := H
 replace H : (spec_l1Text.l0 k y361 t364 t367 s0_0 t368 t369) = some (r1, r2, r3) := H
 have A4 := kp A40
 clear A40
 have H' := kp H
 clear H
 go_enter Try.func83, Try.ntmps83
 go_wp2_with (first | ((with_reducible refine gate_dst (N := 9) rfl ?_); refine Kd.R_lit (Kd.int .u8) _ 5 ?hg (N := 9) ?hd (xs := ([] : List Int)) (inner := []) (ok := fun _ => True) (okp := fun _ => True) ?hr ?hp (fun _ hk => hk) trivial (Below.refl _ _) (Nat.le_refl _) (by simp) ?_; (case hd => rfl); (case hg => rfl); (case hr => first | (go_simp; done) | (go_simp; rfl)); (case hp => exact (Reps.none _ _)); intro v362 w5 ho6 hb hg_ hnew_; clear hg_ hnew_; (first | rw [← Ny361.out] at ho6 | (simp only [Int.reduceToNat] at ho6; rw [← Ny361.out] at ho6)); have HO363 := kp (Kd.R_lower ho6 (keep_size (w := w) (g := g) (row := none) (by repeat (first | (with_reducible first | exact HK.out | apply KeepBut.set_ | apply keep_drewN | apply keep_drew | apply keep_alloc) | exact HK.out)))); replace HK := kp (KeepBut.trans (by repeat (first | (with_reducible first | exact HK.out | apply KeepBut.set_ | apply keep_drewN | apply keep_drew | apply keep_alloc) | exact HK.out)) (KeepBut.of_below hb g none) (.inl rfl)); replace HB := kp (below_step (by with_reducible repeat (first | exact HB.out | apply cA | apply cN | apply cD | refine below_set ?_ (IsS93.ge HI0.out))) hb); replace HI0 := kp (IsS93.below (by repeat (first | (with_reducible first | exact HI0.out | apply IsS93.alloc | apply IsS93.drewN | apply IsS93.drew | apply IsS93.set_1 | apply IsS93.set_2) | exact HI0.out)) hb); clear hb ho6) | ((with_reducible refine gate_callee (f := 82) rfl ?_); refine gl_ 11 Try.func82 #[.pointer (some ⟨g, 0, none⟩), .int .i64 4] ?_; (with_reducible refine (spec_l1Below.calls g s0_0 s0_1 s0_2 4 t364 t365 t366 w0 _ ?side1 ?side2 A3.out).mono ?_); (case side1 => repeat (first | (with_reducible first | exact HI0.out | apply IsS93.alloc | apply IsS93.drewN | apply IsS93.drew | apply IsS93.set_1 | apply IsS93.set_2) | exact HI0.out)); (case side2 => with_reducible repeat (first | exact HB.out | apply cA | apply cN | apply cD | refine below_set ?_ (IsS93.ge HI0.out))); rintro e w7 ⟨rfl, hi, hb, hk⟩; refine ⟨_, rfl, ?_⟩; replace HO363 := kp (Kd.R_mono (Kd.R_keep (IsS93.apart (show IsS93 w0 _ g s0_0 s0_1 s0_2 from by repeat (first | (with_reducible first | exact HI0.out | apply IsS93.alloc | apply IsS93.drewN | apply IsS93.drew | apply IsS93.set_1 | apply IsS93.set_2) | exact HI0.out)) (by (with_reducible repeat (first | apply rA | apply rN | apply rD)); exact HO363.out) (by decide)) hk (fun _ h => h.2)) (fun _ h => h.1)); replace HK := kp (KeepBut.trans (by repeat (first | (with_reducible first | exact HK.out | apply KeepBut.set_ | apply keep_drewN | apply keep_drew | apply keep_alloc) | exact HK.out)) hk (.inl rfl)); replace HB := kp (hb); replace HI0 := kp (hi); (try clear hb); (try clear hk); (try clear hi)) | ((with_reducible refine gate_callee (f := 82) rfl ?_); refine gl_ 15 Try.func82 #[.pointer (some ⟨g, 0, none⟩), .int .i64 (wrap64 (a1 + 1))] ?_; (with_reducible refine (spec_l1Below.calls g s0_0 t365 t366 (wrap64 (a1 + 1)) t367 t368 t369 w0 _ ?side1 ?side2 A4.out).mono ?_); (case side1 => repeat (first | (with_reducible first | exact HI0.out | apply IsS93.alloc | apply IsS93.drewN | apply IsS93.drew | apply IsS93.set_1 | apply IsS93.set_2) | exact HI0.out)); (case side2 => with_reducible repeat (first | exact HB.out | apply cA | apply cN | apply cD | refine below_set ?_ (IsS93.ge HI0.out))); rintro e w8 ⟨rfl, hi, hb, hk⟩; refine ⟨_, rfl, ?_⟩; replace HO363 := kp (Kd.R_mono (Kd.R_keep (IsS93.apart (show IsS93 w0 _ g s0_0 t365 t366 from by repeat (first | (with_reducible first | exact HI0.out | apply IsS93.alloc | apply IsS93.drewN | apply IsS93.drew | apply IsS93.set_1 | apply IsS93.set_2) | exact HI0.out)) (by (with_reducible repeat (first | apply rA | apply rN | apply rD)); exact HO363.out) (by decide)) hk (fun _ h => h.2)) (fun _ h => h.1)); replace HK := kp (KeepBut.trans (by repeat (first | (with_reducible first | exact HK.out | apply KeepBut.set_ | apply keep_drewN | apply keep_drew | apply keep_alloc) | exact HK.out)) hk (.inl rfl)); replace HB := kp (hb); replace HI0 := kp (hi); (try clear hb); (try clear hk); (try clear hi)))
 (try simp only [Act.put, List.setIfInBounds_toArray, List.set_cons_zero, List.set_cons_succ])
 go_loopg [5, 7] k (fun kq v5 v7 w' => ∃ (x5_1 : List Int) (x7_1 : Int) (x1001_1 : Int) (x1002_1 : Int), v7 = .int .i64 x7_1 ∧ Aside0 (spec_l1Text.l0 kq x5_1 t364 x7_1 s0_0 x1001_1 x1002_1 = some (r1, r2, r3)) ∧ Aside0 (kq ≤ k) ∧ Aside0 (Kd.R (Kd.int .u8) 5 w' w.heap.size (fun _ => True) v5 x5_1) ∧ Aside0 (IsS93 w0 w' g s0_0 x1001_1 x1002_1) ∧ Aside0 (KeepBut w w' g none) ∧ Aside0 (Below w0.heap.size w0 w'))
 case atStart => exact ⟨(y361), (t367), (t368), (t369), (by first | rfl | (simp; done) | (simp [*]; done)), H', ⟨Nat.le_refl _⟩, ⟨by (with_reducible repeat (first | apply rA | apply rN | apply rD)); exact HO363.out⟩, ⟨by repeat (first | (with_reducible first | exact HI0.out | apply IsS93.alloc | apply IsS93.drewN | apply IsS93.drew | apply IsS93.set_1 | apply IsS93.set_2) | exact HI0.out)⟩, ⟨by repeat (first | (with_reducible first | exact HK.out | apply KeepBut.set_ | apply keep_drewN | apply keep_drew | apply keep_alloc) | exact HK.out)⟩, ⟨by with_reducible repeat (first | exact HB.out | apply cA | apply cN | apply cD | refine below_set ?_ (IsS93.ge HI0.out))⟩⟩
 case round =>
  clear H'
  obtain ⟨x5_1, x7_1, x1001_1, x1002_1, rfl, HA, HK1, HO_5, HI0, HK, HB⟩ := hrel
  cases gk with
  | zero => exact absurd HA.out (by simp [spec_l1Text.l0])
  | succ k1 =>
   have H := HA.out; clear HA; simp only [spec_l1Text.l0] at H
   by_cases c9 : x7_1 > 0
   ·rw [if_pos c9] at H; have c9b0 : decide (0 < x7_1) = true := decide_eq_true c9; clear c9; replace H := Option.bind_eq_some_iff.mp H; obtain ⟨⟨t370, t371, t372⟩, A100, H⟩ := H; replace H : (if t364 = 1 then (if t364 = 2 then (if x5_1.length < 140737488355328 then (spec_l1Text.l0 k1 (x5_1 ++ [(wrap64 (97 + (Int.tmod (Int.tmod t370 2) 4))) % 256]) t364 (wrap64 (x7_1 - 1)) s0_0 t371 t372) else (none)) else (if x5_1.length < 140737488355328 then (spec_l1Text.l0 k1 (x5_1 ++ [(Int.tmod t370 2) % 256]) t364 (wrap64 (x7_1 - 1)) s0_0 t371 t372) else (none))) else (if t364 = 2 then (if x5_1.length < 140737488355328 then (spec_l1Text.l0 k1 (x5_1 ++ [(wrap64 (97 + (Int.tmod t370 4))) % 256]) t364 (wrap64 (x7_1 - 1)) s0_0 t371 t372) else (none)) else (if x5_1.length < 140737488355328 then (spec_l1Text.l0 k1 (x5_1 ++ [(t370) % 256]) t364 (wrap64 (x7_1 - 1)) s0_0 t371 t372) else (none)))) = some (r1, r2, r3) := H; have A10 := kp A100; clear A100
    by_cases c11 : t364 = 1
    ·rw [if_pos c11] at H; have c11b0 : (t364 == 1) = true := beq_iff_eq.mpr c11; have c11b1 : (t364 != 1) = false := bne_eq_false_iff_eq.mpr c11; clear c11
     by_cases c12 : t364 = 2
     ·rw [if_pos c12] at H; have c12b0 : (t364 == 2) = true := beq_iff_eq.mpr c12; have c12b1 : (t364 != 2) = false := bne_eq_false_iff_eq.mpr c12; clear c12
      by_cases c13 : x5_1.length < 140737488355328
      ·rw [if_pos c13] at H; have LMc13 := kp c13; clear c13; obtain ⟨y373, hy373⟩ : ∃ y_ : List Int, y_ = (x5_1 ++ [(wrap64 (97 + (Int.tmod (Int.tmod t370 2) 4))) % 256]) := ⟨_, rfl⟩; replace H : (spec_l1Text.l0 k1 y373 t364 (wrap64 (x7_1 - 1)) s0_0 t371 t372) = some (r1, r2, r3) := by first | (rw [hy373]; with_reducible exact H) | (have H2_ := (Option.bind_some _ _).symm.trans H; rw [hy373]; with_reducible exact H2_) | (have H2_ := (Option.bind_some _ _).symm.trans H; with_reducible exact H2_) | with_reducible exact H | (rw [hy373]; exact H) | exact H
       have Ny373 := kp hy373; clear hy373; have H' := kp H; clear H
       go_wp2_with (first | ((with_reducible refine gate_callee (f := 84) rfl ?_); refine gl_ 21 Try.func84 #[.pointer (some ⟨g, 0, none⟩)] ?_; (with_reducible refine (spec_l1Byte.calls g s0_0 x1001_1 x1002_1 t370 t371 t372 w0 _ ?side1 ?side2 A10.out).mono ?_); (case side1 => repeat (first | (with_reducible first | exact HI0.out | apply IsS93.alloc | apply IsS93.drewN | apply IsS93.drew | apply IsS93.set_1 | apply IsS93.set_2) | exact HI0.out)); (case side2 => with_reducible repeat (first | exact HB.out | apply cA | apply cN | apply cD | refine below_set ?_ (IsS93.ge HI0.out))); rintro e w14 ⟨rfl, hi, hb, hk⟩; refine ⟨_, rfl, ?_⟩; replace HO_5 := kp (Kd.R_mono (Kd.R_keep (IsS93.apart (show IsS93 w0 _ g s0_0 x1001_1 x1002_1 from by repeat (first | (with_reducible first | exact HI0.out | apply IsS93.alloc | apply IsS93.drewN | apply IsS93.drew | apply IsS93.set_1 | apply IsS93.set_2) | exact HI0.out)) (by (with_reducible repeat (first | apply rA | apply rN | apply rD)); exact HO_5.out) (by decide)) hk (fun _ h => h.2)) (fun _ h => h.1)); replace HK := kp (KeepBut.trans (by repeat (first | (with_reducible first | exact HK.out | apply KeepBut.set_ | apply keep_drewN | apply keep_drew | apply keep_alloc) | exact HK.out)) hk (.inl rfl)); replace HB := kp (hb); replace HI0 := kp (hi); (try clear hb); (try clear hk); (try clear hi)) | ((with_reducible refine gate_builtin (b := .append) (xs := #[.tmp 31, .tmp 34]) rfl ?_); at_builtin; refine Kd.R_append (Kd.int .u8) w.heap.size rfl (.tmp 31) (.tmp 34) 33 5 (.int .u8 0) 1 rfl Try.underlying33 info5 rfl (by decide) (by omega) u5 x5_1 ((wrap64 (97 + (Int.tmod (Int.tmod t370 2) 4))) % 256) [.int .u8 ((wrap64 (97 + (Int.tmod (Int.tmod t370 2) 4))) % 256)] (fun _ => True) (fun _ => False) rfl rfl ?aP (fun _ hk => hk.elim) ?aF ?aO (Below.refl _ _) ?aS ?aL ?_; (case aP => exact rfl); (case aF => exact (fun _ _ => trivial)); (case aO => exact (by (with_reducible repeat (first | apply rA | apply rN | apply rD)); exact HO_5.out)); (case aS => exact (keep_size (w := w) (g := g) (row := none) (by repeat (first | (with_reducible first | exact HK.out | apply KeepBut.set_ | apply keep_drewN | apply keep_drew | apply keep_alloc) | exact HK.out)))); (case aL => have := LMc13.out; omega); intro v374 w15 ho hb hg hat; rw [← Ny373.out] at ho; replace HB := kp (below_weaken (by with_reducible repeat (first | exact HB.out | apply cA | apply cN | apply cD | refine below_set ?_ (IsS93.ge HI0.out))) HL.out hb); replace HI0 := kp (IsS93.grown (by repeat (first | (with_reducible first | exact HI0.out | apply IsS93.alloc | apply IsS93.drewN | apply IsS93.drew | apply IsS93.set_1 | apply IsS93.set_2) | exact HI0.out)) hg (IsS93.own_ne HI0.out HO_5.out (by decide))); replace HK := kp (KeepBut.trans (by repeat (first | (with_reducible first | exact HK.out | apply KeepBut.set_ | apply keep_drewN | apply keep_drew | apply keep_alloc) | exact HK.out)) (KeepBut.of_grown hg g) (Kd.R_base2 HO_5.out)); have HO375 := kp (ho); clear HO_5; clear ho hb hg hat))
       go_roundg k1
       case measure => have := HK1.out; omega
       case rel => exact ⟨(y373), (wrap64 (x7_1 - 1)), (t371), (t372), (by first | rfl | (simp; done) | (simp [*]; done)), H', ⟨by have := HK1.out; omega⟩, ⟨by (with_reducible repeat (first | apply rA | apply rN | apply rD)); exact HO375.out⟩, ⟨by repeat (first | (with_reducible first | exact HI0.out | apply IsS93.alloc | apply IsS93.drewN | apply IsS93.drew | apply IsS93.set_1 | apply IsS93.set_2) | exact HI0.out)⟩, ⟨by repeat (first | (with_reducible first | exact HK.out | apply KeepBut.set_ | apply keep_drewN | apply keep_drew | apply keep_alloc) | exact HK.out)⟩, ⟨by with_reducible repeat (first | exact HB.out | apply cA | apply cN | apply cD | refine below_set ?_ (IsS93.ge HI0.out))⟩⟩
      ·rw [if_neg c13] at H; exact absurd H (by simp)
     ·rw [if_neg c12] at H; have c12b0 : (t364 == 2) = false := beq_eq_false_iff_ne.mpr c12; have c12b1 : (t364 != 2) = true := bne_iff_ne.mpr c12
      by_cases c16 : x5_1.length < 140737488355328
      ·rw [if_pos c16] at H; have LMc16 := kp c16; clear c16; obtain ⟨y376, hy376⟩ : ∃ y_ : List Int, y_ = (x5_1 ++ [(Int.tmod t370 2) % 256]) := ⟨_, rfl⟩; replace H : (spec_l1Text.l0 k1 y376 t364 (wrap64 (x7_1 - 1)) s0_0 t371 t372) = some (r1, r2, r3) := by first | (rw [hy376]; with_reducible exact H) | (have H2_ := (Option.bind_some _ _).symm.trans H; rw [hy376]; with_reducible exact H2_) | (have H2_ := (Option.bind_some _ _).symm.trans H; with_reducible exact H2_) | with_reducible exact H | (rw [hy376]; exact H) | exact H
       have Ny376 := kp hy376; clear hy376; have H' := kp H; clear H
       go_wp2_with (first | ((with_reducible refine gate_callee (f := 84) rfl ?_); refine gl_ 21 Try.func84 #[.pointer (some ⟨g, 0, none⟩)] ?_; (with_reducible refine (spec_l1Byte.calls g s0_0 x1001_1 x1002_1 t370 t371 t372 w0 _ ?side1 ?side2 A10.out).mono ?_); (case side1 => repeat (first | (with_reducible first | exact HI0.out | apply IsS93.alloc | apply IsS93.drewN | apply IsS93.drew | apply IsS93.set_1 | apply IsS93.set_2) | exact HI0.out)); (case side2 => with_reducible repeat (first | exact HB.out | apply cA | apply cN | apply cD | refine below_set ?_ (IsS93.ge HI0.out))); rintro e w17 ⟨rfl, hi, hb, hk⟩; refine ⟨_, rfl, ?_⟩; replace HO_5 := kp (Kd.R_mono (Kd.R_keep (IsS93.apart (show IsS93 w0 _ g s0_0 x1001_1 x1002_1 from by repeat (first | (with_reducible first | exact HI0.out | apply IsS93.alloc | apply IsS93.drewN | apply IsS93.drew | apply IsS93.set_1 | apply IsS93.set_2) | exact HI0.out)) (by (with_reducible repeat (first | apply rA | apply rN | apply rD)); exact HO_5.out) (by decide)) hk (fun _ h => h.2)) (fun _ h => h.1)); replace HK := kp (KeepBut.trans (by repeat (first | (with_reducible first | exact HK.out | apply KeepBut.set_ | apply keep_drewN | apply keep_drew | apply keep_alloc) | exact HK.out)) hk (.inl rfl)); replace HB := kp (hb); replace HI0 := kp (hi); (try clear hb); (try clear hk); (try clear hi)) | ((with_reducible refine gate_builtin (b := .append) (xs := #[.tmp 31, .tmp 34]) rfl ?_); at_builtin; refine Kd.R_append (Kd.int .u8) w.heap.size rfl (.tmp 31) (.tmp 34) 33 5 (.int .u8 0) 1 rfl Try.underlying33 info5 rfl (by decide) (by omega) u5 x5_1 ((Int.tmod t370 2) % 256) [.int .u8 ((Int.tmod t370 2) % 256)] (fun _ => True) (fun _ => False) rfl rfl ?aP (fun _ hk => hk.elim) ?aF ?aO (Below.refl _ _) ?aS ?aL ?_; (case aP => exact rfl); (case aF => exact (fun _ _ => trivial)); (case aO => exact (by (with_reducible repeat (first | apply rA | apply rN | apply rD)); exact HO_5.out)); (case aS => exact (keep_size (w := w) (g := g) (row := none) (by repeat (first | (with_reducible first | exact HK.out | apply KeepBut.set_ | apply keep_drewN | apply keep_drew | apply keep_alloc) | exact HK.out)))); (case aL => have := LMc16.out; omega); intro v377 w18 ho hb hg hat; rw [← Ny376.out] at ho; replace HB := kp (below_weaken (by with_reducible repeat (first | exact HB.out | apply cA | apply cN | apply cD | refine below_set ?_ (IsS93.ge HI0.out))) HL.out hb); replace HI0 := kp (IsS93.grown (by repeat (first | (with_reducible first | exact HI0.out | apply IsS93.alloc | apply IsS93.drewN | apply IsS93.drew | apply IsS93.set_1 | apply IsS93.set_2) | exact HI0.out)) hg (IsS93.own_ne HI0.out HO_5.out (by decide))); replace HK := kp (KeepBut.trans (by repeat (first | (with_reducible first | exact HK.out | apply KeepBut.set_ | apply keep_drewN | apply keep_drew | apply keep_alloc) | exact HK.out)) (KeepBut.of_grown hg g) (Kd.R_base2 HO_5.out)); have HO378 := kp (ho); clear HO_5; clear ho hb hg hat))
       go_roundg k1
       case measure => have := HK1.out; omega
       case rel => exact ⟨(y376), (wrap64 (x7_1 - 1)), (t371), (t372), (by first | rfl | (simp; done) | (simp [*]; done)), H', ⟨by have := HK1.out; omega⟩, ⟨by (with_reducible repeat (first | apply rA | apply rN | apply rD)); exact HO378.out⟩, ⟨by repeat (first | (with_reducible first | exact HI0.out | apply IsS93.alloc | apply IsS93.drewN | apply IsS93.drew | apply IsS93.set_1 | apply IsS93.set_2) | exact HI0.out)⟩, ⟨by repeat (first | (with_reducible first | exact HK.out | apply KeepBut.set_ | apply keep_drewN | apply keep_drew | apply keep_alloc) | exact HK.out)⟩, ⟨by with_reducible repeat (first | exact HB.out | apply cA | apply cN | apply cD | refine below_set ?_ (IsS93.ge HI0.out))⟩⟩
      ·rw [if_neg c16] at H; exact absurd H (by simp)
    ·rw [if_neg c11] at H; have c11b0 : (t364 == 1) = false := beq_eq_false_iff_ne.mpr c11; have c11b1 : (t364 != 1) = true := bne_iff_ne.mpr c11
     by_cases c19 : t364 = 2
     ·rw [if_pos c19] at H; have c19b0 : (t364 == 2) = true := beq_iff_eq.mpr c19; have c19b1 : (t364 != 2) = false := bne_eq_false_iff_eq.mpr c19; clear c19
      by_cases c20 : x5_1.length < 140737488355328
      ·rw [if_pos c20] at H; have LMc20 := kp c20; clear c20; obtain ⟨y379, hy379⟩ : ∃ y_ : List Int, y_ = (x5_1 ++ [(wrap64 (97 + (Int.tmod t370 4))) % 256]) := ⟨_, rfl⟩; replace H : (spec_l1Text.l0 k1 y379 t364 (wrap64 (x7_1 - 1)) s0_0 t371 t372) = some (r1, r2, r3) := by first | (rw [hy379]; with_reducible exact H) | (have H2_ := (Option.bind_some _ _).symm.trans H; rw [hy379]; with_reducible exact H2_) | (have H2_ := (Option.bind_some _ _).symm.trans H; with_reducible exact H2_) | with_reducible exact H | (rw [hy379]; exact H) | exact H
       have Ny379 := kp hy379; clear hy379; have H' := kp H; clear H
       go_wp2_with (first | ((with_reducible refine gate_callee (f := 84) rfl ?_); refine gl_ 21 Try.func84 #[.pointer (some ⟨g, 0, none⟩)] ?_; (with_reducible refine (spec_l1Byte.calls g s0_0 x1001_1 x1002_1 t370 t371 t372 w0 _ ?side1 ?side2 A10.out).mono ?_); (case side1 => repeat (first | (with_reducible first | exact HI0.out | apply IsS93.alloc | apply IsS93.drewN | apply IsS93.drew | apply IsS93.set_1 | apply IsS93.set_2) | exact HI0.out)); (case side2 => with_reducible repeat (first | exact HB.out | apply cA | apply cN | apply cD | refine below_set ?_ (IsS93.ge HI0.out))); rintro e w21 ⟨rfl, hi, hb, hk⟩; refine ⟨_, rfl, ?_⟩; replace HO_5 := kp (Kd.R_mono (Kd.R_keep (IsS93.apart (show IsS93 w0 _ g s0_0 x1001_1 x1002_1 from by repeat (first | (with_reducible first | exact HI0.out | apply IsS93.alloc | apply IsS93.drewN | apply IsS93.drew | apply IsS93.set_1 | apply IsS93.set_2) | exact HI0.out)) (by (with_reducible repeat (first | apply rA | apply rN | apply rD)); exact HO_5.out) (by decide)) hk (fun _ h => h.2)) (fun _ h => h.1)); replace HK := kp (KeepBut.trans (by repeat (first | (with_reducible first | exact HK.out | apply KeepBut.set_ | apply keep_drewN | apply keep_drew | apply keep_alloc) | exact HK.out)) hk (.inl rfl)); replace HB := kp (hb); replace HI0 := kp (hi); (try clear hb); (try clear hk); (try clear hi)) | ((with_reducible refine gate_builtin (b := .append) (xs := #[.tmp 31, .tmp 34]) rfl ?_); at_builtin; refine Kd.R_append (Kd.int .u8) w.heap.size rfl (.tmp 31) (.tmp 34) 33 5 (.int .u8 0) 1 rfl Try.underlying33 info5 rfl (by decide) (by omega) u5 x5_1 ((wrap64 (97 + (Int.tmod t370 4))) % 256) [.int .u8 ((wrap64 (97 + (Int.tmod t370 4))) % 256)] (fun _ => True) (fun _ => False) rfl rfl ?aP (fun _ hk => hk.elim) ?aF ?aO (Below.refl _ _) ?aS ?aL ?_; (case aP => exact rfl); (case aF => exact (fun _ _ => trivial)); (case aO => exact (by (with_reducible repeat (first | apply rA | apply rN | apply rD)); exact HO_5.out)); (case aS => exact (keep_size (w := w) (g := g) (row := none) (by repeat (first | (with_reducible first | exact HK.out | apply KeepBut.set_ | apply keep_drewN | apply keep_drew | apply keep_alloc) | exact HK.out)))); (case aL => have := LMc20.out; omega); intro v380 w22 ho hb hg hat; rw [← Ny379.out] at ho; replace HB := kp (below_weaken (by with_reducible repeat (first | exact HB.out | apply cA | apply cN | apply cD | refine below_set ?_ (IsS93.ge HI0.out))) HL.out hb); replace HI0 := kp (IsS93.grown (by repeat (first | (with_reducible first | exact HI0.out | apply IsS93.alloc | apply IsS93.drewN | apply IsS93.drew | apply IsS93.set_1 | apply IsS93.set_2) | exact HI0.out)) hg (IsS93.own_ne HI0.out HO_5.out (by decide))); replace HK := kp (KeepBut.trans (by repeat (first | (with_reducible first | exact HK.out | apply KeepBut.set_ | apply keep_drewN | apply keep_drew | apply keep_alloc) | exact HK.out)) (KeepBut.of_grown hg g) (Kd.R_base2 HO_5.out)); have HO381 := kp (ho); clear HO_5; clear ho hb hg hat))
       go_roundg k1
       case measure => have := HK1.out; omega
       case rel => exact ⟨(y379), (wrap64 (x7_1 - 1)), (t371), (t372), (by first | rfl | (simp; done) | (simp [*]; done)), H', ⟨by have := HK1.out; omega⟩, ⟨by (with_reducible repeat (first | apply rA | apply rN | apply rD)); exact HO381.out⟩, ⟨by repeat (first | (with_reducible first | exact HI0.out | apply IsS93.alloc | apply IsS93.drewN | apply IsS93.drew | apply IsS93.set_1 | apply IsS93.set_2) | exact HI0.out)⟩, ⟨by repeat (first | (with_reducible first | exact HK.out | apply KeepBut.set_ | apply keep_drewN | apply keep_drew | apply keep_alloc) | exact HK.out)⟩, ⟨by with_reducible repeat (first | exact HB.out | apply cA | apply cN | apply cD | refine below_set ?_ (IsS93.ge HI0.out))⟩⟩
      ·rw [if_neg c20] at H; exact absurd H (by simp)
     ·rw [if_neg c19] at H; have c19b0 : (t364 == 2) = false := beq_eq_false_iff_ne.mpr c19; have c19b1 : (t364 != 2) = true := bne_iff_ne.mpr c19
      by_cases c23 : x5_1.length < 140737488355328
      ·rw [if_pos c23] at H; have LMc23 := kp c23; clear c23; obtain ⟨y382, hy382⟩ : ∃ y_ : List Int, y_ = (x5_1 ++ [(t370) % 256]) := ⟨_, rfl⟩; replace H : (spec_l1Text.l0 k1 y382 t364 (wrap64 (x7_1 - 1)) s0_0 t371 t372) = some (r1, r2, r3) := by first | (rw [hy382]; with_reducible exact H) | (have H2_ := (Option.bind_some _ _).symm.trans H; rw [hy382]; with_reducible exact H2_) | (have H2_ := (Option.bind_some _ _).symm.trans H; with_reducible exact H2_) | with_reducible exact H | (rw [hy382]; exact H) | exact H
       have Ny382 := kp hy382; clear hy382; have H' := kp H; clear H
       go_wp2_with (first | ((with_reducible refine gate_callee (f := 84) rfl ?_); refine gl_ 21 Try.func84 #[.pointer (some ⟨g, 0, none⟩)] ?_; (with_reducible refine (spec_l1Byte.calls g s0_0 x1001_1 x1002_1 t370 t371 t372 w0 _ ?side1 ?side2 A10.out).mono ?_); (case side1 => repeat (first | (with_reducible first | exact HI0.out | apply IsS93.alloc | apply IsS93.drewN | apply IsS93.drew | apply IsS93.set_1 | apply IsS93.set_2) | exact HI0.out)); (case side2 => with_reducible repeat (first | exact HB.out | apply cA | apply cN | apply cD | refine below_set ?_ (IsS93.ge HI0.out))); rintro e w24 ⟨rfl, hi, hb, hk⟩; refine ⟨_, rfl, ?_⟩; replace HO_5 := kp (Kd.R_mono (Kd.R_keep (IsS93.apart (show IsS93 w0 _ g s0_0 x1001_1 x1002_1 from by repeat (first | (with_reducible first | exact HI0.out | apply IsS93.alloc | apply IsS93.drewN | apply IsS93.drew | apply IsS93.set_1 | apply IsS93.set_2) | exact HI0.out)) (by (with_reducible repeat (first | apply rA | apply rN | apply rD)); exact HO_5.out) (by decide)) hk (fun _ h => h.2)) (fun _ h => h.1)); replace HK := kp (KeepBut.trans (by repeat (first | (with_reducible first | exact HK.out | apply KeepBut.set_ | apply keep_drewN | apply keep_drew | apply keep_alloc) | exact HK.out)) hk (.inl rfl)); replace HB := kp (hb); replace HI0 := kp (hi); (try clear hb); (try clear hk); (try clear hi)) | ((with_reducible refine gate_builtin (b := .append) (xs := #[.tmp 31, .tmp 34]) rfl ?_); at_builtin; refine Kd.R_append (Kd.int .u8) w.heap.size rfl (.tmp 31) (.tmp 34) 33 5 (.int .u8 0) 1 rfl Try.underlying33 info5 rfl (by decide) (by omega) u5 x5_1 ((t370) % 256) [.int .u8 ((t370) % 256)] (fun _ => True) (fun _ => False) rfl rfl ?aP (fun _ hk => hk.elim) ?aF ?aO (Below.refl _ _) ?aS ?aL ?_; (case aP => exact rfl); (case aF => exact (fun _ _ => trivial)); (case aO => exact (by (with_reducible repeat (first | apply rA | apply rN | apply rD)); exact HO_5.out)); (case aS => exact (keep_size (w := w) (g := g) (row := none) (by repeat (first | (with_reducible first | exact HK.out | apply KeepBut.set_ | apply keep_drewN | apply keep_drew | apply keep_alloc) | exact HK.out)))); (case aL => have := LMc23.out; omega); intro v383 w25 ho hb hg hat; rw [← Ny382.out] at ho; replace HB := kp (below_weaken (by with_reducible repeat (first | exact HB.out | apply cA | apply cN | apply cD | refine below_set ?_ (IsS93.ge HI0.out))) HL.out hb); replace HI0 := kp (IsS93.grown (by repeat (first | (with_reducible first | exact HI0.out | apply IsS93.alloc | apply IsS93.drewN | apply IsS93.drew | apply IsS93.set_1 | apply IsS93.set_2) | exact HI0.out)) hg (IsS93.own_ne HI0.out HO_5.out (by decide))); replace HK := kp (KeepBut.trans (by repeat (first | (with_reducible first | exact HK.out | apply KeepBut.set_ | apply keep_drewN | apply keep_drew | apply keep_alloc) | exact HK.out)) (KeepBut.of_grown hg g) (Kd.R_base2 HO_5.out)); have HO384 := kp (ho); clear HO_5; clear ho hb hg hat))
       go_roundg k1
       case measure => have := HK1.out; omega
       case rel => exact ⟨(y382), (wrap64 (x7_1 - 1)), (t371), (t372), (by first | rfl | (simp; done) | (simp [*]; done)), H', ⟨by have := HK1.out; omega⟩, ⟨by (with_reducible repeat (first | apply rA | apply rN | apply rD)); exact HO384.out⟩, ⟨by repeat (first | (with_reducible first | exact HI0.out | apply IsS93.alloc | apply IsS93.drewN | apply IsS93.drew | apply IsS93.set_1 | apply IsS93.set_2) | exact HI0.out)⟩, ⟨by repeat (first | (with_reducible first | exact HK.out | apply KeepBut.set_ | apply keep_drewN | apply keep_drew | apply keep_alloc) | exact HK.out)⟩, ⟨by with_reducible repeat (first | exact HB.out | apply cA | apply cN | apply cD | refine below_set ?_ (IsS93.ge HI0.out))⟩⟩
      ·rw [if_neg c23] at H; exact absurd H (by simp)
   ·rw [if_neg c9] at H; have c9b0 : decide (0 < x7_1) = false := decide_eq_false c9; clear c9; simp only [Option.some.injEq, Prod.mk.injEq] at H; obtain ⟨rfl, rfl, rfl⟩ := H; have hcv26 := own_string (P := Try.prog) Try.underlying33 Try.underlying5 Try.underlying9 (Kd.own_of_R HO_5.out); go_wp2; go_ret; exact ⟨er, by repeat (first | (with_reducible first | exact HI0.out | apply IsS93.alloc | apply IsS93.drewN | apply IsS93.drew | apply IsS93.set_1 | apply IsS93.set_2) | exact HI0.out), by with_reducible repeat (first | exact HB.out | apply cA | apply cN | apply cD | refine below_set ?_ (IsS93.ge HI0.out)), by repeat (first | (with_reducible first | exact HK.out | apply KeepBut.set_ | apply keep_drewN | apply keep_drew | apply keep_alloc) | exact HK.out)⟩
end Go.Proofs.Ytljpfogplcdcjaa.PFnPagePacking
