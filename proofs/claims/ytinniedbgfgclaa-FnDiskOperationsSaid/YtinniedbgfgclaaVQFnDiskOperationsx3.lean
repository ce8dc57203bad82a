/- Out of a copy of the print, with function values told: nothing is claimed here. -/
import Derived.Test.YtinniedbgfgclaaVQFnDiskOperationsx0
import Derived.Test.YtinniedbgfgclaaVQFnDiskOperationsx2
import Derived.Test.YtinniedbgfgclaaVShort
import Derived.Test.YtinniedbgfgclaaVPress
import Derived.Test.YtinniedbgfgclaaVFoldT
namespace Go.Proofs.Ytinniedbgfgclaa.PFnDiskOperations
open Go.RowKit Go.Proofs.YtinniedbgfgclaaW.PrintWords Go.Proofs.YtinniedbgfgclaaW.PrintLast Go.Proofs.YtinniedbgfgclaaW.PrintMore Go.Proofs.Ytinniedbgfgclaa.Short Go.Proofs.Ytinniedbgfgclaa.Press Go.Proofs.Ytinniedbgfgclaa.Fold
attribute [local go_sem] max2_int min2_int max_two min_two max_three min_three max_four min_four   -- for this text's walks alone
set_option linter.unusedVariables false
set_option linter.unusedSimpArgs false
def spec_FormatRow.f (k : Nat) (a0_0 : Int) (a0_1 : Int) (a0_2 : Int) : Option (ByteArray) := (spec_IsValidRow.f a0_0 a0_1 a0_2).bind fun t124 => (if t124 = true then ((spec_FormatInt.f k a0_0).bind fun t125 => (if t125.size + 1 ≤ 9223372036854775807 then ((spec_FormatInt.f k a0_1).bind fun t126 => (if (t125 ++ (⟨#[46]⟩ : ByteArray)).size + t126.size ≤ 9223372036854775807 then (if ((t125 ++ (⟨#[46]⟩ : ByteArray)) ++ t126).size + 1 ≤ 9223372036854775807 then ((spec_FormatInt.f k a0_2).bind fun t127 => (if (((t125 ++ (⟨#[46]⟩ : ByteArray)) ++ t126) ++ (⟨#[46]⟩ : ByteArray)).size + t127.size ≤ 9223372036854775807 then (some ((((t125 ++ (⟨#[46]⟩ : ByteArray)) ++ t126) ++ (⟨#[46]⟩ : ByteArray)) ++ t127)) else (none))) else (none)) else (none))) else (none))) else (some (⟨#[]⟩ : ByteArray)))
def spec_FormatRow.T3 : Bool × List (List Nat × List Nat) := (true, [([], []), ([0], [0]), ([1], [1]), ([2], [2]), ([], []), ([4], [4]), ([5, 2], [5]), ([3, 6], [3, 6]), ([7], [7]), ([], []), ([9], [9]), ([10, 6], [10]), ([8, 11], [8, 11]), ([12, 11, 0, 1, 2, 3, 4, 5, 6, 7, 8, 9, 10, 11, 12], [12])])
def spec_FormatRow.B3 : List Nat := [0, 1, 3, 7, 0, 16, 55, 127, 255, 0, 512, 1655, 4095, 8191]
theorem spec_FormatRow.tab3 : rtab .any (opsOf Try.f107 3) = spec_FormatRow.T3 := by kernel_rfl
theorem spec_FormatRow.bits3 : waitsOk spec_FormatRow.T3.2 spec_FormatRow.B3 = true := by kernel_rfl
set_option maxHeartbeats 8000000 in
set_option maxRecDepth 100000 in
theorem spec_FormatRow.calls (k : Nat) (a0_0 : Int) (a0_1 : Int) (a0_2 : Int) (r : ByteArray) (w : World) (h : spec_FormatRow.f k a0_0 a0_1 a0_2 = some r) :
  Calls Try.prog 107 #[.agg #[.int .i64 a0_0, .int .i64 a0_1, .int .i64 a0_2]] w fun e w' => e = .returned (.string r) ∧ Below w.heap.size w w' := by
 have hu95 := Try.underlying95; have HB := kp (Below.refl w.heap.size w); have H := h; clear h; unfold spec_FormatRow.f at H; replace H := ob H; obtain ⟨t124, A2, H⟩ := H; by_cases c3 : t124 = true
 ·subst c3; replace H := ip H; replace H := ob H; obtain ⟨t125, A4, H⟩ := H; by_cases c5 : t125.size + 1 ≤ 9223372036854775807
  ·rw [if_pos c5] at H; have c5b0 := eq_true c5; have c5b1 : decide (t125.size + 1 ≤ 9223372036854775807) = true := decide_eq_true c5; try have c5b2 : (9223372036854775807 < t125.size + 1) = False := eq_false (Nat.not_lt.2 c5)
   replace H := ob H; obtain ⟨t126, A6, H⟩ := H; by_cases c7 : (t125 ++ (⟨#[46]⟩ : ByteArray)).size + t126.size ≤ 9223372036854775807
   ·rw [if_pos c7] at H; have c7b0 := eq_true c7; have c7b1 : decide ((t125 ++ (⟨#[46]⟩ : ByteArray)).size + t126.size ≤ 9223372036854775807) = true := decide_eq_true c7; try have c7b2 : (9223372036854775807 < (t125 ++ (⟨#[46]⟩ : ByteArray)).size + t126.size) = False := eq_false (Nat.not_lt.2 c7)
    have c7b3 : (9223372036854775807 < t125.size + 1 + t126.size) = False := eq_false (by have h_ := c7; have e_ : (⟨#[46]⟩ : ByteArray).size = 1 := rfl; have e2_ : (⟨#[32]⟩ : ByteArray).size = 1 := rfl; have e3_ : (⟨#[91]⟩ : ByteArray).size = 1 := rfl; have e4_ : (⟨#[93]⟩ : ByteArray).size = 1 := rfl; simp only [ByteArray.size_append] at h_; omega); by_cases c8 : ((t125 ++ (⟨#[46]⟩ : ByteArray)) ++ t126).size + 1 ≤ 9223372036854775807
    ·rw [if_pos c8] at H; have c8b0 := eq_true c8; have c8b1 : decide (((t125 ++ (⟨#[46]⟩ : ByteArray)) ++ t126).size + 1 ≤ 9223372036854775807) = true := decide_eq_true c8; try have c8b2 : (9223372036854775807 < ((t125 ++ (⟨#[46]⟩ : ByteArray)) ++ t126).size + 1) = False := eq_false (Nat.not_lt.2 c8)
     have c8b3 : (9223372036854775807 < t125.size + 1 + t126.size + 1) = False := eq_false (by have h_ := c8; have e_ : (⟨#[46]⟩ : ByteArray).size = 1 := rfl; have e2_ : (⟨#[32]⟩ : ByteArray).size = 1 := rfl; have e3_ : (⟨#[91]⟩ : ByteArray).size = 1 := rfl; have e4_ : (⟨#[93]⟩ : ByteArray).size = 1 := rfl; simp only [ByteArray.size_append] at h_; omega); replace H := ob H; obtain ⟨t127, A9, H⟩ := H; by_cases c10 : (((t125 ++ (⟨#[46]⟩ : ByteArray)) ++ t126) ++ (⟨#[46]⟩ : ByteArray)).size + t127.size ≤ 9223372036854775807
     ·rw [if_pos c10] at H; have c10b0 := eq_true c10; have c10b1 : decide ((((t125 ++ (⟨#[46]⟩ : ByteArray)) ++ t126) ++ (⟨#[46]⟩ : ByteArray)).size + t127.size ≤ 9223372036854775807) = true := decide_eq_true c10; try have c10b2 : (9223372036854775807 < (((t125 ++ (⟨#[46]⟩ : ByteArray)) ++ t126) ++ (⟨#[46]⟩ : ByteArray)).size + t127.size) = False := eq_false (Nat.not_lt.2 c10)
      have c10b3 : (9223372036854775807 < t125.size + 1 + t126.size + 1 + t127.size) = False := eq_false (by have h_ := c10; have e_ : (⟨#[46]⟩ : ByteArray).size = 1 := rfl; have e2_ : (⟨#[32]⟩ : ByteArray).size = 1 := rfl; have e3_ : (⟨#[91]⟩ : ByteArray).size = 1 := rfl; have e4_ : (⟨#[93]⟩ : ByteArray).size = 1 := rfl; simp only [ByteArray.size_append] at h_; omega); obtain rfl := Option.some.inj H; go_enter Try.func107, Try.ntmps107; try go_wp2_with (first | ((with_reducible refine gate_dst (N := 1) rfl ?_); refine bx_ 1 #[.int .i64 a0_0, .int .i64 a0_1, .int .i64 a0_2] 95 ?_; intro gb123 hg w11 hbox hb; have BK123 := kp (hbox); have GE123 := kp (bs hg); replace HB := kp (below_step bb hb); clear hb hbox hg; obtain ⟨hcz12_0, hcz12_1, hcz12_2, hfz12_0, hfz12_1, hfz12_2⟩ := bf3 BK123.out) | ((with_reducible refine gate_callee (f := 118) rfl ?_); refine gl_ 4 Try.func118 #[.agg #[.int .i64 a0_0, .int .i64 a0_1, .int .i64 a0_2]] ?_; (with_reducible refine (spec_IsValidRow.calls a0_0 a0_1 a0_2 true _ A2.out).mono ?_); rintro e w13 ⟨rfl, hb⟩; refine ⟨_, rfl, ?_⟩; replace BK123 := kp (kb BK123.out hb); replace HB := kp (below_step bb hb); (try clear hb)))
      replace BK123 := kp (blk_drew BK123.out); replace HB := kp (below_drew1 HB.out); refine st_ 14 spec_FormatRow.tab3 spec_FormatRow.bits3 (hz3 BK123) (fun hHeld HT_ HW_ => ?_); generalize w13.drew = w14 at BK123 HB hHeld ⊢; refine pq 0 6 HT_ ?_; refine pq 4 10 HT_ ?_; refine pq 9 15 HT_ ?_; refine tq 1 7 HT_ HW_ hHeld ?_; refine tq 5 11 HT_ HW_ hHeld ?_; refine tq 10 16 HT_ HW_ hHeld ?_; refine on_ 2 (some 8) HT_ (fun K hK => ?_); refine gs_ Try.func120 #[.int .i64 a0_0] ?_; with_reducible refine (spec_FormatInt.calls k a0_0 t125 _ A4.out).mono ?_
      rintro e w15 ⟨rfl, hb⟩; refine ⟨_, rfl, ?_⟩; replace BK123 := kp (kb BK123.out hb); replace HB := kp (below_step bb hb); (try clear hb); (try clear hk); refine hk_ 8 hK (fun hHeld => ?_); clear hK K; refine pq 3 9 HT_ ?_; refine on_ 6 (some 12) HT_ (fun K hK => ?_); refine gs_ Try.func120 #[.int .i64 a0_1] ?_; with_reducible refine (spec_FormatInt.calls k a0_1 t126 _ A6.out).mono ?_
      rintro e w16 ⟨rfl, hb⟩; refine ⟨_, rfl, ?_⟩; replace BK123 := kp (kb BK123.out hb); replace HB := kp (below_step bb hb); (try clear hb); (try clear hk); refine hk_ 12 hK (fun hHeld => ?_); clear hK K; refine pq 7 13 HT_ ?_; refine pq 8 14 HT_ ?_; refine on_ 11 (some 17) HT_ (fun K hK => ?_); refine gs_ Try.func120 #[.int .i64 a0_2] ?_; with_reducible refine (spec_FormatInt.calls k a0_2 t127 _ A9.out).mono ?_
      rintro e w17 ⟨rfl, hb⟩; refine ⟨_, rfl, ?_⟩; replace BK123 := kp (kb BK123.out hb); replace HB := kp (below_step bb hb); (try clear hb); (try clear hk); refine hk_ 17 hK (fun hHeld => ?_); clear hK K; refine pq 12 18 HT_ ?_; refine pq 13 2 HT_ ?_; refine done_ (done_of HT_.out (by kernel_rfl)) ?_; try go_wp2
      go_ret; exact ⟨er, bb⟩
     ·rw [if_neg c10] at H; exact absurd H (by simp)
    ·rw [if_neg c8] at H; exact absurd H (by simp)
   ·rw [if_neg c7] at H; exact absurd H (by simp)
  ·rw [if_neg c5] at H; exact absurd H (by simp)
 ·replace c3 := Bool.eq_false_iff.mpr c3; subst c3; replace H := ie H; obtain rfl := Option.some.inj H; go_enter Try.func107, Try.ntmps107; go_wp2_with (first | ((with_reducible refine gate_dst (N := 1) rfl ?_); refine bx_ 1 #[.int .i64 a0_0, .int .i64 a0_1, .int .i64 a0_2] 95 ?_; intro gb123 hg w18 hbox hb; have BK123 := kp (hbox); have GE123 := kp (bs hg); replace HB := kp (below_step bb hb); clear hb hbox hg; obtain ⟨hcz19_0, hcz19_1, hcz19_2, hfz19_0, hfz19_1, hfz19_2⟩ := bf3 BK123.out) | ((with_reducible refine gate_callee (f := 118) rfl ?_); refine gl_ 4 Try.func118 #[.agg #[.int .i64 a0_0, .int .i64 a0_1, .int .i64 a0_2]] ?_; (with_reducible refine (spec_IsValidRow.calls a0_0 a0_1 a0_2 false _ A2.out).mono ?_); rintro e w20 ⟨rfl, hb⟩; refine ⟨_, rfl, ?_⟩; replace BK123 := kp (kb BK123.out hb); replace HB := kp (below_step bb hb); (try clear hb))); go_ret; exact ⟨er, bb⟩
mutual
def spec_FormatRows.l0 : Nat → List (S95) → ByteArray → Int → Option (ByteArray)
 | 0, _, _, _ => none
 | k + 1, x0, x3, x4 => if x4 < (x0.length : Int) then ((spec_AreValidRows.f k x0).bind fun t128 => (spec_FormatRows.j1 k x0 x3 x4 t128)) else (spec_FormatRows.j1 k x0 x3 x4 false)
def spec_FormatRows.j1 : Nat → List (S95) → ByteArray → Int → Bool → Option (ByteArray)
 | 0, _, _, _, _ => none
 | k + 1, x0, x3, x4, x12 => if x12 = true then (if x4 > 0 then (if x3.size + 1 ≤ 9223372036854775807 then (if 0 ≤ x4 then (if x4 < (x0.length : Int) then ((spec_FormatRow.f k ((rd_T95 x0 x4).f0) ((rd_T95 x0 x4).f1) ((rd_T95 x0 x4).f2)).bind fun t130 => (if (x3 ++ (⟨#[32]⟩ : ByteArray)).size + t130.size ≤ 9223372036854775807 then (spec_FormatRows.l0 k x0 ((x3 ++ (⟨#[32]⟩ : ByteArray)) ++ t130) (wrap64 (x4 + 1))) else (none))) else (none)) else (none)) else (none)) else (if 0 ≤ x4 then (if x4 < (x0.length : Int) then ((spec_FormatRow.f k ((rd_T95 x0 x4).f0) ((rd_T95 x0 x4).f1) ((rd_T95 x0 x4).f2)).bind fun t132 => (if x3.size + t132.size ≤ 9223372036854775807 then (spec_FormatRows.l0 k x0 (x3 ++ t132) (wrap64 (x4 + 1))) else (none))) else (none)) else (none))) else (some x3)
end
def spec_FormatRows.f (k : Nat) (l0 : List (S95)) : Option (ByteArray) := spec_FormatRows.l0 k l0 (⟨#[]⟩ : ByteArray) 0
set_option maxHeartbeats 8000000 in
set_option maxRecDepth 100000 in
theorem spec_FormatRows.calls (k : Nat) (A0 : Option Addr) (c0 : Nat) (l0 : List (S95)) (r : ByteArray) (w : World) (hr0 : Kd.C k95 w A0 l0.length l0) (hc0 : l0.length ≤ c0) (h : spec_FormatRows.f k l0 = some r) :
  Calls Try.prog 86 #[.slice A0 l0.length c0] w fun e w' => e = .returned (.string r) ∧ Below w.heap.size w w' := by
 have hu95 := Try.underlying95; have HR0 := kp hr0; have HC0 := kp hc0; clear hr0 hc0; have HB := kp (Below.refl w.heap.size w); have H := h; clear h; unfold spec_FormatRows.f at H; have H' := kp H; clear H; go_enter Try.func86, Try.ntmps86; go_wp2; go_loopg [3, 4] k (fun kq v3 v4 w' => ∃ (x3_1 : ByteArray) (x4_1 : Int), v3 = .string x3_1 ∧ v4 = .int .i64 x4_1 ∧ Aside0 (spec_FormatRows.l0 kq l0 x3_1 x4_1 = some r) ∧ Aside0 (kq ≤ k) ∧ Aside0 (Below w.heap.size w w')); case atStart => exact ⟨((⟨#[]⟩ : ByteArray)), (0), vr, vr, H', ⟨Nat.le_refl _⟩, ⟨bb⟩⟩
 case round =>
  clear H'; obtain ⟨x3_1, x4_1, rfl, rfl, HA, HK1, HB⟩ := hrel
  cases gk with
  | zero => exact absurd HA.out (by simp [spec_FormatRows.l0])
  | succ k1 =>
   have H := HA.out; clear HA; simp only [spec_FormatRows.l0] at H; have HC2 := kp H; clear H; go_upto_region 3 with (fail); go_cut [12] (fun v12 wc => ∃ (kq : Nat) (x12_1 : Bool), v12 = .bool x12_1 ∧ Aside0 (spec_FormatRows.j1 kq l0 x3_1 x4_1 x12_1 = some r) ∧ Aside0 (kq ≤ k1) ∧ Aside0 (Below w.heap.size w wc))
   case first =>
    have H := HC2.out; clear HC2; replace H := sp H; rcases H with ⟨c3b0, H⟩ | ⟨c3b0, H⟩
    ·(first | rw [c3b0] | (simp only [i64_w, i32_w]; rw [c3b0]) | skip); replace H := ob H; obtain ⟨t128, A4, H⟩ := H; have H' := kp H; clear H; go_wp2_with (first | (go_at_call 105; (with_reducible refine (spec_AreValidRows.calls k1 _ _ l0 t128 _ ?side1 ?side2 A4.out).mono ?_); (case side1 => exact cc HR0.out); (case side2 => exact HC0.out); rintro e w5 ⟨rfl, hb⟩; replace HB := kp (below_step bb hb); (try clear hb))); go_meet; case rel => exact ⟨_, (t128), vr, H', ⟨by have := HK1.out; first | omega | exact Nat.le_refl _⟩, ⟨bb⟩⟩
    ·(first | rw [c3b0] | (simp only [i64_w, i32_w]; rw [c3b0]) | skip); have H' := kp H; clear H; go_wp2; go_meet; case rel => exact ⟨_, (false), vr, H', ⟨by have := HK1.out; first | omega | exact Nat.le_refl _⟩, ⟨bb⟩⟩
   case rest =>
    clear HC2; obtain ⟨kq, x12_1, rfl, HA, HJ1, HB⟩ := hcut
    cases kq with
    | zero => exact absurd HA.out (by simp [spec_FormatRows.j1])
    | succ kj1 =>
     have H := HA.out; clear HA; simp only [spec_FormatRows.j1] at H; by_cases c6 : x12_1 = true
     ·subst c6; replace H := ip H; replace H := sp H; rcases H with ⟨c7b0, H⟩ | ⟨c7b0, H⟩
      ·by_cases c8 : x3_1.size + 1 ≤ 9223372036854775807
       ·rw [if_pos c8] at H; have c8b0 := eq_true c8; have c8b1 : decide (x3_1.size + 1 ≤ 9223372036854775807) = true := decide_eq_true c8; try have c8b2 : (9223372036854775807 < x3_1.size + 1) = False := eq_false (Nat.not_lt.2 c8)
        replace H := sn H; obtain ⟨c9b0, H⟩ := H; replace H := sn H; obtain ⟨c10b0, H⟩ := H; replace H := ob H; obtain ⟨t130, A11, H⟩ := H; by_cases c12 : (x3_1 ++ (⟨#[32]⟩ : ByteArray)).size + t130.size ≤ 9223372036854775807
        ·rw [if_pos c12] at H; have c12b0 := eq_true c12; have c12b1 : decide ((x3_1 ++ (⟨#[32]⟩ : ByteArray)).size + t130.size ≤ 9223372036854775807) = true := decide_eq_true c12; try have c12b2 : (9223372036854775807 < (x3_1 ++ (⟨#[32]⟩ : ByteArray)).size + t130.size) = False := eq_false (Nat.not_lt.2 c12)
         have c12b3 : (9223372036854775807 < x3_1.size + 1 + t130.size) = False := eq_false (by have h_ := c12; have e_ : (⟨#[46]⟩ : ByteArray).size = 1 := rfl; have e2_ : (⟨#[32]⟩ : ByteArray).size = 1 := rfl; have e3_ : (⟨#[91]⟩ : ByteArray).size = 1 := rfl; have e4_ : (⟨#[93]⟩ : ByteArray).size = 1 := rfl; simp only [ByteArray.size_append] at h_; omega); have H' := kp H; clear H; obtain ⟨ad129, rfl, hx129_0, hx129_1, hx129_2, p129, q129⟩ := ra_T95 HR0 HB x4_1 dt dt; go_wp2_with (first | ((with_reducible refine gate_callee (f := 107) rfl ?_); refine gl_ 24 Try.func107 #[.agg #[.int .i64 ((rd_T95 l0 x4_1).f0), .int .i64 ((rd_T95 l0 x4_1).f1), .int .i64 ((rd_T95 l0 x4_1).f2)]] ?_; (with_reducible refine (spec_FormatRow.calls kj1 ((rd_T95 l0 x4_1).f0) ((rd_T95 l0 x4_1).f1) ((rd_T95 l0 x4_1).f2) t130 _ A11.out).mono ?_); rintro e w13 ⟨rfl, hb⟩; refine ⟨_, rfl, ?_⟩; replace HB := kp (below_step bb hb); (try clear hb))); go_roundg kj1; case measure => have := HK1.out; have := HJ1.out; omega
         case rel => exact ⟨((x3_1 ++ (⟨#[32]⟩ : ByteArray)) ++ t130), (wrap64 (x4_1 + 1)), vr, vr, H', ⟨by have := HK1.out; have := HJ1.out; omega⟩, ⟨bb⟩⟩
        ·rw [if_neg c12] at H; exact absurd H (by simp)
       ·rw [if_neg c8] at H; exact absurd H (by simp)
      ·replace H := sn H; obtain ⟨c14b0, H⟩ := H; replace H := sn H; obtain ⟨c15b0, H⟩ := H; replace H := ob H; obtain ⟨t132, A16, H⟩ := H; by_cases c17 : x3_1.size + t132.size ≤ 9223372036854775807
       ·rw [if_pos c17] at H; have c17b0 := eq_true c17; have c17b1 : decide (x3_1.size + t132.size ≤ 9223372036854775807) = true := decide_eq_true c17; try have c17b2 : (9223372036854775807 < x3_1.size + t132.size) = False := eq_false (Nat.not_lt.2 c17)
        have H' := kp H; clear H; obtain ⟨ad131, rfl, hx131_0, hx131_1, hx131_2, p131, q131⟩ := ra_T95 HR0 HB x4_1 dt dt; go_wp2_with (first | ((with_reducible refine gate_callee (f := 107) rfl ?_); refine gl_ 24 Try.func107 #[.agg #[.int .i64 ((rd_T95 l0 x4_1).f0), .int .i64 ((rd_T95 l0 x4_1).f1), .int .i64 ((rd_T95 l0 x4_1).f2)]] ?_; (with_reducible refine (spec_FormatRow.calls kj1 ((rd_T95 l0 x4_1).f0) ((rd_T95 l0 x4_1).f1) ((rd_T95 l0 x4_1).f2) t132 _ A16.out).mono ?_); rintro e w18 ⟨rfl, hb⟩; refine ⟨_, rfl, ?_⟩; replace HB := kp (below_step bb hb); (try clear hb))); go_roundg kj1; case measure => have := HK1.out; have := HJ1.out; omega
        case rel => exact ⟨(x3_1 ++ t132), (wrap64 (x4_1 + 1)), vr, vr, H', ⟨by have := HK1.out; have := HJ1.out; omega⟩, ⟨bb⟩⟩
       ·rw [if_neg c17] at H; exact absurd H (by simp)
     ·replace c6 := Bool.eq_false_iff.mpr c6; subst c6; replace H := ie H; obtain rfl := Option.some.inj H; go_wp2; go_ret; exact ⟨er, bb⟩
def spec_FormatPages.l0 : Nat → List (S39) → ByteArray → Int → Option (ByteArray)
 | 0, _, _, _ => none
 | k + 1, x0, x3, x4 => if x4 < (x0.length : Int) then ((spec_l4Pages.f k x0).bind fun t133 => (if t133 = true then (if x3.size + 1 ≤ 9223372036854775807 then (if 0 ≤ x4 then ((spec_FormatRows.f k ((rd_T39 x0 x4).f0)).bind fun t135 => (if (x3 ++ (⟨#[91]⟩ : ByteArray)).size + t135.size ≤ 9223372036854775807 then (if ((x3 ++ (⟨#[91]⟩ : ByteArray)) ++ t135).size + 1 ≤ 9223372036854775807 then (spec_FormatPages.l0 k x0 (((x3 ++ (⟨#[91]⟩ : ByteArray)) ++ t135) ++ (⟨#[93]⟩ : ByteArray)) (wrap64 (x4 + 1))) else (none)) else (none))) else (none)) else (none)) else (some x3))) else (some x3)
def spec_FormatPages.f (k : Nat) (l0 : List (S39)) : Option (ByteArray) := spec_FormatPages.l0 k l0 (⟨#[]⟩ : ByteArray) 0
set_option maxHeartbeats 8000000 in
set_option maxRecDepth 100000 in
theorem spec_FormatPages.calls (k : Nat) (A0 : Option Addr) (c0 : Nat) (l0 : List (S39)) (r : ByteArray) (w : World) (hr0 : Kd.C k39 w A0 l0.length l0) (hc0 : l0.length ≤ c0) (h : spec_FormatPages.f k l0 = some r) :
  Calls Try.prog 42 #[.slice A0 l0.length c0] w fun e w' => e = .returned (.string r) ∧ Below w.heap.size w w' := by
 have HR0 := kp hr0; have HC0 := kp hc0; clear hr0 hc0; have HB := kp (Below.refl w.heap.size w); have H := h; clear h; unfold spec_FormatPages.f at H; have H' := kp H; clear H; go_enter Try.func42, Try.ntmps42; go_wp2; go_loopg [3, 4] k (fun kq v3 v4 w' => ∃ (x3_1 : ByteArray) (x4_1 : Int), v3 = .string x3_1 ∧ v4 = .int .i64 x4_1 ∧ Aside0 (spec_FormatPages.l0 kq l0 x3_1 x4_1 = some r) ∧ Aside0 (kq ≤ k) ∧ Aside0 (Below w.heap.size w w')); case atStart => exact ⟨((⟨#[]⟩ : ByteArray)), (0), vr, vr, H', ⟨Nat.le_refl _⟩, ⟨bb⟩⟩
 case round =>
  clear H'; obtain ⟨x3_1, x4_1, rfl, rfl, HA, HK1, HB⟩ := hrel
  cases gk with
  | zero => exact absurd HA.out (by simp [spec_FormatPages.l0])
  | succ k1 =>
   have H := HA.out; clear HA; simp only [spec_FormatPages.l0] at H; replace H := sp H; rcases H with ⟨c2b0, H⟩ | ⟨c2b0, H⟩
   ·replace H := ob H; obtain ⟨t133, A3, H⟩ := H; by_cases c4 : t133 = true
    ·subst c4; replace H := ip H; by_cases c5 : x3_1.size + 1 ≤ 9223372036854775807
     ·rw [if_pos c5] at H; have c5b0 := eq_true c5; have c5b1 : decide (x3_1.size + 1 ≤ 9223372036854775807) = true := decide_eq_true c5; try have c5b2 : (9223372036854775807 < x3_1.size + 1) = False := eq_false (Nat.not_lt.2 c5)
      replace H := sn H; obtain ⟨c6b0, H⟩ := H; replace H := ob H; obtain ⟨t135, A7, H⟩ := H; by_cases c8 : (x3_1 ++ (⟨#[91]⟩ : ByteArray)).size + t135.size ≤ 9223372036854775807
      ·rw [if_pos c8] at H; have c8b0 := eq_true c8; have c8b1 : decide ((x3_1 ++ (⟨#[91]⟩ : ByteArray)).size + t135.size ≤ 9223372036854775807) = true := decide_eq_true c8; try have c8b2 : (9223372036854775807 < (x3_1 ++ (⟨#[91]⟩ : ByteArray)).size + t135.size) = False := eq_false (Nat.not_lt.2 c8)
       have c8b3 : (9223372036854775807 < x3_1.size + 1 + t135.size) = False := eq_false (by have h_ := c8; have e_ : (⟨#[46]⟩ : ByteArray).size = 1 := rfl; have e2_ : (⟨#[32]⟩ : ByteArray).size = 1 := rfl; have e3_ : (⟨#[91]⟩ : ByteArray).size = 1 := rfl; have e4_ : (⟨#[93]⟩ : ByteArray).size = 1 := rfl; simp only [ByteArray.size_append] at h_; omega); by_cases c9 : ((x3_1 ++ (⟨#[91]⟩ : ByteArray)) ++ t135).size + 1 ≤ 9223372036854775807
       ·rw [if_pos c9] at H; have c9b0 := eq_true c9; have c9b1 : decide (((x3_1 ++ (⟨#[91]⟩ : ByteArray)) ++ t135).size + 1 ≤ 9223372036854775807) = true := decide_eq_true c9; try have c9b2 : (9223372036854775807 < ((x3_1 ++ (⟨#[91]⟩ : ByteArray)) ++ t135).size + 1) = False := eq_false (Nat.not_lt.2 c9)
        have c9b3 : (9223372036854775807 < x3_1.size + 1 + t135.size + 1) = False := eq_false (by have h_ := c9; have e_ : (⟨#[46]⟩ : ByteArray).size = 1 := rfl; have e2_ : (⟨#[32]⟩ : ByteArray).size = 1 := rfl; have e3_ : (⟨#[91]⟩ : ByteArray).size = 1 := rfl; have e4_ : (⟨#[93]⟩ : ByteArray).size = 1 := rfl; simp only [ByteArray.size_append] at h_; omega); have H' := kp H; clear H; go_wp2_with (first | (go_at_call 85; (with_reducible refine (spec_l4Pages.calls k1 _ _ l0 true _ ?side1 ?side2 A3.out).mono ?_); (case side1 => exact cc HR0.out); (case side2 => exact HC0.out); rintro e w10 ⟨rfl, hb⟩; replace HB := kp (below_step bb hb); (try clear hb); have p134 : 0 ≤ (x4_1 : Int) := dt; have q134 : x4_1 < (l0.length : Int) := dt; obtain ⟨ad134, A134_0, c134_0, e134, hx134_0, hl134_0, hi134_0⟩ := at_T39 HR0.out x4_1 p134 q134; cases e134; replace hx134_0 := kc HB.out hx134_0; have HR134_0 := kp hi134_0; have HC134_0 := kp hl134_0; clear hi134_0 hl134_0; replace p134 := eq_true p134; replace q134 := eq_true q134) | ((with_reducible refine gate_callee (f := 86) rfl ?_); refine gl_ 22 Try.func86 #[.slice A134_0 ((rd_T39 l0 x4_1).f0).length c134_0] ?_; (with_reducible refine (spec_FormatRows.calls k1 _ _ ((rd_T39 l0 x4_1).f0) t135 _ ?side1 ?side2 A7.out).mono ?_); (case side1 => exact cc HR134_0.out); (case side2 => exact HC134_0.out); rintro e w11 ⟨rfl, hb⟩; refine ⟨_, rfl, ?_⟩; replace HB := kp (below_step bb hb); (try clear hb))); go_roundg k1; case measure => have := HK1.out; omega
        case rel => exact ⟨(((x3_1 ++ (⟨#[91]⟩ : ByteArray)) ++ t135) ++ (⟨#[93]⟩ : ByteArray)), (wrap64 (x4_1 + 1)), vr, vr, H', ⟨by have := HK1.out; omega⟩, ⟨bb⟩⟩
       ·rw [if_neg c9] at H; exact absurd H (by simp)
      ·rw [if_neg c8] at H; exact absurd H (by simp)
     ·rw [if_neg c5] at H; exact absurd H (by simp)
    ·replace c4 := Bool.eq_false_iff.mpr c4; subst c4; replace H := ie H; obtain rfl := Option.some.inj H; go_wp2_with (first | (go_at_call 85; (with_reducible refine (spec_l4Pages.calls k1 _ _ l0 false _ ?side1 ?side2 A3.out).mono ?_); (case side1 => exact cc HR0.out); (case side2 => exact HC0.out); rintro e w12 ⟨rfl, hb⟩; replace HB := kp (below_step bb hb); (try clear hb))); go_ret; exact ⟨er, bb⟩
   ·obtain rfl := Option.some.inj H; go_wp2; go_ret; exact ⟨er, bb⟩
def spec_CountPages.l0 : Nat → Int → Int → List (S80) → Int → Option (Int)
 | 0, _, _, _, _ => none
 | k + 1, x3, x4, x137000, x137001 => if x4 < (x137000.length : Int) then (if 0 ≤ x4 then (spec_CountPages.l0 k (wrap64 (x3 + (((rd_T80 x137000 x4).f1).length : Int))) (wrap64 (x4 + 1)) x137000 x137001) else (none)) else (some x3)
def spec_CountPages.f (k : Nat) (l0_0 : List (S80)) (a0_1 : Int) : Option (Int) := spec_CountPages.l0 k 0 0 l0_0 a0_1
set_option maxHeartbeats 8000000 in
set_option maxRecDepth 100000 in
theorem spec_CountPages.calls (k : Nat) (A0_0 : Option Addr) (c0_0 : Nat) (l0_0 : List (S80)) (a0_1 : Int) (r : Int) (w : World) (hr0_0 : Kd.C k80 w A0_0 l0_0.length l0_0) (hc0_0 : l0_0.length ≤ c0_0) (h : spec_CountPages.f k l0_0 a0_1 = some r) :
  Calls Try.prog 76 #[.agg #[.slice A0_0 l0_0.length c0_0, .int .i64 a0_1]] w fun e w' => e = .returned (.int .i64 r) ∧ Below w.heap.size w w' := by
 have hu28 := Try.underlying28; have HR0_0 := kp hr0_0; have HC0_0 := kp hc0_0; clear hr0_0 hc0_0; have HB := kp (Below.refl w.heap.size w); have H := h; clear h; unfold spec_CountPages.f at H; have H' := kp H; clear H; go_enter Try.func76, Try.ntmps76; go_wp2_with (first | ((with_reducible refine gate_dst (N := 1) rfl ?_); refine bx_ 1 #[.slice A0_0 l0_0.length c0_0, .int .i64 a0_1] 28 ?_; intro gb136 hg w2 hbox hb; have BK136 := kp (hbox); have GE136 := kp (bs hg); replace HB := kp (below_step bb hb); clear hb hbox hg)); (try simp only [Act.put, List.setIfInBounds_toArray, List.set_cons_zero, List.set_cons_succ]); go_loopg [3, 4] k (fun kq v3 v4 w' => ∃ (x3_1 : Int) (x4_1 : Int), v3 = .int .i64 x3_1 ∧ v4 = .int .i64 x4_1 ∧ Aside0 (spec_CountPages.l0 kq x3_1 x4_1 l0_0 a0_1 = some r) ∧ Aside0 (kq ≤ k) ∧ Aside0 (w'.heap[gb136]? = some (.cells #[(.slice A0_0 l0_0.length c0_0), .int .i64 a0_1] 28 (0, 0))) ∧ Aside0 (Below w.heap.size w w')); case atStart => exact ⟨(0), (0), vr, vr, H', ⟨Nat.le_refl _⟩, ⟨kk BK136.out⟩, ⟨bb⟩⟩
 case round =>
  clear H'; obtain ⟨x3_1, x4_1, rfl, rfl, HA, HK1, BK136, HB⟩ := hrel
  cases gk with
  | zero => exact absurd HA.out (by simp [spec_CountPages.l0])
  | succ k1 =>
   have H := HA.out; clear HA; simp only [spec_CountPages.l0] at H; replace H := sp H; rcases H with ⟨c3b0, H⟩ | ⟨c3b0, H⟩
   ·replace H := sn H; obtain ⟨c4b0, H⟩ := H; have H' := kp H; clear H; obtain ⟨hcz5_0, hcz5_1, hfz5_0, hfz5_1⟩ := bf2 BK136.out; obtain ⟨ad137, A137_1, c137_1, rfl, hx137_0, hx137_1, hx137_2, hx137_3, HC137_1, HR137_1, p137, q137⟩ := ra_T80 HR0_0 HB x4_1 dt dt; go_wp2; go_roundg k1; case measure => have := HK1.out; omega
    case rel => exact ⟨(wrap64 (x3_1 + (((rd_T80 l0_0 x4_1).f1).length : Int))), (wrap64 (x4_1 + 1)), vr, vr, H', ⟨by have := HK1.out; omega⟩, ⟨kk BK136.out⟩, ⟨bb⟩⟩
   ·obtain rfl := Option.some.inj H; obtain ⟨hcz6_0, hcz6_1, hfz6_0, hfz6_1⟩ := bf2 BK136.out; go_wp2; go_ret; exact ⟨er, bb⟩
end Go.Proofs.Ytinniedbgfgclaa.PFnDiskOperations
