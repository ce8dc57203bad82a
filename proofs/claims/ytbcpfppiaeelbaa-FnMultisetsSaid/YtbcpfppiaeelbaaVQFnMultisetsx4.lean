/- Out of a copy of the print, with function values told: nothing is claimed here. -/
import Derived.Test.YtbcpfppiaeelbaaVQFnMultisetsx0
import Derived.Test.YtbcpfppiaeelbaaVQFnMultisetsx1
import Derived.Test.YtbcpfppiaeelbaaVQFnMultisetsx3
import Derived.Test.YtbcpfppiaeelbaaVShort
import Derived.Test.YtbcpfppiaeelbaaVPress
namespace Go.Proofs.Ytbcpfppiaeelbaa.PFnMultisets
open Go.RowKit Go.Proofs.YtbcpfppiaeelbaaW.PrintWords Go.Proofs.YtbcpfppiaeelbaaW.PrintLast Go.Proofs.YtbcpfppiaeelbaaW.PrintMore Go.Proofs.Ytbcpfppiaeelbaa.Short Go.Proofs.Ytbcpfppiaeelbaa.Press
attribute [local go_sem] max2_int min2_int max_two min_two max_three min_three max_four min_four   -- for this text's walks alone
set_option linter.unusedVariables false
set_option linter.unusedSimpArgs false
attribute [local go_sem high] eqA36
def spec_EqualBags.l0 : Nat → List (S36) → List (S36) → Int → Option (Bool)
 | 0, _, _, _ => none
 | k + 1, x5, x6, x7 => if x7 < (x5.length : Int) then (if 0 ≤ x7 then (if x7 < (x6.length : Int) then (if (!(((rd_T36 x5 x7).f0) == ((rd_T36 x6 x7).f0)) || (!(((rd_T36 x5 x7).f1) == ((rd_T36 x6 x7).f1)) || (!(((rd_T36 x5 x7).f2) == ((rd_T36 x6 x7).f2))))) = true then (some false) else (spec_EqualBags.l0 k x5 x6 (wrap64 (x7 + 1)))) else (none)) else (none)) else (some true)
def spec_EqualBags.f (k : Nat) (l0 : List (S36)) (l1 : List (S36)) : Option (Bool) := (spec_SortRows.f k l0).bind fun t167 => ((spec_SortRows.f k l1).bind fun t170 => (if (t167.length : Int) = (t170.length : Int) then (spec_EqualBags.l0 k t167 t170 0) else (some false)))
set_option maxHeartbeats 8000000 in
set_option maxRecDepth 100000 in
theorem spec_EqualBags.calls (k : Nat) (A0 : Option Addr) (c0 : Nat) (l0 : List (S36)) (A1 : Option Addr) (c1 : Nat) (l1 : List (S36)) (r : Bool) (w : World) (hr0 : Kd.C k36 w A0 l0.length l0) (hc0 : l0.length ≤ c0) (hr1 : Kd.C k36 w A1 l1.length l1) (hc1 : l1.length ≤ c1) (h : spec_EqualBags.f k l0 l1 = some r) :
  Calls Try.prog 10 #[.slice A0 l0.length c0, .slice A1 l1.length c1] w fun e w' => e = .returned (.bool r) ∧ Below w.heap.size w w' := by
 have hu36 := Try.underlying36
 have HR0 := kp hr0
 have HC0 := kp hc0
 clear hr0 hc0
 have HR1 := kp hr1
 have HC1 := kp hc1
 clear hr1 hc1
 have HB := kp (Below.refl w.heap.size w)
 have H : ((spec_SortRows.f k l0).bind fun t167 => ((spec_SortRows.f k l1).bind fun t170 => (if (t167.length : Int) = (t170.length : Int) then (spec_EqualBags.l0 k t167 t170 0) else (some false)))) = some r := h
 clear h
 replace H := Option.bind_eq_some_iff.mp H
 obtain ⟨t167, A30, H⟩ := H
 replace H : ((spec_SortRows.f k l1).bind fun t170 => (if (t167.length : Int) = (t170.length : Int) then (spec_EqualBags.l0 k t167 t170 0) else (some false))) = some r := H
 have A3 := kp A30
 clear A30
 replace H := Option.bind_eq_some_iff.mp H
 obtain ⟨t170, A40, H⟩ := H
 replace H : (if (t167.length : Int) = (t170.length : Int) then (spec_EqualBags.l0 k t167 t170 0) else (some false)) = some r := H
 have A4 := kp A40
 clear A40
 by_cases c5 : (t167.length : Int) = (t170.length : Int)
 ·rw [if_pos c5] at H; have c5b0 : ((t167.length : Int) == (t170.length : Int)) = true := beq_iff_eq.mpr c5; have c5b1 : ((t167.length : Int) != (t170.length : Int)) = false := bne_eq_false_iff_eq.mpr c5; have c5b2 : (t167.length == t170.length) = true := by first | simpa using c5 | (simp at c5 ⊢; omega)
  clear c5; have H' := kp H; clear H
  go_enter Try.func10, Try.ntmps10
  go_wp2_with (first | (go_at_call 14; (with_reducible refine (spec_SortRows.calls k _ _ l0 t167 _ ?side1 ?side2 A3.out).mono ?_); (case side1 => repeat (first | exact HR0.out | (with_reducible refine Kd.C_alloc ?_ _) | (with_reducible refine Kd.C_drewN ?_ _) | (with_reducible refine Kd.C_drew ?_))); (case side2 => exact HC0.out); rintro e w6 ⟨v168, rfl, ho0, hb⟩; have n0_ := kp (Kd.R_lower ho0 (below_size bb)); have n1_ := kp (below_step bb hb); clear HB; have HO169 := n0_; have HB := n1_; clear n0_ n1_; (try clear hb); (try clear ho0)) | (go_at_call 14; (with_reducible refine (spec_SortRows.calls k _ _ l1 t170 _ ?side1 ?side2 A4.out).mono ?_); (case side1 => exact cc HR1.out); (case side2 => exact HC1.out); rintro e w7 ⟨v171, rfl, ho0, hb⟩; have n0_ := kp (Kd.R_elder' (by (with_reducible repeat (first | apply rA | apply rN | apply rD)); exact HO169.out) (Kd.R_base ho0) hb); have n1_ := kp (Kd.R_lower (Kd.R_new' ho0 (Kd.R_lt (by (with_reducible repeat (first | apply rA | apply rN | apply rD)); exact HO169.out))) (below_size bb)); have n2_ := kp (below_step bb hb); clear HO169; clear HB; have HO169 := n0_; have HO172 := n1_; have HB := n2_; clear n0_ n1_ n2_; (try clear hb); (try clear ho0); obtain ⟨Ao8, co8, eo8⟩ := Kd.R_slice HO169.out; subst eo8; obtain ⟨Ao9, co9, eo9⟩ := Kd.R_slice HO172.out; subst eo9))
  repeat (go_quiet (first | (go_at_call 14; (with_reducible refine (spec_SortRows.calls k _ _ l0 t167 _ ?side1 ?side2 A3.out).mono ?_); (case side1 => repeat (first | exact HR0.out | (with_reducible refine Kd.C_alloc ?_ _) | (with_reducible refine Kd.C_drewN ?_ _) | (with_reducible refine Kd.C_drew ?_))); (case side2 => exact HC0.out); rintro e w6 ⟨v168, rfl, ho0, hb⟩; have n0_ := kp (Kd.R_lower ho0 (below_size bb)); have n1_ := kp (below_step bb hb); clear HB; have HO169 := n0_; have HB := n1_; clear n0_ n1_; (try clear hb); (try clear ho0)) | (go_at_call 14; (with_reducible refine (spec_SortRows.calls k _ _ l1 t170 _ ?side1 ?side2 A4.out).mono ?_); (case side1 => exact cc HR1.out); (case side2 => exact HC1.out); rintro e w7 ⟨v171, rfl, ho0, hb⟩; have n0_ := kp (Kd.R_elder' (by (with_reducible repeat (first | apply rA | apply rN | apply rD)); exact HO169.out) (Kd.R_base ho0) hb); have n1_ := kp (Kd.R_lower (Kd.R_new' ho0 (Kd.R_lt (by (with_reducible repeat (first | apply rA | apply rN | apply rD)); exact HO169.out))) (below_size bb)); have n2_ := kp (below_step bb hb); clear HO169; clear HB; have HO169 := n0_; have HO172 := n1_; have HB := n2_; clear n0_ n1_ n2_; (try clear hb); (try clear ho0); obtain ⟨Ao8, co8, eo8⟩ := Kd.R_slice HO169.out; subst eo8; obtain ⟨Ao9, co9, eo9⟩ := Kd.R_slice HO172.out; subst eo9)); try go_wp2_with (first | (go_at_call 14; (with_reducible refine (spec_SortRows.calls k _ _ l0 t167 _ ?side1 ?side2 A3.out).mono ?_); (case side1 => repeat (first | exact HR0.out | (with_reducible refine Kd.C_alloc ?_ _) | (with_reducible refine Kd.C_drewN ?_ _) | (with_reducible refine Kd.C_drew ?_))); (case side2 => exact HC0.out); rintro e w6 ⟨v168, rfl, ho0, hb⟩; have n0_ := kp (Kd.R_lower ho0 (below_size bb)); have n1_ := kp (below_step bb hb); clear HB; have HO169 := n0_; have HB := n1_; clear n0_ n1_; (try clear hb); (try clear ho0)) | (go_at_call 14; (with_reducible refine (spec_SortRows.calls k _ _ l1 t170 _ ?side1 ?side2 A4.out).mono ?_); (case side1 => exact cc HR1.out); (case side2 => exact HC1.out); rintro e w7 ⟨v171, rfl, ho0, hb⟩; have n0_ := kp (Kd.R_elder' (by (with_reducible repeat (first | apply rA | apply rN | apply rD)); exact HO169.out) (Kd.R_base ho0) hb); have n1_ := kp (Kd.R_lower (Kd.R_new' ho0 (Kd.R_lt (by (with_reducible repeat (first | apply rA | apply rN | apply rD)); exact HO169.out))) (below_size bb)); have n2_ := kp (below_step bb hb); clear HO169; clear HB; have HO169 := n0_; have HO172 := n1_; have HB := n2_; clear n0_ n1_ n2_; (try clear hb); (try clear ho0); obtain ⟨Ao8, co8, eo8⟩ := Kd.R_slice HO169.out; subst eo8; obtain ⟨Ao9, co9, eo9⟩ := Kd.R_slice HO172.out; subst eo9)))
  go_loopg [7] k (fun kq v7 w' => ∃ (x7_1 : Int), v7 = .int .i64 x7_1 ∧ Aside0 (spec_EqualBags.l0 kq t167 t170 x7_1 = some r) ∧ Aside0 (kq ≤ k) ∧ Aside0 (Kd.R k36 36 w' w.heap.size (fun k_ => some k_ ≠ ((.slice Ao9 t170.length co9) : Value).ownBlock) (.slice Ao8 t167.length co8) t167) ∧ Aside0 (Kd.R k36 36 w' w.heap.size (fun k_ => some k_ ≠ ((.slice Ao8 t167.length co8) : Value).ownBlock) (.slice Ao9 t170.length co9) t170) ∧ Aside0 (Below w.heap.size w w'))
  case atStart => exact ⟨(0), (by first | rfl | (simp; done) | (simp [*]; done)), H', ⟨Nat.le_refl _⟩, ⟨by (with_reducible repeat (first | apply rA | apply rN | apply rD)); exact Kd.R_mono HO169.out (fun _ hk => hk.2)⟩, ⟨by (with_reducible repeat (first | apply rA | apply rN | apply rD)); exact Kd.R_mono HO172.out (fun _ hk => hk.2)⟩, ⟨bb⟩⟩
  case round =>
   clear H'
   try clear c1
   try clear p2
   try clear c5
   try clear c5b0
   try clear c5b1
   try clear c5b2
   obtain ⟨x7_1, rfl, HA, HK1, HO_5, HO_6, HB⟩ := hrel
   cases gk with
   | zero => exact absurd HA.out (by simp [spec_EqualBags.l0])
   | succ k1 =>
    have H := HA.out; clear HA; simp only [spec_EqualBags.l0] at H
    by_cases c10 : x7_1 < (t167.length : Int)
    ·rw [if_pos c10] at H; have c10b0 : decide (x7_1 < (t167.length : Int)) = true := decide_eq_true c10; clear c10
     by_cases c11 : 0 ≤ x7_1
     ·rw [if_pos c11] at H; have c11b0 : decide (0 ≤ x7_1) = true := decide_eq_true c11; clear c11
      by_cases c12 : x7_1 < (t170.length : Int)
      ·rw [if_pos c12] at H; have c12b0 : decide (x7_1 < (t170.length : Int)) = true := decide_eq_true c12; clear c12
       by_cases c13 : (!(((rd_T36 t167 x7_1).f0) == ((rd_T36 t170 x7_1).f0)) || (!(((rd_T36 t167 x7_1).f1) == ((rd_T36 t170 x7_1).f1)) || (!(((rd_T36 t167 x7_1).f2) == ((rd_T36 t170 x7_1).f2))))) = true
       ·rw [if_pos c13] at H; have c13b0 : (!(((rd_T36 t167 x7_1).f0) == ((rd_T36 t170 x7_1).f0)) || (!(((rd_T36 t167 x7_1).f1) == ((rd_T36 t170 x7_1).f1)) || (!(((rd_T36 t167 x7_1).f2) == ((rd_T36 t170 x7_1).f2))))) = true := c13; clear c13; obtain rfl := Option.some.inj H; have p173 : 0 ≤ (x7_1 : Int) := dt; have q173 : x7_1 < (t167.length : Int) := dt; obtain ⟨ad173, e173, hx173_0, hx173_1, hx173_2⟩ := at_T36 (Kd.R_reads' HO_5.out).2.2 x7_1 p173 q173; cases e173; replace p173 := eq_true p173; replace q173 := eq_true q173; have p174 : 0 ≤ (x7_1 : Int) := dt; have q174 : x7_1 < (t170.length : Int) := dt; obtain ⟨ad174, e174, hx174_0, hx174_1, hx174_2⟩ := at_T36 (Kd.R_reads' HO_6.out).2.2 x7_1 p174 q174; cases e174; replace p174 := eq_true p174; replace q174 := eq_true q174; go_wp2
        repeat (go_quiet (fail); try go_wp2)
        go_ret; exact ⟨er, bb⟩
       ·rw [if_neg c13] at H; have c13b0 : (!(((rd_T36 t167 x7_1).f0) == ((rd_T36 t170 x7_1).f0)) || (!(((rd_T36 t167 x7_1).f1) == ((rd_T36 t170 x7_1).f1)) || (!(((rd_T36 t167 x7_1).f2) == ((rd_T36 t170 x7_1).f2))))) = false := by simpa using c13
        clear c13; have H' := kp H; clear H; have p173 : 0 ≤ (x7_1 : Int) := dt; have q173 : x7_1 < (t167.length : Int) := dt; obtain ⟨ad173, e173, hx173_0, hx173_1, hx173_2⟩ := at_T36 (Kd.R_reads' HO_5.out).2.2 x7_1 p173 q173; cases e173; replace p173 := eq_true p173; replace q173 := eq_true q173; have p174 : 0 ≤ (x7_1 : Int) := dt; have q174 : x7_1 < (t170.length : Int) := dt; obtain ⟨ad174, e174, hx174_0, hx174_1, hx174_2⟩ := at_T36 (Kd.R_reads' HO_6.out).2.2 x7_1 p174 q174; cases e174; replace p174 := eq_true p174; replace q174 := eq_true q174; go_wp2
        repeat (go_quiet (fail); try go_wp2)
        go_roundg k1
        case measure => have := HK1.out; omega
        case rel => exact ⟨(wrap64 (x7_1 + 1)), (by first | rfl | (simp; done) | (simp [*]; done)), H', ⟨by have := HK1.out; omega⟩, ⟨by (with_reducible repeat (first | apply rA | apply rN | apply rD)); exact HO_5.out⟩, ⟨by (with_reducible repeat (first | apply rA | apply rN | apply rD)); exact HO_6.out⟩, ⟨bb⟩⟩
      ·rw [if_neg c12] at H; exact absurd H (by simp)
     ·rw [if_neg c11] at H; exact absurd H (by simp)
    ·rw [if_neg c10] at H; have c10b0 : decide (x7_1 < (t167.length : Int)) = false := decide_eq_false c10; clear c10; obtain rfl := Option.some.inj H; go_wp2
     repeat (go_quiet (fail); try go_wp2)
     go_ret; exact ⟨er, bb⟩
 ·rw [if_neg c5] at H; have c5b0 : ((t167.length : Int) == (t170.length : Int)) = false := beq_eq_false_iff_ne.mpr c5; have c5b1 : ((t167.length : Int) != (t170.length : Int)) = true := bne_iff_ne.mpr c5; have c5b2 : (t167.length == t170.length) = false := by first | simpa using c5 | (simp at c5 ⊢; omega)
  obtain rfl := Option.some.inj H
  go_enter Try.func10, Try.ntmps10
  go_wp2_with (first | (go_at_call 14; (with_reducible refine (spec_SortRows.calls k _ _ l0 t167 _ ?side1 ?side2 A3.out).mono ?_); (case side1 => repeat (first | exact HR0.out | (with_reducible refine Kd.C_alloc ?_ _) | (with_reducible refine Kd.C_drewN ?_ _) | (with_reducible refine Kd.C_drew ?_))); (case side2 => exact HC0.out); rintro e w14 ⟨v168, rfl, ho0, hb⟩; have n0_ := kp (Kd.R_lower ho0 (below_size bb)); have n1_ := kp (below_step bb hb); clear HB; have HO169 := n0_; have HB := n1_; clear n0_ n1_; (try clear hb); (try clear ho0)) | (go_at_call 14; (with_reducible refine (spec_SortRows.calls k _ _ l1 t170 _ ?side1 ?side2 A4.out).mono ?_); (case side1 => exact cc HR1.out); (case side2 => exact HC1.out); rintro e w15 ⟨v171, rfl, ho0, hb⟩; have n0_ := kp (Kd.R_elder' (by (with_reducible repeat (first | apply rA | apply rN | apply rD)); exact HO169.out) (Kd.R_base ho0) hb); have n1_ := kp (Kd.R_lower (Kd.R_new' ho0 (Kd.R_lt (by (with_reducible repeat (first | apply rA | apply rN | apply rD)); exact HO169.out))) (below_size bb)); have n2_ := kp (below_step bb hb); clear HO169; clear HB; have HO169 := n0_; have HO172 := n1_; have HB := n2_; clear n0_ n1_ n2_; (try clear hb); (try clear ho0); obtain ⟨Ao16, co16, eo16⟩ := Kd.R_slice HO169.out; subst eo16; obtain ⟨Ao17, co17, eo17⟩ := Kd.R_slice HO172.out; subst eo17))
  repeat (go_quiet (first | (go_at_call 14; (with_reducible refine (spec_SortRows.calls k _ _ l0 t167 _ ?side1 ?side2 A3.out).mono ?_); (case side1 => repeat (first | exact HR0.out | (with_reducible refine Kd.C_alloc ?_ _) | (with_reducible refine Kd.C_drewN ?_ _) | (with_reducible refine Kd.C_drew ?_))); (case side2 => exact HC0.out); rintro e w14 ⟨v168, rfl, ho0, hb⟩; have n0_ := kp (Kd.R_lower ho0 (below_size bb)); have n1_ := kp (below_step bb hb); clear HB; have HO169 := n0_; have HB := n1_; clear n0_ n1_; (try clear hb); (try clear ho0)) | (go_at_call 14; (with_reducible refine (spec_SortRows.calls k _ _ l1 t170 _ ?side1 ?side2 A4.out).mono ?_); (case side1 => exact cc HR1.out); (case side2 => exact HC1.out); rintro e w15 ⟨v171, rfl, ho0, hb⟩; have n0_ := kp (Kd.R_elder' (by (with_reducible repeat (first | apply rA | apply rN | apply rD)); exact HO169.out) (Kd.R_base ho0) hb); have n1_ := kp (Kd.R_lower (Kd.R_new' ho0 (Kd.R_lt (by (with_reducible repeat (first | apply rA | apply rN | apply rD)); exact HO169.out))) (below_size bb)); have n2_ := kp (below_step bb hb); clear HO169; clear HB; have HO169 := n0_; have HO172 := n1_; have HB := n2_; clear n0_ n1_ n2_; (try clear hb); (try clear ho0); obtain ⟨Ao16, co16, eo16⟩ := Kd.R_slice HO169.out; subst eo16; obtain ⟨Ao17, co17, eo17⟩ := Kd.R_slice HO172.out; subst eo17)); try go_wp2_with (first | (go_at_call 14; (with_reducible refine (spec_SortRows.calls k _ _ l0 t167 _ ?side1 ?side2 A3.out).mono ?_); (case side1 => repeat (first | exact HR0.out | (with_reducible refine Kd.C_alloc ?_ _) | (with_reducible refine Kd.C_drewN ?_ _) | (with_reducible refine Kd.C_drew ?_))); (case side2 => exact HC0.out); rintro e w14 ⟨v168, rfl, ho0, hb⟩; have n0_ := kp (Kd.R_lower ho0 (below_size bb)); have n1_ := kp (below_step bb hb); clear HB; have HO169 := n0_; have HB := n1_; clear n0_ n1_; (try clear hb); (try clear ho0)) | (go_at_call 14; (with_reducible refine (spec_SortRows.calls k _ _ l1 t170 _ ?side1 ?side2 A4.out).mono ?_); (case side1 => exact cc HR1.out); (case side2 => exact HC1.out); rintro e w15 ⟨v171, rfl, ho0, hb⟩; have n0_ := kp (Kd.R_elder' (by (with_reducible repeat (first | apply rA | apply rN | apply rD)); exact HO169.out) (Kd.R_base ho0) hb); have n1_ := kp (Kd.R_lower (Kd.R_new' ho0 (Kd.R_lt (by (with_reducible repeat (first | apply rA | apply rN | apply rD)); exact HO169.out))) (below_size bb)); have n2_ := kp (below_step bb hb); clear HO169; clear HB; have HO169 := n0_; have HO172 := n1_; have HB := n2_; clear n0_ n1_ n2_; (try clear hb); (try clear ho0); obtain ⟨Ao16, co16, eo16⟩ := Kd.R_slice HO169.out; subst eo16; obtain ⟨Ao17, co17, eo17⟩ := Kd.R_slice HO172.out; subst eo17)))
  go_ret; exact ⟨er, bb⟩
def impl_order.f (a0 : Int) (a1 : Int) : Option (Int) := if a0 < a1 then (some (-1)) else (if a0 > a1 then (some 1) else (some 0))
set_option maxHeartbeats 8000000 in
set_option maxRecDepth 100000 in
theorem impl_order.calls (a0 : Int) (a1 : Int) (r : Int) (w : World) (h : impl_order.f a0 a1 = some r) :
  Calls Try.prog 44 #[.int .i64 a0, .int .i64 a1] w fun e w' => e = .returned (.int .i64 r) ∧ Drawn0 w w' := by
 have H : (if a0 < a1 then (some (-1)) else (if a0 > a1 then (some 1) else (some 0))) = some r := h
 clear h
 by_cases c3 : a0 < a1
 ·rw [if_pos c3] at H; have c3b0 : decide (a0 < a1) = true := decide_eq_true c3; clear c3; obtain rfl := Option.some.inj H
  go_enter Try.func44, Try.ntmps44
  go_wp2; go_ret; exact ⟨by first | rfl | (simp; done) | (simp [*]; done), by repeat (first | exact Drawn0.refl _ | apply Drawn0.step)⟩
 ·rw [if_neg c3] at H; have c3b0 : decide (a0 < a1) = false := decide_eq_false c3; clear c3
  by_cases c4 : a0 > a1
  ·rw [if_pos c4] at H; have c4b0 : decide (a1 < a0) = true := decide_eq_true c4; clear c4; obtain rfl := Option.some.inj H
   go_enter Try.func44, Try.ntmps44
   go_wp2; go_ret; exact ⟨by first | rfl | (simp; done) | (simp [*]; done), by repeat (first | exact Drawn0.refl _ | apply Drawn0.step)⟩
  ·rw [if_neg c4] at H; have c4b0 : decide (a1 < a0) = false := decide_eq_false c4; clear c4; obtain rfl := Option.some.inj H
   go_enter Try.func44, Try.ntmps44
   go_wp2; go_ret; exact ⟨by first | rfl | (simp; done) | (simp [*]; done), by repeat (first | exact Drawn0.refl _ | apply Drawn0.step)⟩
def impl_CompareRows.f (a0_0 : Int) (a0_1 : Int) (a0_2 : Int) (a1_0 : Int) (a1_1 : Int) (a1_2 : Int) : Option (Int) := (impl_order.f a0_0 a1_0).bind fun t177 => (if t177 = 0 then ((impl_order.f a0_1 a1_1).bind fun t178 => (if t178 = 0 then ((impl_order.f a0_2 a1_2).bind fun t179 => (some t179)) else (some t178))) else (some t177))
set_option maxHeartbeats 8000000 in
set_option maxRecDepth 100000 in
theorem impl_CompareRows.calls (a0_0 : Int) (a0_1 : Int) (a0_2 : Int) (a1_0 : Int) (a1_1 : Int) (a1_2 : Int) (r : Int) (w : World) (h : impl_CompareRows.f a0_0 a0_1 a0_2 a1_0 a1_1 a1_2 = some r) :
  Calls Try.prog 25 #[.agg #[.int .i64 a0_0, .int .i64 a0_1, .int .i64 a0_2], .agg #[.int .i64 a1_0, .int .i64 a1_1, .int .i64 a1_2]] w fun e w' => e = .returned (.int .i64 r) ∧ Below w.heap.size w w' := by
 have hu36 := Try.underlying36
 have HB := kp (Below.refl w.heap.size w)
 have H : ((impl_order.f a0_0 a1_0).bind fun t177 => (if t177 = 0 then ((impl_order.f a0_1 a1_1).bind fun t178 => (if t178 = 0 then ((impl_order.f a0_2 a1_2).bind fun t179 => (some t179)) else (some t178))) else (some t177))) = some r := h
 clear h
 replace H := Option.bind_eq_some_iff.mp H
 obtain ⟨t177, A30, H⟩ := H
 replace H : (if t177 = 0 then ((impl_order.f a0_1 a1_1).bind fun t178 => (if t178 = 0 then ((impl_order.f a0_2 a1_2).bind fun t179 => (some t179)) else (some t178))) else (some t177)) = some r := H
 have A3 := kp A30
 clear A30
 by_cases c4 : t177 = 0
 ·rw [if_pos c4] at H; have c4b0 : (t177 == 0) = true := beq_iff_eq.mpr c4; have c4b1 : (t177 != 0) = false := bne_eq_false_iff_eq.mpr c4; clear c4; replace H := Option.bind_eq_some_iff.mp H; obtain ⟨t178, A50, H⟩ := H; replace H : (if t178 = 0 then ((impl_order.f a0_2 a1_2).bind fun t179 => (some t179)) else (some t178)) = some r := H; have A5 := kp A50; clear A50
  by_cases c6 : t178 = 0
  ·rw [if_pos c6] at H; have c6b0 : (t178 == 0) = true := beq_iff_eq.mpr c6; have c6b1 : (t178 != 0) = false := bne_eq_false_iff_eq.mpr c6; clear c6; replace H := Option.bind_eq_some_iff.mp H; obtain ⟨t179, A70, H⟩ := H; replace H : (some t179) = some r := H; have A7 := kp A70; clear A70; obtain rfl := Option.some.inj H
   go_enter Try.func25, Try.ntmps25
   go_wp2_with (first | ((with_reducible refine gate_dst (N := 2) rfl ?_); refine bx_ 2 #[.int .i64 a0_0, .int .i64 a0_1, .int .i64 a0_2] 36 ?_; intro gb175 hg w8 hbox hb; have n0_ := kp (below_step bb hb); have n1_ := kp (hbox); have n2_ := kp (bs hg); have n3_ := kp (bs hg); clear HB; have HB := n0_; have BK175 := n1_; have GW175 := n2_; have GE175 := n3_; clear n0_ n1_ n2_ n3_; clear hb hbox hg) | ((with_reducible refine gate_dst (N := 3) rfl ?_); refine bx_ 3 #[.int .i64 a1_0, .int .i64 a1_1, .int .i64 a1_2] 36 ?_; intro gb176 hg w9 hbox hb; have n0_ := kp (kb BK175.out hb); have n1_ := kp (below_step bb hb); have n2_ := kp (hbox); have n3_ := kp (bs hg); have n4_ := kp (bs hg); have n5_ := kp (bl hg BK175.out); have n6_ := kp (bg hg BK175.out); clear BK175; clear HB; have BK175 := n0_; have HB := n1_; have BK176 := n2_; have GW176 := n3_; have GE176 := n4_; have NB175_176 := n5_; have NB176_175 := n6_; clear n0_ n1_ n2_ n3_ n4_ n5_ n6_; clear hb hbox hg; have hnb10 := NB175_176.out; have hnc10 := NB176_175.out; have hcz11_0 : w9.cell? ⟨gb175, 0, none⟩ = some (.int .i64 a0_0) := (blk_cell BK175.out 0).trans rfl; have hcz11_1 : w9.cell? ⟨gb175, 1, none⟩ = some (.int .i64 a0_1) := (blk_cell BK175.out 1).trans rfl; have hcz11_2 : w9.cell? ⟨gb175, 2, none⟩ = some (.int .i64 a0_2) := (blk_cell BK175.out 2).trans rfl; have hfz11_0 := blk_frozen BK175.out 0; have hfz11_1 := blk_frozen BK175.out 1; have hfz11_2 := blk_frozen BK175.out 2; have hcz12_0 : w9.cell? ⟨gb176, 0, none⟩ = some (.int .i64 a1_0) := (blk_cell BK176.out 0).trans rfl; have hcz12_1 : w9.cell? ⟨gb176, 1, none⟩ = some (.int .i64 a1_1) := (blk_cell BK176.out 1).trans rfl; have hcz12_2 : w9.cell? ⟨gb176, 2, none⟩ = some (.int .i64 a1_2) := (blk_cell BK176.out 2).trans rfl; have hfz12_0 := blk_frozen BK176.out 0; have hfz12_1 := blk_frozen BK176.out 1; have hfz12_2 := blk_frozen BK176.out 2) | ((with_reducible refine gate_callee (f := 44) rfl ?_); refine gl_ 11 Try.func44 #[.int .i64 a0_0, .int .i64 a1_0] ?_; (with_reducible refine (impl_order.calls a0_0 a1_0 t177 _ A3.out).mono ?_); rintro e w' ⟨rfl, ⟨nd, rfl⟩⟩; refine ⟨_, rfl, ?_⟩) | ((with_reducible refine gate_callee (f := 44) rfl ?_); refine gl_ 19 Try.func44 #[.int .i64 a0_1, .int .i64 a1_1] ?_; (with_reducible refine (impl_order.calls a0_1 a1_1 t178 _ A5.out).mono ?_); rintro e w' ⟨rfl, ⟨nd, rfl⟩⟩; refine ⟨_, rfl, ?_⟩) | ((with_reducible refine gate_callee (f := 44) rfl ?_); refine gl_ 27 Try.func44 #[.int .i64 a0_2, .int .i64 a1_2] ?_; (with_reducible refine (impl_order.calls a0_2 a1_2 t179 _ A7.out).mono ?_); rintro e w' ⟨rfl, ⟨nd, rfl⟩⟩; refine ⟨_, rfl, ?_⟩))
   go_ret; exact ⟨er, bb⟩
  ·rw [if_neg c6] at H; have c6b0 : (t178 == 0) = false := beq_eq_false_iff_ne.mpr c6; have c6b1 : (t178 != 0) = true := bne_iff_ne.mpr c6; obtain rfl := Option.some.inj H
   go_enter Try.func25, Try.ntmps25
   go_wp2_with (first | ((with_reducible refine gate_dst (N := 2) rfl ?_); refine bx_ 2 #[.int .i64 a0_0, .int .i64 a0_1, .int .i64 a0_2] 36 ?_; intro gb175 hg w13 hbox hb; have n0_ := kp (below_step bb hb); have n1_ := kp (hbox); have n2_ := kp (bs hg); have n3_ := kp (bs hg); clear HB; have HB := n0_; have BK175 := n1_; have GW175 := n2_; have GE175 := n3_; clear n0_ n1_ n2_ n3_; clear hb hbox hg) | ((with_reducible refine gate_dst (N := 3) rfl ?_); refine bx_ 3 #[.int .i64 a1_0, .int .i64 a1_1, .int .i64 a1_2] 36 ?_; intro gb176 hg w14 hbox hb; have n0_ := kp (kb BK175.out hb); have n1_ := kp (below_step bb hb); have n2_ := kp (hbox); have n3_ := kp (bs hg); have n4_ := kp (bs hg); have n5_ := kp (bl hg BK175.out); have n6_ := kp (bg hg BK175.out); clear BK175; clear HB; have BK175 := n0_; have HB := n1_; have BK176 := n2_; have GW176 := n3_; have GE176 := n4_; have NB175_176 := n5_; have NB176_175 := n6_; clear n0_ n1_ n2_ n3_ n4_ n5_ n6_; clear hb hbox hg; have hnb15 := NB175_176.out; have hnc15 := NB176_175.out; have hcz16_0 : w14.cell? ⟨gb175, 0, none⟩ = some (.int .i64 a0_0) := (blk_cell BK175.out 0).trans rfl; have hcz16_1 : w14.cell? ⟨gb175, 1, none⟩ = some (.int .i64 a0_1) := (blk_cell BK175.out 1).trans rfl; have hcz16_2 : w14.cell? ⟨gb175, 2, none⟩ = some (.int .i64 a0_2) := (blk_cell BK175.out 2).trans rfl; have hfz16_0 := blk_frozen BK175.out 0; have hfz16_1 := blk_frozen BK175.out 1; have hfz16_2 := blk_frozen BK175.out 2; have hcz17_0 : w14.cell? ⟨gb176, 0, none⟩ = some (.int .i64 a1_0) := (blk_cell BK176.out 0).trans rfl; have hcz17_1 : w14.cell? ⟨gb176, 1, none⟩ = some (.int .i64 a1_1) := (blk_cell BK176.out 1).trans rfl; have hcz17_2 : w14.cell? ⟨gb176, 2, none⟩ = some (.int .i64 a1_2) := (blk_cell BK176.out 2).trans rfl; have hfz17_0 := blk_frozen BK176.out 0; have hfz17_1 := blk_frozen BK176.out 1; have hfz17_2 := blk_frozen BK176.out 2) | ((with_reducible refine gate_callee (f := 44) rfl ?_); refine gl_ 11 Try.func44 #[.int .i64 a0_0, .int .i64 a1_0] ?_; (with_reducible refine (impl_order.calls a0_0 a1_0 t177 _ A3.out).mono ?_); rintro e w' ⟨rfl, ⟨nd, rfl⟩⟩; refine ⟨_, rfl, ?_⟩) | ((with_reducible refine gate_callee (f := 44) rfl ?_); refine gl_ 19 Try.func44 #[.int .i64 a0_1, .int .i64 a1_1] ?_; (with_reducible refine (impl_order.calls a0_1 a1_1 t178 _ A5.out).mono ?_); rintro e w' ⟨rfl, ⟨nd, rfl⟩⟩; refine ⟨_, rfl, ?_⟩))
   go_ret; exact ⟨er, bb⟩
 ·rw [if_neg c4] at H; have c4b0 : (t177 == 0) = false := beq_eq_false_iff_ne.mpr c4; have c4b1 : (t177 != 0) = true := bne_iff_ne.mpr c4; obtain rfl := Option.some.inj H
  go_enter Try.func25, Try.ntmps25
  go_wp2_with (first | ((with_reducible refine gate_dst (N := 2) rfl ?_); refine bx_ 2 #[.int .i64 a0_0, .int .i64 a0_1, .int .i64 a0_2] 36 ?_; intro gb175 hg w18 hbox hb; have n0_ := kp (below_step bb hb); have n1_ := kp (hbox); have n2_ := kp (bs hg); have n3_ := kp (bs hg); clear HB; have HB := n0_; have BK175 := n1_; have GW175 := n2_; have GE175 := n3_; clear n0_ n1_ n2_ n3_; clear hb hbox hg) | ((with_reducible refine gate_dst (N := 3) rfl ?_); refine bx_ 3 #[.int .i64 a1_0, .int .i64 a1_1, .int .i64 a1_2] 36 ?_; intro gb176 hg w19 hbox hb; have n0_ := kp (kb BK175.out hb); have n1_ := kp (below_step bb hb); have n2_ := kp (hbox); have n3_ := kp (bs hg); have n4_ := kp (bs hg); have n5_ := kp (bl hg BK175.out); have n6_ := kp (bg hg BK175.out); clear BK175; clear HB; have BK175 := n0_; have HB := n1_; have BK176 := n2_; have GW176 := n3_; have GE176 := n4_; have NB175_176 := n5_; have NB176_175 := n6_; clear n0_ n1_ n2_ n3_ n4_ n5_ n6_; clear hb hbox hg; have hnb20 := NB175_176.out; have hnc20 := NB176_175.out; have hcz21_0 : w19.cell? ⟨gb175, 0, none⟩ = some (.int .i64 a0_0) := (blk_cell BK175.out 0).trans rfl; have hcz21_1 : w19.cell? ⟨gb175, 1, none⟩ = some (.int .i64 a0_1) := (blk_cell BK175.out 1).trans rfl; have hcz21_2 : w19.cell? ⟨gb175, 2, none⟩ = some (.int .i64 a0_2) := (blk_cell BK175.out 2).trans rfl; have hfz21_0 := blk_frozen BK175.out 0; have hfz21_1 := blk_frozen BK175.out 1; have hfz21_2 := blk_frozen BK175.out 2; have hcz22_0 : w19.cell? ⟨gb176, 0, none⟩ = some (.int .i64 a1_0) := (blk_cell BK176.out 0).trans rfl; have hcz22_1 : w19.cell? ⟨gb176, 1, none⟩ = some (.int .i64 a1_1) := (blk_cell BK176.out 1).trans rfl; have hcz22_2 : w19.cell? ⟨gb176, 2, none⟩ = some (.int .i64 a1_2) := (blk_cell BK176.out 2).trans rfl; have hfz22_0 := blk_frozen BK176.out 0; have hfz22_1 := blk_frozen BK176.out 1; have hfz22_2 := blk_frozen BK176.out 2) | ((with_reducible refine gate_callee (f := 44) rfl ?_); refine gl_ 11 Try.func44 #[.int .i64 a0_0, .int .i64 a1_0] ?_; (with_reducible refine (impl_order.calls a0_0 a1_0 t177 _ A3.out).mono ?_); rintro e w' ⟨rfl, ⟨nd, rfl⟩⟩; refine ⟨_, rfl, ?_⟩))
  go_ret; exact ⟨er, bb⟩
def impl_clone.f (l0 : List (S36)) : Option ((List (S36))) := if l0.length < 5864062014805 then (some l0) else (none)
set_option maxHeartbeats 8000000 in
set_option maxRecDepth 100000 in
theorem impl_clone.calls (A0 : Option Addr) (c0 : Nat) (l0 : List (S36)) (r : List (S36)) (w : World) (hr0 : Kd.C k36 w A0 l0.length l0) (hc0 : l0.length ≤ c0) (h : impl_clone.f l0 = some r) :
  Calls Try.prog 37 #[.slice A0 l0.length c0] w fun e w' => ∃ v0_ : Value, e = .returned (v0_) ∧ Kd.R k36 36 w' w.heap.size (fun _ => True) v0_ r ∧ Below w.heap.size w w' := by
 have HR0 := kp hr0
 clear hr0
 unfold impl_clone.f at h
 by_cases hl : l0.length < 5864062014805
 ·rw [if_pos hl] at h; obtain rfl := Option.some.inj h; have HL := kp hl; have HC := kp hc0; clear hl hc0 h
  go_enter Try.func37, Try.ntmps37
  go_wp2_with (at_builtin; refine Kd.R_append_rows k36 (w0 := w) w.heap.size rfl (.const (.slice none 0 0)) (.tmp 3) 25 36 (.agg #[(.int .i64 0), (.int .i64 0), (.int .i64 0)]) 24 rfl Try.underlying25 info36 rfl (by decide) (by omega) (.slice none 0 0) [] l0 _ _ _ (fun _ => True) (fun _ => False) rfl rfl ?aO ?aR (fun _ _ h => h) (fun _ h => h.elim) ?aF ?aB ?aS ?aL ?_; (case aR => exact HR0.out); (case aB => exact Below.refl _ _); (case aF => exact (fun _ _ => trivial)); (case aO => exact Kd.R_nil _ _ _ _ _); (case aS => exact Nat.le_refl _); (case aL => have := HL.out; simp only [List.length_nil]; omega); intro v1 w1 ho hb hg hat; rw [List.nil_append] at ho; have HO := kp ho; have HB := kp hb; clear ho hb hg hat; obtain ⟨A1, c1, e1⟩ := Kd.R_slice HO.out; subst e1)
  go_ret; exact ⟨_, rfl, HO.out, HB.out⟩
 ·rw [if_neg hl] at h; cases h
end Go.Proofs.Ytbcpfppiaeelbaa.PFnMultisets
