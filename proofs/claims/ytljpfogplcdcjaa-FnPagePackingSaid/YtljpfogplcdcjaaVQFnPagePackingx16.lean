/- Out of a copy of the print, with function values told: nothing is claimed here. -/
import Derived.Test.YtljpfogplcdcjaaVQFnPagePackingx0
import Derived.Test.YtljpfogplcdcjaaVQFnPagePackingx2
import Derived.Test.YtljpfogplcdcjaaVQFnPagePackingx3
import Derived.Test.YtljpfogplcdcjaaVQFnPagePackingx4
import Derived.Test.YtljpfogplcdcjaaVQFnPagePackingx5
import Derived.Test.YtljpfogplcdcjaaVQFnPagePackingx6
import Derived.Test.YtljpfogplcdcjaaVQFnPagePackingx7
import Derived.Test.YtljpfogplcdcjaaVQFnPagePackingx8
import Derived.Test.YtljpfogplcdcjaaVQFnPagePackingx9
import Derived.Test.YtljpfogplcdcjaaVQFnPagePackingx12
import Derived.Test.YtljpfogplcdcjaaVQFnPagePackingx14
import Derived.Test.YtljpfogplcdcjaaVQFnPagePackingx15
import Derived.Test.YtljpfogplcdcjaaVShort
namespace Go.Proofs.Ytljpfogplcdcjaa.PFnPagePacking
open Go.RowKit Go.Proofs.YtljpfogplcdcjaaW.PrintWords Go.Proofs.YtljpfogplcdcjaaW.PrintLast Go.Proofs.YtljpfogplcdcjaaW.PrintMore Go.Proofs.Ytljpfogplcdcjaa.Short
attribute [local go_sem] max2_int min2_int max_two min_two max_three min_three max_four min_four   -- for this text's walks alone
set_option linter.unusedVariables false
set_option linter.unusedSimpArgs false
def laws_FnPagePacking.l0 : Nat → List Int → List (S42) → List (S39) → Int → Option (Bool)
 | 0, _, _, _, _ => none
 | k + 1, x0, x3, x4, x5 => if x5 < (x4.length : Int) then (if 0 ≤ x5 then ((impl_IsValidPage.f k ((rd_T39 x4 x5).f0)).bind fun t616 => (if t616 = true then ((spec_IsValidPage.f k ((rd_T39 x4 x5).f0)).bind fun t618 => (if t618 = true then (if (wrap64 (x5 + 1)) < (x4.length : Int) then (if 0 ≤ (wrap64 (x5 + 1)) then (if (((rd_T39 x4 (wrap64 (x5 + 1))).f0).length : Int) = 0 then (some false) else (if 0 < (((rd_T39 x4 (wrap64 (x5 + 1))).f0).length : Int) then ((impl_WouldOverflow.f k ((rd_T39 x4 x5).f0) ((rd_T42 ((rd_T39 x4 (wrap64 (x5 + 1))).f0) 0).f0) ((rd_T42 ((rd_T39 x4 (wrap64 (x5 + 1))).f0) 0).f1) ((rd_T42 ((rd_T39 x4 (wrap64 (x5 + 1))).f0) 0).f2)).bind fun t623 => (if t623 = true then (laws_FnPagePacking.l0 k x0 x3 x4 (wrap64 (x5 + 1))) else (some false))) else (none))) else (none)) else (laws_FnPagePacking.l0 k x0 x3 x4 (wrap64 (x5 + 1)))) else (some false))) else (some false))) else (none)) else ((spec_DrawFormatPages.f k x0).bind fun t624 => ((spec_DrawParsePages.f k x0).bind fun t627 => ((impl_ParsePages.f k t627).bind fun bt628 => ((spec_ParsePages.f k t627).bind fun bt632 => ((impl_FormatPages.f k x4).bind fun t636 => ((impl_ParsePages.f k t636).bind fun bt637 => ((impl_UnpackPages.f k x4).bind fun t641 => ((laws_sameRows.f k t641 x3).bind fun t644 => (if t644 = true then ((impl_FormatPages.f k t624).bind fun t645 => ((spec_FormatPages.f k t624).bind fun t646 => (if t645.toList = t646.toList then (if (bt628.2 == bt632.2) = true then (if bt628.2 = true then ((impl_FormatPages.f k bt628.1).bind fun t647 => (if t647.toList = t627.toList then (if bt637.2 = true then ((impl_UnpackPages.f k bt637.1).bind fun t648 => ((laws_sameRows.f k t648 x3).bind fun t651 => (some t651))) else (some false)) else (some false))) else (if bt637.2 = true then ((impl_UnpackPages.f k bt637.1).bind fun t652 => ((laws_sameRows.f k t652 x3).bind fun t655 => (some t655))) else (some false))) else (some false)) else (some false)))) else (some false))))))))))
def laws_FnPagePacking.f (k : Nat) (l0 : List Int) : Option (Bool) := (laws_big.f l0).bind fun t604 => (if t604 = true then (some true) else ((spec_DrawPackPages.f k l0).bind fun t605 => ((impl_PackPages.f k t605).bind fun t608 => ((spec_PackPages.f k t605).bind fun t611 => (if (t608.length : Int) = (t611.length : Int) then ((spec_AreValidRows.f k t605).bind fun t614 => (if t614 = true then (laws_FnPagePacking.l0 k l0 t605 t608 0) else (some ((t608.length : Int) == 0)))) else (some false))))))
def laws_FnPagePacking.T12 : Bool × List (List Nat × List Nat) := (true, [([], []), ([], []), ([0, 1], [0, 1]), ([2], [2]), ([3], [3]), ([4], [4]), ([5, 4], [5]), ([6], [6]), ([6], [6]), ([7, 8, 6], [6, 7, 8]), ([9, 6], [6, 9]), ([10, 6, 6], [6, 10]), ([11, 6], [6, 11]), ([6, 12], [6, 12]), ([13, 11], [13]), ([14], [14]), ([15, 14], [14, 15]), ([14], [14]), ([17, 14], [14, 17]), ([16, 18, 14], [14, 16, 18]), ([19, 14, 14], [14, 19]), ([20], [20]), ([20], [20]), ([22, 20], [20, 22]), ([21, 23, 20], [20, 21, 23]), ([24, 20], [20, 24]), ([25, 20], [20, 25]), ([26, 20], [20, 26]), ([27, 20], [20, 27]), ([28, 20, 20], [20, 28]), ([29], [29]), ([29], [29]), ([30, 31, 29], [29, 30, 31]), ([32, 29], [29, 32]), ([29], [29]), ([29], [29]), ([35, 29], [29, 35]), ([34, 36, 29], [29, 34, 36]), ([37, 29], [29, 37]), ([38, 29], [29, 38]), ([39, 29], [29, 39]), ([40, 29], [29, 40]), ([33, 41, 29, 29], [29, 33, 41]), ([42, 29], [29, 42]), ([29, 43, 20], [20, 29, 43]), ([20, 44, 14], [14, 20, 44]), ([14, 45], [14, 45])])
def laws_FnPagePacking.B12 : List Nat := [0, 0, 3, 7, 15, 31, 63, 127, 127, 511, 1023, 2047, 4095, 8191, 16383, 32767, 65535, 32767, 163839, 524287, 1048575, 2097151, 2097151, 6291455, 16777215, 33554431, 67108863, 134217727, 268435455, 536870911, 1073741823, 1073741823, 4294967295, 8589934591, 1073741823, 1073741823, 35433480191, 121332826111, 258771779583, 533649686527, 1083405500415, 2182917128191, 4398046511103, 8796093022207, 17592186044415, 35184372088831, 70368744177663]
theorem laws_FnPagePacking.tab12 : rtab .any (opsOf Try.f4 12) = laws_FnPagePacking.T12 := by kernel_rfl
theorem laws_FnPagePacking.bits12 : waitsOk laws_FnPagePacking.T12.2 laws_FnPagePacking.B12 = true := by kernel_rfl
set_option maxHeartbeats 8000000 in
set_option maxRecDepth 100000 in
theorem laws_FnPagePacking.calls (k : Nat) (A0 : Option Addr) (c0 : Nat) (l0 : List Int) (r : Bool) (w : World) (hr0 : Kd.C (Kd.int .u8) w A0 l0.length l0) (hc0 : l0.length ≤ c0) (h : laws_FnPagePacking.f k l0 = some r) (hr : r = true) :
  Calls Try.prog 4 #[.slice A0 l0.length c0] w fun e w' => e = .returned (.bool r) ∧ Below w.heap.size w w' := by
 have hu39 := Try.underlying39
 have hu42 := Try.underlying42
 have HR0 := Aside0.mk hr0
 have HC0 := Aside0.mk hc0
 clear hr0 hc0
 have HB := Aside0.mk (Below.refl w.heap.size w)
 have H : ((laws_big.f l0).bind fun t604 => (if t604 = true then (some true) else ((spec_DrawPackPages.f k l0).bind fun t605 => ((impl_PackPages.f k t605).bind fun t608 => ((spec_PackPages.f k t605).bind fun t611 => (if (t608.length : Int) = (t611.length : Int) then ((spec_AreValidRows.f k t605).bind fun t614 => (if t614 = true then (laws_FnPagePacking.l0 k l0 t605 t608 0) else (some ((t608.length : Int) == 0)))) else (some false))))))) = some r := h
 clear h
 replace H := Option.bind_eq_some_iff.mp H
 obtain ⟨t604, A20, H⟩ := H
 replace H : (if t604 = true then (some true) else ((spec_DrawPackPages.f k l0).bind fun t605 => ((impl_PackPages.f k t605).bind fun t608 => ((spec_PackPages.f k t605).bind fun t611 => (if (t608.length : Int) = (t611.length : Int) then ((spec_AreValidRows.f k t605).bind fun t614 => (if t614 = true then (laws_FnPagePacking.l0 k l0 t605 t608 0) else (some ((t608.length : Int) == 0)))) else (some false)))))) = some r := H
 have A2 := Aside0.mk A20
 clear A20
 by_cases c3 : t604 = true
 ·subst c3
  have H1 : (some true) = some r := by rw [if_pos rfl] at H; exact H
  clear H
  have H := H1
  clear H1
  obtain rfl := Option.some.inj H
  go_enter Try.func4, Try.ntmps4
  go_wp2_with (first | ((with_reducible refine gate_callee (f := 15) rfl ?_); refine goesL_ (some 15) rfl rfl Try.func15 (by kernel_rfl) rfl #[.slice A0 l0.length c0] rfl (by (try simp only [mA, mC, mN]); first | done | rfl | (simp only [lD, lT]; rfl)) ?_; (with_reducible refine (laws_big.calls _ _ l0 true _ ?side1 ?side2 A2.out).mono ?_); (case side1 => repeat (first | exact HR0.out | (with_reducible refine Kd.C_alloc ?_ _) | (with_reducible refine Kd.C_drewN ?_ _) | (with_reducible refine Kd.C_drew ?_))); (case side2 => exact HC0.out); rintro e w' ⟨rfl, ⟨nd, rfl⟩⟩; refine ⟨_, rfl, ?_⟩))
  go_ret
  exact ⟨by first | rfl | (simp [errW_none, errW_some] <;> rfl) | (simp [*, errW_none, errW_some] <;> rfl), by repeat (first | (with_reducible first | exact HB.out | apply cA | apply cN | apply cD) | exact HB.out)⟩
 ·replace c3 := Bool.eq_false_iff.mpr c3
  subst c3
  have H1 : ((spec_DrawPackPages.f k l0).bind fun t605 => ((impl_PackPages.f k t605).bind fun t608 => ((spec_PackPages.f k t605).bind fun t611 => (if (t608.length : Int) = (t611.length : Int) then ((spec_AreValidRows.f k t605).bind fun t614 => (if t614 = true then (laws_FnPagePacking.l0 k l0 t605 t608 0) else (some ((t608.length : Int) == 0)))) else (some false))))) = some r := by rw [if_neg (show ¬ (false = true) by decide)] at H; exact H
  clear H
  have H := H1
  clear H1
  replace H := Option.bind_eq_some_iff.mp H
  obtain ⟨t605, A40, H⟩ := H
  replace H : ((impl_PackPages.f k t605).bind fun t608 => ((spec_PackPages.f k t605).bind fun t611 => (if (t608.length : Int) = (t611.length : Int) then ((spec_AreValidRows.f k t605).bind fun t614 => (if t614 = true then (laws_FnPagePacking.l0 k l0 t605 t608 0) else (some ((t608.length : Int) == 0)))) else (some false)))) = some r := H
  have A4 := Aside0.mk A40
  clear A40
  replace H := Option.bind_eq_some_iff.mp H
  obtain ⟨t608, A50, H⟩ := H
  replace H : ((spec_PackPages.f k t605).bind fun t611 => (if (t608.length : Int) = (t611.length : Int) then ((spec_AreValidRows.f k t605).bind fun t614 => (if t614 = true then (laws_FnPagePacking.l0 k l0 t605 t608 0) else (some ((t608.length : Int) == 0)))) else (some false))) = some r := H
  have A5 := Aside0.mk A50
  clear A50
  replace H := Option.bind_eq_some_iff.mp H
  obtain ⟨t611, A60, H⟩ := H
  replace H : (if (t608.length : Int) = (t611.length : Int) then ((spec_AreValidRows.f k t605).bind fun t614 => (if t614 = true then (laws_FnPagePacking.l0 k l0 t605 t608 0) else (some ((t608.length : Int) == 0)))) else (some false)) = some r := H
  have A6 := Aside0.mk A60
  clear A60
  by_cases c7 : (t608.length : Int) = (t611.length : Int)
  ·rw [if_pos c7] at H
   have c7b0 : ((t608.length : Int) == (t611.length : Int)) = true := beq_iff_eq.mpr c7
   have c7b1 : ((t608.length : Int) != (t611.length : Int)) = false := bne_eq_false_iff_eq.mpr c7
   have c7b2 : (t608.length == t611.length) = true := by first | simpa using c7 | (simp at c7 ⊢; omega)
   clear c7
   replace H := Option.bind_eq_some_iff.mp H
   obtain ⟨t614, A80, H⟩ := H
   replace H : (if t614 = true then (laws_FnPagePacking.l0 k l0 t605 t608 0) else (some ((t608.length : Int) == 0))) = some r := H
   have A8 := Aside0.mk A80
   clear A80
   by_cases c9 : t614 = true
   ·subst c9
    have H1 : (laws_FnPagePacking.l0 k l0 t605 t608 0) = some r := by rw [if_pos rfl] at H; exact H
    clear H
    have H := H1
    clear H1
    have H' := Aside0.mk H
    clear H
    go_enter Try.func4, Try.ntmps4
    go_wp2_with (first | ((with_reducible refine gate_callee (f := 15) rfl ?_); refine goesL_ (some 15) rfl rfl Try.func15 (by kernel_rfl) rfl #[.slice A0 l0.length c0] rfl (by (try simp only [mA, mC, mN]); first | done | rfl | (simp only [lD, lT]; rfl)) ?_; (with_reducible refine (laws_big.calls _ _ l0 false _ ?side1 ?side2 A2.out).mono ?_); (case side1 => repeat (first | exact HR0.out | (with_reducible refine Kd.C_alloc ?_ _) | (with_reducible refine Kd.C_drewN ?_ _) | (with_reducible refine Kd.C_drew ?_))); (case side2 => exact HC0.out); rintro e w' ⟨rfl, ⟨nd, rfl⟩⟩; refine ⟨_, rfl, ?_⟩) | ((with_reducible refine gate_callee (f := 16) rfl ?_); refine goesL_ (some 17) rfl rfl Try.func16 (by kernel_rfl) rfl #[.slice A0 l0.length c0] rfl (by (try simp only [mA, mC, mN]); first | done | rfl | (simp only [lD, lT]; rfl)) ?_; (with_reducible refine (spec_DrawPackPages.calls k _ _ l0 t605 _ ?side1 ?side2 A4.out).mono ?_); (case side1 => repeat (first | exact HR0.out | (with_reducible refine Kd.C_alloc ?_ _) | (with_reducible refine Kd.C_drewN ?_ _) | (with_reducible refine Kd.C_drew ?_))); (case side2 => exact HC0.out); rintro e w10 ⟨v606, rfl, ho0, hb⟩; refine ⟨_, rfl, ?_⟩; have n0_ := Aside0.mk (Kd.R_lower ho0 (below_size (by repeat (first | (with_reducible first | exact HB.out | apply cA | apply cN | apply cD) | exact HB.out)))); have n1_ := Aside0.mk (below_step (by repeat (first | (with_reducible first | exact HB.out | apply cA | apply cN | apply cD) | exact HB.out)) hb); clear HB; have HO607 := n0_; have HB := n1_; clear n0_ n1_; (try clear hb); (try clear hb2); (try clear hk); (try clear hi); (try clear ho0); obtain ⟨Ao11, co11, eo11⟩ := Kd.R_slice HO607.out; subst eo11) | ((with_reducible refine gate_callee (f := 9) rfl ?_); refine goesL_ (some 19) rfl rfl Try.func9 (by kernel_rfl) rfl #[.slice Ao11 t605.length co11] rfl (by (try simp only [mA, mC, mN]); first | done | rfl | (simp only [lD, lT]; rfl)) ?_; (with_reducible refine (impl_PackPages.calls k _ _ t605 t608 _ ?side1 ?side2 A5.out).mono ?_); (case side1 => repeat (first | exact (Kd.R_reads' HO607.out).2.2 | (with_reducible refine Kd.C_alloc ?_ _) | (with_reducible refine Kd.C_drewN ?_ _) | (with_reducible refine Kd.C_drew ?_))); (case side2 => exact (Kd.R_reads' HO607.out).2.1); rintro e w12 ⟨v609, rfl, ho0, hb⟩; refine ⟨_, rfl, ?_⟩; have n0_ := Aside0.mk (Kd.R_below (by (with_reducible repeat (first | apply rA | apply rN | apply rD)); exact HO607.out) hb); have n1_ := Aside0.mk (Kd.N_lower (Kd.N_mono (ok' := fun k_ => some k_ ≠ (.slice Ao11 t605.length co11 : Value).ownBlock) (Kd.S_N (Kd.S_bound ho0)) (fun k_ hk_ => (Kd.fresh' (Kd.R_lt (by (with_reducible repeat (first | apply rA | apply rN | apply rD)); exact HO607.out)) k_ hk_.2.1))) (below_size (by repeat (first | (with_reducible first | exact HB.out | apply cA | apply cN | apply cD) | exact HB.out)))); have n2_ := Aside0.mk (below_step (by repeat (first | (with_reducible first | exact HB.out | apply cA | apply cN | apply cD) | exact HB.out)) hb); clear HO607; clear HB; have HO607 := n0_; have HO610 := n1_; have HB := n2_; clear n0_ n1_ n2_; (try clear hb); (try clear hb2); (try clear hk); (try clear hi); (try clear ho0); obtain ⟨Ao13, co13, eo13⟩ := Kd.N_slice HO610.out; subst eo13) | ((with_reducible refine gate_callee (f := 7) rfl ?_); refine goesL_ (some 23) rfl rfl Try.func7 (by kernel_rfl) rfl #[.slice Ao11 t605.length co11] rfl (by (try simp only [mA, mC, mN]); first | done | rfl | (simp only [lD, lT]; rfl)) ?_; (with_reducible refine (spec_PackPages.calls k _ _ t605 t611 _ ?side1 ?side2 A6.out).mono ?_); (case side1 => repeat (first | exact (Kd.R_reads' HO607.out).2.2 | (with_reducible refine Kd.C_alloc ?_ _) | (with_reducible refine Kd.C_drewN ?_ _) | (with_reducible refine Kd.C_drew ?_))); (case side2 => exact (Kd.R_reads' HO607.out).2.1); rintro e w14 ⟨v612, rfl, ho0, hb⟩; refine ⟨_, rfl, ?_⟩; have n0_ := Aside0.mk (Kd.R_below (by (with_reducible repeat (first | apply rA | apply rN | apply rD)); exact HO607.out) hb); have n1_ := Aside0.mk (Kd.N_elder' (by (with_reducible repeat (first | apply Kd.N_alloc | apply Kd.N_drewN | apply Kd.N_drew)); exact HO610.out) (Kd.S_base ho0) hb); have n2_ := Aside0.mk (Kd.N_lower (Kd.N_mono (ok' := fun k_ => some k_ ≠ (.slice Ao11 t605.length co11 : Value).ownBlock ∧ some k_ ≠ (.slice Ao13 t608.length co13 : Value).ownBlock) (Kd.S_N (Kd.S_bound ho0)) (fun k_ hk_ => ⟨(Kd.fresh' (Kd.R_lt (by (with_reducible repeat (first | apply rA | apply rN | apply rD)); exact HO607.out)) k_ hk_.2.1), (Kd.fresh' (Kd.N_lt (by (with_reducible repeat (first | apply Kd.N_alloc | apply Kd.N_drewN | apply Kd.N_drew)); exact HO610.out)) k_ hk_.2.1)⟩)) (below_size (by repeat (first | (with_reducible first | exact HB.out | apply cA | apply cN | apply cD) | exact HB.out)))); have n3_ := Aside0.mk (below_step (by repeat (first | (with_reducible first | exact HB.out | apply cA | apply cN | apply cD) | exact HB.out)) hb); clear HO607; clear HO610; clear HB; have HO607 := n0_; have HO610 := n1_; have HO613 := n2_; have HB := n3_; clear n0_ n1_ n2_ n3_; (try clear hb); (try clear hb2); (try clear hk); (try clear hi); (try clear ho0); obtain ⟨Ao15, co15, eo15⟩ := Kd.N_slice HO613.out; subst eo15) | ((with_reducible refine gate_callee (f := 17) rfl ?_); refine goesL_ (some 27) rfl rfl Try.func17 (by kernel_rfl) rfl #[.slice Ao11 t605.length co11] rfl (by (try simp only [mA, mC, mN]); first | done | rfl | (simp only [lD, lT]; rfl)) ?_; (with_reducible refine (spec_AreValidRows.calls k _ _ t605 true _ ?side1 ?side2 A8.out).mono ?_); (case side1 => repeat (first | exact (Kd.R_reads' HO607.out).2.2 | (with_reducible refine Kd.C_alloc ?_ _) | (with_reducible refine Kd.C_drewN ?_ _) | (with_reducible refine Kd.C_drew ?_))); (case side2 => exact (Kd.R_reads' HO607.out).2.1); rintro e w16 ⟨rfl, hb⟩; refine ⟨_, rfl, ?_⟩; have n0_ := Aside0.mk (Kd.R_below (by (with_reducible repeat (first | apply rA | apply rN | apply rD)); exact HO607.out) hb); have n1_ := Aside0.mk (Kd.N_below (by (with_reducible repeat (first | apply Kd.N_alloc | apply Kd.N_drewN | apply Kd.N_drew)); exact HO610.out) hb); have n2_ := Aside0.mk (Kd.N_below (by (with_reducible repeat (first | apply Kd.N_alloc | apply Kd.N_drewN | apply Kd.N_drew)); exact HO613.out) hb); have n3_ := Aside0.mk (below_step (by repeat (first | (with_reducible first | exact HB.out | apply cA | apply cN | apply cD) | exact HB.out)) hb); clear HO607; clear HO610; clear HO613; clear HB; have HO607 := n0_; have HO610 := n1_; have HO613 := n2_; have HB := n3_; clear n0_ n1_ n2_ n3_; (try clear hb); (try clear hb2); (try clear hk); (try clear hi)))
    (try simp only [Act.put, List.setIfInBounds_toArray, List.set_cons_zero, List.set_cons_succ])
    go_loopg [5] k (fun kq v5 w' => ∃ (x5_1 : Int), v5 = .int .i64 x5_1 ∧ Aside0 (laws_FnPagePacking.l0 kq l0 t605 t608 x5_1 = some r) ∧ Aside0 (kq ≤ k) ∧ Aside0 (Kd.R k42 42 w' w.heap.size (fun _ => True) (.slice Ao11 t605.length co11) t605) ∧ Aside0 (Kd.N k39 39 w' w.heap.size (fun k_ => some k_ ≠ ((.slice Ao11 t605.length co11) : Value).ownBlock) (.slice Ao13 t608.length co13) t608) ∧ Aside0 (Below w.heap.size w w'))
    case atStart => exact ⟨(0), (by first | rfl | (simp; done) | (simp [*]; done)), H', ⟨Nat.le_refl _⟩, ⟨by (with_reducible repeat (first | apply rA | apply rN | apply rD)); exact HO607.out⟩, ⟨by (with_reducible repeat (first | apply Kd.N_alloc | apply Kd.N_drewN | apply Kd.N_drew)); exact Kd.N_mono HO610.out (fun _ hk => hk.1)⟩, ⟨by repeat (first | (with_reducible first | exact HB.out | apply cA | apply cN | apply cD) | exact HB.out)⟩⟩
    case round =>
     clear H'
     try clear c1
     try clear p2
     try clear c3
     try clear c4
     try clear c7
     try clear c7b0
     try clear c7b1
     try clear c7b2
     try clear c9
     try clear c15
     try clear c16
     obtain ⟨x5_1, rfl, HA, HK1, HO_3, HO_4, HB⟩ := hrel
     cases gk with
     | zero => exact absurd HA.out (by simp [laws_FnPagePacking.l0])
     | succ k1 =>
      have H := HA.out
      clear HA
      simp only [laws_FnPagePacking.l0] at H
      by_cases c17 : x5_1 < (t608.length : Int)
      ·rw [if_pos c17] at H
       have c17b0 : decide (x5_1 < (t608.length : Int)) = true := decide_eq_true c17
       clear c17
       by_cases c18 : 0 ≤ x5_1
       ·rw [if_pos c18] at H
        have c18b0 : decide (0 ≤ x5_1) = true := decide_eq_true c18
        clear c18
        replace H := Option.bind_eq_some_iff.mp H
        obtain ⟨t616, A190, H⟩ := H
        replace H : (if t616 = true then ((spec_IsValidPage.f k1 ((rd_T39 t608 x5_1).f0)).bind fun t618 => (if t618 = true then (if (wrap64 (x5_1 + 1)) < (t608.length : Int) then (if 0 ≤ (wrap64 (x5_1 + 1)) then (if (((rd_T39 t608 (wrap64 (x5_1 + 1))).f0).length : Int) = 0 then (some false) else (if 0 < (((rd_T39 t608 (wrap64 (x5_1 + 1))).f0).length : Int) then ((impl_WouldOverflow.f k1 ((rd_T39 t608 x5_1).f0) ((rd_T42 ((rd_T39 t608 (wrap64 (x5_1 + 1))).f0) 0).f0) ((rd_T42 ((rd_T39 t608 (wrap64 (x5_1 + 1))).f0) 0).f1) ((rd_T42 ((rd_T39 t608 (wrap64 (x5_1 + 1))).f0) 0).f2)).bind fun t623 => (if t623 = true then (laws_FnPagePacking.l0 k1 l0 t605 t608 (wrap64 (x5_1 + 1))) else (some false))) else (none))) else (none)) else (laws_FnPagePacking.l0 k1 l0 t605 t608 (wrap64 (x5_1 + 1)))) else (some false))) else (some false)) = some r := H
        have A19 := Aside0.mk A190
        clear A190
        by_cases c20 : t616 = true
        ·subst c20
         have H1 : ((spec_IsValidPage.f k1 ((rd_T39 t608 x5_1).f0)).bind fun t618 => (if t618 = true then (if (wrap64 (x5_1 + 1)) < (t608.length : Int) then (if 0 ≤ (wrap64 (x5_1 + 1)) then (if (((rd_T39 t608 (wrap64 (x5_1 + 1))).f0).length : Int) = 0 then (some false) else (if 0 < (((rd_T39 t608 (wrap64 (x5_1 + 1))).f0).length : Int) then ((impl_WouldOverflow.f k1 ((rd_T39 t608 x5_1).f0) ((rd_T42 ((rd_T39 t608 (wrap64 (x5_1 + 1))).f0) 0).f0) ((rd_T42 ((rd_T39 t608 (wrap64 (x5_1 + 1))).f0) 0).f1) ((rd_T42 ((rd_T39 t608 (wrap64 (x5_1 + 1))).f0) 0).f2)).bind fun t623 => (if t623 = true then (laws_FnPagePacking.l0 k1 l0 t605 t608 (wrap64 (x5_1 + 1))) else (some false))) else (none))) else (none)) else (laws_FnPagePacking.l0 k1 l0 t605 t608 (wrap64 (x5_1 + 1)))) else (some false))) = some r := by rw [if_pos rfl] at H; exact H
         clear H
         have H := H1
         clear H1
         replace H := Option.bind_eq_some_iff.mp H
         obtain ⟨t618, A210, H⟩ := H
         replace H : (if t618 = true then (if (wrap64 (x5_1 + 1)) < (t608.length : Int) then (if 0 ≤ (wrap64 (x5_1 + 1)) then (if (((rd_T39 t608 (wrap64 (x5_1 + 1))).f0).length : Int) = 0 then (some false) else (if 0 < (((rd_T39 t608 (wrap64 (x5_1 + 1))).f0).length : Int) then ((impl_WouldOverflow.f k1 ((rd_T39 t608 x5_1).f0) ((rd_T42 ((rd_T39 t608 (wrap64 (x5_1 + 1))).f0) 0).f0) ((rd_T42 ((rd_T39 t608 (wrap64 (x5_1 + 1))).f0) 0).f1) ((rd_T42 ((rd_T39 t608 (wrap64 (x5_1 + 1))).f0) 0).f2)).bind fun t623 => (if t623 = true then (laws_FnPagePacking.l0 k1 l0 t605 t608 (wrap64 (x5_1 + 1))) else (some false))) else (none))) else (none)) else (laws_FnPagePacking.l0 k1 l0 t605 t608 (wrap64 (x5_1 + 1)))) else (some false)) = some r := H
         have A21 := Aside0.mk A210
         clear A210
         by_cases c22 : t618 = true
         ·subst c22
          have H1 : (if (wrap64 (x5_1 + 1)) < (t608.length : Int) then (if 0 ≤ (wrap64 (x5_1 + 1)) then (if (((rd_T39 t608 (wrap64 (x5_1 + 1))).f0).length : Int) = 0 then (some false) else (if 0 < (((rd_T39 t608 (wrap64 (x5_1 + 1))).f0).length : Int) then ((impl_WouldOverflow.f k1 ((rd_T39 t608 x5_1).f0) ((rd_T42 ((rd_T39 t608 (wrap64 (x5_1 + 1))).f0) 0).f0) ((rd_T42 ((rd_T39 t608 (wrap64 (x5_1 + 1))).f0) 0).f1) ((rd_T42 ((rd_T39 t608 (wrap64 (x5_1 + 1))).f0) 0).f2)).bind fun t623 => (if t623 = true then (laws_FnPagePacking.l0 k1 l0 t605 t608 (wrap64 (x5_1 + 1))) else (some false))) else (none))) else (none)) else (laws_FnPagePacking.l0 k1 l0 t605 t608 (wrap64 (x5_1 + 1)))) = some r := by rw [if_pos rfl] at H; exact H
          clear H
          have H := H1
          clear H1
          by_cases c23 : (wrap64 (x5_1 + 1)) < (t608.length : Int)
          ·rw [if_pos c23] at H
           have c23b0 : decide ((wrap64 (x5_1 + 1)) < (t608.length : Int)) = true := decide_eq_true c23
           clear c23
           obtain ⟨ji24, hji24⟩ : ∃ j_ : Int, (wrap64 (x5_1 + 1)) = j_ := ⟨_, rfl⟩
           replace H : (if 0 ≤ (ji24) then (if (((rd_T39 t608 (ji24)).f0).length : Int) = 0 then (some false) else (if 0 < (((rd_T39 t608 (ji24)).f0).length : Int) then ((impl_WouldOverflow.f k1 ((rd_T39 t608 x5_1).f0) ((rd_T42 ((rd_T39 t608 (ji24)).f0) 0).f0) ((rd_T42 ((rd_T39 t608 (ji24)).f0) 0).f1) ((rd_T42 ((rd_T39 t608 (ji24)).f0) 0).f2)).bind fun t623 => (if t623 = true then (laws_FnPagePacking.l0 k1 l0 t605 t608 ji24) else (some false))) else (none))) else (none)) = some r := by first | (rw [hji24] at H; exact H) | (simp only [hji24] at H ⊢; exact H)
           (try rw [hji24] at c23b0)
           (try rw [hji24] at A19)
           (try rw [hji24] at A21)
           have hji24w : (IntKind.i64.wrap (x5_1 + 1)) = ji24 := (i64_w _).trans hji24
           by_cases c25 : 0 ≤ (ji24)
           ·rw [if_pos c25] at H
            have c25b0 : decide (0 ≤ (ji24)) = true := decide_eq_true c25
            clear c25
            by_cases c26 : (((rd_T39 t608 (ji24)).f0).length : Int) = 0
            ·rw [if_pos c26] at H
             rw [hr] at H
             exact absurd H (by simp)
            ·rw [if_neg c26] at H
             have c26b0 : ((((rd_T39 t608 (ji24)).f0).length : Int) == 0) = false := beq_eq_false_iff_ne.mpr c26
             have c26b1 : ((((rd_T39 t608 (ji24)).f0).length : Int) != 0) = true := bne_iff_ne.mpr c26
             have c26b2 : ¬ (((rd_T39 t608 (ji24)).f0) = []) := fun h_ => c26 (by rw [h_]; rfl)
             by_cases c30 : 0 < (((rd_T39 t608 (ji24)).f0).length : Int)
             ·rw [if_pos c30] at H
              have c30b0 : decide (0 < (((rd_T39 t608 (ji24)).f0).length : Int)) = true := decide_eq_true c30
              have c30b1 : decide (0 < ((rd_T39 t608 (ji24)).f0).length) = true := decide_eq_true (by omega)
              clear c30
              replace H := Option.bind_eq_some_iff.mp H
              obtain ⟨t623, A310, H⟩ := H
              replace H : (if t623 = true then (laws_FnPagePacking.l0 k1 l0 t605 t608 ji24) else (some false)) = some r := H
              have A31 := Aside0.mk A310
              clear A310
              by_cases c32 : t623 = true
              ·subst c32
               have H1 : (laws_FnPagePacking.l0 k1 l0 t605 t608 ji24) = some r := by rw [if_pos rfl] at H; exact H
               clear H
               have H := H1
               clear H1
               have H' := Aside0.mk H
               clear H
               try go_wp2
               have n0_ := Aside0.mk (Kd.R_drew HO_3.out)
               have n1_ := Aside0.mk (Kd.N_drew HO_4.out)
               have n2_ := Aside0.mk (below_drew1 HB.out)
               clear HO_3
               clear HO_4
               clear HB
               have HO_3 := n0_
               have HO_4 := n1_
               have HB := n2_
               clear n0_ n1_ n2_
               have p615 : 0 ≤ (x5_1 : Int) := of_decide_eq_true (by first | (with_reducible assumption) | assumption)
               have q615 : x5_1 < (t608.length : Int) := of_decide_eq_true (by first | (with_reducible assumption) | assumption)
               obtain ⟨ad615, A615_0, c615_0, e615, hx615_0, hl615_0, hi615_0⟩ := at_T39 (Kd.N_reads' HO_4.out).2.2 x5_1 p615 q615
               cases e615
               obtain ⟨ce615, hce615, hMe615, hcc615⟩ := Kd.N_get HO_4.out z39 x5_1 p615 (by first | exact q615 | exact of_decide_eq_true (by first | (with_reducible assumption) | assumption) | (have e_ := (Kd.N_reads' HO_4.out).1; omega))
               obtain ⟨ua615_0, uc615_0, rfl, ul615_0, ge615_0⟩ := k39_openF hMe615
               have hv615_0 := hcc615 0 _ rfl
               rw [Nat.add_zero, show (k39).sz = 1 from rfl, Nat.mul_one] at hv615_0
               replace hv615_0 := Option.some.inj (hv615_0.symm.trans hx615_0)
               injection hv615_0 with hva_ hvn_ hvc_
               rw [hva_] at ge615_0
               rw [hvc_] at ul615_0
               have HL615_0 := Aside0.mk (show Kd.V k42 42 _ w.heap.size _ _ ((rd_T39 t608 x5_1).f0) from Kd.V_mk ul615_0 ge615_0)
               clear hva_ hvn_ hvc_ ge615_0 ul615_0
               clear hcc615 hce615
               have HR615_0 := Aside0.mk hi615_0
               have HC615_0 := Aside0.mk hl615_0
               clear hi615_0 hl615_0
               replace p615 := eq_true p615
               replace q615 := eq_true q615
               have p617 : 0 ≤ (x5_1 : Int) := of_decide_eq_true (by first | (with_reducible assumption) | assumption)
               have q617 : x5_1 < (t608.length : Int) := of_decide_eq_true (by first | (with_reducible assumption) | assumption)
               obtain ⟨ad617, A617_0, c617_0, e617, hx617_0, hl617_0, hi617_0⟩ := at_T39 (Kd.N_reads' HO_4.out).2.2 x5_1 p617 q617
               obtain rfl : ad615 = ad617 := (by injection e617)
               obtain ⟨ce617, hce617, hMe617, hcc617⟩ := Kd.N_get HO_4.out z39 x5_1 p617 (by first | exact q617 | exact of_decide_eq_true (by first | (with_reducible assumption) | assumption) | (have e_ := (Kd.N_reads' HO_4.out).1; omega))
               obtain ⟨ua617_0, uc617_0, rfl, ul617_0, ge617_0⟩ := k39_openF hMe617
               have hv617_0 := hcc617 0 _ rfl
               rw [Nat.add_zero, show (k39).sz = 1 from rfl, Nat.mul_one] at hv617_0
               replace hv617_0 := Option.some.inj (hv617_0.symm.trans hx617_0)
               injection hv617_0 with hva_ hvn_ hvc_
               rw [hva_] at ge617_0
               rw [hvc_] at ul617_0
               have HL617_0 := Aside0.mk (show Kd.V k42 42 _ w.heap.size _ _ ((rd_T39 t608 x5_1).f0) from Kd.V_mk ul617_0 ge617_0)
               clear hva_ hvn_ hvc_ ge617_0 ul617_0
               clear hcc617 hce617
               have HR617_0 := Aside0.mk hi617_0
               have HC617_0 := Aside0.mk hl617_0
               clear hi617_0 hl617_0
               replace p617 := eq_true p617
               replace q617 := eq_true q617
               have p619 : 0 ≤ ((ji24) : Int) := of_decide_eq_true (by first | (with_reducible assumption) | assumption)
               have q619 : (ji24) < (t608.length : Int) := of_decide_eq_true (by first | (with_reducible assumption) | assumption)
               obtain ⟨ad619, A619_0, c619_0, e619, hx619_0, hl619_0, hi619_0⟩ := at_T39 (Kd.N_reads' HO_4.out).2.2 (ji24) p619 q619
               obtain rfl : ad615 = ad619 := (by injection e619)
               obtain ⟨ce619, hce619, hMe619, hcc619⟩ := Kd.N_get HO_4.out z39 (ji24) p619 (by first | exact q619 | exact of_decide_eq_true (by first | (with_reducible assumption) | assumption) | (have e_ := (Kd.N_reads' HO_4.out).1; omega))
               obtain ⟨ua619_0, uc619_0, rfl, ul619_0, ge619_0⟩ := k39_openF hMe619
               have hv619_0 := hcc619 0 _ rfl
               rw [Nat.add_zero, show (k39).sz = 1 from rfl, Nat.mul_one] at hv619_0
               replace hv619_0 := Option.some.inj (hv619_0.symm.trans hx619_0)
               injection hv619_0 with hva_ hvn_ hvc_
               rw [hva_] at ge619_0
               rw [hvc_] at ul619_0
               have HL619_0 := Aside0.mk (show Kd.V k42 42 _ w.heap.size _ _ ((rd_T39 t608 (ji24)).f0) from Kd.V_mk ul619_0 ge619_0)
               clear hva_ hvn_ hvc_ ge619_0 ul619_0
               clear hcc619 hce619
               have HR619_0 := Aside0.mk hi619_0
               have HC619_0 := Aside0.mk hl619_0
               clear hi619_0 hl619_0
               replace p619 := eq_true p619
               replace q619 := eq_true q619
               have p620 : 0 ≤ (x5_1 : Int) := of_decide_eq_true (by first | (with_reducible assumption) | assumption)
               have q620 : x5_1 < (t608.length : Int) := of_decide_eq_true (by first | (with_reducible assumption) | assumption)
               obtain ⟨ad620, A620_0, c620_0, e620, hx620_0, hl620_0, hi620_0⟩ := at_T39 (Kd.N_reads' HO_4.out).2.2 x5_1 p620 q620
               obtain rfl : ad615 = ad620 := (by injection e620)
               obtain ⟨ce620, hce620, hMe620, hcc620⟩ := Kd.N_get HO_4.out z39 x5_1 p620 (by first | exact q620 | exact of_decide_eq_true (by first | (with_reducible assumption) | assumption) | (have e_ := (Kd.N_reads' HO_4.out).1; omega))
               obtain ⟨ua620_0, uc620_0, rfl, ul620_0, ge620_0⟩ := k39_openF hMe620
               have hv620_0 := hcc620 0 _ rfl
               rw [Nat.add_zero, show (k39).sz = 1 from rfl, Nat.mul_one] at hv620_0
               replace hv620_0 := Option.some.inj (hv620_0.symm.trans hx620_0)
               injection hv620_0 with hva_ hvn_ hvc_
               rw [hva_] at ge620_0
               rw [hvc_] at ul620_0
               have HL620_0 := Aside0.mk (show Kd.V k42 42 _ w.heap.size _ _ ((rd_T39 t608 x5_1).f0) from Kd.V_mk ul620_0 ge620_0)
               clear hva_ hvn_ hvc_ ge620_0 ul620_0
               clear hcc620 hce620
               have HR620_0 := Aside0.mk hi620_0
               have HC620_0 := Aside0.mk hl620_0
               clear hi620_0 hl620_0
               replace p620 := eq_true p620
               replace q620 := eq_true q620
               have p621 : 0 ≤ ((ji24) : Int) := of_decide_eq_true (by first | (with_reducible assumption) | assumption)
               have q621 : (ji24) < (t608.length : Int) := of_decide_eq_true (by first | (with_reducible assumption) | assumption)
               obtain ⟨ad621, A621_0, c621_0, e621, hx621_0, hl621_0, hi621_0⟩ := at_T39 (Kd.N_reads' HO_4.out).2.2 (ji24) p621 q621
               obtain rfl : ad615 = ad621 := (by injection e621)
               obtain ⟨ce621, hce621, hMe621, hcc621⟩ := Kd.N_get HO_4.out z39 (ji24) p621 (by first | exact q621 | exact of_decide_eq_true (by first | (with_reducible assumption) | assumption) | (have e_ := (Kd.N_reads' HO_4.out).1; omega))
               obtain ⟨ua621_0, uc621_0, rfl, ul621_0, ge621_0⟩ := k39_openF hMe621
               have hv621_0 := hcc621 0 _ rfl
               rw [Nat.add_zero, show (k39).sz = 1 from rfl, Nat.mul_one] at hv621_0
               replace hv621_0 := Option.some.inj (hv621_0.symm.trans hx621_0)
               injection hv621_0 with hva_ hvn_ hvc_
               rw [hva_] at ge621_0
               rw [hvc_] at ul621_0
               have HL621_0 := Aside0.mk (show Kd.V k42 42 _ w.heap.size _ _ ((rd_T39 t608 (ji24)).f0) from Kd.V_mk ul621_0 ge621_0)
               clear hva_ hvn_ hvc_ ge621_0 ul621_0
               clear hcc621 hce621
               have HR621_0 := Aside0.mk hi621_0
               have HC621_0 := Aside0.mk hl621_0
               clear hi621_0 hl621_0
               replace p621 := eq_true p621
               replace q621 := eq_true q621
               have ea_ := Option.some.inj (hx619_0.symm.trans hx621_0)
               injection ea_ with ea_ en_ ec_
               subst ea_
               subst ec_
               clear en_
               have p622 : 0 ≤ (0 : Int) := (by omega)
               have q622 : 0 < (((rd_T39 t608 (ji24)).f0).length : Int) := of_decide_eq_true (by first | (with_reducible assumption) | assumption)
               obtain ⟨ad622, e622, hx622_0, hx622_1, hx622_2⟩ := at_T42 (by repeat (first | (with_reducible exact HR621_0.out) | (with_reducible refine Kd.C_alloc ?_ _) | (with_reducible refine Kd.C_drewN ?_ _) | (with_reducible refine Kd.C_drew ?_) | exact HR621_0.out)) 0 p622 q622
               (try rw [show ((0 : Int)).toNat = 0 from rfl] at hx622_0)
               (try rw [show 0 * 3 = 0 from rfl] at hx622_0)
               (try rw [Addr.add_zero'] at hx622_0)
               (try rw [show ((0 : Int)).toNat = 0 from rfl] at hx622_1)
               (try rw [show 0 * 3 = 0 from rfl] at hx622_1)
               (try rw [Addr.add_zero'] at hx622_1)
               (try rw [show ((0 : Int)).toNat = 0 from rfl] at hx622_2)
               (try rw [show 0 * 3 = 0 from rfl] at hx622_2)
               (try rw [Addr.add_zero'] at hx622_2)
               have ea_ := Option.some.inj (hx615_0.symm.trans hx617_0)
               injection ea_ with ea_ en_ ec_
               subst ea_
               subst ec_
               clear en_
               have ea_ := Option.some.inj (hx615_0.symm.trans hx620_0)
               injection ea_ with ea_ en_ ec_
               subst ea_
               subst ec_
               clear en_
               refine start_ (n := 47) (S := fun w' => w'.cell? (ad615.add (x5_1).toNat) = some (.slice A615_0 ((rd_T39 t608 x5_1).f0).length c615_0) ∧ w'.cell? (ad615.add (x5_1).toNat) = some (.slice A615_0 ((rd_T39 t608 x5_1).f0).length c615_0) ∧ w'.cell? (ad615.add ((ji24)).toNat) = some (.slice A619_0 ((rd_T39 t608 (ji24)).f0).length c619_0) ∧ w'.cell? (ad615.add (x5_1).toNat) = some (.slice A615_0 ((rd_T39 t608 x5_1).f0).length c615_0) ∧ w'.cell? (ad615.add ((ji24)).toNat) = some (.slice A619_0 ((rd_T39 t608 (ji24)).f0).length c619_0) ∧ w'.cell? ad622 = some (.int .i64 ((rd_T42 ((rd_T39 t608 (ji24)).f0) 0).f0)) ∧ w'.cell? ⟨ad622.block, ad622.off + 1, none⟩ = some (.int .i64 ((rd_T42 ((rd_T39 t608 (ji24)).f0) 0).f1)) ∧ w'.cell? ⟨ad622.block, ad622.off + 2, none⟩ = some (.int .i64 ((rd_T42 ((rd_T39 t608 (ji24)).f0) 0).f2))) (ds := []) #[false, false, false, false, false, false, false, false, false, false, false, false, false, false, false, false, false, false, false, false, false, false, false, false, false, false, false, false, false, false, false, false, false, false, false, false, false, false, false, false, false, false, false, false, false, false, false] (by kernel_rfl) rfl rfl ⟨hx615_0, hx617_0, hx619_0, hx620_0, hx621_0, hx622_0, hx622_1, hx622_2⟩ (fun hHeld => ?_); refine with_tabW laws_FnPagePacking.tab12 laws_FnPagePacking.bits12 (fun HT_ HW_ => ?_)
               generalize wr.drew = w33 at HO_3 HO_4 HB HL615_0 HL617_0 HL619_0 HL620_0 HL621_0 HR615_0 HR617_0 HR619_0 HR620_0 HR621_0 hx615_0 hx617_0 hx619_0 hx620_0 hx621_0 hHeld ⊢
               refine pu_ 0 (some 38) HT_ (h := ?_)
               refine pu_ 1 (some 39) HT_ (h := ?_)
               refine pu_ 2 (some 40) HT_ (h := ?_)
               refine ta_ 3 (some 41) HT_ HW_ hHeld (h := ?_)
               refine one_ (i := 4) (N := some 42) #[true, true, true, true, true, false, false, false, false, false, false, false, false, false, false, false, false, false, false, false, false, false, false, false, false, false, false, false, false, false, false, false, false, false, false, false, false, false, false, false, false, false, false, false, false, false, false] rfl rfl (one_of HT_.out (by kernel_rfl)) (by decide) (fun K hK => ?_)
               refine goes_ Try.func18 (by kernel_rfl) rfl #[.agg #[.slice A615_0 ((rd_T39 t608 x5_1).f0).length c615_0]] (by rfl) rfl rfl (by (try simp only [mA, mC, mN]); first | done | rfl | (simp only [lD, lT]; rfl)) ?_
               with_reducible refine (impl_IsValidPage.calls k1 _ _ ((rd_T39 t608 x5_1).f0) true _ ?side1 ?side2 A19.out).mono ?_
               (case side1 => repeat (first | exact (by repeat (first | (with_reducible exact HR615_0.out) | (with_reducible refine Kd.C_alloc ?_ _) | (with_reducible refine Kd.C_drewN ?_ _) | (with_reducible refine Kd.C_drew ?_) | exact HR615_0.out)) | (with_reducible refine Kd.C_alloc ?_ _) | (with_reducible refine Kd.C_drewN ?_ _) | (with_reducible refine Kd.C_drew ?_)))
               (case side2 => exact HC615_0.out)
               rintro e w34 ⟨rfl, hb⟩
               have HS0_ := (hb.cell (World.block_lt_of_cell? _ _ (hHeld.1))).trans (hHeld.1)
               have HS1_ := (hb.cell (World.block_lt_of_cell? _ _ (hHeld.2.1))).trans (hHeld.2.1)
               have HS2_ := (hb.cell (World.block_lt_of_cell? _ _ (hHeld.2.2.1))).trans (hHeld.2.2.1)
               have HS3_ := (hb.cell (World.block_lt_of_cell? _ _ (hHeld.2.2.2.1))).trans (hHeld.2.2.2.1)
               have HS4_ := (hb.cell (World.block_lt_of_cell? _ _ (hHeld.2.2.2.2.1))).trans (hHeld.2.2.2.2.1)
               have HS5_ := (hb.cell (World.block_lt_of_cell? _ _ (hHeld.2.2.2.2.2.1))).trans (hHeld.2.2.2.2.2.1)
               have HS6_ := (hb.cell (World.block_lt_of_cell? _ _ (hHeld.2.2.2.2.2.2.1))).trans (hHeld.2.2.2.2.2.2.1)
               have HS7_ := (hb.cell (World.block_lt_of_cell? _ _ (hHeld.2.2.2.2.2.2.2))).trans (hHeld.2.2.2.2.2.2.2)
               refine ⟨_, rfl, ?_⟩
               have n0_ := Aside0.mk (Kd.R_below (by (with_reducible repeat (first | apply rA | apply rN | apply rD)); exact HO_3.out) hb)
               have n1_ := Aside0.mk (Kd.N_below (by (with_reducible repeat (first | apply Kd.N_alloc | apply Kd.N_drewN | apply Kd.N_drew)); exact HO_4.out) hb)
               have n2_ := Aside0.mk (Kd.V_below (by (with_reducible repeat (first | apply Kd.V_alloc | apply Kd.V_drewN | apply Kd.V_drew)); exact HL615_0.out) hb)
               have n3_ := Aside0.mk (Kd.C_below (by repeat (first | (with_reducible exact HR615_0.out) | (with_reducible refine Kd.C_alloc ?_ _) | (with_reducible refine Kd.C_drewN ?_ _) | (with_reducible refine Kd.C_drew ?_) | exact HR615_0.out)) hb)
               have n4_ := Aside0.mk (below_step (by repeat (first | (with_reducible first | exact HB.out | apply cA | apply cN | apply cD) | exact HB.out)) hb)
               clear HO_3
               clear HO_4
               clear HL615_0
               clear HR615_0
               clear HB
               have HO_3 := n0_
               have HO_4 := n1_
               have HL615_0 := n2_
               have HR615_0 := n3_
               have HB := n4_
               clear n0_ n1_ n2_ n3_ n4_
               have m_ := Aside0.mk (Kd.V_below HL617_0.out hb)
               clear HL617_0
               have HL617_0 := m_
               clear m_
               have m_ := Aside0.mk (Kd.C_below HR617_0.out hb)
               clear HR617_0
               have HR617_0 := m_
               clear m_
               have m_ := Aside0.mk (Kd.V_below HL619_0.out hb)
               clear HL619_0
               have HL619_0 := m_
               clear m_
               have m_ := Aside0.mk (Kd.C_below HR619_0.out hb)
               clear HR619_0
               have HR619_0 := m_
               clear m_
               have m_ := Aside0.mk (Kd.V_below HL620_0.out hb)
               clear HL620_0
               have HL620_0 := m_
               clear m_
               have m_ := Aside0.mk (Kd.C_below HR620_0.out hb)
               clear HR620_0
               have HR620_0 := m_
               clear m_
               have m_ := Aside0.mk (Kd.V_below HL621_0.out hb)
               clear HL621_0
               have HL621_0 := m_
               clear m_
               have m_ := Aside0.mk (Kd.C_below HR621_0.out hb)
               clear HR621_0
               have HR621_0 := m_
               clear m_
               (try clear hb)
               (try clear hb2)
               (try clear hk)
               (try clear hi)
               refine hK.out _ _ ⟨HS0_, HS1_, HS2_, HS3_, HS4_, HS5_, HS6_, HS7_⟩ (fun hHeld => ?_)
               clear hK K
               refine norm_ (a' := ?_) ?_ ?_
               rotate_left
               ·show Act.put _ (some 42) _ = _
                simp only [Act.put, List.setIfInBounds_toArray, List.set_cons_zero, List.set_cons_succ, i64_w, i32_w]
                rfl
               refine pu_ 5 (some 43) HT_ (h := ?_)
               refine pu_ 6 (some 44) HT_ (h := ?_)
               refine pu_ 7 (some 45) HT_ (h := ?_)
               refine pu_ 8 (some 46) HT_ (h := ?_)
               refine pu_ 9 (some 47) HT_ (h := ?_)
               refine ta_ 10 (some 48) HT_ HW_ hHeld (h := ?_)
               refine one_ (i := 11) (N := some 49) #[true, true, true, true, true, true, true, true, true, true, true, true, false, false, false, false, false, false, false, false, false, false, false, false, false, false, false, false, false, false, false, false, false, false, false, false, false, false, false, false, false, false, false, false, false, false, false] rfl rfl (one_of HT_.out (by kernel_rfl)) (by decide) (fun K hK => ?_)
               refine goes_ Try.func19 (by kernel_rfl) rfl #[.agg #[.slice A615_0 ((rd_T39 t608 x5_1).f0).length c615_0]] (by rfl) rfl rfl (by (try simp only [mA, mC, mN]); first | done | rfl | (simp only [lD, lT]; rfl)) ?_
               with_reducible refine (spec_IsValidPage.calls k1 _ _ ((rd_T39 t608 x5_1).f0) true _ ?side1 ?side2 A21.out).mono ?_
               (case side1 => repeat (first | exact (by repeat (first | (with_reducible exact HR617_0.out) | (with_reducible refine Kd.C_alloc ?_ _) | (with_reducible refine Kd.C_drewN ?_ _) | (with_reducible refine Kd.C_drew ?_) | exact HR617_0.out)) | (with_reducible refine Kd.C_alloc ?_ _) | (with_reducible refine Kd.C_drewN ?_ _) | (with_reducible refine Kd.C_drew ?_)))
               (case side2 => exact HC617_0.out)
               rintro e w35 ⟨rfl, hb⟩
               have HS0_ := (hb.cell (World.block_lt_of_cell? _ _ (hHeld.1))).trans (hHeld.1)
               have HS1_ := (hb.cell (World.block_lt_of_cell? _ _ (hHeld.2.1))).trans (hHeld.2.1)
               have HS2_ := (hb.cell (World.block_lt_of_cell? _ _ (hHeld.2.2.1))).trans (hHeld.2.2.1)
               have HS3_ := (hb.cell (World.block_lt_of_cell? _ _ (hHeld.2.2.2.1))).trans (hHeld.2.2.2.1)
               have HS4_ := (hb.cell (World.block_lt_of_cell? _ _ (hHeld.2.2.2.2.1))).trans (hHeld.2.2.2.2.1)
               have HS5_ := (hb.cell (World.block_lt_of_cell? _ _ (hHeld.2.2.2.2.2.1))).trans (hHeld.2.2.2.2.2.1)
               have HS6_ := (hb.cell (World.block_lt_of_cell? _ _ (hHeld.2.2.2.2.2.2.1))).trans (hHeld.2.2.2.2.2.2.1)
               have HS7_ := (hb.cell (World.block_lt_of_cell? _ _ (hHeld.2.2.2.2.2.2.2))).trans (hHeld.2.2.2.2.2.2.2)
               refine ⟨_, rfl, ?_⟩
               have n0_ := Aside0.mk (Kd.R_below (by (with_reducible repeat (first | apply rA | apply rN | apply rD)); exact HO_3.out) hb)
               have n1_ := Aside0.mk (Kd.N_below (by (with_reducible repeat (first | apply Kd.N_alloc | apply Kd.N_drewN | apply Kd.N_drew)); exact HO_4.out) hb)
               have n2_ := Aside0.mk (Kd.V_below (by (with_reducible repeat (first | apply Kd.V_alloc | apply Kd.V_drewN | apply Kd.V_drew)); exact HL615_0.out) hb)
               have n3_ := Aside0.mk (Kd.V_below (by (with_reducible repeat (first | apply Kd.V_alloc | apply Kd.V_drewN | apply Kd.V_drew)); exact HL617_0.out) hb)
               have n4_ := Aside0.mk (Kd.C_below (by repeat (first | (with_reducible exact HR615_0.out) | (with_reducible refine Kd.C_alloc ?_ _) | (with_reducible refine Kd.C_drewN ?_ _) | (with_reducible refine Kd.C_drew ?_) | exact HR615_0.out)) hb)
               have n5_ := Aside0.mk (Kd.C_below (by repeat (first | (with_reducible exact HR617_0.out) | (with_reducible refine Kd.C_alloc ?_ _) | (with_reducible refine Kd.C_drewN ?_ _) | (with_reducible refine Kd.C_drew ?_) | exact HR617_0.out)) hb)
               have n6_ := Aside0.mk (below_step (by repeat (first | (with_reducible first | exact HB.out | apply cA | apply cN | apply cD) | exact HB.out)) hb)
               clear HO_3
               clear HO_4
               clear HL615_0
               clear HL617_0
               clear HR615_0
               clear HR617_0
               clear HB
               have HO_3 := n0_
               have HO_4 := n1_
               have HL615_0 := n2_
               have HL617_0 := n3_
               have HR615_0 := n4_
               have HR617_0 := n5_
               have HB := n6_
               clear n0_ n1_ n2_ n3_ n4_ n5_ n6_
               have m_ := Aside0.mk (Kd.V_below HL619_0.out hb)
               clear HL619_0
               have HL619_0 := m_
               clear m_
               have m_ := Aside0.mk (Kd.C_below HR619_0.out hb)
               clear HR619_0
               have HR619_0 := m_
               clear m_
               have m_ := Aside0.mk (Kd.V_below HL620_0.out hb)
               clear HL620_0
               have HL620_0 := m_
               clear m_
               have m_ := Aside0.mk (Kd.C_below HR620_0.out hb)
               clear HR620_0
               have HR620_0 := m_
               clear m_
               have m_ := Aside0.mk (Kd.V_below HL621_0.out hb)
               clear HL621_0
               have HL621_0 := m_
               clear m_
               have m_ := Aside0.mk (Kd.C_below HR621_0.out hb)
               clear HR621_0
               have HR621_0 := m_
               clear m_
               (try clear hb)
               (try clear hb2)
               (try clear hk)
               (try clear hi)
               cases e622
               have qi622 : (0 < ((rd_T39 t608 (ji24)).f0).length) = True := eq_true (by omega)
               replace p622 := eq_true p622
               replace q622 := eq_true q622
               refine hK.out _ _ ⟨HS0_, HS1_, HS2_, HS3_, HS4_, HS5_, HS6_, HS7_⟩ (fun hHeld => ?_)
               clear hK K
               refine norm_ (a' := ?_) ?_ ?_
               rotate_left
               ·show Act.put _ (some 49) _ = _
                simp only [Act.put, List.setIfInBounds_toArray, List.set_cons_zero, List.set_cons_succ, i64_w, i32_w]
                rfl
               refine pu_ 12 (some 50) HT_ (h := ?_)
               refine pu_ 13 (some 51) HT_ (h := ?_)
               refine pu_ 14 (some 52) HT_ (h := ?_)
               refine pu_ 15 (some 53) HT_ (h := ?_)
               refine pu_ 16 (some 54) HT_ (h := ?_)
               refine pu_ 17 (some 55) HT_ (h := ?_)
               refine pu_ 18 (some 56) HT_ (h := ?_)
               refine pu_ 19 (some 57) HT_ (h := ?_)
               refine pu_ 20 (some 58) HT_ (h := ?_)
               refine pu_ 21 (some 59) HT_ (h := ?_)
               refine pu_ 22 (some 60) HT_ (h := ?_)
               refine pu_ 23 (some 61) HT_ (h := ?_)
               refine pu_ 24 (some 62) HT_ (h := ?_)
               refine pu_ 25 (some 63) HT_ (h := ?_)
               refine ta_ 26 (some 64) HT_ HW_ hHeld (h := ?_)
               refine pu_ 27 (some 65) HT_ (h := ?_)
               refine pu_ 28 (some 66) HT_ (h := ?_)
               refine pu_ 29 (some 67) HT_ (h := ?_)
               refine pu_ 30 (some 68) HT_ (h := ?_)
               refine pu_ 31 (some 69) HT_ (h := ?_)
               refine pu_ 32 (some 70) HT_ (h := ?_)
               refine pu_ 34 (some 72) HT_ (h := ?_)
               refine pu_ 35 (some 73) HT_ (h := ?_)
               refine pu_ 36 (some 74) HT_ (h := ?_)
               refine pu_ 37 (some 75) HT_ (h := ?_)
               refine pu_ 38 (some 76) HT_ (h := ?_)
               refine ta_ 33 (some 71) HT_ HW_ hHeld (h := ?_)
               refine ta_ 39 (some 77) HT_ HW_ hHeld (h := ?_)
               refine pu_ 40 (some 78) HT_ (h := ?_)
               refine ta_ 41 (some 79) HT_ HW_ hHeld (h := ?_)
               refine one_ (i := 42) (N := some 80) #[true, true, true, true, true, true, true, true, true, true, true, true, true, true, true, true, true, true, true, true, true, true, true, true, true, true, true, true, true, true, true, true, true, true, true, true, true, true, true, true, true, true, true, false, false, false, false] rfl rfl (one_of HT_.out (by kernel_rfl)) (by decide) (fun K hK => ?_)
               refine goes_ Try.func20 (by kernel_rfl) rfl #[.agg #[.slice A615_0 ((rd_T39 t608 x5_1).f0).length c615_0], .agg #[.int .i64 ((rd_T42 ((rd_T39 t608 (ji24)).f0) 0).f0), .int .i64 ((rd_T42 ((rd_T39 t608 (ji24)).f0) 0).f1), .int .i64 ((rd_T42 ((rd_T39 t608 (ji24)).f0) 0).f2)]] (by rfl) rfl rfl (by (try simp only [List.map_toArray, List.map_cons, List.map_nil]); first | done | (simp only [hji24]; rfl) | rfl | (simp only [List.length_drop, List.length_take]; rfl)) ?_
               with_reducible refine (impl_WouldOverflow.calls k1 _ _ ((rd_T39 t608 x5_1).f0) ((rd_T42 ((rd_T39 t608 (ji24)).f0) 0).f0) ((rd_T42 ((rd_T39 t608 (ji24)).f0) 0).f1) ((rd_T42 ((rd_T39 t608 (ji24)).f0) 0).f2) true _ ?side1 ?side2 A31.out).mono ?_
               (case side1 => repeat (first | exact (by repeat (first | (with_reducible exact HR620_0.out) | (with_reducible refine Kd.C_alloc ?_ _) | (with_reducible refine Kd.C_drewN ?_ _) | (with_reducible refine Kd.C_drew ?_) | exact HR620_0.out)) | (with_reducible refine Kd.C_alloc ?_ _) | (with_reducible refine Kd.C_drewN ?_ _) | (with_reducible refine Kd.C_drew ?_)))
               (case side2 => exact HC620_0.out)
               rintro e w36 ⟨rfl, hb⟩
               have HS0_ := (hb.cell (World.block_lt_of_cell? _ _ (hHeld.1))).trans (hHeld.1)
               have HS1_ := (hb.cell (World.block_lt_of_cell? _ _ (hHeld.2.1))).trans (hHeld.2.1)
               have HS2_ := (hb.cell (World.block_lt_of_cell? _ _ (hHeld.2.2.1))).trans (hHeld.2.2.1)
               have HS3_ := (hb.cell (World.block_lt_of_cell? _ _ (hHeld.2.2.2.1))).trans (hHeld.2.2.2.1)
               have HS4_ := (hb.cell (World.block_lt_of_cell? _ _ (hHeld.2.2.2.2.1))).trans (hHeld.2.2.2.2.1)
               have HS5_ := (hb.cell (World.block_lt_of_cell? _ _ (hHeld.2.2.2.2.2.1))).trans (hHeld.2.2.2.2.2.1)
               have HS6_ := (hb.cell (World.block_lt_of_cell? _ _ (hHeld.2.2.2.2.2.2.1))).trans (hHeld.2.2.2.2.2.2.1)
               have HS7_ := (hb.cell (World.block_lt_of_cell? _ _ (hHeld.2.2.2.2.2.2.2))).trans (hHeld.2.2.2.2.2.2.2)
               refine ⟨_, rfl, ?_⟩
               have n0_ := Aside0.mk (Kd.R_below (by (with_reducible repeat (first | apply rA | apply rN | apply rD)); exact HO_3.out) hb)
               have n1_ := Aside0.mk (Kd.N_below (by (with_reducible repeat (first | apply Kd.N_alloc | apply Kd.N_drewN | apply Kd.N_drew)); exact HO_4.out) hb)
               have n2_ := Aside0.mk (Kd.V_below (by (with_reducible repeat (first | apply Kd.V_alloc | apply Kd.V_drewN | apply Kd.V_drew)); exact HL615_0.out) hb)
               have n3_ := Aside0.mk (Kd.V_below (by (with_reducible repeat (first | apply Kd.V_alloc | apply Kd.V_drewN | apply Kd.V_drew)); exact HL617_0.out) hb)
               have n4_ := Aside0.mk (Kd.V_below (by (with_reducible repeat (first | apply Kd.V_alloc | apply Kd.V_drewN | apply Kd.V_drew)); exact HL619_0.out) hb)
               have n5_ := Aside0.mk (Kd.V_below (by (with_reducible repeat (first | apply Kd.V_alloc | apply Kd.V_drewN | apply Kd.V_drew)); exact HL620_0.out) hb)
               have n6_ := Aside0.mk (Kd.V_below (by (with_reducible repeat (first | apply Kd.V_alloc | apply Kd.V_drewN | apply Kd.V_drew)); exact HL621_0.out) hb)
               have n7_ := Aside0.mk (Kd.C_below (by repeat (first | (with_reducible exact HR615_0.out) | (with_reducible refine Kd.C_alloc ?_ _) | (with_reducible refine Kd.C_drewN ?_ _) | (with_reducible refine Kd.C_drew ?_) | exact HR615_0.out)) hb)
               have n8_ := Aside0.mk (Kd.C_below (by repeat (first | (with_reducible exact HR617_0.out) | (with_reducible refine Kd.C_alloc ?_ _) | (with_reducible refine Kd.C_drewN ?_ _) | (with_reducible refine Kd.C_drew ?_) | exact HR617_0.out)) hb)
               have n9_ := Aside0.mk (Kd.C_below (by repeat (first | (with_reducible exact HR619_0.out) | (with_reducible refine Kd.C_alloc ?_ _) | (with_reducible refine Kd.C_drewN ?_ _) | (with_reducible refine Kd.C_drew ?_) | exact HR619_0.out)) hb)
               have n10_ := Aside0.mk (Kd.C_below (by repeat (first | (with_reducible exact HR620_0.out) | (with_reducible refine Kd.C_alloc ?_ _) | (with_reducible refine Kd.C_drewN ?_ _) | (with_reducible refine Kd.C_drew ?_) | exact HR620_0.out)) hb)
               have n11_ := Aside0.mk (Kd.C_below (by repeat (first | (with_reducible exact HR621_0.out) | (with_reducible refine Kd.C_alloc ?_ _) | (with_reducible refine Kd.C_drewN ?_ _) | (with_reducible refine Kd.C_drew ?_) | exact HR621_0.out)) hb)
               have n12_ := Aside0.mk (below_step (by repeat (first | (with_reducible first | exact HB.out | apply cA | apply cN | apply cD) | exact HB.out)) hb)
               clear HO_3
               clear HO_4
               clear HL615_0
               clear HL617_0
               clear HL619_0
               clear HL620_0
               clear HL621_0
               clear HR615_0
               clear HR617_0
               clear HR619_0
               clear HR620_0
               clear HR621_0
               clear HB
               have HO_3 := n0_
               have HO_4 := n1_
               have HL615_0 := n2_
               have HL617_0 := n3_
               have HL619_0 := n4_
               have HL620_0 := n5_
               have HL621_0 := n6_
               have HR615_0 := n7_
               have HR617_0 := n8_
               have HR619_0 := n9_
               have HR620_0 := n10_
               have HR621_0 := n11_
               have HB := n12_
               clear n0_ n1_ n2_ n3_ n4_ n5_ n6_ n7_ n8_ n9_ n10_ n11_ n12_
               (try clear hb)
               (try clear hb2)
               (try clear hk)
               (try clear hi)
               refine hK.out _ _ ⟨HS0_, HS1_, HS2_, HS3_, HS4_, HS5_, HS6_, HS7_⟩ (fun hHeld => ?_)
               clear hK K
               refine norm_ (a' := ?_) ?_ ?_
               rotate_left
               ·show Act.put _ (some 80) _ = _
                simp only [Act.put, List.setIfInBounds_toArray, List.set_cons_zero, List.set_cons_succ, i64_w, i32_w]
                rfl
               refine pu_ 43 (some 81) HT_ (h := ?_)
               refine pu_ 44 (some 82) HT_ (h := ?_)
               refine pu_ 45 (some 83) HT_ (h := ?_)
               refine pu_ 46 (some 84) HT_ (h := ?_)
               refine done_ (done_of HT_.out (by kernel_rfl)) ?_
               try go_wp2
               go_roundg k1
               case measure => have := HK1.out; omega
               case rel => exact ⟨(ji24), (by first | rfl | (simp; done) | (simp only [← hji24] <;> (first | rfl | simp)) | (simp [*]; done)), H', ⟨by have := HK1.out; omega⟩, ⟨by (with_reducible repeat (first | apply rA | apply rN | apply rD)); exact HO_3.out⟩, ⟨by (with_reducible repeat (first | apply Kd.N_alloc | apply Kd.N_drewN | apply Kd.N_drew)); exact HO_4.out⟩, ⟨by repeat (first | (with_reducible first | exact HB.out | apply cA | apply cN | apply cD) | exact HB.out)⟩⟩
              ·replace c32 := Bool.eq_false_iff.mpr c32
               subst c32
               have H1 : (some false) = some r := by rw [if_neg (show ¬ (false = true) by decide)] at H; exact H
               rw [hr] at H1
               exact absurd H1 (by simp)
             ·rw [if_neg c30] at H
              exact absurd H (by simp)
           ·rw [if_neg c25] at H
            exact absurd H (by simp)
          ·rw [if_neg c23] at H
           have c23b0 : decide ((wrap64 (x5_1 + 1)) < (t608.length : Int)) = false := decide_eq_false c23
           clear c23
           have H' := Aside0.mk H
           clear H
           try go_wp2
           have n0_ := Aside0.mk (Kd.R_drew HO_3.out)
           have n1_ := Aside0.mk (Kd.N_drew HO_4.out)
           have n2_ := Aside0.mk (below_drew1 HB.out)
           clear HO_3
           clear HO_4
           clear HB
           have HO_3 := n0_
           have HO_4 := n1_
           have HB := n2_
           clear n0_ n1_ n2_
           have p615 : 0 ≤ (x5_1 : Int) := of_decide_eq_true (by first | (with_reducible assumption) | assumption)
           have q615 : x5_1 < (t608.length : Int) := of_decide_eq_true (by first | (with_reducible assumption) | assumption)
           obtain ⟨ad615, A615_0, c615_0, e615, hx615_0, hl615_0, hi615_0⟩ := at_T39 (Kd.N_reads' HO_4.out).2.2 x5_1 p615 q615
           cases e615
           obtain ⟨ce615, hce615, hMe615, hcc615⟩ := Kd.N_get HO_4.out z39 x5_1 p615 (by first | exact q615 | exact of_decide_eq_true (by first | (with_reducible assumption) | assumption) | (have e_ := (Kd.N_reads' HO_4.out).1; omega))
           obtain ⟨ua615_0, uc615_0, rfl, ul615_0, ge615_0⟩ := k39_openF hMe615
           have hv615_0 := hcc615 0 _ rfl
           rw [Nat.add_zero, show (k39).sz = 1 from rfl, Nat.mul_one] at hv615_0
           replace hv615_0 := Option.some.inj (hv615_0.symm.trans hx615_0)
           injection hv615_0 with hva_ hvn_ hvc_
           rw [hva_] at ge615_0
           rw [hvc_] at ul615_0
           have HL615_0 := Aside0.mk (show Kd.V k42 42 _ w.heap.size _ _ ((rd_T39 t608 x5_1).f0) from Kd.V_mk ul615_0 ge615_0)
           clear hva_ hvn_ hvc_ ge615_0 ul615_0
           clear hcc615 hce615
           have HR615_0 := Aside0.mk hi615_0
           have HC615_0 := Aside0.mk hl615_0
           clear hi615_0 hl615_0
           replace p615 := eq_true p615
           replace q615 := eq_true q615
           have p617 : 0 ≤ (x5_1 : Int) := of_decide_eq_true (by first | (with_reducible assumption) | assumption)
           have q617 : x5_1 < (t608.length : Int) := of_decide_eq_true (by first | (with_reducible assumption) | assumption)
           obtain ⟨ad617, A617_0, c617_0, e617, hx617_0, hl617_0, hi617_0⟩ := at_T39 (Kd.N_reads' HO_4.out).2.2 x5_1 p617 q617
           obtain rfl : ad615 = ad617 := (by injection e617)
           obtain ⟨ce617, hce617, hMe617, hcc617⟩ := Kd.N_get HO_4.out z39 x5_1 p617 (by first | exact q617 | exact of_decide_eq_true (by first | (with_reducible assumption) | assumption) | (have e_ := (Kd.N_reads' HO_4.out).1; omega))
           obtain ⟨ua617_0, uc617_0, rfl, ul617_0, ge617_0⟩ := k39_openF hMe617
           have hv617_0 := hcc617 0 _ rfl
           rw [Nat.add_zero, show (k39).sz = 1 from rfl, Nat.mul_one] at hv617_0
           replace hv617_0 := Option.some.inj (hv617_0.symm.trans hx617_0)
           injection hv617_0 with hva_ hvn_ hvc_
           rw [hva_] at ge617_0
           rw [hvc_] at ul617_0
           have HL617_0 := Aside0.mk (show Kd.V k42 42 _ w.heap.size _ _ ((rd_T39 t608 x5_1).f0) from Kd.V_mk ul617_0 ge617_0)
           clear hva_ hvn_ hvc_ ge617_0 ul617_0
           clear hcc617 hce617
           have HR617_0 := Aside0.mk hi617_0
           have HC617_0 := Aside0.mk hl617_0
           clear hi617_0 hl617_0
           replace p617 := eq_true p617
           replace q617 := eq_true q617
           have ea_ := Option.some.inj (hx615_0.symm.trans hx617_0)
           injection ea_ with ea_ en_ ec_
           subst ea_
           subst ec_
           clear en_
           refine start_ (n := 47) (S := fun w' => w'.cell? (ad615.add (x5_1).toNat) = some (.slice A615_0 ((rd_T39 t608 x5_1).f0).length c615_0) ∧ w'.cell? (ad615.add (x5_1).toNat) = some (.slice A615_0 ((rd_T39 t608 x5_1).f0).length c615_0)) (ds := []) #[false, false, false, false, false, false, false, false, false, false, false, false, false, false, false, false, false, false, false, false, false, false, false, false, false, false, false, false, false, false, false, false, false, false, false, false, false, false, false, false, false, false, false, false, false, false, false] (by kernel_rfl) rfl rfl ⟨hx615_0, hx617_0⟩ (fun hHeld => ?_); refine with_tabW laws_FnPagePacking.tab12 laws_FnPagePacking.bits12 (fun HT_ HW_ => ?_)
           generalize wr.drew = w41 at HO_3 HO_4 HB HL615_0 HL617_0 HR615_0 HR617_0 hx615_0 hx617_0 hHeld ⊢
           refine pu_ 0 (some 38) HT_ (h := ?_)
           refine pu_ 1 (some 39) HT_ (h := ?_)
           refine pu_ 2 (some 40) HT_ (h := ?_)
           refine ta_ 3 (some 41) HT_ HW_ hHeld (h := ?_)
           refine one_ (i := 4) (N := some 42) #[true, true, true, true, true, false, false, false, false, false, false, false, false, false, false, false, false, false, false, false, false, false, false, false, false, false, false, false, false, false, false, false, false, false, false, false, false, false, false, false, false, false, false, false, false, false, false] rfl rfl (one_of HT_.out (by kernel_rfl)) (by decide) (fun K hK => ?_)
           refine goes_ Try.func18 (by kernel_rfl) rfl #[.agg #[.slice A615_0 ((rd_T39 t608 x5_1).f0).length c615_0]] (by rfl) rfl rfl (by (try simp only [mA, mC, mN]); first | done | rfl | (simp only [lD, lT]; rfl)) ?_
           with_reducible refine (impl_IsValidPage.calls k1 _ _ ((rd_T39 t608 x5_1).f0) true _ ?side1 ?side2 A19.out).mono ?_
           (case side1 => repeat (first | exact (by repeat (first | (with_reducible exact HR615_0.out) | (with_reducible refine Kd.C_alloc ?_ _) | (with_reducible refine Kd.C_drewN ?_ _) | (with_reducible refine Kd.C_drew ?_) | exact HR615_0.out)) | (with_reducible refine Kd.C_alloc ?_ _) | (with_reducible refine Kd.C_drewN ?_ _) | (with_reducible refine Kd.C_drew ?_)))
           (case side2 => exact HC615_0.out)
           rintro e w42 ⟨rfl, hb⟩
           have HS0_ := (hb.cell (World.block_lt_of_cell? _ _ (hHeld.1))).trans (hHeld.1)
           have HS1_ := (hb.cell (World.block_lt_of_cell? _ _ (hHeld.2))).trans (hHeld.2)
           refine ⟨_, rfl, ?_⟩
           have n0_ := Aside0.mk (Kd.R_below (by (with_reducible repeat (first | apply rA | apply rN | apply rD)); exact HO_3.out) hb)
           have n1_ := Aside0.mk (Kd.N_below (by (with_reducible repeat (first | apply Kd.N_alloc | apply Kd.N_drewN | apply Kd.N_drew)); exact HO_4.out) hb)
           have n2_ := Aside0.mk (Kd.V_below (by (with_reducible repeat (first | apply Kd.V_alloc | apply Kd.V_drewN | apply Kd.V_drew)); exact HL615_0.out) hb)
           have n3_ := Aside0.mk (Kd.C_below (by repeat (first | (with_reducible exact HR615_0.out) | (with_reducible refine Kd.C_alloc ?_ _) | (with_reducible refine Kd.C_drewN ?_ _) | (with_reducible refine Kd.C_drew ?_) | exact HR615_0.out)) hb)
           have n4_ := Aside0.mk (below_step (by repeat (first | (with_reducible first | exact HB.out | apply cA | apply cN | apply cD) | exact HB.out)) hb)
           clear HO_3
           clear HO_4
           clear HL615_0
           clear HR615_0
           clear HB
           have HO_3 := n0_
           have HO_4 := n1_
           have HL615_0 := n2_
           have HR615_0 := n3_
           have HB := n4_
           clear n0_ n1_ n2_ n3_ n4_
           have m_ := Aside0.mk (Kd.V_below HL617_0.out hb)
           clear HL617_0
           have HL617_0 := m_
           clear m_
           have m_ := Aside0.mk (Kd.C_below HR617_0.out hb)
           clear HR617_0
           have HR617_0 := m_
           clear m_
           (try clear hb)
           (try clear hb2)
           (try clear hk)
           (try clear hi)
           refine hK.out _ _ ⟨HS0_, HS1_⟩ (fun hHeld => ?_)
           clear hK K
           refine norm_ (a' := ?_) ?_ ?_
           rotate_left
           ·show Act.put _ (some 42) _ = _
            simp only [Act.put, List.setIfInBounds_toArray, List.set_cons_zero, List.set_cons_succ, i64_w, i32_w]
            rfl
           refine pu_ 5 (some 43) HT_ (h := ?_)
           refine pu_ 6 (some 44) HT_ (h := ?_)
           refine pu_ 7 (some 45) HT_ (h := ?_)
           refine pu_ 8 (some 46) HT_ (h := ?_)
           refine pu_ 9 (some 47) HT_ (h := ?_)
           refine ta_ 10 (some 48) HT_ HW_ hHeld (h := ?_)
           refine one_ (i := 11) (N := some 49) #[true, true, true, true, true, true, true, true, true, true, true, true, false, false, false, false, false, false, false, false, false, false, false, false, false, false, false, false, false, false, false, false, false, false, false, false, false, false, false, false, false, false, false, false, false, false, false] rfl rfl (one_of HT_.out (by kernel_rfl)) (by decide) (fun K hK => ?_)
           refine goes_ Try.func19 (by kernel_rfl) rfl #[.agg #[.slice A615_0 ((rd_T39 t608 x5_1).f0).length c615_0]] (by rfl) rfl rfl (by (try simp only [mA, mC, mN]); first | done | rfl | (simp only [lD, lT]; rfl)) ?_
           with_reducible refine (spec_IsValidPage.calls k1 _ _ ((rd_T39 t608 x5_1).f0) true _ ?side1 ?side2 A21.out).mono ?_
           (case side1 => repeat (first | exact (by repeat (first | (with_reducible exact HR617_0.out) | (with_reducible refine Kd.C_alloc ?_ _) | (with_reducible refine Kd.C_drewN ?_ _) | (with_reducible refine Kd.C_drew ?_) | exact HR617_0.out)) | (with_reducible refine Kd.C_alloc ?_ _) | (with_reducible refine Kd.C_drewN ?_ _) | (with_reducible refine Kd.C_drew ?_)))
           (case side2 => exact HC617_0.out)
           rintro e w43 ⟨rfl, hb⟩
           have HS0_ := (hb.cell (World.block_lt_of_cell? _ _ (hHeld.1))).trans (hHeld.1)
           have HS1_ := (hb.cell (World.block_lt_of_cell? _ _ (hHeld.2))).trans (hHeld.2)
           refine ⟨_, rfl, ?_⟩
           have n0_ := Aside0.mk (Kd.R_below (by (with_reducible repeat (first | apply rA | apply rN | apply rD)); exact HO_3.out) hb)
           have n1_ := Aside0.mk (Kd.N_below (by (with_reducible repeat (first | apply Kd.N_alloc | apply Kd.N_drewN | apply Kd.N_drew)); exact HO_4.out) hb)
           have n2_ := Aside0.mk (Kd.V_below (by (with_reducible repeat (first | apply Kd.V_alloc | apply Kd.V_drewN | apply Kd.V_drew)); exact HL615_0.out) hb)
           have n3_ := Aside0.mk (Kd.V_below (by (with_reducible repeat (first | apply Kd.V_alloc | apply Kd.V_drewN | apply Kd.V_drew)); exact HL617_0.out) hb)
           have n4_ := Aside0.mk (Kd.C_below (by repeat (first | (with_reducible exact HR615_0.out) | (with_reducible refine Kd.C_alloc ?_ _) | (with_reducible refine Kd.C_drewN ?_ _) | (with_reducible refine Kd.C_drew ?_) | exact HR615_0.out)) hb)
           have n5_ := Aside0.mk (Kd.C_below (by repeat (first | (with_reducible exact HR617_0.out) | (with_reducible refine Kd.C_alloc ?_ _) | (with_reducible refine Kd.C_drewN ?_ _) | (with_reducible refine Kd.C_drew ?_) | exact HR617_0.out)) hb)
           have n6_ := Aside0.mk (below_step (by repeat (first | (with_reducible first | exact HB.out | apply cA | apply cN | apply cD) | exact HB.out)) hb)
           clear HO_3
           clear HO_4
           clear HL615_0
           clear HL617_0
           clear HR615_0
           clear HR617_0
           clear HB
           have HO_3 := n0_
           have HO_4 := n1_
           have HL615_0 := n2_
           have HL617_0 := n3_
           have HR615_0 := n4_
           have HR617_0 := n5_
           have HB := n6_
           clear n0_ n1_ n2_ n3_ n4_ n5_ n6_
           (try clear hb)
           (try clear hb2)
           (try clear hk)
           (try clear hi)
           refine hK.out _ _ ⟨HS0_, HS1_⟩ (fun hHeld => ?_)
           clear hK K
           refine norm_ (a' := ?_) ?_ ?_
           rotate_left
           ·show Act.put _ (some 49) _ = _
            simp only [Act.put, List.setIfInBounds_toArray, List.set_cons_zero, List.set_cons_succ, i64_w, i32_w]
            rfl
           refine pu_ 12 (some 50) HT_ (h := ?_)
           refine pu_ 13 (some 51) HT_ (h := ?_)
           refine pu_ 14 (some 52) HT_ (h := ?_)
           refine pu_ 15 (some 53) HT_ (h := ?_)
           refine pu_ 16 (some 54) HT_ (h := ?_)
           refine pu_ 17 (some 55) HT_ (h := ?_)
           refine pu_ 18 (some 56) HT_ (h := ?_)
           refine pu_ 19 (some 57) HT_ (h := ?_)
           refine pu_ 20 (some 58) HT_ (h := ?_)
           refine un_ 21 (some 59) HT_ (h := ?_)
           refine un_ 22 (some 60) HT_ (h := ?_)
           refine un_ 23 (some 61) HT_ (h := ?_)
           refine un_ 24 (some 62) HT_ (h := ?_)
           refine un_ 25 (some 63) HT_ (h := ?_)
           refine un_ 26 (some 64) HT_ (h := ?_)
           refine un_ 27 (some 65) HT_ (h := ?_)
           refine un_ 28 (some 66) HT_ (h := ?_)
           refine un_ 29 (some 67) HT_ (h := ?_)
           refine un_ 30 (some 68) HT_ (h := ?_)
           refine un_ 31 (some 69) HT_ (h := ?_)
           refine un_ 32 (some 70) HT_ (h := ?_)
           refine un_ 33 (some 71) HT_ (h := ?_)
           refine un_ 34 (some 72) HT_ (h := ?_)
           refine un_ 35 (some 73) HT_ (h := ?_)
           refine un_ 36 (some 74) HT_ (h := ?_)
           refine un_ 37 (some 75) HT_ (h := ?_)
           refine un_ 38 (some 76) HT_ (h := ?_)
           refine un_ 39 (some 77) HT_ (h := ?_)
           refine un_ 40 (some 78) HT_ (h := ?_)
           refine un_ 41 (some 79) HT_ (h := ?_)
           refine un_ 42 (some 80) HT_ (h := ?_)
           refine un_ 43 (some 81) HT_ (h := ?_)
           refine un_ 44 (some 82) HT_ (h := ?_)
           refine pu_ 45 (some 83) HT_ (h := ?_)
           refine pu_ 46 (some 84) HT_ (h := ?_)
           refine done_ (done_of HT_.out (by kernel_rfl)) ?_
           try go_wp2
           go_roundg k1
           case measure => have := HK1.out; omega
           case rel => exact ⟨(wrap64 (x5_1 + 1)), (by first | rfl | (simp; done) | (simp [*]; done)), H', ⟨by have := HK1.out; omega⟩, ⟨by (with_reducible repeat (first | apply rA | apply rN | apply rD)); exact HO_3.out⟩, ⟨by (with_reducible repeat (first | apply Kd.N_alloc | apply Kd.N_drewN | apply Kd.N_drew)); exact HO_4.out⟩, ⟨by repeat (first | (with_reducible first | exact HB.out | apply cA | apply cN | apply cD) | exact HB.out)⟩⟩
         ·replace c22 := Bool.eq_false_iff.mpr c22
          subst c22
          have H1 : (some false) = some r := by rw [if_neg (show ¬ (false = true) by decide)] at H; exact H
          rw [hr] at H1
          exact absurd H1 (by simp)
        ·replace c20 := Bool.eq_false_iff.mpr c20
         subst c20
         have H1 : (some false) = some r := by rw [if_neg (show ¬ (false = true) by decide)] at H; exact H
         rw [hr] at H1
         exact absurd H1 (by simp)
       ·rw [if_neg c18] at H
        exact absurd H (by simp)
      ·rw [if_neg c17] at H
       have c17b0 : decide (x5_1 < (t608.length : Int)) = false := decide_eq_false c17
       clear c17
       replace H := Option.bind_eq_some_iff.mp H
       obtain ⟨t624, A490, H⟩ := H
       replace H : ((spec_DrawParsePages.f k1 l0).bind fun t627 => ((impl_ParsePages.f k1 t627).bind fun bt628 => ((spec_ParsePages.f k1 t627).bind fun bt632 => ((impl_FormatPages.f k1 t608).bind fun t636 => ((impl_ParsePages.f k1 t636).bind fun bt637 => ((impl_UnpackPages.f k1 t608).bind fun t641 => ((laws_sameRows.f k1 t641 t605).bind fun t644 => (if t644 = true then ((impl_FormatPages.f k1 t624).bind fun t645 => ((spec_FormatPages.f k1 t624).bind fun t646 => (if t645.toList = t646.toList then (if (bt628.2 == bt632.2) = true then (if bt628.2 = true then ((impl_FormatPages.f k1 bt628.1).bind fun t647 => (if t647.toList = t627.toList then (if bt637.2 = true then ((impl_UnpackPages.f k1 bt637.1).bind fun t648 => ((laws_sameRows.f k1 t648 t605).bind fun t651 => (some t651))) else (some false)) else (some false))) else (if bt637.2 = true then ((impl_UnpackPages.f k1 bt637.1).bind fun t652 => ((laws_sameRows.f k1 t652 t605).bind fun t655 => (some t655))) else (some false))) else (some false)) else (some false)))) else (some false))))))))) = some r := H
       have A49 := Aside0.mk A490
       clear A490
       replace H := Option.bind_eq_some_iff.mp H
       obtain ⟨t627, A500, H⟩ := H
       replace H : ((impl_ParsePages.f k1 t627).bind fun bt628 => ((spec_ParsePages.f k1 t627).bind fun bt632 => ((impl_FormatPages.f k1 t608).bind fun t636 => ((impl_ParsePages.f k1 t636).bind fun bt637 => ((impl_UnpackPages.f k1 t608).bind fun t641 => ((laws_sameRows.f k1 t641 t605).bind fun t644 => (if t644 = true then ((impl_FormatPages.f k1 t624).bind fun t645 => ((spec_FormatPages.f k1 t624).bind fun t646 => (if t645.toList = t646.toList then (if (bt628.2 == bt632.2) = true then (if bt628.2 = true then ((impl_FormatPages.f k1 bt628.1).bind fun t647 => (if t647.toList = t627.toList then (if bt637.2 = true then ((impl_UnpackPages.f k1 bt637.1).bind fun t648 => ((laws_sameRows.f k1 t648 t605).bind fun t651 => (some t651))) else (some false)) else (some false))) else (if bt637.2 = true then ((impl_UnpackPages.f k1 bt637.1).bind fun t652 => ((laws_sameRows.f k1 t652 t605).bind fun t655 => (some t655))) else (some false))) else (some false)) else (some false)))) else (some false)))))))) = some r := H
       have A50 := Aside0.mk A500
       clear A500
       replace H := Option.bind_eq_some_iff.mp H
       obtain ⟨⟨t628, t629⟩, A510, H⟩ := H
       replace H : ((spec_ParsePages.f k1 t627).bind fun bt632 => ((impl_FormatPages.f k1 t608).bind fun t636 => ((impl_ParsePages.f k1 t636).bind fun bt637 => ((impl_UnpackPages.f k1 t608).bind fun t641 => ((laws_sameRows.f k1 t641 t605).bind fun t644 => (if t644 = true then ((impl_FormatPages.f k1 t624).bind fun t645 => ((spec_FormatPages.f k1 t624).bind fun t646 => (if t645.toList = t646.toList then (if (t629 == bt632.2) = true then (if t629 = true then ((impl_FormatPages.f k1 t628).bind fun t647 => (if t647.toList = t627.toList then (if bt637.2 = true then ((impl_UnpackPages.f k1 bt637.1).bind fun t648 => ((laws_sameRows.f k1 t648 t605).bind fun t651 => (some t651))) else (some false)) else (some false))) else (if bt637.2 = true then ((impl_UnpackPages.f k1 bt637.1).bind fun t652 => ((laws_sameRows.f k1 t652 t605).bind fun t655 => (some t655))) else (some false))) else (some false)) else (some false)))) else (some false))))))) = some r := H
       have A51 := Aside0.mk A510
       clear A510
       replace H := Option.bind_eq_some_iff.mp H
       obtain ⟨⟨t632, t633⟩, A520, H⟩ := H
       replace H : ((impl_FormatPages.f k1 t608).bind fun t636 => ((impl_ParsePages.f k1 t636).bind fun bt637 => ((impl_UnpackPages.f k1 t608).bind fun t641 => ((laws_sameRows.f k1 t641 t605).bind fun t644 => (if t644 = true then ((impl_FormatPages.f k1 t624).bind fun t645 => ((spec_FormatPages.f k1 t624).bind fun t646 => (if t645.toList = t646.toList then (if (t629 == t633) = true then (if t629 = true then ((impl_FormatPages.f k1 t628).bind fun t647 => (if t647.toList = t627.toList then (if bt637.2 = true then ((impl_UnpackPages.f k1 bt637.1).bind fun t648 => ((laws_sameRows.f k1 t648 t605).bind fun t651 => (some t651))) else (some false)) else (some false))) else (if bt637.2 = true then ((impl_UnpackPages.f k1 bt637.1).bind fun t652 => ((laws_sameRows.f k1 t652 t605).bind fun t655 => (some t655))) else (some false))) else (some false)) else (some false)))) else (some false)))))) = some r := H
       have A52 := Aside0.mk A520
       clear A520
       replace H := Option.bind_eq_some_iff.mp H
       obtain ⟨t636, A530, H⟩ := H
       replace H : ((impl_ParsePages.f k1 t636).bind fun bt637 => ((impl_UnpackPages.f k1 t608).bind fun t641 => ((laws_sameRows.f k1 t641 t605).bind fun t644 => (if t644 = true then ((impl_FormatPages.f k1 t624).bind fun t645 => ((spec_FormatPages.f k1 t624).bind fun t646 => (if t645.toList = t646.toList then (if (t629 == t633) = true then (if t629 = true then ((impl_FormatPages.f k1 t628).bind fun t647 => (if t647.toList = t627.toList then (if bt637.2 = true then ((impl_UnpackPages.f k1 bt637.1).bind fun t648 => ((laws_sameRows.f k1 t648 t605).bind fun t651 => (some t651))) else (some false)) else (some false))) else (if bt637.2 = true then ((impl_UnpackPages.f k1 bt637.1).bind fun t652 => ((laws_sameRows.f k1 t652 t605).bind fun t655 => (some t655))) else (some false))) else (some false)) else (some false)))) else (some false))))) = some r := H
       have A53 := Aside0.mk A530
       clear A530
       replace H := Option.bind_eq_some_iff.mp H
       obtain ⟨⟨t637, t638⟩, A540, H⟩ := H
       replace H : ((impl_UnpackPages.f k1 t608).bind fun t641 => ((laws_sameRows.f k1 t641 t605).bind fun t644 => (if t644 = true then ((impl_FormatPages.f k1 t624).bind fun t645 => ((spec_FormatPages.f k1 t624).bind fun t646 => (if t645.toList = t646.toList then (if (t629 == t633) = true then (if t629 = true then ((impl_FormatPages.f k1 t628).bind fun t647 => (if t647.toList = t627.toList then (if t638 = true then ((impl_UnpackPages.f k1 t637).bind fun t648 => ((laws_sameRows.f k1 t648 t605).bind fun t651 => (some t651))) else (some false)) else (some false))) else (if t638 = true then ((impl_UnpackPages.f k1 t637).bind fun t652 => ((laws_sameRows.f k1 t652 t605).bind fun t655 => (some t655))) else (some false))) else (some false)) else (some false)))) else (some false)))) = some r := H
       have A54 := Aside0.mk A540
       clear A540
       replace H := Option.bind_eq_some_iff.mp H
       obtain ⟨t641, A550, H⟩ := H
       replace H : ((laws_sameRows.f k1 t641 t605).bind fun t644 => (if t644 = true then ((impl_FormatPages.f k1 t624).bind fun t645 => ((spec_FormatPages.f k1 t624).bind fun t646 => (if t645.toList = t646.toList then (if (t629 == t633) = true then (if t629 = true then ((impl_FormatPages.f k1 t628).bind fun t647 => (if t647.toList = t627.toList then (if t638 = true then ((impl_UnpackPages.f k1 t637).bind fun t648 => ((laws_sameRows.f k1 t648 t605).bind fun t651 => (some t651))) else (some false)) else (some false))) else (if t638 = true then ((impl_UnpackPages.f k1 t637).bind fun t652 => ((laws_sameRows.f k1 t652 t605).bind fun t655 => (some t655))) else (some false))) else (some false)) else (some false)))) else (some false))) = some r := H
       have A55 := Aside0.mk A550
       clear A550
       replace H := Option.bind_eq_some_iff.mp H
       obtain ⟨t644, A560, H⟩ := H
       replace H : (if t644 = true then ((impl_FormatPages.f k1 t624).bind fun t645 => ((spec_FormatPages.f k1 t624).bind fun t646 => (if t645.toList = t646.toList then (if (t629 == t633) = true then (if t629 = true then ((impl_FormatPages.f k1 t628).bind fun t647 => (if t647.toList = t627.toList then (if t638 = true then ((impl_UnpackPages.f k1 t637).bind fun t648 => ((laws_sameRows.f k1 t648 t605).bind fun t651 => (some t651))) else (some false)) else (some false))) else (if t638 = true then ((impl_UnpackPages.f k1 t637).bind fun t652 => ((laws_sameRows.f k1 t652 t605).bind fun t655 => (some t655))) else (some false))) else (some false)) else (some false)))) else (some false)) = some r := H
       have A56 := Aside0.mk A560
       clear A560
       by_cases c57 : t644 = true
       ·subst c57
        have H1 : ((impl_FormatPages.f k1 t624).bind fun t645 => ((spec_FormatPages.f k1 t624).bind fun t646 => (if t645.toList = t646.toList then (if (t629 == t633) = true then (if t629 = true then ((impl_FormatPages.f k1 t628).bind fun t647 => (if t647.toList = t627.toList then (if t638 = true then ((impl_UnpackPages.f k1 t637).bind fun t648 => ((laws_sameRows.f k1 t648 t605).bind fun t651 => (some t651))) else (some false)) else (some false))) else (if t638 = true then ((impl_UnpackPages.f k1 t637).bind fun t652 => ((laws_sameRows.f k1 t652 t605).bind fun t655 => (some t655))) else (some false))) else (some false)) else (some false)))) = some r := by rw [if_pos rfl] at H; exact H
        clear H
        have H := H1
        clear H1
        replace H := Option.bind_eq_some_iff.mp H
        obtain ⟨t645, A580, H⟩ := H
        replace H : ((spec_FormatPages.f k1 t624).bind fun t646 => (if t645.toList = t646.toList then (if (t629 == t633) = true then (if t629 = true then ((impl_FormatPages.f k1 t628).bind fun t647 => (if t647.toList = t627.toList then (if t638 = true then ((impl_UnpackPages.f k1 t637).bind fun t648 => ((laws_sameRows.f k1 t648 t605).bind fun t651 => (some t651))) else (some false)) else (some false))) else (if t638 = true then ((impl_UnpackPages.f k1 t637).bind fun t652 => ((laws_sameRows.f k1 t652 t605).bind fun t655 => (some t655))) else (some false))) else (some false)) else (some false))) = some r := H
        have A58 := Aside0.mk A580
        clear A580
        replace H := Option.bind_eq_some_iff.mp H
        obtain ⟨t646, A590, H⟩ := H
        replace H : (if t645.toList = t646.toList then (if (t629 == t633) = true then (if t629 = true then ((impl_FormatPages.f k1 t628).bind fun t647 => (if t647.toList = t627.toList then (if t638 = true then ((impl_UnpackPages.f k1 t637).bind fun t648 => ((laws_sameRows.f k1 t648 t605).bind fun t651 => (some t651))) else (some false)) else (some false))) else (if t638 = true then ((impl_UnpackPages.f k1 t637).bind fun t652 => ((laws_sameRows.f k1 t652 t605).bind fun t655 => (some t655))) else (some false))) else (some false)) else (some false)) = some r := H
        have A59 := Aside0.mk A590
        clear A590
        by_cases c60 : t645.toList = t646.toList
        ·rw [if_pos c60] at H
         have c60b0 : (t645.toList == t646.toList) = true := beq_iff_eq.mpr c60
         have c60b1 : (t645.toList != t646.toList) = false := bne_eq_false_iff_eq.mpr c60
         clear c60
         by_cases c61 : (t629 == t633) = true
         ·rw [if_pos c61] at H
          have c61b0 : (t629 == t633) = true := c61
          (try (have c61b1 : decide (t629 = t633) = true := by simpa using c61))
          (try (have c61b2 : (t629 == t633) = true := by simpa using c61))
          clear c61
          by_cases c62 : t629 = true
          ·subst c62
           have H1 : ((impl_FormatPages.f k1 t628).bind fun t647 => (if t647.toList = t627.toList then (if t638 = true then ((impl_UnpackPages.f k1 t637).bind fun t648 => ((laws_sameRows.f k1 t648 t605).bind fun t651 => (some t651))) else (some false)) else (some false))) = some r := by rw [if_pos rfl] at H; exact H
           clear H
           have H := H1
           clear H1
           replace H := Option.bind_eq_some_iff.mp H
           obtain ⟨t647, A630, H⟩ := H
           replace H : (if t647.toList = t627.toList then (if t638 = true then ((impl_UnpackPages.f k1 t637).bind fun t648 => ((laws_sameRows.f k1 t648 t605).bind fun t651 => (some t651))) else (some false)) else (some false)) = some r := H
           have A63 := Aside0.mk A630
           clear A630
           by_cases c64 : t647.toList = t627.toList
           ·rw [if_pos c64] at H
            have c64b0 : (t647.toList == t627.toList) = true := beq_iff_eq.mpr c64
            have c64b1 : (t647.toList != t627.toList) = false := bne_eq_false_iff_eq.mpr c64
            clear c64
            by_cases c65 : t638 = true
            ·subst c65
             have H1 : ((impl_UnpackPages.f k1 t637).bind fun t648 => ((laws_sameRows.f k1 t648 t605).bind fun t651 => (some t651))) = some r := by rw [if_pos rfl] at H; exact H
             clear H
             have H := H1
             clear H1
             replace H := Option.bind_eq_some_iff.mp H
             obtain ⟨t648, A660, H⟩ := H
             replace H : ((laws_sameRows.f k1 t648 t605).bind fun t651 => (some t651)) = some r := H
             have A66 := Aside0.mk A660
             clear A660
             replace H := Option.bind_eq_some_iff.mp H
             obtain ⟨t651, A670, H⟩ := H
             replace H : (some t651) = some r := H
             have A67 := Aside0.mk A670
             clear A670
             obtain rfl := Option.some.inj H
             go_wp2_with (first | ((with_reducible refine gate_callee (f := 21) rfl ?_); refine goesL_ (some 86) rfl rfl Try.func21 (by kernel_rfl) rfl #[.slice A0 l0.length c0] rfl (by (try simp only [mA, mC, mN]); first | done | rfl | (simp only [lD, lT]; rfl)) ?_; (with_reducible refine (spec_DrawFormatPages.calls k1 _ _ l0 t624 _ ?side1 ?side2 A49.out).mono ?_); (case side1 => repeat (first | exact (Kd.C_below HR0.out HB.out) | (with_reducible refine Kd.C_alloc ?_ _) | (with_reducible refine Kd.C_drewN ?_ _) | (with_reducible refine Kd.C_drew ?_))); (case side2 => exact HC0.out); rintro e w68 ⟨v625, rfl, ho0, hb⟩; refine ⟨_, rfl, ?_⟩; have n0_ := Aside0.mk (Kd.R_below (by (with_reducible repeat (first | apply rA | apply rN | apply rD)); exact HO_3.out) hb); have n1_ := Aside0.mk (Kd.N_elder' (by (with_reducible repeat (first | apply Kd.N_alloc | apply Kd.N_drewN | apply Kd.N_drew)); exact HO_4.out) (by first | exact Kd.N_base ho0 | exact Kd.S_base ho0) hb); have n2_ := Aside0.mk (Kd.N_lower (Kd.N_mono (ok' := fun k_ => some k_ ≠ (.slice Ao11 t605.length co11 : Value).ownBlock ∧ some k_ ≠ (.slice Ao13 t608.length co13 : Value).ownBlock) ho0 (fun k_ hk_ => ⟨(Kd.fresh' (Kd.R_lt (by (with_reducible repeat (first | apply rA | apply rN | apply rD)); exact HO_3.out)) k_ hk_), (Kd.fresh' (Kd.N_lt (by (with_reducible repeat (first | apply Kd.N_alloc | apply Kd.N_drewN | apply Kd.N_drew)); exact HO_4.out)) k_ hk_)⟩)) (below_size (by repeat (first | (with_reducible first | exact HB.out | apply cA | apply cN | apply cD) | exact HB.out)))); have n3_ := Aside0.mk (below_step (by repeat (first | (with_reducible first | exact HB.out | apply cA | apply cN | apply cD) | exact HB.out)) hb); clear HO_3; clear HO_4; clear HB; have HO_3 := n0_; have HO_4 := n1_; have HO626 := n2_; have HB := n3_; clear n0_ n1_ n2_ n3_; (try clear hb); (try clear hb2); (try clear hk); (try clear hi); (try clear ho0)) | ((with_reducible refine gate_callee (f := 22) rfl ?_); refine goesL_ (some 88) rfl rfl Try.func22 (by kernel_rfl) rfl #[.slice A0 l0.length c0] rfl (by (try simp only [mA, mC, mN]); first | done | rfl | (simp only [lD, lT]; rfl)) ?_; (with_reducible refine (spec_DrawParsePages.calls k1 _ _ l0 t627 _ ?side1 ?side2 A50.out).mono ?_); (case side1 => repeat (first | exact (Kd.C_below HR0.out HB.out) | (with_reducible refine Kd.C_alloc ?_ _) | (with_reducible refine Kd.C_drewN ?_ _) | (with_reducible refine Kd.C_drew ?_))); (case side2 => exact HC0.out); rintro e w69 ⟨rfl, hb⟩; refine ⟨_, rfl, ?_⟩; have n0_ := Aside0.mk (Kd.R_below (by (with_reducible repeat (first | apply rA | apply rN | apply rD)); exact HO_3.out) hb); have n1_ := Aside0.mk (Kd.N_below (by (with_reducible repeat (first | apply Kd.N_alloc | apply Kd.N_drewN | apply Kd.N_drew)); exact HO_4.out) hb); have n2_ := Aside0.mk (Kd.N_below (by (with_reducible repeat (first | apply Kd.N_alloc | apply Kd.N_drewN | apply Kd.N_drew)); exact HO626.out) hb); have n3_ := Aside0.mk (below_step (by repeat (first | (with_reducible first | exact HB.out | apply cA | apply cN | apply cD) | exact HB.out)) hb); clear HO_3; clear HO_4; clear HO626; clear HB; have HO_3 := n0_; have HO_4 := n1_; have HO626 := n2_; have HB := n3_; clear n0_ n1_ n2_ n3_; (try clear hb); (try clear hb2); (try clear hk); (try clear hi)) | ((with_reducible refine gate_callee (f := 23) rfl ?_); refine goesL_ (some 91) rfl rfl Try.func23 (by kernel_rfl) rfl #[.string t627] rfl (by (try simp only [mA, mC, mN]); first | done | rfl | (simp only [lD, lT]; rfl)) ?_; (with_reducible refine (impl_ParsePages.calls k1 t627 t628 true _ A51.out).mono ?_); rintro e w70 ⟨v630, rfl, ho0, hb⟩; refine ⟨_, rfl, ?_⟩; have n0_ := Aside0.mk (Kd.R_below (by (with_reducible repeat (first | apply rA | apply rN | apply rD)); exact HO_3.out) hb); have n1_ := Aside0.mk (Kd.N_elder' (by (with_reducible repeat (first | apply Kd.N_alloc | apply Kd.N_drewN | apply Kd.N_drew)); exact HO_4.out) (by first | exact Kd.N_base ho0 | exact Kd.S_base ho0) hb); have n2_ := Aside0.mk (Kd.N_elder' (by (with_reducible repeat (first | apply Kd.N_alloc | apply Kd.N_drewN | apply Kd.N_drew)); exact HO626.out) (by first | exact Kd.N_base ho0 | exact Kd.S_base ho0) hb); have n3_ := Aside0.mk (Kd.N_lower (Kd.N_mono (ok' := fun k_ => some k_ ≠ (.slice Ao11 t605.length co11 : Value).ownBlock ∧ some k_ ≠ (.slice Ao13 t608.length co13 : Value).ownBlock ∧ some k_ ≠ (v625 : Value).ownBlock) (Kd.S_N (Kd.S_bound ho0)) (fun k_ hk_ => ⟨(Kd.fresh' (Kd.R_lt (by (with_reducible repeat (first | apply rA | apply rN | apply rD)); exact HO_3.out)) k_ hk_.2.1), (Kd.fresh' (Kd.N_lt (by (with_reducible repeat (first | apply Kd.N_alloc | apply Kd.N_drewN | apply Kd.N_drew)); exact HO_4.out)) k_ hk_.2.1), (Kd.fresh' (Kd.N_lt (by (with_reducible repeat (first | apply Kd.N_alloc | apply Kd.N_drewN | apply Kd.N_drew)); exact HO626.out)) k_ hk_.2.1)⟩)) (below_size (by repeat (first | (with_reducible first | exact HB.out | apply cA | apply cN | apply cD) | exact HB.out)))); have n4_ := Aside0.mk (below_step (by repeat (first | (with_reducible first | exact HB.out | apply cA | apply cN | apply cD) | exact HB.out)) hb); clear HO_3; clear HO_4; clear HO626; clear HB; have HO_3 := n0_; have HO_4 := n1_; have HO626 := n2_; have HO631 := n3_; have HB := n4_; clear n0_ n1_ n2_ n3_ n4_; (try clear hb); (try clear hb2); (try clear hk); (try clear hi); (try clear ho0)) | ((with_reducible refine gate_callee (f := 24) rfl ?_); refine goesL_ (some 96) rfl rfl Try.func24 (by kernel_rfl) rfl #[.string t627] rfl (by (try simp only [mA, mC, mN]); first | done | rfl | (simp only [lD, lT]; rfl)) ?_; (with_reducible refine (spec_ParsePages.calls k1 t627 t632 t633 _ A52.out).mono ?_); rintro e w71 ⟨v634, rfl, ho0, hb⟩; refine ⟨_, rfl, ?_⟩; have n0_ := Aside0.mk (Kd.R_below (by (with_reducible repeat (first | apply rA | apply rN | apply rD)); exact HO_3.out) hb); have n1_ := Aside0.mk (Kd.N_elder' (by (with_reducible repeat (first | apply Kd.N_alloc | apply Kd.N_drewN | apply Kd.N_drew)); exact HO_4.out) (by first | exact Kd.N_base ho0 | exact Kd.S_base ho0) hb); have n2_ := Aside0.mk (Kd.N_elder' (by (with_reducible repeat (first | apply Kd.N_alloc | apply Kd.N_drewN | apply Kd.N_drew)); exact HO626.out) (by first | exact Kd.N_base ho0 | exact Kd.S_base ho0) hb); have n3_ := Aside0.mk (Kd.N_elder' (by (with_reducible repeat (first | apply Kd.N_alloc | apply Kd.N_drewN | apply Kd.N_drew)); exact HO631.out) (by first | exact Kd.N_base ho0 | exact Kd.S_base ho0) hb); have n4_ := Aside0.mk (Kd.N_lower (Kd.N_mono (ok' := fun k_ => some k_ ≠ (.slice Ao11 t605.length co11 : Value).ownBlock ∧ some k_ ≠ (.slice Ao13 t608.length co13 : Value).ownBlock ∧ some k_ ≠ (v625 : Value).ownBlock ∧ some k_ ≠ (v630 : Value).ownBlock) (Kd.S_N (Kd.S_bound ho0)) (fun k_ hk_ => ⟨(Kd.fresh' (Kd.R_lt (by (with_reducible repeat (first | apply rA | apply rN | apply rD)); exact HO_3.out)) k_ hk_.2.1), (Kd.fresh' (Kd.N_lt (by (with_reducible repeat (first | apply Kd.N_alloc | apply Kd.N_drewN | apply Kd.N_drew)); exact HO_4.out)) k_ hk_.2.1), (Kd.fresh' (Kd.N_lt (by (with_reducible repeat (first | apply Kd.N_alloc | apply Kd.N_drewN | apply Kd.N_drew)); exact HO626.out)) k_ hk_.2.1), (Kd.fresh' (Kd.N_lt (by (with_reducible repeat (first | apply Kd.N_alloc | apply Kd.N_drewN | apply Kd.N_drew)); exact HO631.out)) k_ hk_.2.1)⟩)) (below_size (by repeat (first | (with_reducible first | exact HB.out | apply cA | apply cN | apply cD) | exact HB.out)))); have n5_ := Aside0.mk (below_step (by repeat (first | (with_reducible first | exact HB.out | apply cA | apply cN | apply cD) | exact HB.out)) hb); clear HO_3; clear HO_4; clear HO626; clear HO631; clear HB; have HO_3 := n0_; have HO_4 := n1_; have HO626 := n2_; have HO631 := n3_; have HO635 := n4_; have HB := n5_; clear n0_ n1_ n2_ n3_ n4_ n5_; (try clear hb); (try clear hb2); (try clear hk); (try clear hi); (try clear ho0)) | ((with_reducible refine gate_callee (f := 25) rfl ?_); refine goesL_ (some 101) rfl rfl Try.func25 (by kernel_rfl) rfl #[.slice Ao13 t608.length co13] rfl (by (try simp only [mA, mC, mN]); first | done | rfl | (simp only [lD, lT]; rfl)) ?_; (with_reducible refine (impl_FormatPages.calls k1 _ _ t608 t636 _ ?side1 ?side2 A53.out).mono ?_); (case side1 => repeat (first | exact (Kd.N_reads' HO_4.out).2.2 | (with_reducible refine Kd.C_alloc ?_ _) | (with_reducible refine Kd.C_drewN ?_ _) | (with_reducible refine Kd.C_drew ?_))); (case side2 => exact (Kd.N_reads' HO_4.out).2.1); rintro e w72 ⟨rfl, hb⟩; refine ⟨_, rfl, ?_⟩; have n0_ := Aside0.mk (Kd.R_below (by (with_reducible repeat (first | apply rA | apply rN | apply rD)); exact HO_3.out) hb); have n1_ := Aside0.mk (Kd.N_below (by (with_reducible repeat (first | apply Kd.N_alloc | apply Kd.N_drewN | apply Kd.N_drew)); exact HO_4.out) hb); have n2_ := Aside0.mk (Kd.N_below (by (with_reducible repeat (first | apply Kd.N_alloc | apply Kd.N_drewN | apply Kd.N_drew)); exact HO626.out) hb); have n3_ := Aside0.mk (Kd.N_below (by (with_reducible repeat (first | apply Kd.N_alloc | apply Kd.N_drewN | apply Kd.N_drew)); exact HO631.out) hb); have n4_ := Aside0.mk (Kd.N_below (by (with_reducible repeat (first | apply Kd.N_alloc | apply Kd.N_drewN | apply Kd.N_drew)); exact HO635.out) hb); have n5_ := Aside0.mk (below_step (by repeat (first | (with_reducible first | exact HB.out | apply cA | apply cN | apply cD) | exact HB.out)) hb); clear HO_3; clear HO_4; clear HO626; clear HO631; clear HO635; clear HB; have HO_3 := n0_; have HO_4 := n1_; have HO626 := n2_; have HO631 := n3_; have HO635 := n4_; have HB := n5_; clear n0_ n1_ n2_ n3_ n4_ n5_; (try clear hb); (try clear hb2); (try clear hk); (try clear hi)) | ((with_reducible refine gate_callee (f := 23) rfl ?_); refine goesL_ (some 102) rfl rfl Try.func23 (by kernel_rfl) rfl #[.string t636] rfl (by (try simp only [mA, mC, mN]); first | done | rfl | (simp only [lD, lT]; rfl)) ?_; (with_reducible refine (impl_ParsePages.calls k1 t636 t637 true _ A54.out).mono ?_); rintro e w73 ⟨v639, rfl, ho0, hb⟩; refine ⟨_, rfl, ?_⟩; have n0_ := Aside0.mk (Kd.R_below (by (with_reducible repeat (first | apply rA | apply rN | apply rD)); exact HO_3.out) hb); have n1_ := Aside0.mk (Kd.N_elder' (by (with_reducible repeat (first | apply Kd.N_alloc | apply Kd.N_drewN | apply Kd.N_drew)); exact HO_4.out) (by first | exact Kd.N_base ho0 | exact Kd.S_base ho0) hb); have n2_ := Aside0.mk (Kd.N_elder' (by (with_reducible repeat (first | apply Kd.N_alloc | apply Kd.N_drewN | apply Kd.N_drew)); exact HO626.out) (by first | exact Kd.N_base ho0 | exact Kd.S_base ho0) hb); have n3_ := Aside0.mk (Kd.N_elder' (by (with_reducible repeat (first | apply Kd.N_alloc | apply Kd.N_drewN | apply Kd.N_drew)); exact HO631.out) (by first | exact Kd.N_base ho0 | exact Kd.S_base ho0) hb); have n4_ := Aside0.mk (Kd.N_elder' (by (with_reducible repeat (first | apply Kd.N_alloc | apply Kd.N_drewN | apply Kd.N_drew)); exact HO635.out) (by first | exact Kd.N_base ho0 | exact Kd.S_base ho0) hb); have n5_ := Aside0.mk (Kd.N_lower (Kd.N_mono (ok' := fun k_ => some k_ ≠ (.slice Ao11 t605.length co11 : Value).ownBlock ∧ some k_ ≠ (.slice Ao13 t608.length co13 : Value).ownBlock ∧ some k_ ≠ (v625 : Value).ownBlock ∧ some k_ ≠ (v630 : Value).ownBlock ∧ some k_ ≠ (v634 : Value).ownBlock) (Kd.S_N (Kd.S_bound ho0)) (fun k_ hk_ => ⟨(Kd.fresh' (Kd.R_lt (by (with_reducible repeat (first | apply rA | apply rN | apply rD)); exact HO_3.out)) k_ hk_.2.1), (Kd.fresh' (Kd.N_lt (by (with_reducible repeat (first | apply Kd.N_alloc | apply Kd.N_drewN | apply Kd.N_drew)); exact HO_4.out)) k_ hk_.2.1), (Kd.fresh' (Kd.N_lt (by (with_reducible repeat (first | apply Kd.N_alloc | apply Kd.N_drewN | apply Kd.N_drew)); exact HO626.out)) k_ hk_.2.1), (Kd.fresh' (Kd.N_lt (by (with_reducible repeat (first | apply Kd.N_alloc | apply Kd.N_drewN | apply Kd.N_drew)); exact HO631.out)) k_ hk_.2.1), (Kd.fresh' (Kd.N_lt (by (with_reducible repeat (first | apply Kd.N_alloc | apply Kd.N_drewN | apply Kd.N_drew)); exact HO635.out)) k_ hk_.2.1)⟩)) (below_size (by repeat (first | (with_reducible first | exact HB.out | apply cA | apply cN | apply cD) | exact HB.out)))); have n6_ := Aside0.mk (below_step (by repeat (first | (with_reducible first | exact HB.out | apply cA | apply cN | apply cD) | exact HB.out)) hb); clear HO_3; clear HO_4; clear HO626; clear HO631; clear HO635; clear HB; have HO_3 := n0_; have HO_4 := n1_; have HO626 := n2_; have HO631 := n3_; have HO635 := n4_; have HO640 := n5_; have HB := n6_; clear n0_ n1_ n2_ n3_ n4_ n5_ n6_; (try clear hb); (try clear hb2); (try clear hk); (try clear hi); (try clear ho0)) | ((with_reducible refine gate_callee (f := 27) rfl ?_); refine goesL_ (some 106) rfl rfl Try.func27 (by kernel_rfl) rfl #[.slice Ao13 t608.length co13] rfl (by (try simp only [mA, mC, mN]); first | done | rfl | (simp only [lD, lT]; rfl)) ?_; (with_reducible refine (impl_UnpackPages.calls k1 _ _ t608 t641 _ ?side1 ?side2 A55.out).mono ?_); (case side1 => repeat (first | exact (Kd.N_reads' HO_4.out).2.2 | (with_reducible refine Kd.C_alloc ?_ _) | (with_reducible refine Kd.C_drewN ?_ _) | (with_reducible refine Kd.C_drew ?_))); (case side2 => exact (Kd.N_reads' HO_4.out).2.1); rintro e w74 ⟨v642, rfl, ho0, hb⟩; refine ⟨_, rfl, ?_⟩; have n0_ := Aside0.mk (Kd.R_elder' (by (with_reducible repeat (first | apply rA | apply rN | apply rD)); exact HO_3.out) (Kd.R_base ho0) hb); have n1_ := Aside0.mk (Kd.N_elder' (by (with_reducible repeat (first | apply Kd.N_alloc | apply Kd.N_drewN | apply Kd.N_drew)); exact HO_4.out) (Kd.R_base ho0) hb); have n2_ := Aside0.mk (Kd.N_elder' (by (with_reducible repeat (first | apply Kd.N_alloc | apply Kd.N_drewN | apply Kd.N_drew)); exact HO626.out) (Kd.R_base ho0) hb); have n3_ := Aside0.mk (Kd.N_elder' (by (with_reducible repeat (first | apply Kd.N_alloc | apply Kd.N_drewN | apply Kd.N_drew)); exact HO631.out) (Kd.R_base ho0) hb); have n4_ := Aside0.mk (Kd.N_elder' (by (with_reducible repeat (first | apply Kd.N_alloc | apply Kd.N_drewN | apply Kd.N_drew)); exact HO635.out) (Kd.R_base ho0) hb); have n5_ := Aside0.mk (Kd.N_elder' (by (with_reducible repeat (first | apply Kd.N_alloc | apply Kd.N_drewN | apply Kd.N_drew)); exact HO640.out) (Kd.R_base ho0) hb); have n6_ := Aside0.mk (Kd.R_lower (Kd.R_new' ho0 (Kd.R_lt (by (with_reducible repeat (first | apply rA | apply rN | apply rD)); exact HO_3.out))) (below_size (by repeat (first | (with_reducible first | exact HB.out | apply cA | apply cN | apply cD) | exact HB.out)))); have n7_ := Aside0.mk (below_step (by repeat (first | (with_reducible first | exact HB.out | apply cA | apply cN | apply cD) | exact HB.out)) hb); clear HO_3; clear HO_4; clear HO626; clear HO631; clear HO635; clear HO640; clear HB; have HO_3 := n0_; have HO_4 := n1_; have HO626 := n2_; have HO631 := n3_; have HO635 := n4_; have HO640 := n5_; have HO643 := n6_; have HB := n7_; clear n0_ n1_ n2_ n3_ n4_ n5_ n6_ n7_; (try clear hb); (try clear hb2); (try clear hk); (try clear hi); (try clear ho0); obtain ⟨Ao75, co75, eo75⟩ := Kd.R_slice HO643.out; subst eo75) | ((with_reducible refine gate_callee (f := 26) rfl ?_); refine goesL_ (some 108) rfl rfl Try.func26 (by kernel_rfl) rfl #[.slice Ao75 t641.length co75, .slice Ao11 t605.length co11] rfl (by (try simp only [mA, mC, mN]); first | done | rfl | (simp only [lD, lT]; rfl)) ?_; (with_reducible refine (laws_sameRows.calls k1 _ _ t641 _ _ t605 true _ ?side1 ?side2 ?side3 ?side4 A56.out).mono ?_); (case side1 => repeat (first | exact (Kd.R_reads' HO643.out).2.2 | (with_reducible refine Kd.C_alloc ?_ _) | (with_reducible refine Kd.C_drewN ?_ _) | (with_reducible refine Kd.C_drew ?_))); (case side2 => exact (Kd.R_reads' HO643.out).2.1); (case side3 => repeat (first | exact (Kd.R_reads' HO_3.out).2.2 | (with_reducible refine Kd.C_alloc ?_ _) | (with_reducible refine Kd.C_drewN ?_ _) | (with_reducible refine Kd.C_drew ?_))); (case side4 => exact (Kd.R_reads' HO_3.out).2.1); rintro e w' ⟨rfl, ⟨nd, rfl⟩⟩; refine ⟨_, rfl, ?_⟩; obtain ⟨Ao76, co76, eo76⟩ := Kd.N_slice HO626.out; subst eo76) | (go_at_call 25; (with_reducible refine (impl_FormatPages.calls k1 _ _ t624 t645 _ ?side1 ?side2 A58.out).mono ?_); (case side1 => repeat (first | exact (Kd.N_reads' HO626.out).2.2 | (with_reducible refine Kd.C_alloc ?_ _) | (with_reducible refine Kd.C_drewN ?_ _) | (with_reducible refine Kd.C_drew ?_))); (case side2 => exact (Kd.N_reads' HO626.out).2.1); rintro e w77 ⟨rfl, hb⟩; have n0_ := Aside0.mk (Kd.R_below (by (with_reducible repeat (first | apply rA | apply rN | apply rD)); exact HO_3.out) hb); have n1_ := Aside0.mk (Kd.N_below (by (with_reducible repeat (first | apply Kd.N_alloc | apply Kd.N_drewN | apply Kd.N_drew)); exact HO_4.out) hb); have n2_ := Aside0.mk (Kd.N_below (by (with_reducible repeat (first | apply Kd.N_alloc | apply Kd.N_drewN | apply Kd.N_drew)); exact HO626.out) hb); have n3_ := Aside0.mk (Kd.N_below (by (with_reducible repeat (first | apply Kd.N_alloc | apply Kd.N_drewN | apply Kd.N_drew)); exact HO631.out) hb); have n4_ := Aside0.mk (Kd.N_below (by (with_reducible repeat (first | apply Kd.N_alloc | apply Kd.N_drewN | apply Kd.N_drew)); exact HO635.out) hb); have n5_ := Aside0.mk (Kd.N_below (by (with_reducible repeat (first | apply Kd.N_alloc | apply Kd.N_drewN | apply Kd.N_drew)); exact HO640.out) hb); have n6_ := Aside0.mk (Kd.R_below (by (with_reducible repeat (first | apply rA | apply rN | apply rD)); exact HO643.out) hb); have n7_ := Aside0.mk (below_step (by repeat (first | (with_reducible first | exact HB.out | apply cA | apply cN | apply cD) | exact HB.out)) hb); clear HO_3; clear HO_4; clear HO626; clear HO631; clear HO635; clear HO640; clear HO643; clear HB; have HO_3 := n0_; have HO_4 := n1_; have HO626 := n2_; have HO631 := n3_; have HO635 := n4_; have HO640 := n5_; have HO643 := n6_; have HB := n7_; clear n0_ n1_ n2_ n3_ n4_ n5_ n6_ n7_; (try clear hb); (try clear hb2); (try clear hk); (try clear hi)) | (go_at_call 28; (with_reducible refine (spec_FormatPages.calls k1 _ _ t624 t646 _ ?side1 ?side2 A59.out).mono ?_); (case side1 => repeat (first | exact (Kd.N_reads' HO626.out).2.2 | (with_reducible refine Kd.C_alloc ?_ _) | (with_reducible refine Kd.C_drewN ?_ _) | (with_reducible refine Kd.C_drew ?_))); (case side2 => exact (Kd.N_reads' HO626.out).2.1); rintro e w78 ⟨rfl, hb⟩; have n0_ := Aside0.mk (Kd.R_below (by (with_reducible repeat (first | apply rA | apply rN | apply rD)); exact HO_3.out) hb); have n1_ := Aside0.mk (Kd.N_below (by (with_reducible repeat (first | apply Kd.N_alloc | apply Kd.N_drewN | apply Kd.N_drew)); exact HO_4.out) hb); have n2_ := Aside0.mk (Kd.N_below (by (with_reducible repeat (first | apply Kd.N_alloc | apply Kd.N_drewN | apply Kd.N_drew)); exact HO626.out) hb); have n3_ := Aside0.mk (Kd.N_below (by (with_reducible repeat (first | apply Kd.N_alloc | apply Kd.N_drewN | apply Kd.N_drew)); exact HO631.out) hb); have n4_ := Aside0.mk (Kd.N_below (by (with_reducible repeat (first | apply Kd.N_alloc | apply Kd.N_drewN | apply Kd.N_drew)); exact HO635.out) hb); have n5_ := Aside0.mk (Kd.N_below (by (with_reducible repeat (first | apply Kd.N_alloc | apply Kd.N_drewN | apply Kd.N_drew)); exact HO640.out) hb); have n6_ := Aside0.mk (Kd.R_below (by (with_reducible repeat (first | apply rA | apply rN | apply rD)); exact HO643.out) hb); have n7_ := Aside0.mk (below_step (by repeat (first | (with_reducible first | exact HB.out | apply cA | apply cN | apply cD) | exact HB.out)) hb); clear HO_3; clear HO_4; clear HO626; clear HO631; clear HO635; clear HO640; clear HO643; clear HB; have HO_3 := n0_; have HO_4 := n1_; have HO626 := n2_; have HO631 := n3_; have HO635 := n4_; have HO640 := n5_; have HO643 := n6_; have HB := n7_; clear n0_ n1_ n2_ n3_ n4_ n5_ n6_ n7_; (try clear hb); (try clear hb2); (try clear hk); (try clear hi); obtain ⟨Ao79, co79, eo79⟩ := Kd.N_slice HO631.out; subst eo79) | (go_at_call 25; (with_reducible refine (impl_FormatPages.calls k1 _ _ t628 t647 _ ?side1 ?side2 A63.out).mono ?_); (case side1 => repeat (first | exact (Kd.N_reads' HO631.out).2.2 | (with_reducible refine Kd.C_alloc ?_ _) | (with_reducible refine Kd.C_drewN ?_ _) | (with_reducible refine Kd.C_drew ?_))); (case side2 => exact (Kd.N_reads' HO631.out).2.1); rintro e w80 ⟨rfl, hb⟩; have n0_ := Aside0.mk (Kd.R_below (by (with_reducible repeat (first | apply rA | apply rN | apply rD)); exact HO_3.out) hb); have n1_ := Aside0.mk (Kd.N_below (by (with_reducible repeat (first | apply Kd.N_alloc | apply Kd.N_drewN | apply Kd.N_drew)); exact HO_4.out) hb); have n2_ := Aside0.mk (Kd.N_below (by (with_reducible repeat (first | apply Kd.N_alloc | apply Kd.N_drewN | apply Kd.N_drew)); exact HO626.out) hb); have n3_ := Aside0.mk (Kd.N_below (by (with_reducible repeat (first | apply Kd.N_alloc | apply Kd.N_drewN | apply Kd.N_drew)); exact HO631.out) hb); have n4_ := Aside0.mk (Kd.N_below (by (with_reducible repeat (first | apply Kd.N_alloc | apply Kd.N_drewN | apply Kd.N_drew)); exact HO635.out) hb); have n5_ := Aside0.mk (Kd.N_below (by (with_reducible repeat (first | apply Kd.N_alloc | apply Kd.N_drewN | apply Kd.N_drew)); exact HO640.out) hb); have n6_ := Aside0.mk (Kd.R_below (by (with_reducible repeat (first | apply rA | apply rN | apply rD)); exact HO643.out) hb); have n7_ := Aside0.mk (below_step (by repeat (first | (with_reducible first | exact HB.out | apply cA | apply cN | apply cD) | exact HB.out)) hb); clear HO_3; clear HO_4; clear HO626; clear HO631; clear HO635; clear HO640; clear HO643; clear HB; have HO_3 := n0_; have HO_4 := n1_; have HO626 := n2_; have HO631 := n3_; have HO635 := n4_; have HO640 := n5_; have HO643 := n6_; have HB := n7_; clear n0_ n1_ n2_ n3_ n4_ n5_ n6_ n7_; (try clear hb); (try clear hb2); (try clear hk); (try clear hi); obtain ⟨Ao81, co81, eo81⟩ := Kd.N_slice HO640.out; subst eo81) | (go_at_call 27; (with_reducible refine (impl_UnpackPages.calls k1 _ _ t637 t648 _ ?side1 ?side2 A66.out).mono ?_); (case side1 => repeat (first | exact (Kd.N_reads' HO640.out).2.2 | (with_reducible refine Kd.C_alloc ?_ _) | (with_reducible refine Kd.C_drewN ?_ _) | (with_reducible refine Kd.C_drew ?_))); (case side2 => exact (Kd.N_reads' HO640.out).2.1); rintro e w82 ⟨v649, rfl, ho0, hb⟩; have n0_ := Aside0.mk (Kd.R_elder' (by (with_reducible repeat (first | apply rA | apply rN | apply rD)); exact HO_3.out) (Kd.R_base ho0) hb); have n1_ := Aside0.mk (Kd.N_elder' (by (with_reducible repeat (first | apply Kd.N_alloc | apply Kd.N_drewN | apply Kd.N_drew)); exact HO_4.out) (Kd.R_base ho0) hb); have n2_ := Aside0.mk (Kd.N_elder' (by (with_reducible repeat (first | apply Kd.N_alloc | apply Kd.N_drewN | apply Kd.N_drew)); exact HO626.out) (Kd.R_base ho0) hb); have n3_ := Aside0.mk (Kd.N_elder' (by (with_reducible repeat (first | apply Kd.N_alloc | apply Kd.N_drewN | apply Kd.N_drew)); exact HO631.out) (Kd.R_base ho0) hb); have n4_ := Aside0.mk (Kd.N_elder' (by (with_reducible repeat (first | apply Kd.N_alloc | apply Kd.N_drewN | apply Kd.N_drew)); exact HO635.out) (Kd.R_base ho0) hb); have n5_ := Aside0.mk (Kd.N_elder' (by (with_reducible repeat (first | apply Kd.N_alloc | apply Kd.N_drewN | apply Kd.N_drew)); exact HO640.out) (Kd.R_base ho0) hb); have n6_ := Aside0.mk (Kd.R_elder' (by (with_reducible repeat (first | apply rA | apply rN | apply rD)); exact HO643.out) (Kd.R_base ho0) hb); have n7_ := Aside0.mk (Kd.R_lower (Kd.R_new' (Kd.R_new' ho0 (Kd.R_lt (by (with_reducible repeat (first | apply rA | apply rN | apply rD)); exact HO_3.out))) (Kd.R_lt (by (with_reducible repeat (first | apply rA | apply rN | apply rD)); exact HO643.out))) (below_size (by repeat (first | (with_reducible first | exact HB.out | apply cA | apply cN | apply cD) | exact HB.out)))); have n8_ := Aside0.mk (below_step (by repeat (first | (with_reducible first | exact HB.out | apply cA | apply cN | apply cD) | exact HB.out)) hb); clear HO_3; clear HO_4; clear HO626; clear HO631; clear HO635; clear HO640; clear HO643; clear HB; have HO_3 := n0_; have HO_4 := n1_; have HO626 := n2_; have HO631 := n3_; have HO635 := n4_; have HO640 := n5_; have HO643 := n6_; have HO650 := n7_; have HB := n8_; clear n0_ n1_ n2_ n3_ n4_ n5_ n6_ n7_ n8_; (try clear hb); (try clear hb2); (try clear hk); (try clear hi); (try clear ho0); obtain ⟨Ao83, co83, eo83⟩ := Kd.R_slice HO650.out; subst eo83) | (go_at_call 26; (with_reducible refine (laws_sameRows.calls k1 _ _ t648 _ _ t605 t651 _ ?side1 ?side2 ?side3 ?side4 A67.out).mono ?_); (case side1 => repeat (first | exact (Kd.R_reads' HO650.out).2.2 | (with_reducible refine Kd.C_alloc ?_ _) | (with_reducible refine Kd.C_drewN ?_ _) | (with_reducible refine Kd.C_drew ?_))); (case side2 => exact (Kd.R_reads' HO650.out).2.1); (case side3 => repeat (first | exact (Kd.R_reads' HO_3.out).2.2 | (with_reducible refine Kd.C_alloc ?_ _) | (with_reducible refine Kd.C_drewN ?_ _) | (with_reducible refine Kd.C_drew ?_))); (case side4 => exact (Kd.R_reads' HO_3.out).2.1); rintro e w' ⟨rfl, ⟨nd, rfl⟩⟩))
             go_ret
             exact ⟨by first | rfl | (simp [errW_none, errW_some] <;> rfl) | (simp [*, errW_none, errW_some] <;> rfl), by repeat (first | (with_reducible first | exact HB.out | apply cA | apply cN | apply cD) | exact HB.out)⟩
            ·replace c65 := Bool.eq_false_iff.mpr c65
             subst c65
             have H1 : (some false) = some r := by rw [if_neg (show ¬ (false = true) by decide)] at H; exact H
             rw [hr] at H1
             exact absurd H1 (by simp)
           ·rw [if_neg c64] at H
            rw [hr] at H
            exact absurd H (by simp)
          ·replace c62 := Bool.eq_false_iff.mpr c62
           subst c62
           have H1 : (if t638 = true then ((impl_UnpackPages.f k1 t637).bind fun t652 => ((laws_sameRows.f k1 t652 t605).bind fun t655 => (some t655))) else (some false)) = some r := by rw [if_neg (show ¬ (false = true) by decide)] at H; exact H
           clear H
           have H := H1
           clear H1
           by_cases c110 : t638 = true
           ·subst c110
            have H1 : ((impl_UnpackPages.f k1 t637).bind fun t652 => ((laws_sameRows.f k1 t652 t605).bind fun t655 => (some t655))) = some r := by rw [if_pos rfl] at H; exact H
            clear H
            have H := H1
            clear H1
            replace H := Option.bind_eq_some_iff.mp H
            obtain ⟨t652, A1110, H⟩ := H
            replace H : ((laws_sameRows.f k1 t652 t605).bind fun t655 => (some t655)) = some r := H
            have A111 := Aside0.mk A1110
            clear A1110
            replace H := Option.bind_eq_some_iff.mp H
            obtain ⟨t655, A1120, H⟩ := H
            replace H : (some t655) = some r := H
            have A112 := Aside0.mk A1120
            clear A1120
            obtain rfl := Option.some.inj H
            go_wp2_with (first | ((with_reducible refine gate_callee (f := 21) rfl ?_); refine goesL_ (some 86) rfl rfl Try.func21 (by kernel_rfl) rfl #[.slice A0 l0.length c0] rfl (by (try simp only [mA, mC, mN]); first | done | rfl | (simp only [lD, lT]; rfl)) ?_; (with_reducible refine (spec_DrawFormatPages.calls k1 _ _ l0 t624 _ ?side1 ?side2 A49.out).mono ?_); (case side1 => repeat (first | exact (Kd.C_below HR0.out HB.out) | (with_reducible refine Kd.C_alloc ?_ _) | (with_reducible refine Kd.C_drewN ?_ _) | (with_reducible refine Kd.C_drew ?_))); (case side2 => exact HC0.out); rintro e w113 ⟨v625, rfl, ho0, hb⟩; refine ⟨_, rfl, ?_⟩; have n0_ := Aside0.mk (Kd.R_below (by (with_reducible repeat (first | apply rA | apply rN | apply rD)); exact HO_3.out) hb); have n1_ := Aside0.mk (Kd.N_elder' (by (with_reducible repeat (first | apply Kd.N_alloc | apply Kd.N_drewN | apply Kd.N_drew)); exact HO_4.out) (by first | exact Kd.N_base ho0 | exact Kd.S_base ho0) hb); have n2_ := Aside0.mk (Kd.N_lower (Kd.N_mono (ok' := fun k_ => some k_ ≠ (.slice Ao11 t605.length co11 : Value).ownBlock ∧ some k_ ≠ (.slice Ao13 t608.length co13 : Value).ownBlock) ho0 (fun k_ hk_ => ⟨(Kd.fresh' (Kd.R_lt (by (with_reducible repeat (first | apply rA | apply rN | apply rD)); exact HO_3.out)) k_ hk_), (Kd.fresh' (Kd.N_lt (by (with_reducible repeat (first | apply Kd.N_alloc | apply Kd.N_drewN | apply Kd.N_drew)); exact HO_4.out)) k_ hk_)⟩)) (below_size (by repeat (first | (with_reducible first | exact HB.out | apply cA | apply cN | apply cD) | exact HB.out)))); have n3_ := Aside0.mk (below_step (by repeat (first | (with_reducible first | exact HB.out | apply cA | apply cN | apply cD) | exact HB.out)) hb); clear HO_3; clear HO_4; clear HB; have HO_3 := n0_; have HO_4 := n1_; have HO626 := n2_; have HB := n3_; clear n0_ n1_ n2_ n3_; (try clear hb); (try clear hb2); (try clear hk); (try clear hi); (try clear ho0)) | ((with_reducible refine gate_callee (f := 22) rfl ?_); refine goesL_ (some 88) rfl rfl Try.func22 (by kernel_rfl) rfl #[.slice A0 l0.length c0] rfl (by (try simp only [mA, mC, mN]); first | done | rfl | (simp only [lD, lT]; rfl)) ?_; (with_reducible refine (spec_DrawParsePages.calls k1 _ _ l0 t627 _ ?side1 ?side2 A50.out).mono ?_); (case side1 => repeat (first | exact (Kd.C_below HR0.out HB.out) | (with_reducible refine Kd.C_alloc ?_ _) | (with_reducible refine Kd.C_drewN ?_ _) | (with_reducible refine Kd.C_drew ?_))); (case side2 => exact HC0.out); rintro e w114 ⟨rfl, hb⟩; refine ⟨_, rfl, ?_⟩; have n0_ := Aside0.mk (Kd.R_below (by (with_reducible repeat (first | apply rA | apply rN | apply rD)); exact HO_3.out) hb); have n1_ := Aside0.mk (Kd.N_below (by (with_reducible repeat (first | apply Kd.N_alloc | apply Kd.N_drewN | apply Kd.N_drew)); exact HO_4.out) hb); have n2_ := Aside0.mk (Kd.N_below (by (with_reducible repeat (first | apply Kd.N_alloc | apply Kd.N_drewN | apply Kd.N_drew)); exact HO626.out) hb); have n3_ := Aside0.mk (below_step (by repeat (first | (with_reducible first | exact HB.out | apply cA | apply cN | apply cD) | exact HB.out)) hb); clear HO_3; clear HO_4; clear HO626; clear HB; have HO_3 := n0_; have HO_4 := n1_; have HO626 := n2_; have HB := n3_; clear n0_ n1_ n2_ n3_; (try clear hb); (try clear hb2); (try clear hk); (try clear hi)) | ((with_reducible refine gate_callee (f := 23) rfl ?_); refine goesL_ (some 91) rfl rfl Try.func23 (by kernel_rfl) rfl #[.string t627] rfl (by (try simp only [mA, mC, mN]); first | done | rfl | (simp only [lD, lT]; rfl)) ?_; (with_reducible refine (impl_ParsePages.calls k1 t627 t628 false _ A51.out).mono ?_); rintro e w115 ⟨v630, rfl, ho0, hb⟩; refine ⟨_, rfl, ?_⟩; have n0_ := Aside0.mk (Kd.R_below (by (with_reducible repeat (first | apply rA | apply rN | apply rD)); exact HO_3.out) hb); have n1_ := Aside0.mk (Kd.N_elder' (by (with_reducible repeat (first | apply Kd.N_alloc | apply Kd.N_drewN | apply Kd.N_drew)); exact HO_4.out) (by first | exact Kd.N_base ho0 | exact Kd.S_base ho0) hb); have n2_ := Aside0.mk (Kd.N_elder' (by (with_reducible repeat (first | apply Kd.N_alloc | apply Kd.N_drewN | apply Kd.N_drew)); exact HO626.out) (by first | exact Kd.N_base ho0 | exact Kd.S_base ho0) hb); have n3_ := Aside0.mk (Kd.N_lower (Kd.N_mono (ok' := fun k_ => some k_ ≠ (.slice Ao11 t605.length co11 : Value).ownBlock ∧ some k_ ≠ (.slice Ao13 t608.length co13 : Value).ownBlock ∧ some k_ ≠ (v625 : Value).ownBlock) (Kd.S_N (Kd.S_bound ho0)) (fun k_ hk_ => ⟨(Kd.fresh' (Kd.R_lt (by (with_reducible repeat (first | apply rA | apply rN | apply rD)); exact HO_3.out)) k_ hk_.2.1), (Kd.fresh' (Kd.N_lt (by (with_reducible repeat (first | apply Kd.N_alloc | apply Kd.N_drewN | apply Kd.N_drew)); exact HO_4.out)) k_ hk_.2.1), (Kd.fresh' (Kd.N_lt (by (with_reducible repeat (first | apply Kd.N_alloc | apply Kd.N_drewN | apply Kd.N_drew)); exact HO626.out)) k_ hk_.2.1)⟩)) (below_size (by repeat (first | (with_reducible first | exact HB.out | apply cA | apply cN | apply cD) | exact HB.out)))); have n4_ := Aside0.mk (below_step (by repeat (first | (with_reducible first | exact HB.out | apply cA | apply cN | apply cD) | exact HB.out)) hb); clear HO_3; clear HO_4; clear HO626; clear HB; have HO_3 := n0_; have HO_4 := n1_; have HO626 := n2_; have HO631 := n3_; have HB := n4_; clear n0_ n1_ n2_ n3_ n4_; (try clear hb); (try clear hb2); (try clear hk); (try clear hi); (try clear ho0)) | ((with_reducible refine gate_callee (f := 24) rfl ?_); refine goesL_ (some 96) rfl rfl Try.func24 (by kernel_rfl) rfl #[.string t627] rfl (by (try simp only [mA, mC, mN]); first | done | rfl | (simp only [lD, lT]; rfl)) ?_; (with_reducible refine (spec_ParsePages.calls k1 t627 t632 t633 _ A52.out).mono ?_); rintro e w116 ⟨v634, rfl, ho0, hb⟩; refine ⟨_, rfl, ?_⟩; have n0_ := Aside0.mk (Kd.R_below (by (with_reducible repeat (first | apply rA | apply rN | apply rD)); exact HO_3.out) hb); have n1_ := Aside0.mk (Kd.N_elder' (by (with_reducible repeat (first | apply Kd.N_alloc | apply Kd.N_drewN | apply Kd.N_drew)); exact HO_4.out) (by first | exact Kd.N_base ho0 | exact Kd.S_base ho0) hb); have n2_ := Aside0.mk (Kd.N_elder' (by (with_reducible repeat (first | apply Kd.N_alloc | apply Kd.N_drewN | apply Kd.N_drew)); exact HO626.out) (by first | exact Kd.N_base ho0 | exact Kd.S_base ho0) hb); have n3_ := Aside0.mk (Kd.N_elder' (by (with_reducible repeat (first | apply Kd.N_alloc | apply Kd.N_drewN | apply Kd.N_drew)); exact HO631.out) (by first | exact Kd.N_base ho0 | exact Kd.S_base ho0) hb); have n4_ := Aside0.mk (Kd.N_lower (Kd.N_mono (ok' := fun k_ => some k_ ≠ (.slice Ao11 t605.length co11 : Value).ownBlock ∧ some k_ ≠ (.slice Ao13 t608.length co13 : Value).ownBlock ∧ some k_ ≠ (v625 : Value).ownBlock ∧ some k_ ≠ (v630 : Value).ownBlock) (Kd.S_N (Kd.S_bound ho0)) (fun k_ hk_ => ⟨(Kd.fresh' (Kd.R_lt (by (with_reducible repeat (first | apply rA | apply rN | apply rD)); exact HO_3.out)) k_ hk_.2.1), (Kd.fresh' (Kd.N_lt (by (with_reducible repeat (first | apply Kd.N_alloc | apply Kd.N_drewN | apply Kd.N_drew)); exact HO_4.out)) k_ hk_.2.1), (Kd.fresh' (Kd.N_lt (by (with_reducible repeat (first | apply Kd.N_alloc | apply Kd.N_drewN | apply Kd.N_drew)); exact HO626.out)) k_ hk_.2.1), (Kd.fresh' (Kd.N_lt (by (with_reducible repeat (first | apply Kd.N_alloc | apply Kd.N_drewN | apply Kd.N_drew)); exact HO631.out)) k_ hk_.2.1)⟩)) (below_size (by repeat (first | (with_reducible first | exact HB.out | apply cA | apply cN | apply cD) | exact HB.out)))); have n5_ := Aside0.mk (below_step (by repeat (first | (with_reducible first | exact HB.out | apply cA | apply cN | apply cD) | exact HB.out)) hb); clear HO_3; clear HO_4; clear HO626; clear HO631; clear HB; have HO_3 := n0_; have HO_4 := n1_; have HO626 := n2_; have HO631 := n3_; have HO635 := n4_; have HB := n5_; clear n0_ n1_ n2_ n3_ n4_ n5_; (try clear hb); (try clear hb2); (try clear hk); (try clear hi); (try clear ho0)) | ((with_reducible refine gate_callee (f := 25) rfl ?_); refine goesL_ (some 101) rfl rfl Try.func25 (by kernel_rfl) rfl #[.slice Ao13 t608.length co13] rfl (by (try simp only [mA, mC, mN]); first | done | rfl | (simp only [lD, lT]; rfl)) ?_; (with_reducible refine (impl_FormatPages.calls k1 _ _ t608 t636 _ ?side1 ?side2 A53.out).mono ?_); (case side1 => repeat (first | exact (Kd.N_reads' HO_4.out).2.2 | (with_reducible refine Kd.C_alloc ?_ _) | (with_reducible refine Kd.C_drewN ?_ _) | (with_reducible refine Kd.C_drew ?_))); (case side2 => exact (Kd.N_reads' HO_4.out).2.1); rintro e w117 ⟨rfl, hb⟩; refine ⟨_, rfl, ?_⟩; have n0_ := Aside0.mk (Kd.R_below (by (with_reducible repeat (first | apply rA | apply rN | apply rD)); exact HO_3.out) hb); have n1_ := Aside0.mk (Kd.N_below (by (with_reducible repeat (first | apply Kd.N_alloc | apply Kd.N_drewN | apply Kd.N_drew)); exact HO_4.out) hb); have n2_ := Aside0.mk (Kd.N_below (by (with_reducible repeat (first | apply Kd.N_alloc | apply Kd.N_drewN | apply Kd.N_drew)); exact HO626.out) hb); have n3_ := Aside0.mk (Kd.N_below (by (with_reducible repeat (first | apply Kd.N_alloc | apply Kd.N_drewN | apply Kd.N_drew)); exact HO631.out) hb); have n4_ := Aside0.mk (Kd.N_below (by (with_reducible repeat (first | apply Kd.N_alloc | apply Kd.N_drewN | apply Kd.N_drew)); exact HO635.out) hb); have n5_ := Aside0.mk (below_step (by repeat (first | (with_reducible first | exact HB.out | apply cA | apply cN | apply cD) | exact HB.out)) hb); clear HO_3; clear HO_4; clear HO626; clear HO631; clear HO635; clear HB; have HO_3 := n0_; have HO_4 := n1_; have HO626 := n2_; have HO631 := n3_; have HO635 := n4_; have HB := n5_; clear n0_ n1_ n2_ n3_ n4_ n5_; (try clear hb); (try clear hb2); (try clear hk); (try clear hi)) | ((with_reducible refine gate_callee (f := 23) rfl ?_); refine goesL_ (some 102) rfl rfl Try.func23 (by kernel_rfl) rfl #[.string t636] rfl (by (try simp only [mA, mC, mN]); first | done | rfl | (simp only [lD, lT]; rfl)) ?_; (with_reducible refine (impl_ParsePages.calls k1 t636 t637 true _ A54.out).mono ?_); rintro e w118 ⟨v639, rfl, ho0, hb⟩; refine ⟨_, rfl, ?_⟩; have n0_ := Aside0.mk (Kd.R_below (by (with_reducible repeat (first | apply rA | apply rN | apply rD)); exact HO_3.out) hb); have n1_ := Aside0.mk (Kd.N_elder' (by (with_reducible repeat (first | apply Kd.N_alloc | apply Kd.N_drewN | apply Kd.N_drew)); exact HO_4.out) (by first | exact Kd.N_base ho0 | exact Kd.S_base ho0) hb); have n2_ := Aside0.mk (Kd.N_elder' (by (with_reducible repeat (first | apply Kd.N_alloc | apply Kd.N_drewN | apply Kd.N_drew)); exact HO626.out) (by first | exact Kd.N_base ho0 | exact Kd.S_base ho0) hb); have n3_ := Aside0.mk (Kd.N_elder' (by (with_reducible repeat (first | apply Kd.N_alloc | apply Kd.N_drewN | apply Kd.N_drew)); exact HO631.out) (by first | exact Kd.N_base ho0 | exact Kd.S_base ho0) hb); have n4_ := Aside0.mk (Kd.N_elder' (by (with_reducible repeat (first | apply Kd.N_alloc | apply Kd.N_drewN | apply Kd.N_drew)); exact HO635.out) (by first | exact Kd.N_base ho0 | exact Kd.S_base ho0) hb); have n5_ := Aside0.mk (Kd.N_lower (Kd.N_mono (ok' := fun k_ => some k_ ≠ (.slice Ao11 t605.length co11 : Value).ownBlock ∧ some k_ ≠ (.slice Ao13 t608.length co13 : Value).ownBlock ∧ some k_ ≠ (v625 : Value).ownBlock ∧ some k_ ≠ (v630 : Value).ownBlock ∧ some k_ ≠ (v634 : Value).ownBlock) (Kd.S_N (Kd.S_bound ho0)) (fun k_ hk_ => ⟨(Kd.fresh' (Kd.R_lt (by (with_reducible repeat (first | apply rA | apply rN | apply rD)); exact HO_3.out)) k_ hk_.2.1), (Kd.fresh' (Kd.N_lt (by (with_reducible repeat (first | apply Kd.N_alloc | apply Kd.N_drewN | apply Kd.N_drew)); exact HO_4.out)) k_ hk_.2.1), (Kd.fresh' (Kd.N_lt (by (with_reducible repeat (first | apply Kd.N_alloc | apply Kd.N_drewN | apply Kd.N_drew)); exact HO626.out)) k_ hk_.2.1), (Kd.fresh' (Kd.N_lt (by (with_reducible repeat (first | apply Kd.N_alloc | apply Kd.N_drewN | apply Kd.N_drew)); exact HO631.out)) k_ hk_.2.1), (Kd.fresh' (Kd.N_lt (by (with_reducible repeat (first | apply Kd.N_alloc | apply Kd.N_drewN | apply Kd.N_drew)); exact HO635.out)) k_ hk_.2.1)⟩)) (below_size (by repeat (first | (with_reducible first | exact HB.out | apply cA | apply cN | apply cD) | exact HB.out)))); have n6_ := Aside0.mk (below_step (by repeat (first | (with_reducible first | exact HB.out | apply cA | apply cN | apply cD) | exact HB.out)) hb); clear HO_3; clear HO_4; clear HO626; clear HO631; clear HO635; clear HB; have HO_3 := n0_; have HO_4 := n1_; have HO626 := n2_; have HO631 := n3_; have HO635 := n4_; have HO640 := n5_; have HB := n6_; clear n0_ n1_ n2_ n3_ n4_ n5_ n6_; (try clear hb); (try clear hb2); (try clear hk); (try clear hi); (try clear ho0)) | ((with_reducible refine gate_callee (f := 27) rfl ?_); refine goesL_ (some 106) rfl rfl Try.func27 (by kernel_rfl) rfl #[.slice Ao13 t608.length co13] rfl (by (try simp only [mA, mC, mN]); first | done | rfl | (simp only [lD, lT]; rfl)) ?_; (with_reducible refine (impl_UnpackPages.calls k1 _ _ t608 t641 _ ?side1 ?side2 A55.out).mono ?_); (case side1 => repeat (first | exact (Kd.N_reads' HO_4.out).2.2 | (with_reducible refine Kd.C_alloc ?_ _) | (with_reducible refine Kd.C_drewN ?_ _) | (with_reducible refine Kd.C_drew ?_))); (case side2 => exact (Kd.N_reads' HO_4.out).2.1); rintro e w119 ⟨v642, rfl, ho0, hb⟩; refine ⟨_, rfl, ?_⟩; have n0_ := Aside0.mk (Kd.R_elder' (by (with_reducible repeat (first | apply rA | apply rN | apply rD)); exact HO_3.out) (Kd.R_base ho0) hb); have n1_ := Aside0.mk (Kd.N_elder' (by (with_reducible repeat (first | apply Kd.N_alloc | apply Kd.N_drewN | apply Kd.N_drew)); exact HO_4.out) (Kd.R_base ho0) hb); have n2_ := Aside0.mk (Kd.N_elder' (by (with_reducible repeat (first | apply Kd.N_alloc | apply Kd.N_drewN | apply Kd.N_drew)); exact HO626.out) (Kd.R_base ho0) hb); have n3_ := Aside0.mk (Kd.N_elder' (by (with_reducible repeat (first | apply Kd.N_alloc | apply Kd.N_drewN | apply Kd.N_drew)); exact HO631.out) (Kd.R_base ho0) hb); have n4_ := Aside0.mk (Kd.N_elder' (by (with_reducible repeat (first | apply Kd.N_alloc | apply Kd.N_drewN | apply Kd.N_drew)); exact HO635.out) (Kd.R_base ho0) hb); have n5_ := Aside0.mk (Kd.N_elder' (by (with_reducible repeat (first | apply Kd.N_alloc | apply Kd.N_drewN | apply Kd.N_drew)); exact HO640.out) (Kd.R_base ho0) hb); have n6_ := Aside0.mk (Kd.R_lower (Kd.R_new' ho0 (Kd.R_lt (by (with_reducible repeat (first | apply rA | apply rN | apply rD)); exact HO_3.out))) (below_size (by repeat (first | (with_reducible first | exact HB.out | apply cA | apply cN | apply cD) | exact HB.out)))); have n7_ := Aside0.mk (below_step (by repeat (first | (with_reducible first | exact HB.out | apply cA | apply cN | apply cD) | exact HB.out)) hb); clear HO_3; clear HO_4; clear HO626; clear HO631; clear HO635; clear HO640; clear HB; have HO_3 := n0_; have HO_4 := n1_; have HO626 := n2_; have HO631 := n3_; have HO635 := n4_; have HO640 := n5_; have HO643 := n6_; have HB := n7_; clear n0_ n1_ n2_ n3_ n4_ n5_ n6_ n7_; (try clear hb); (try clear hb2); (try clear hk); (try clear hi); (try clear ho0); obtain ⟨Ao120, co120, eo120⟩ := Kd.R_slice HO643.out; subst eo120) | ((with_reducible refine gate_callee (f := 26) rfl ?_); refine goesL_ (some 108) rfl rfl Try.func26 (by kernel_rfl) rfl #[.slice Ao120 t641.length co120, .slice Ao11 t605.length co11] rfl (by (try simp only [mA, mC, mN]); first | done | rfl | (simp only [lD, lT]; rfl)) ?_; (with_reducible refine (laws_sameRows.calls k1 _ _ t641 _ _ t605 true _ ?side1 ?side2 ?side3 ?side4 A56.out).mono ?_); (case side1 => repeat (first | exact (Kd.R_reads' HO643.out).2.2 | (with_reducible refine Kd.C_alloc ?_ _) | (with_reducible refine Kd.C_drewN ?_ _) | (with_reducible refine Kd.C_drew ?_))); (case side2 => exact (Kd.R_reads' HO643.out).2.1); (case side3 => repeat (first | exact (Kd.R_reads' HO_3.out).2.2 | (with_reducible refine Kd.C_alloc ?_ _) | (with_reducible refine Kd.C_drewN ?_ _) | (with_reducible refine Kd.C_drew ?_))); (case side4 => exact (Kd.R_reads' HO_3.out).2.1); rintro e w' ⟨rfl, ⟨nd, rfl⟩⟩; refine ⟨_, rfl, ?_⟩; obtain ⟨Ao121, co121, eo121⟩ := Kd.N_slice HO626.out; subst eo121) | (go_at_call 25; (with_reducible refine (impl_FormatPages.calls k1 _ _ t624 t645 _ ?side1 ?side2 A58.out).mono ?_); (case side1 => repeat (first | exact (Kd.N_reads' HO626.out).2.2 | (with_reducible refine Kd.C_alloc ?_ _) | (with_reducible refine Kd.C_drewN ?_ _) | (with_reducible refine Kd.C_drew ?_))); (case side2 => exact (Kd.N_reads' HO626.out).2.1); rintro e w122 ⟨rfl, hb⟩; have n0_ := Aside0.mk (Kd.R_below (by (with_reducible repeat (first | apply rA | apply rN | apply rD)); exact HO_3.out) hb); have n1_ := Aside0.mk (Kd.N_below (by (with_reducible repeat (first | apply Kd.N_alloc | apply Kd.N_drewN | apply Kd.N_drew)); exact HO_4.out) hb); have n2_ := Aside0.mk (Kd.N_below (by (with_reducible repeat (first | apply Kd.N_alloc | apply Kd.N_drewN | apply Kd.N_drew)); exact HO626.out) hb); have n3_ := Aside0.mk (Kd.N_below (by (with_reducible repeat (first | apply Kd.N_alloc | apply Kd.N_drewN | apply Kd.N_drew)); exact HO631.out) hb); have n4_ := Aside0.mk (Kd.N_below (by (with_reducible repeat (first | apply Kd.N_alloc | apply Kd.N_drewN | apply Kd.N_drew)); exact HO635.out) hb); have n5_ := Aside0.mk (Kd.N_below (by (with_reducible repeat (first | apply Kd.N_alloc | apply Kd.N_drewN | apply Kd.N_drew)); exact HO640.out) hb); have n6_ := Aside0.mk (Kd.R_below (by (with_reducible repeat (first | apply rA | apply rN | apply rD)); exact HO643.out) hb); have n7_ := Aside0.mk (below_step (by repeat (first | (with_reducible first | exact HB.out | apply cA | apply cN | apply cD) | exact HB.out)) hb); clear HO_3; clear HO_4; clear HO626; clear HO631; clear HO635; clear HO640; clear HO643; clear HB; have HO_3 := n0_; have HO_4 := n1_; have HO626 := n2_; have HO631 := n3_; have HO635 := n4_; have HO640 := n5_; have HO643 := n6_; have HB := n7_; clear n0_ n1_ n2_ n3_ n4_ n5_ n6_ n7_; (try clear hb); (try clear hb2); (try clear hk); (try clear hi)) | (go_at_call 28; (with_reducible refine (spec_FormatPages.calls k1 _ _ t624 t646 _ ?side1 ?side2 A59.out).mono ?_); (case side1 => repeat (first | exact (Kd.N_reads' HO626.out).2.2 | (with_reducible refine Kd.C_alloc ?_ _) | (with_reducible refine Kd.C_drewN ?_ _) | (with_reducible refine Kd.C_drew ?_))); (case side2 => exact (Kd.N_reads' HO626.out).2.1); rintro e w123 ⟨rfl, hb⟩; have n0_ := Aside0.mk (Kd.R_below (by (with_reducible repeat (first | apply rA | apply rN | apply rD)); exact HO_3.out) hb); have n1_ := Aside0.mk (Kd.N_below (by (with_reducible repeat (first | apply Kd.N_alloc | apply Kd.N_drewN | apply Kd.N_drew)); exact HO_4.out) hb); have n2_ := Aside0.mk (Kd.N_below (by (with_reducible repeat (first | apply Kd.N_alloc | apply Kd.N_drewN | apply Kd.N_drew)); exact HO626.out) hb); have n3_ := Aside0.mk (Kd.N_below (by (with_reducible repeat (first | apply Kd.N_alloc | apply Kd.N_drewN | apply Kd.N_drew)); exact HO631.out) hb); have n4_ := Aside0.mk (Kd.N_below (by (with_reducible repeat (first | apply Kd.N_alloc | apply Kd.N_drewN | apply Kd.N_drew)); exact HO635.out) hb); have n5_ := Aside0.mk (Kd.N_below (by (with_reducible repeat (first | apply Kd.N_alloc | apply Kd.N_drewN | apply Kd.N_drew)); exact HO640.out) hb); have n6_ := Aside0.mk (Kd.R_below (by (with_reducible repeat (first | apply rA | apply rN | apply rD)); exact HO643.out) hb); have n7_ := Aside0.mk (below_step (by repeat (first | (with_reducible first | exact HB.out | apply cA | apply cN | apply cD) | exact HB.out)) hb); clear HO_3; clear HO_4; clear HO626; clear HO631; clear HO635; clear HO640; clear HO643; clear HB; have HO_3 := n0_; have HO_4 := n1_; have HO626 := n2_; have HO631 := n3_; have HO635 := n4_; have HO640 := n5_; have HO643 := n6_; have HB := n7_; clear n0_ n1_ n2_ n3_ n4_ n5_ n6_ n7_; (try clear hb); (try clear hb2); (try clear hk); (try clear hi); obtain ⟨Ao124, co124, eo124⟩ := Kd.N_slice HO640.out; subst eo124) | (go_at_call 27; (with_reducible refine (impl_UnpackPages.calls k1 _ _ t637 t652 _ ?side1 ?side2 A111.out).mono ?_); (case side1 => repeat (first | exact (Kd.N_reads' HO640.out).2.2 | (with_reducible refine Kd.C_alloc ?_ _) | (with_reducible refine Kd.C_drewN ?_ _) | (with_reducible refine Kd.C_drew ?_))); (case side2 => exact (Kd.N_reads' HO640.out).2.1); rintro e w125 ⟨v653, rfl, ho0, hb⟩; have n0_ := Aside0.mk (Kd.R_elder' (by (with_reducible repeat (first | apply rA | apply rN | apply rD)); exact HO_3.out) (Kd.R_base ho0) hb); have n1_ := Aside0.mk (Kd.N_elder' (by (with_reducible repeat (first | apply Kd.N_alloc | apply Kd.N_drewN | apply Kd.N_drew)); exact HO_4.out) (Kd.R_base ho0) hb); have n2_ := Aside0.mk (Kd.N_elder' (by (with_reducible repeat (first | apply Kd.N_alloc | apply Kd.N_drewN | apply Kd.N_drew)); exact HO626.out) (Kd.R_base ho0) hb); have n3_ := Aside0.mk (Kd.N_elder' (by (with_reducible repeat (first | apply Kd.N_alloc | apply Kd.N_drewN | apply Kd.N_drew)); exact HO631.out) (Kd.R_base ho0) hb); have n4_ := Aside0.mk (Kd.N_elder' (by (with_reducible repeat (first | apply Kd.N_alloc | apply Kd.N_drewN | apply Kd.N_drew)); exact HO635.out) (Kd.R_base ho0) hb); have n5_ := Aside0.mk (Kd.N_elder' (by (with_reducible repeat (first | apply Kd.N_alloc | apply Kd.N_drewN | apply Kd.N_drew)); exact HO640.out) (Kd.R_base ho0) hb); have n6_ := Aside0.mk (Kd.R_elder' (by (with_reducible repeat (first | apply rA | apply rN | apply rD)); exact HO643.out) (Kd.R_base ho0) hb); have n7_ := Aside0.mk (Kd.R_lower (Kd.R_new' (Kd.R_new' ho0 (Kd.R_lt (by (with_reducible repeat (first | apply rA | apply rN | apply rD)); exact HO_3.out))) (Kd.R_lt (by (with_reducible repeat (first | apply rA | apply rN | apply rD)); exact HO643.out))) (below_size (by repeat (first | (with_reducible first | exact HB.out | apply cA | apply cN | apply cD) | exact HB.out)))); have n8_ := Aside0.mk (below_step (by repeat (first | (with_reducible first | exact HB.out | apply cA | apply cN | apply cD) | exact HB.out)) hb); clear HO_3; clear HO_4; clear HO626; clear HO631; clear HO635; clear HO640; clear HO643; clear HB; have HO_3 := n0_; have HO_4 := n1_; have HO626 := n2_; have HO631 := n3_; have HO635 := n4_; have HO640 := n5_; have HO643 := n6_; have HO654 := n7_; have HB := n8_; clear n0_ n1_ n2_ n3_ n4_ n5_ n6_ n7_ n8_; (try clear hb); (try clear hb2); (try clear hk); (try clear hi); (try clear ho0); obtain ⟨Ao126, co126, eo126⟩ := Kd.R_slice HO654.out; subst eo126) | (go_at_call 26; (with_reducible refine (laws_sameRows.calls k1 _ _ t652 _ _ t605 t655 _ ?side1 ?side2 ?side3 ?side4 A112.out).mono ?_); (case side1 => repeat (first | exact (Kd.R_reads' HO654.out).2.2 | (with_reducible refine Kd.C_alloc ?_ _) | (with_reducible refine Kd.C_drewN ?_ _) | (with_reducible refine Kd.C_drew ?_))); (case side2 => exact (Kd.R_reads' HO654.out).2.1); (case side3 => repeat (first | exact (Kd.R_reads' HO_3.out).2.2 | (with_reducible refine Kd.C_alloc ?_ _) | (with_reducible refine Kd.C_drewN ?_ _) | (with_reducible refine Kd.C_drew ?_))); (case side4 => exact (Kd.R_reads' HO_3.out).2.1); rintro e w' ⟨rfl, ⟨nd, rfl⟩⟩))
            go_ret
            exact ⟨by first | rfl | (simp [errW_none, errW_some] <;> rfl) | (simp [*, errW_none, errW_some] <;> rfl), by repeat (first | (with_reducible first | exact HB.out | apply cA | apply cN | apply cD) | exact HB.out)⟩
           ·replace c110 := Bool.eq_false_iff.mpr c110
            subst c110
            have H1 : (some false) = some r := by rw [if_neg (show ¬ (false = true) by decide)] at H; exact H
            rw [hr] at H1
            exact absurd H1 (by simp)
         ·rw [if_neg c61] at H
          rw [hr] at H
          exact absurd H (by simp)
        ·rw [if_neg c60] at H
         rw [hr] at H
         exact absurd H (by simp)
       ·replace c57 := Bool.eq_false_iff.mpr c57
        subst c57
        have H1 : (some false) = some r := by rw [if_neg (show ¬ (false = true) by decide)] at H; exact H
        rw [hr] at H1
        exact absurd H1 (by simp)
   ·replace c9 := Bool.eq_false_iff.mpr c9
    subst c9
    have H1 : (some ((t608.length : Int) == 0)) = some r := by rw [if_neg (show ¬ (false = true) by decide)] at H; exact H
    clear H
    have H := H1
    clear H1
    obtain rfl := Option.some.inj H
    go_enter Try.func4, Try.ntmps4
    go_wp2_with (first | ((with_reducible refine gate_callee (f := 15) rfl ?_); refine goesL_ (some 15) rfl rfl Try.func15 (by kernel_rfl) rfl #[.slice A0 l0.length c0] rfl (by (try simp only [mA, mC, mN]); first | done | rfl | (simp only [lD, lT]; rfl)) ?_; (with_reducible refine (laws_big.calls _ _ l0 false _ ?side1 ?side2 A2.out).mono ?_); (case side1 => repeat (first | exact HR0.out | (with_reducible refine Kd.C_alloc ?_ _) | (with_reducible refine Kd.C_drewN ?_ _) | (with_reducible refine Kd.C_drew ?_))); (case side2 => exact HC0.out); rintro e w' ⟨rfl, ⟨nd, rfl⟩⟩; refine ⟨_, rfl, ?_⟩) | ((with_reducible refine gate_callee (f := 16) rfl ?_); refine goesL_ (some 17) rfl rfl Try.func16 (by kernel_rfl) rfl #[.slice A0 l0.length c0] rfl (by (try simp only [mA, mC, mN]); first | done | rfl | (simp only [lD, lT]; rfl)) ?_; (with_reducible refine (spec_DrawPackPages.calls k _ _ l0 t605 _ ?side1 ?side2 A4.out).mono ?_); (case side1 => repeat (first | exact HR0.out | (with_reducible refine Kd.C_alloc ?_ _) | (with_reducible refine Kd.C_drewN ?_ _) | (with_reducible refine Kd.C_drew ?_))); (case side2 => exact HC0.out); rintro e w168 ⟨v606, rfl, ho0, hb⟩; refine ⟨_, rfl, ?_⟩; have n0_ := Aside0.mk (Kd.R_lower ho0 (below_size (by repeat (first | (with_reducible first | exact HB.out | apply cA | apply cN | apply cD) | exact HB.out)))); have n1_ := Aside0.mk (below_step (by repeat (first | (with_reducible first | exact HB.out | apply cA | apply cN | apply cD) | exact HB.out)) hb); clear HB; have HO607 := n0_; have HB := n1_; clear n0_ n1_; (try clear hb); (try clear hb2); (try clear hk); (try clear hi); (try clear ho0); obtain ⟨Ao169, co169, eo169⟩ := Kd.R_slice HO607.out; subst eo169) | ((with_reducible refine gate_callee (f := 9) rfl ?_); refine goesL_ (some 19) rfl rfl Try.func9 (by kernel_rfl) rfl #[.slice Ao169 t605.length co169] rfl (by (try simp only [mA, mC, mN]); first | done | rfl | (simp only [lD, lT]; rfl)) ?_; (with_reducible refine (impl_PackPages.calls k _ _ t605 t608 _ ?side1 ?side2 A5.out).mono ?_); (case side1 => repeat (first | exact (Kd.R_reads' HO607.out).2.2 | (with_reducible refine Kd.C_alloc ?_ _) | (with_reducible refine Kd.C_drewN ?_ _) | (with_reducible refine Kd.C_drew ?_))); (case side2 => exact (Kd.R_reads' HO607.out).2.1); rintro e w170 ⟨v609, rfl, ho0, hb⟩; refine ⟨_, rfl, ?_⟩; have n0_ := Aside0.mk (Kd.R_below (by (with_reducible repeat (first | apply rA | apply rN | apply rD)); exact HO607.out) hb); have n1_ := Aside0.mk (Kd.N_lower (Kd.N_mono (ok' := fun k_ => some k_ ≠ (.slice Ao169 t605.length co169 : Value).ownBlock) (Kd.S_N (Kd.S_bound ho0)) (fun k_ hk_ => (Kd.fresh' (Kd.R_lt (by (with_reducible repeat (first | apply rA | apply rN | apply rD)); exact HO607.out)) k_ hk_.2.1))) (below_size (by repeat (first | (with_reducible first | exact HB.out | apply cA | apply cN | apply cD) | exact HB.out)))); have n2_ := Aside0.mk (below_step (by repeat (first | (with_reducible first | exact HB.out | apply cA | apply cN | apply cD) | exact HB.out)) hb); clear HO607; clear HB; have HO607 := n0_; have HO610 := n1_; have HB := n2_; clear n0_ n1_ n2_; (try clear hb); (try clear hb2); (try clear hk); (try clear hi); (try clear ho0); obtain ⟨Ao171, co171, eo171⟩ := Kd.N_slice HO610.out; subst eo171) | ((with_reducible refine gate_callee (f := 7) rfl ?_); refine goesL_ (some 23) rfl rfl Try.func7 (by kernel_rfl) rfl #[.slice Ao169 t605.length co169] rfl (by (try simp only [mA, mC, mN]); first | done | rfl | (simp only [lD, lT]; rfl)) ?_; (with_reducible refine (spec_PackPages.calls k _ _ t605 t611 _ ?side1 ?side2 A6.out).mono ?_); (case side1 => repeat (first | exact (Kd.R_reads' HO607.out).2.2 | (with_reducible refine Kd.C_alloc ?_ _) | (with_reducible refine Kd.C_drewN ?_ _) | (with_reducible refine Kd.C_drew ?_))); (case side2 => exact (Kd.R_reads' HO607.out).2.1); rintro e w172 ⟨v612, rfl, ho0, hb⟩; refine ⟨_, rfl, ?_⟩; have n0_ := Aside0.mk (Kd.R_below (by (with_reducible repeat (first | apply rA | apply rN | apply rD)); exact HO607.out) hb); have n1_ := Aside0.mk (Kd.N_elder' (by (with_reducible repeat (first | apply Kd.N_alloc | apply Kd.N_drewN | apply Kd.N_drew)); exact HO610.out) (Kd.S_base ho0) hb); have n2_ := Aside0.mk (Kd.N_lower (Kd.N_mono (ok' := fun k_ => some k_ ≠ (.slice Ao169 t605.length co169 : Value).ownBlock ∧ some k_ ≠ (.slice Ao171 t608.length co171 : Value).ownBlock) (Kd.S_N (Kd.S_bound ho0)) (fun k_ hk_ => ⟨(Kd.fresh' (Kd.R_lt (by (with_reducible repeat (first | apply rA | apply rN | apply rD)); exact HO607.out)) k_ hk_.2.1), (Kd.fresh' (Kd.N_lt (by (with_reducible repeat (first | apply Kd.N_alloc | apply Kd.N_drewN | apply Kd.N_drew)); exact HO610.out)) k_ hk_.2.1)⟩)) (below_size (by repeat (first | (with_reducible first | exact HB.out | apply cA | apply cN | apply cD) | exact HB.out)))); have n3_ := Aside0.mk (below_step (by repeat (first | (with_reducible first | exact HB.out | apply cA | apply cN | apply cD) | exact HB.out)) hb); clear HO607; clear HO610; clear HB; have HO607 := n0_; have HO610 := n1_; have HO613 := n2_; have HB := n3_; clear n0_ n1_ n2_ n3_; (try clear hb); (try clear hb2); (try clear hk); (try clear hi); (try clear ho0); obtain ⟨Ao173, co173, eo173⟩ := Kd.N_slice HO613.out; subst eo173) | ((with_reducible refine gate_callee (f := 17) rfl ?_); refine goesL_ (some 27) rfl rfl Try.func17 (by kernel_rfl) rfl #[.slice Ao169 t605.length co169] rfl (by (try simp only [mA, mC, mN]); first | done | rfl | (simp only [lD, lT]; rfl)) ?_; (with_reducible refine (spec_AreValidRows.calls k _ _ t605 false _ ?side1 ?side2 A8.out).mono ?_); (case side1 => repeat (first | exact (Kd.R_reads' HO607.out).2.2 | (with_reducible refine Kd.C_alloc ?_ _) | (with_reducible refine Kd.C_drewN ?_ _) | (with_reducible refine Kd.C_drew ?_))); (case side2 => exact (Kd.R_reads' HO607.out).2.1); rintro e w174 ⟨rfl, hb⟩; refine ⟨_, rfl, ?_⟩; have n0_ := Aside0.mk (Kd.R_below (by (with_reducible repeat (first | apply rA | apply rN | apply rD)); exact HO607.out) hb); have n1_ := Aside0.mk (Kd.N_below (by (with_reducible repeat (first | apply Kd.N_alloc | apply Kd.N_drewN | apply Kd.N_drew)); exact HO610.out) hb); have n2_ := Aside0.mk (Kd.N_below (by (with_reducible repeat (first | apply Kd.N_alloc | apply Kd.N_drewN | apply Kd.N_drew)); exact HO613.out) hb); have n3_ := Aside0.mk (below_step (by repeat (first | (with_reducible first | exact HB.out | apply cA | apply cN | apply cD) | exact HB.out)) hb); clear HO607; clear HO610; clear HO613; clear HB; have HO607 := n0_; have HO610 := n1_; have HO613 := n2_; have HB := n3_; clear n0_ n1_ n2_ n3_; (try clear hb); (try clear hb2); (try clear hk); (try clear hi)))
    go_ret
    exact ⟨by first | rfl | (simp [errW_none, errW_some] <;> rfl) | (simp [*, errW_none, errW_some] <;> rfl), by repeat (first | (with_reducible first | exact HB.out | apply cA | apply cN | apply cD) | exact HB.out)⟩
  ·rw [if_neg c7] at H
   rw [hr] at H
   exact absurd H (by simp)
def laws_FnPagePacking.Pure : Prop := ∀ (l0 : List Int), l0.length ≤ maxLen → l0.length * 1 ≤ 140737488351232 → (∀ x ∈ l0, (Lit.int .u8 x).wf = true) → ∃ k, laws_FnPagePacking.f k l0 = some true
theorem laws_FnPagePacking.walk (P : laws_FnPagePacking.Pure) (a0 : Option Addr) (len0 cap0 : Nat) (z0 : List Int) (w : World) (w0 : (a0 = none ∧ len0 = 0 ∧ cap0 = 0 ∧ z0 = []) ∨ ∃ x, a0 = some x ∧ len0 ≤ cap0 ∧ cap0 ≤ maxLen ∧ z0.length = cap0 ∧ (∀ i, i < z0.length → w.cell? (x.add i) = some (.int .u8 (z0.getD i 0))) ∧ ∀ n ∈ z0, (Lit.int .u8 n).wf = true) (y0 : len0 * 1 ≤ 140737488351232) :
  Calls Try.prog 4 #[.slice a0 len0 cap0] w fun e w' => e = .returned (.bool true) ∧ Below w.heap.size w w' := by
 obtain ⟨l0, rfl, hr0, hm0, hw0, hc0⟩ := ReadsInt.ofRowC w0
 obtain ⟨k, h⟩ := P l0 hm0 y0 hw0
 refine (laws_FnPagePacking.calls k _ _ l0 true w (Kd.C_of_reads (d := (0 : Int)) (h1 := fun _ => rfl) hr0) hc0 h rfl).mono ?_
 rintro e w' ⟨rfl, hd⟩
 exact ⟨rfl, hd⟩
end Go.Proofs.Ytljpfogplcdcjaa.PFnPagePacking
