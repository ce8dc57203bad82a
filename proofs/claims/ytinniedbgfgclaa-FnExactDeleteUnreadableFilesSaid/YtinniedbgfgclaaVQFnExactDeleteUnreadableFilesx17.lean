/- Out of a copy of the print, with function values told: nothing is claimed here. -/
import Derived.Test.YtinniedbgfgclaaVQFnExactDeleteUnreadableFilesx0
import Derived.Test.YtinniedbgfgclaaVQFnExactDeleteUnreadableFilesx14
import Derived.Test.YtinniedbgfgclaaVQFnExactDeleteUnreadableFilesx15
import Derived.Test.YtinniedbgfgclaaVQFnExactDeleteUnreadableFilesx16
import Derived.Test.YtinniedbgfgclaaVShort
import Derived.Test.YtinniedbgfgclaaVPress
namespace Go.Proofs.Ytinniedbgfgclaa.PFnExactDeleteUnreadableFiles
open Go.RowKit Go.Proofs.YtinniedbgfgclaaW.PrintWords Go.Proofs.YtinniedbgfgclaaW.PrintLast Go.Proofs.YtinniedbgfgclaaW.PrintMore Go.Proofs.Ytinniedbgfgclaa.Short Go.Proofs.Ytinniedbgfgclaa.Press
attribute [local go_sem] max2_int min2_int max_two min_two max_three min_three max_four min_four   -- for this text's walks alone
set_option linter.unusedVariables false
set_option linter.unusedSimpArgs false
def impl_ReadFile.f (k : Nat) (l0_0 : List (S80)) (a0_1 : Int) (a1 : Int) : Option ((List (S95)) × Bool) := (impl_fileAt.f k l0_0 a0_1 a1).bind fun t399 => ((impl_IsValidDisk.f k l0_0 a0_1).bind fun t400 => (if t400 = true then (if t399 < 0 then (some (([] : List (S95)), false)) else (if 0 ≤ t399 then (if t399 < (l0_0.length : Int) then (if ((rd_T80 l0_0 t399).f3 = true) then ((impl_FormatPages.f k ((rd_T80 l0_0 t399).f1)).bind fun t404 => ((impl_ChecksumOf.f k t404).bind fun t405 => (if ((rd_T80 l0_0 t399).f2) = t405 then ((impl_UnpackPages.f k ((rd_T80 l0_0 t399).f1)).bind fun t407 => (some (t407, true))) else (some (([] : List (S95)), false))))) else (some (([] : List (S95)), false))) else (none)) else (none))) else (some (([] : List (S95)), false))))
theorem impl_ReadFile.mono : ∀ a0 a1 a2 k, LeO (impl_ReadFile.f k a0 a1 a2) (impl_ReadFile.f (k + 1) a0 a1 a2) := by
 intro a0 a1 a2 k
 unfold impl_ReadFile.f
 repeat' first
   | (with_reducible exact impl_ChecksumOf.mono _ _)
   | (with_reducible exact impl_FormatPages.mono _ _)
   | (with_reducible exact impl_IsValidDisk.mono _ _ _)
   | (with_reducible exact impl_UnpackPages.mono _ _)
   | (with_reducible exact impl_fileAt.mono _ _ _ _)
   | (with_reducible exact LeO.refl _)
   | (with_reducible exact LeO.none _)
   | (with_reducible refine LeO.ite ?_ ?_)
   | (with_reducible refine LeO.bind ?_ (fun _ => ?_))
def impl_ReadFile.T2 : Bool × List (List Nat × List Nat) := (true, [([], []), ([0], [0]), ([1], [1]), ([2, 1], [2]), ([3], [3]), ([4, 3], [3, 4]), ([3, 5], [3, 5]), ([6, 3], [6]), ([7], [7]), ([8, 7], [7, 8]), ([7], [7]), ([9, 10, 7], [7, 9, 10]), ([11, 7], [7, 11]), ([12, 7], [7, 12]), ([13, 7], [7, 13]), ([7, 14], [7, 14]), ([15, 7], [15]), ([16], [16]), ([17, 16], [16, 17]), ([16], [16]), ([18, 19, 16], [16, 18, 19]), ([20, 16], [16, 20]), ([21, 16], [16, 21]), ([16], [16]), ([23, 16], [16, 23]), ([16], [16]), ([24, 25, 16], [16, 24, 25]), ([26, 16], [16, 26]), ([27, 16], [16, 27]), ([28, 16, 16], [16, 28]), ([29, 29, 16], [16, 29]), ([22, 30, 16], [16, 22, 30]), ([16, 31], [16, 31])])
def impl_ReadFile.B2 : List Nat := [0, 1, 3, 7, 15, 31, 63, 127, 255, 511, 255, 2047, 4095, 8191, 16383, 32767, 65535, 131071, 262143, 131071, 1048575, 2097151, 4194303, 131071, 8519679, 131071, 58851327, 125960191, 260177919, 528613375, 1065484287, 2147483647, 4294967295]
theorem impl_ReadFile.tab2 : rtab .any (opsOf Try.f29 2) = impl_ReadFile.T2 := by kernel_rfl
theorem impl_ReadFile.bits2 : waitsOk impl_ReadFile.T2.2 impl_ReadFile.B2 = true := by kernel_rfl
set_option maxHeartbeats 8000000 in
set_option maxRecDepth 100000 in
theorem impl_ReadFile.calls (k : Nat) (A0_0 : Option Addr) (c0_0 : Nat) (l0_0 : List (S80)) (a0_1 : Int) (a1 : Int) (r1 : List (S95)) (r2 : Bool) (w : World) (hr0_0 : Kd.C k80 w A0_0 l0_0.length l0_0) (hc0_0 : l0_0.length ≤ c0_0) (h : impl_ReadFile.f k l0_0 a0_1 a1 = some (r1, r2)) :
  Calls Try.prog 29 #[.agg #[.slice A0_0 l0_0.length c0_0, .int .i64 a0_1], .int .i64 a1] w fun e w' => ∃ v0_ : Value, e = .returned (.tuple #[v0_, .bool r2]) ∧ Kd.R k95 95 w' w.heap.size (fun _ => True) v0_ r1 ∧ Below w.heap.size w w' := by
 have hu28 := Try.underlying28
 have HR0_0 := kp hr0_0
 have HC0_0 := kp hc0_0
 clear hr0_0 hc0_0
 have HB := kp (Below.refl w.heap.size w)
 have H : ((impl_fileAt.f k l0_0 a0_1 a1).bind fun t399 => ((impl_IsValidDisk.f k l0_0 a0_1).bind fun t400 => (if t400 = true then (if t399 < 0 then (some (([] : List (S95)), false)) else (if 0 ≤ t399 then (if t399 < (l0_0.length : Int) then (if ((rd_T80 l0_0 t399).f3 = true) then ((impl_FormatPages.f k ((rd_T80 l0_0 t399).f1)).bind fun t404 => ((impl_ChecksumOf.f k t404).bind fun t405 => (if ((rd_T80 l0_0 t399).f2) = t405 then ((impl_UnpackPages.f k ((rd_T80 l0_0 t399).f1)).bind fun t407 => (some (t407, true))) else (some (([] : List (S95)), false))))) else (some (([] : List (S95)), false))) else (none)) else (none))) else (some (([] : List (S95)), false))))) = some (r1, r2) := h
 clear h
 replace H := Option.bind_eq_some_iff.mp H
 obtain ⟨t399, A30, H⟩ := H
 replace H : ((impl_IsValidDisk.f k l0_0 a0_1).bind fun t400 => (if t400 = true then (if t399 < 0 then (some (([] : List (S95)), false)) else (if 0 ≤ t399 then (if t399 < (l0_0.length : Int) then (if ((rd_T80 l0_0 t399).f3 = true) then ((impl_FormatPages.f k ((rd_T80 l0_0 t399).f1)).bind fun t404 => ((impl_ChecksumOf.f k t404).bind fun t405 => (if ((rd_T80 l0_0 t399).f2) = t405 then ((impl_UnpackPages.f k ((rd_T80 l0_0 t399).f1)).bind fun t407 => (some (t407, true))) else (some (([] : List (S95)), false))))) else (some (([] : List (S95)), false))) else (none)) else (none))) else (some (([] : List (S95)), false)))) = some (r1, r2) := H
 have A3 := kp A30
 clear A30
 replace H := Option.bind_eq_some_iff.mp H
 obtain ⟨t400, A40, H⟩ := H
 replace H : (if t400 = true then (if t399 < 0 then (some (([] : List (S95)), false)) else (if 0 ≤ t399 then (if t399 < (l0_0.length : Int) then (if ((rd_T80 l0_0 t399).f3 = true) then ((impl_FormatPages.f k ((rd_T80 l0_0 t399).f1)).bind fun t404 => ((impl_ChecksumOf.f k t404).bind fun t405 => (if ((rd_T80 l0_0 t399).f2) = t405 then ((impl_UnpackPages.f k ((rd_T80 l0_0 t399).f1)).bind fun t407 => (some (t407, true))) else (some (([] : List (S95)), false))))) else (some (([] : List (S95)), false))) else (none)) else (none))) else (some (([] : List (S95)), false))) = some (r1, r2) := H
 have A4 := kp A40
 clear A40
 by_cases c5 : t400 = true
 ·subst c5; have H1 : (if t399 < 0 then (some (([] : List (S95)), false)) else (if 0 ≤ t399 then (if t399 < (l0_0.length : Int) then (if ((rd_T80 l0_0 t399).f3 = true) then ((impl_FormatPages.f k ((rd_T80 l0_0 t399).f1)).bind fun t404 => ((impl_ChecksumOf.f k t404).bind fun t405 => (if ((rd_T80 l0_0 t399).f2) = t405 then ((impl_UnpackPages.f k ((rd_T80 l0_0 t399).f1)).bind fun t407 => (some (t407, true))) else (some (([] : List (S95)), false))))) else (some (([] : List (S95)), false))) else (none)) else (none))) = some (r1, r2) := by rw [if_pos rfl] at H; exact H
  clear H; have H := H1; clear H1
  by_cases c6 : t399 < 0
  ·rw [if_pos c6] at H; have c6b0 : decide (t399 < 0) = true := decide_eq_true c6; clear c6; simp only [Option.some.injEq, Prod.mk.injEq] at H; obtain ⟨rfl, rfl⟩ := H
   go_enter Try.func29, Try.ntmps29
   try go_wp2_with (first | ((with_reducible refine gate_dst (N := 2) rfl ?_); refine bx_ 2 #[.slice A0_0 l0_0.length c0_0, .int .i64 a0_1] 28 ?_; intro gb398 hg w7 hbox hb; have n0_ := kp (below_step bb hb); have n1_ := kp (hbox); have n2_ := kp (bs hg); have n3_ := kp (bs hg); clear HB; have HB := n0_; have BK398 := n1_; have GW398 := n2_; have GE398 := n3_; clear n0_ n1_ n2_ n3_; clear hb hbox hg; have hcz8_0 : w7.cell? ⟨gb398, 0, none⟩ = some (.slice A0_0 l0_0.length c0_0) := (blk_cell BK398.out 0).trans rfl; have hcz8_1 : w7.cell? ⟨gb398, 1, none⟩ = some (.int .i64 a0_1) := (blk_cell BK398.out 1).trans rfl; have hfz8_0 := blk_frozen BK398.out 0; have hfz8_1 := blk_frozen BK398.out 1) | ((with_reducible refine gate_callee (f := 65) rfl ?_); refine gl_ 9 Try.func65 #[.agg #[.slice A0_0 l0_0.length c0_0, .int .i64 a0_1], .int .i64 a1] ?_; (with_reducible refine (impl_fileAt.calls k _ _ l0_0 a0_1 a1 t399 _ ?side1 ?side2 A3.out).mono ?_); (case side1 => exact cc HR0_0.out); (case side2 => exact HC0_0.out); rintro e w9 ⟨rfl, hb⟩; refine ⟨_, rfl, ?_⟩; have n0_ := kp (kb BK398.out hb); have n1_ := kp (below_step bb hb); clear BK398; clear HB; have BK398 := n0_; have HB := n1_; clear n0_ n1_; (try clear hb)))
   have n0_ := kp (blk_drew BK398.out); have n1_ := kp (below_drew1 HB.out); clear BK398; clear HB; have BK398 := n0_; have HB := n1_; clear n0_ n1_
   refine start_ (n := 33) (S := fun w' => w'.cell? ⟨gb398, 0, none⟩ = some (.slice A0_0 l0_0.length c0_0) ∧ w'.cell? ⟨gb398, 1, none⟩ = some (.int .i64 a0_1)) (ds := []) #[false, false, false, false, false, false, false, false, false, false, false, false, false, false, false, false, false, false, false, false, false, false, false, false, false, false, false, false, false, false, false, false, false] (by kernel_rfl) rfl rfl ⟨(blk_cell BK398.out 0).trans rfl, (blk_cell BK398.out 1).trans rfl⟩ (fun hHeld => ?_); refine with_tabW impl_ReadFile.tab2 impl_ReadFile.bits2 (fun HT_ HW_ => ?_)
   generalize w9.drew = w10 at BK398 HB hHeld ⊢
   refine tq 0 10 HT_ HW_ hHeld ?_
   refine on_ 1 (some 11) HT_ (fun K hK => ?_); refine gs_ Try.func36 #[.agg #[.slice A0_0 l0_0.length c0_0, .int .i64 a0_1]] ?_; with_reducible refine (impl_IsValidDisk.calls k _ _ l0_0 a0_1 true _ ?side1 ?side2 A4.out).mono ?_
   (case side1 => exact cc HR0_0.out); (case side2 => exact HC0_0.out); rintro e w11 ⟨rfl, hb⟩; refine ⟨_, rfl, ?_⟩; have n0_ := kp (kb BK398.out hb); have n1_ := kp (below_step bb hb); clear BK398; clear HB; have BK398 := n0_; have HB := n1_; clear n0_ n1_; (try clear hb); (try clear hk); refine hK.out _ _ ⟨(blk_cell BK398.out 0).trans rfl, (blk_cell BK398.out 1).trans rfl⟩ (fun hHeld => ?_); clear hK K; refine nm_ (some 11) ?_
   refine pq 2 12 HT_ ?_
   refine pq 3 13 HT_ ?_
   refine pq 4 14 HT_ ?_
   refine pq 5 15 HT_ ?_
   refine pq 6 16 HT_ ?_
   refine pq 7 17 HT_ ?_
   refine uq 8 18 HT_ ?_
   refine uq 9 19 HT_ ?_
   refine uq 10 20 HT_ ?_
   refine uq 11 21 HT_ ?_
   refine uq 12 22 HT_ ?_
   refine uq 13 23 HT_ ?_
   refine uq 14 24 HT_ ?_
   refine pq 15 25 HT_ ?_
   refine pq 16 26 HT_ ?_
   refine uq 17 27 HT_ ?_
   refine uq 18 28 HT_ ?_
   refine uq 19 29 HT_ ?_
   refine uq 20 30 HT_ ?_
   refine uq 21 31 HT_ ?_
   refine uq 22 32 HT_ ?_
   refine uq 23 33 HT_ ?_
   refine uq 24 34 HT_ ?_
   refine uq 25 35 HT_ ?_
   refine uq 26 36 HT_ ?_
   refine uq 27 37 HT_ ?_
   refine uq 28 38 HT_ ?_
   refine uq 29 39 HT_ ?_
   refine uq 30 40 HT_ ?_
   refine uq 31 41 HT_ ?_
   refine pq 32 42 HT_ ?_
   refine done_ (done_of HT_.out (by kernel_rfl)) ?_
   try go_wp2
   go_ret2
   exact ⟨_, er, by first | exact Kd.R_nil _ _ _ _ _ | exact Kd.N_nil _ _ _ _ _ | exact Kd.V_nil _ _ _ _ _ | exact Kd.Q_nil _ _ _ _ _ | exact Kd.S_nil _ _ _ _ _, bb⟩
  ·rw [if_neg c6] at H; have c6b0 : decide (t399 < 0) = false := decide_eq_false c6; clear c6
   by_cases c12 : 0 ≤ t399
   ·rw [if_pos c12] at H; have c12b0 : decide (0 ≤ t399) = true := decide_eq_true c12; clear c12
    by_cases c13 : t399 < (l0_0.length : Int)
    ·rw [if_pos c13] at H; have c13b0 : decide (t399 < (l0_0.length : Int)) = true := decide_eq_true c13; clear c13; obtain ⟨bq14, hbq14⟩ : ∃ b_ : Bool, b_ = ((rd_T80 l0_0 t399).f3) := ⟨_, rfl⟩; replace H : (if (bq14 = true) then ((impl_FormatPages.f k ((rd_T80 l0_0 t399).f1)).bind fun t404 => ((impl_ChecksumOf.f k t404).bind fun t405 => (if ((rd_T80 l0_0 t399).f2) = t405 then ((impl_UnpackPages.f k ((rd_T80 l0_0 t399).f1)).bind fun t407 => (some (t407, true))) else (some (([] : List (S95)), false))))) else (some (([] : List (S95)), false))) = some (r1, r2) := by rw [← hbq14] at H; exact H
     have Nbq14 := kp hbq14; clear hbq14
     by_cases c15 : (bq14 = true)
     ·subst c15; have H1 : ((impl_FormatPages.f k ((rd_T80 l0_0 t399).f1)).bind fun t404 => ((impl_ChecksumOf.f k t404).bind fun t405 => (if ((rd_T80 l0_0 t399).f2) = t405 then ((impl_UnpackPages.f k ((rd_T80 l0_0 t399).f1)).bind fun t407 => (some (t407, true))) else (some (([] : List (S95)), false))))) = some (r1, r2) := by rw [if_pos rfl] at H; exact H
      clear H; have H := H1; clear H1; replace H := Option.bind_eq_some_iff.mp H; obtain ⟨t404, A160, H⟩ := H; replace H : ((impl_ChecksumOf.f k t404).bind fun t405 => (if ((rd_T80 l0_0 t399).f2) = t405 then ((impl_UnpackPages.f k ((rd_T80 l0_0 t399).f1)).bind fun t407 => (some (t407, true))) else (some (([] : List (S95)), false)))) = some (r1, r2) := H; have A16 := kp A160; clear A160; replace H := Option.bind_eq_some_iff.mp H; obtain ⟨t405, A170, H⟩ := H; replace H : (if ((rd_T80 l0_0 t399).f2) = t405 then ((impl_UnpackPages.f k ((rd_T80 l0_0 t399).f1)).bind fun t407 => (some (t407, true))) else (some (([] : List (S95)), false))) = some (r1, r2) := H; have A17 := kp A170; clear A170
      by_cases c18 : ((rd_T80 l0_0 t399).f2) = t405
      ·rw [if_pos c18] at H; have c18b0 : (((rd_T80 l0_0 t399).f2) == t405) = true := beq_iff_eq.mpr c18; have c18b1 : (((rd_T80 l0_0 t399).f2) != t405) = false := bne_eq_false_iff_eq.mpr c18; clear c18; replace H := Option.bind_eq_some_iff.mp H; obtain ⟨t407, A190, H⟩ := H; replace H : (some (t407, true)) = some (r1, r2) := H; have A19 := kp A190; clear A190; simp only [Option.some.injEq, Prod.mk.injEq] at H; obtain ⟨rfl, rfl⟩ := H
       go_enter Try.func29, Try.ntmps29
       try go_wp2_with (first | ((with_reducible refine gate_dst (N := 2) rfl ?_); refine bx_ 2 #[.slice A0_0 l0_0.length c0_0, .int .i64 a0_1] 28 ?_; intro gb398 hg w20 hbox hb; have n0_ := kp (below_step bb hb); have n1_ := kp (hbox); have n2_ := kp (bs hg); have n3_ := kp (bs hg); clear HB; have HB := n0_; have BK398 := n1_; have GW398 := n2_; have GE398 := n3_; clear n0_ n1_ n2_ n3_; clear hb hbox hg; have hcz21_0 : w20.cell? ⟨gb398, 0, none⟩ = some (.slice A0_0 l0_0.length c0_0) := (blk_cell BK398.out 0).trans rfl; have hcz21_1 : w20.cell? ⟨gb398, 1, none⟩ = some (.int .i64 a0_1) := (blk_cell BK398.out 1).trans rfl; have hfz21_0 := blk_frozen BK398.out 0; have hfz21_1 := blk_frozen BK398.out 1) | ((with_reducible refine gate_callee (f := 65) rfl ?_); refine gl_ 9 Try.func65 #[.agg #[.slice A0_0 l0_0.length c0_0, .int .i64 a0_1], .int .i64 a1] ?_; (with_reducible refine (impl_fileAt.calls k _ _ l0_0 a0_1 a1 t399 _ ?side1 ?side2 A3.out).mono ?_); (case side1 => exact cc HR0_0.out); (case side2 => exact HC0_0.out); rintro e w22 ⟨rfl, hb⟩; refine ⟨_, rfl, ?_⟩; have n0_ := kp (kb BK398.out hb); have n1_ := kp (below_step bb hb); clear BK398; clear HB; have BK398 := n0_; have HB := n1_; clear n0_ n1_; (try clear hb)))
       have n0_ := kp (blk_drew BK398.out); have n1_ := kp (below_drew1 HB.out); clear BK398; clear HB; have BK398 := n0_; have HB := n1_; clear n0_ n1_; have p401 : 0 ≤ (t399 : Int) := dt; have q401 : t399 < (l0_0.length : Int) := dt; obtain ⟨ad401, A401_1, c401_1, e401, hx401_0, hx401_1, hx401_2, hx401_3, hl401_1, hi401_1⟩ := at_T80 HR0_0.out t399 p401 q401; have hw401_3 := hx401_3; have hw401_2 := hx401_2; have hw401_1 := hx401_1; have hw401_0 := hx401_0; (try rw [← Nbq14.out] at hx401_3); (try rw [← Nbq14.out] at hw401_3); cases e401; replace hx401_0 := kc HB.out hx401_0; replace hx401_1 := kc HB.out hx401_1; replace hx401_2 := kc HB.out hx401_2; replace hx401_3 := kc HB.out hx401_3; have HR401_1 := kp hi401_1; have HC401_1 := kp hl401_1; clear hi401_1 hl401_1; replace p401 := eq_true p401; replace q401 := eq_true q401; have p402 : 0 ≤ (t399 : Int) := dt; have q402 : t399 < (l0_0.length : Int) := dt; obtain ⟨ad402, A402_1, c402_1, e402, hx402_0, hx402_1, hx402_2, hx402_3, hl402_1, hi402_1⟩ := at_T80 HR0_0.out t399 p402 q402; have hw402_3 := hx402_3; have hw402_2 := hx402_2; have hw402_1 := hx402_1; have hw402_0 := hx402_0; (try rw [← Nbq14.out] at hx402_3); (try rw [← Nbq14.out] at hw402_3); obtain rfl : ad401 = ad402 := (by injection e402); replace hx402_0 := kc HB.out hx402_0; replace hx402_1 := kc HB.out hx402_1; replace hx402_2 := kc HB.out hx402_2; replace hx402_3 := kc HB.out hx402_3; have HR402_1 := kp hi402_1; have HC402_1 := kp hl402_1
       clear hi402_1 hl402_1; replace p402 := eq_true p402; replace q402 := eq_true q402; have ea_ := Option.some.inj (hx401_1.symm.trans hx402_1)
       injection ea_ with ea_ en_ ec_
       subst ea_; subst ec_; clear en_; have p403 : 0 ≤ (t399 : Int) := dt; have q403 : t399 < (l0_0.length : Int) := dt; obtain ⟨ad403, A403_1, c403_1, e403, hx403_0, hx403_1, hx403_2, hx403_3, hl403_1, hi403_1⟩ := at_T80 HR0_0.out t399 p403 q403; have hw403_3 := hx403_3; have hw403_2 := hx403_2; have hw403_1 := hx403_1; have hw403_0 := hx403_0; (try rw [← Nbq14.out] at hx403_3); (try rw [← Nbq14.out] at hw403_3); obtain rfl : ad401 = ad403 := (by injection e403); replace hx403_0 := kc HB.out hx403_0; replace hx403_1 := kc HB.out hx403_1; replace hx403_2 := kc HB.out hx403_2; replace hx403_3 := kc HB.out hx403_3; have HR403_1 := kp hi403_1; have HC403_1 := kp hl403_1; clear hi403_1 hl403_1; replace p403 := eq_true p403; replace q403 := eq_true q403; have ea_ := Option.some.inj (hx401_1.symm.trans hx403_1)
       injection ea_ with ea_ en_ ec_
       subst ea_; subst ec_; clear en_
       refine start_ (n := 33) (S := fun w' => w'.cell? ⟨gb398, 0, none⟩ = some (.slice (some ad401) l0_0.length c0_0) ∧ w'.cell? ⟨gb398, 1, none⟩ = some (.int .i64 a0_1) ∧ w'.cell? (ad401.add ((t399).toNat * 4)) = some (.int .i64 ((rd_T80 l0_0 t399).f0)) ∧ w'.cell? ⟨(ad401.add ((t399).toNat * 4)).block, (ad401.add ((t399).toNat * 4)).off + 1, none⟩ = some (.slice A401_1 ((rd_T80 l0_0 t399).f1).length c401_1) ∧ w'.cell? ⟨(ad401.add ((t399).toNat * 4)).block, (ad401.add ((t399).toNat * 4)).off + 2, none⟩ = some (.int .i64 ((rd_T80 l0_0 t399).f2)) ∧ w'.cell? ⟨(ad401.add ((t399).toNat * 4)).block, (ad401.add ((t399).toNat * 4)).off + 3, none⟩ = some (.bool true) ∧ w'.cell? ⟨(ad401.add ((t399).toNat * 4)).block, (ad401.add ((t399).toNat * 4)).off + 3, none⟩ = some (.bool (true))) (ds := []) #[false, false, false, false, false, false, false, false, false, false, false, false, false, false, false, false, false, false, false, false, false, false, false, false, false, false, false, false, false, false, false, false, false] (by kernel_rfl) rfl rfl ⟨(blk_cell BK398.out 0).trans rfl, (blk_cell BK398.out 1).trans rfl, (kc HB.out hw401_0), (kc HB.out hw401_1), (kc HB.out hw401_2), (kc HB.out hw401_3), (kc HB.out hw402_3)⟩ (fun hHeld => ?_); refine with_tabW impl_ReadFile.tab2 impl_ReadFile.bits2 (fun HT_ HW_ => ?_)
       generalize w22.drew = w23 at BK398 HB HR401_1 HR402_1 HR403_1 hx401_0 hx401_1 hx401_2 hx401_3 hx402_0 hx402_1 hx402_2 hx402_3 hx403_0 hx403_1 hx403_2 hx403_3 hHeld ⊢
       refine tq 0 10 HT_ HW_ hHeld ?_
       refine on_ 1 (some 11) HT_ (fun K hK => ?_); refine gs_ Try.func36 #[.agg #[.slice (some ad401) l0_0.length c0_0, .int .i64 a0_1]] ?_; with_reducible refine (impl_IsValidDisk.calls k _ _ l0_0 a0_1 true _ ?side1 ?side2 A4.out).mono ?_
       (case side1 => exact cc HR0_0.out); (case side2 => exact HC0_0.out); rintro e w24 ⟨rfl, hb⟩; refine ⟨_, rfl, ?_⟩; have n0_ := kp (kb BK398.out hb); have n1_ := kp (below_step bb hb); clear BK398; clear HB; have BK398 := n0_; have HB := n1_; clear n0_ n1_; (try clear hb); (try clear hk); refine hK.out _ _ ⟨(blk_cell BK398.out 0).trans rfl, (blk_cell BK398.out 1).trans rfl, (kc HB.out hw401_0), (kc HB.out hw401_1), (kc HB.out hw401_2), (kc HB.out hw401_3), (kc HB.out hw402_3)⟩ (fun hHeld => ?_); clear hK K; refine nm_ (some 11) ?_
       refine pq 2 12 HT_ ?_
       refine pq 3 13 HT_ ?_
       refine pq 4 14 HT_ ?_
       refine pq 5 15 HT_ ?_
       refine pq 6 16 HT_ ?_
       refine pq 7 17 HT_ ?_
       refine pq 8 18 HT_ ?_
       refine pq 10 20 HT_ ?_
       refine tq 9 19 HT_ HW_ hHeld ?_
       refine pq 11 21 HT_ ?_
       refine pq 12 22 HT_ ?_
       refine tq 13 23 HT_ HW_ hHeld ?_
       refine pq 14 24 HT_ ?_
       refine pq 15 25 HT_ ?_
       refine pq 16 26 HT_ ?_
       refine pq 17 27 HT_ ?_
       refine pq 19 29 HT_ ?_
       refine pq 23 33 HT_ ?_
       refine pq 25 35 HT_ ?_
       refine tq 18 28 HT_ HW_ hHeld ?_
       refine pq 20 30 HT_ ?_
       refine pq 21 31 HT_ ?_
       refine tq 22 32 HT_ HW_ hHeld ?_
       refine tq 24 34 HT_ HW_ hHeld ?_
       refine pq 26 36 HT_ ?_
       refine pq 27 37 HT_ ?_
       refine tq 28 38 HT_ HW_ hHeld ?_
       refine on_ 29 (some 39) HT_ (fun K hK => ?_); refine gs_ Try.func44 #[.slice A401_1 ((rd_T80 l0_0 t399).f1).length c401_1] ?_; with_reducible refine (impl_FormatPages.calls k _ _ ((rd_T80 l0_0 t399).f1) t404 _ ?side1 ?side2 A16.out).mono ?_
       (case side1 => exact cc HR403_1.out); (case side2 => exact HC403_1.out); rintro e w25 ⟨rfl, hb⟩; refine ⟨_, rfl, ?_⟩; have n0_ := kp (kb BK398.out hb); have n1_ := kp (below_step bb hb); clear BK398; clear HB; have BK398 := n0_; have HB := n1_; clear n0_ n1_; (try clear hb); (try clear hk); refine hK.out _ _ ⟨(blk_cell BK398.out 0).trans rfl, (blk_cell BK398.out 1).trans rfl, (kc HB.out hw401_0), (kc HB.out hw401_1), (kc HB.out hw401_2), (kc HB.out hw401_3), (kc HB.out hw402_3)⟩ (fun hHeld => ?_); clear hK K; refine nm_ (some 39) ?_; refine on_ 30 (some 40) HT_ (fun K hK => ?_); refine gs_ Try.func37 #[.string t404] ?_; with_reducible refine (impl_ChecksumOf.calls k t404 t405 _ A17.out).mono ?_
       rintro e w' ⟨rfl, ⟨nd, rfl⟩⟩; refine ⟨_, rfl, ?_⟩; refine hK.out _ _ ⟨(blk_cell BK398.out 0).trans rfl, (blk_cell BK398.out 1).trans rfl, (kc HB.out hw401_0), (kc HB.out hw401_1), (kc HB.out hw401_2), (kc HB.out hw401_3), (kc HB.out hw402_3)⟩ (fun hHeld => ?_); clear hK K; refine nm_ (some 40) ?_
       refine pq 31 41 HT_ ?_
       refine pq 32 42 HT_ ?_
       refine done_ (done_of HT_.out (by kernel_rfl)) ?_; have hcz26_0 : w25.cell? ⟨gb398, 0, none⟩ = some (.slice (some ad401) l0_0.length c0_0) := (blk_cell BK398.out 0).trans rfl; have hcz26_1 : w25.cell? ⟨gb398, 1, none⟩ = some (.int .i64 a0_1) := (blk_cell BK398.out 1).trans rfl; have hfz26_0 := blk_frozen BK398.out 0; have hfz26_1 := blk_frozen BK398.out 1; have p406 : 0 ≤ (t399 : Int) := dt; have q406 : t399 < (l0_0.length : Int) := dt; obtain ⟨ad406, A406_1, c406_1, e406, hx406_0, hx406_1, hx406_2, hx406_3, hl406_1, hi406_1⟩ := at_T80 HR0_0.out t399 p406 q406; (try rw [← Nbq14.out] at hx406_3); (try rw [← Nbq14.out] at hw406_3); obtain rfl : ad401 = ad406 := (by injection e406); (try (have ea_ := Option.some.inj (hx406_1.symm.trans hw401_1); injection ea_ with ea_ en_ ec_; subst ea_; subst ec_; clear en_)); replace hx406_0 := kc HB.out hx406_0; replace hx406_1 := kc HB.out hx406_1; replace hx406_2 := kc HB.out hx406_2; replace hx406_3 := kc HB.out hx406_3; have HR406_1 := kp hi406_1; have HC406_1 := kp hl406_1; clear hi406_1 hl406_1; replace p406 := eq_true p406; replace q406 := eq_true q406
       try go_wp2_with (first | ((with_reducible refine gate_callee (f := 78) rfl ?_); refine gl_ 49 Try.func78 #[.slice A406_1 ((rd_T80 l0_0 t399).f1).length c406_1] ?_; (with_reducible refine (impl_UnpackPages.calls k _ _ ((rd_T80 l0_0 t399).f1) t407 _ ?side1 ?side2 A19.out).mono ?_); (case side1 => repeat (first | exact (Kd.C_below HR406_1.out bb) | (with_reducible refine Kd.C_alloc ?_ _) | (with_reducible refine Kd.C_drewN ?_ _) | (with_reducible refine Kd.C_drew ?_))); (case side2 => exact HC406_1.out); rintro e w27 ⟨v408, rfl, ho0, hb⟩; refine ⟨_, rfl, ?_⟩; have n0_ := kp (Kd.R_lower ho0 (below_size bb)); have n1_ := kp (kb BK398.out hb); have n2_ := kp (below_step bb hb); clear BK398; clear HB; have HO409 := n0_; have BK398 := n1_; have HB := n2_; clear n0_ n1_ n2_; (try clear hb); (try clear ho0)))
       go_ret2
       exact ⟨_, er, by (with_reducible repeat (first | apply rA | apply rN | apply rD)); exact HO409.out, bb⟩
      ·rw [if_neg c18] at H; have c18b0 : (((rd_T80 l0_0 t399).f2) == t405) = false := beq_eq_false_iff_ne.mpr c18; have c18b1 : (((rd_T80 l0_0 t399).f2) != t405) = true := bne_iff_ne.mpr c18; simp only [Option.some.injEq, Prod.mk.injEq] at H; obtain ⟨rfl, rfl⟩ := H
       go_enter Try.func29, Try.ntmps29
       try go_wp2_with (first | ((with_reducible refine gate_dst (N := 2) rfl ?_); refine bx_ 2 #[.slice A0_0 l0_0.length c0_0, .int .i64 a0_1] 28 ?_; intro gb398 hg w28 hbox hb; have n0_ := kp (below_step bb hb); have n1_ := kp (hbox); have n2_ := kp (bs hg); have n3_ := kp (bs hg); clear HB; have HB := n0_; have BK398 := n1_; have GW398 := n2_; have GE398 := n3_; clear n0_ n1_ n2_ n3_; clear hb hbox hg; have hcz29_0 : w28.cell? ⟨gb398, 0, none⟩ = some (.slice A0_0 l0_0.length c0_0) := (blk_cell BK398.out 0).trans rfl; have hcz29_1 : w28.cell? ⟨gb398, 1, none⟩ = some (.int .i64 a0_1) := (blk_cell BK398.out 1).trans rfl; have hfz29_0 := blk_frozen BK398.out 0; have hfz29_1 := blk_frozen BK398.out 1) | ((with_reducible refine gate_callee (f := 65) rfl ?_); refine gl_ 9 Try.func65 #[.agg #[.slice A0_0 l0_0.length c0_0, .int .i64 a0_1], .int .i64 a1] ?_; (with_reducible refine (impl_fileAt.calls k _ _ l0_0 a0_1 a1 t399 _ ?side1 ?side2 A3.out).mono ?_); (case side1 => exact cc HR0_0.out); (case side2 => exact HC0_0.out); rintro e w30 ⟨rfl, hb⟩; refine ⟨_, rfl, ?_⟩; have n0_ := kp (kb BK398.out hb); have n1_ := kp (below_step bb hb); clear BK398; clear HB; have BK398 := n0_; have HB := n1_; clear n0_ n1_; (try clear hb)))
       have n0_ := kp (blk_drew BK398.out); have n1_ := kp (below_drew1 HB.out); clear BK398; clear HB; have BK398 := n0_; have HB := n1_; clear n0_ n1_; have p401 : 0 ≤ (t399 : Int) := dt; have q401 : t399 < (l0_0.length : Int) := dt; obtain ⟨ad401, A401_1, c401_1, e401, hx401_0, hx401_1, hx401_2, hx401_3, hl401_1, hi401_1⟩ := at_T80 HR0_0.out t399 p401 q401; have hw401_3 := hx401_3; have hw401_2 := hx401_2; have hw401_1 := hx401_1; have hw401_0 := hx401_0; (try rw [← Nbq14.out] at hx401_3); (try rw [← Nbq14.out] at hw401_3); cases e401; replace hx401_0 := kc HB.out hx401_0; replace hx401_1 := kc HB.out hx401_1; replace hx401_2 := kc HB.out hx401_2; replace hx401_3 := kc HB.out hx401_3; have HR401_1 := kp hi401_1; have HC401_1 := kp hl401_1; clear hi401_1 hl401_1; replace p401 := eq_true p401; replace q401 := eq_true q401; have p402 : 0 ≤ (t399 : Int) := dt; have q402 : t399 < (l0_0.length : Int) := dt; obtain ⟨ad402, A402_1, c402_1, e402, hx402_0, hx402_1, hx402_2, hx402_3, hl402_1, hi402_1⟩ := at_T80 HR0_0.out t399 p402 q402; have hw402_3 := hx402_3; have hw402_2 := hx402_2; have hw402_1 := hx402_1; have hw402_0 := hx402_0; (try rw [← Nbq14.out] at hx402_3); (try rw [← Nbq14.out] at hw402_3); obtain rfl : ad401 = ad402 := (by injection e402); replace hx402_0 := kc HB.out hx402_0; replace hx402_1 := kc HB.out hx402_1; replace hx402_2 := kc HB.out hx402_2; replace hx402_3 := kc HB.out hx402_3; have HR402_1 := kp hi402_1; have HC402_1 := kp hl402_1
       clear hi402_1 hl402_1; replace p402 := eq_true p402; replace q402 := eq_true q402; have ea_ := Option.some.inj (hx401_1.symm.trans hx402_1)
       injection ea_ with ea_ en_ ec_
       subst ea_; subst ec_; clear en_; have p403 : 0 ≤ (t399 : Int) := dt; have q403 : t399 < (l0_0.length : Int) := dt; obtain ⟨ad403, A403_1, c403_1, e403, hx403_0, hx403_1, hx403_2, hx403_3, hl403_1, hi403_1⟩ := at_T80 HR0_0.out t399 p403 q403; have hw403_3 := hx403_3; have hw403_2 := hx403_2; have hw403_1 := hx403_1; have hw403_0 := hx403_0; (try rw [← Nbq14.out] at hx403_3); (try rw [← Nbq14.out] at hw403_3); obtain rfl : ad401 = ad403 := (by injection e403); replace hx403_0 := kc HB.out hx403_0; replace hx403_1 := kc HB.out hx403_1; replace hx403_2 := kc HB.out hx403_2; replace hx403_3 := kc HB.out hx403_3; have HR403_1 := kp hi403_1; have HC403_1 := kp hl403_1; clear hi403_1 hl403_1; replace p403 := eq_true p403; replace q403 := eq_true q403; have ea_ := Option.some.inj (hx401_1.symm.trans hx403_1)
       injection ea_ with ea_ en_ ec_
       subst ea_; subst ec_; clear en_
       refine start_ (n := 33) (S := fun w' => w'.cell? ⟨gb398, 0, none⟩ = some (.slice (some ad401) l0_0.length c0_0) ∧ w'.cell? ⟨gb398, 1, none⟩ = some (.int .i64 a0_1) ∧ w'.cell? (ad401.add ((t399).toNat * 4)) = some (.int .i64 ((rd_T80 l0_0 t399).f0)) ∧ w'.cell? ⟨(ad401.add ((t399).toNat * 4)).block, (ad401.add ((t399).toNat * 4)).off + 1, none⟩ = some (.slice A401_1 ((rd_T80 l0_0 t399).f1).length c401_1) ∧ w'.cell? ⟨(ad401.add ((t399).toNat * 4)).block, (ad401.add ((t399).toNat * 4)).off + 2, none⟩ = some (.int .i64 ((rd_T80 l0_0 t399).f2)) ∧ w'.cell? ⟨(ad401.add ((t399).toNat * 4)).block, (ad401.add ((t399).toNat * 4)).off + 3, none⟩ = some (.bool true) ∧ w'.cell? ⟨(ad401.add ((t399).toNat * 4)).block, (ad401.add ((t399).toNat * 4)).off + 3, none⟩ = some (.bool (true))) (ds := []) #[false, false, false, false, false, false, false, false, false, false, false, false, false, false, false, false, false, false, false, false, false, false, false, false, false, false, false, false, false, false, false, false, false] (by kernel_rfl) rfl rfl ⟨(blk_cell BK398.out 0).trans rfl, (blk_cell BK398.out 1).trans rfl, (kc HB.out hw401_0), (kc HB.out hw401_1), (kc HB.out hw401_2), (kc HB.out hw401_3), (kc HB.out hw402_3)⟩ (fun hHeld => ?_); refine with_tabW impl_ReadFile.tab2 impl_ReadFile.bits2 (fun HT_ HW_ => ?_)
       generalize w30.drew = w31 at BK398 HB HR401_1 HR402_1 HR403_1 hx401_0 hx401_1 hx401_2 hx401_3 hx402_0 hx402_1 hx402_2 hx402_3 hx403_0 hx403_1 hx403_2 hx403_3 hHeld ⊢
       refine tq 0 10 HT_ HW_ hHeld ?_
       refine on_ 1 (some 11) HT_ (fun K hK => ?_); refine gs_ Try.func36 #[.agg #[.slice (some ad401) l0_0.length c0_0, .int .i64 a0_1]] ?_; with_reducible refine (impl_IsValidDisk.calls k _ _ l0_0 a0_1 true _ ?side1 ?side2 A4.out).mono ?_
       (case side1 => exact cc HR0_0.out); (case side2 => exact HC0_0.out); rintro e w32 ⟨rfl, hb⟩; refine ⟨_, rfl, ?_⟩; have n0_ := kp (kb BK398.out hb); have n1_ := kp (below_step bb hb); clear BK398; clear HB; have BK398 := n0_; have HB := n1_; clear n0_ n1_; (try clear hb); (try clear hk); refine hK.out _ _ ⟨(blk_cell BK398.out 0).trans rfl, (blk_cell BK398.out 1).trans rfl, (kc HB.out hw401_0), (kc HB.out hw401_1), (kc HB.out hw401_2), (kc HB.out hw401_3), (kc HB.out hw402_3)⟩ (fun hHeld => ?_); clear hK K; refine nm_ (some 11) ?_
       refine pq 2 12 HT_ ?_
       refine pq 3 13 HT_ ?_
       refine pq 4 14 HT_ ?_
       refine pq 5 15 HT_ ?_
       refine pq 6 16 HT_ ?_
       refine pq 7 17 HT_ ?_
       refine pq 8 18 HT_ ?_
       refine pq 10 20 HT_ ?_
       refine tq 9 19 HT_ HW_ hHeld ?_
       refine pq 11 21 HT_ ?_
       refine pq 12 22 HT_ ?_
       refine tq 13 23 HT_ HW_ hHeld ?_
       refine pq 14 24 HT_ ?_
       refine pq 15 25 HT_ ?_
       refine pq 16 26 HT_ ?_
       refine pq 17 27 HT_ ?_
       refine pq 19 29 HT_ ?_
       refine pq 23 33 HT_ ?_
       refine pq 25 35 HT_ ?_
       refine tq 18 28 HT_ HW_ hHeld ?_
       refine pq 20 30 HT_ ?_
       refine pq 21 31 HT_ ?_
       refine tq 22 32 HT_ HW_ hHeld ?_
       refine tq 24 34 HT_ HW_ hHeld ?_
       refine pq 26 36 HT_ ?_
       refine pq 27 37 HT_ ?_
       refine tq 28 38 HT_ HW_ hHeld ?_
       refine on_ 29 (some 39) HT_ (fun K hK => ?_); refine gs_ Try.func44 #[.slice A401_1 ((rd_T80 l0_0 t399).f1).length c401_1] ?_; with_reducible refine (impl_FormatPages.calls k _ _ ((rd_T80 l0_0 t399).f1) t404 _ ?side1 ?side2 A16.out).mono ?_
       (case side1 => exact cc HR403_1.out); (case side2 => exact HC403_1.out); rintro e w33 ⟨rfl, hb⟩; refine ⟨_, rfl, ?_⟩; have n0_ := kp (kb BK398.out hb); have n1_ := kp (below_step bb hb); clear BK398; clear HB; have BK398 := n0_; have HB := n1_; clear n0_ n1_; (try clear hb); (try clear hk); refine hK.out _ _ ⟨(blk_cell BK398.out 0).trans rfl, (blk_cell BK398.out 1).trans rfl, (kc HB.out hw401_0), (kc HB.out hw401_1), (kc HB.out hw401_2), (kc HB.out hw401_3), (kc HB.out hw402_3)⟩ (fun hHeld => ?_); clear hK K; refine nm_ (some 39) ?_; refine on_ 30 (some 40) HT_ (fun K hK => ?_); refine gs_ Try.func37 #[.string t404] ?_; with_reducible refine (impl_ChecksumOf.calls k t404 t405 _ A17.out).mono ?_
       rintro e w' ⟨rfl, ⟨nd, rfl⟩⟩; refine ⟨_, rfl, ?_⟩; refine hK.out _ _ ⟨(blk_cell BK398.out 0).trans rfl, (blk_cell BK398.out 1).trans rfl, (kc HB.out hw401_0), (kc HB.out hw401_1), (kc HB.out hw401_2), (kc HB.out hw401_3), (kc HB.out hw402_3)⟩ (fun hHeld => ?_); clear hK K; refine nm_ (some 40) ?_
       refine pq 31 41 HT_ ?_
       refine pq 32 42 HT_ ?_
       refine done_ (done_of HT_.out (by kernel_rfl)) ?_
       try go_wp2
       go_ret2
       exact ⟨_, er, by first | exact Kd.R_nil _ _ _ _ _ | exact Kd.N_nil _ _ _ _ _ | exact Kd.V_nil _ _ _ _ _ | exact Kd.Q_nil _ _ _ _ _ | exact Kd.S_nil _ _ _ _ _, bb⟩
     ·replace c15 := Bool.eq_false_iff.mpr c15; subst c15; have H1 : (some (([] : List (S95)), false)) = some (r1, r2) := by rw [if_neg (show ¬ (false = true) by decide)] at H; exact H
      clear H; have H := H1; clear H1; simp only [Option.some.injEq, Prod.mk.injEq] at H; obtain ⟨rfl, rfl⟩ := H
      go_enter Try.func29, Try.ntmps29
      try go_wp2_with (first | ((with_reducible refine gate_dst (N := 2) rfl ?_); refine bx_ 2 #[.slice A0_0 l0_0.length c0_0, .int .i64 a0_1] 28 ?_; intro gb398 hg w34 hbox hb; have n0_ := kp (below_step bb hb); have n1_ := kp (hbox); have n2_ := kp (bs hg); have n3_ := kp (bs hg); clear HB; have HB := n0_; have BK398 := n1_; have GW398 := n2_; have GE398 := n3_; clear n0_ n1_ n2_ n3_; clear hb hbox hg; have hcz35_0 : w34.cell? ⟨gb398, 0, none⟩ = some (.slice A0_0 l0_0.length c0_0) := (blk_cell BK398.out 0).trans rfl; have hcz35_1 : w34.cell? ⟨gb398, 1, none⟩ = some (.int .i64 a0_1) := (blk_cell BK398.out 1).trans rfl; have hfz35_0 := blk_frozen BK398.out 0; have hfz35_1 := blk_frozen BK398.out 1) | ((with_reducible refine gate_callee (f := 65) rfl ?_); refine gl_ 9 Try.func65 #[.agg #[.slice A0_0 l0_0.length c0_0, .int .i64 a0_1], .int .i64 a1] ?_; (with_reducible refine (impl_fileAt.calls k _ _ l0_0 a0_1 a1 t399 _ ?side1 ?side2 A3.out).mono ?_); (case side1 => exact cc HR0_0.out); (case side2 => exact HC0_0.out); rintro e w36 ⟨rfl, hb⟩; refine ⟨_, rfl, ?_⟩; have n0_ := kp (kb BK398.out hb); have n1_ := kp (below_step bb hb); clear BK398; clear HB; have BK398 := n0_; have HB := n1_; clear n0_ n1_; (try clear hb)))
      have n0_ := kp (blk_drew BK398.out); have n1_ := kp (below_drew1 HB.out); clear BK398; clear HB; have BK398 := n0_; have HB := n1_; clear n0_ n1_; have p401 : 0 ≤ (t399 : Int) := dt; have q401 : t399 < (l0_0.length : Int) := dt; obtain ⟨ad401, A401_1, c401_1, e401, hx401_0, hx401_1, hx401_2, hx401_3, hl401_1, hi401_1⟩ := at_T80 HR0_0.out t399 p401 q401; have hw401_3 := hx401_3; have hw401_2 := hx401_2; have hw401_1 := hx401_1; have hw401_0 := hx401_0; (try rw [← Nbq14.out] at hx401_3); (try rw [← Nbq14.out] at hw401_3); cases e401; replace hx401_0 := kc HB.out hx401_0; replace hx401_1 := kc HB.out hx401_1; replace hx401_2 := kc HB.out hx401_2; replace hx401_3 := kc HB.out hx401_3; have HR401_1 := kp hi401_1; have HC401_1 := kp hl401_1; clear hi401_1 hl401_1; replace p401 := eq_true p401; replace q401 := eq_true q401
      refine start_ (n := 33) (S := fun w' => w'.cell? ⟨gb398, 0, none⟩ = some (.slice (some ad401) l0_0.length c0_0) ∧ w'.cell? ⟨gb398, 1, none⟩ = some (.int .i64 a0_1) ∧ w'.cell? (ad401.add ((t399).toNat * 4)) = some (.int .i64 ((rd_T80 l0_0 t399).f0)) ∧ w'.cell? ⟨(ad401.add ((t399).toNat * 4)).block, (ad401.add ((t399).toNat * 4)).off + 1, none⟩ = some (.slice A401_1 ((rd_T80 l0_0 t399).f1).length c401_1) ∧ w'.cell? ⟨(ad401.add ((t399).toNat * 4)).block, (ad401.add ((t399).toNat * 4)).off + 2, none⟩ = some (.int .i64 ((rd_T80 l0_0 t399).f2)) ∧ w'.cell? ⟨(ad401.add ((t399).toNat * 4)).block, (ad401.add ((t399).toNat * 4)).off + 3, none⟩ = some (.bool false)) (ds := []) #[false, false, false, false, false, false, false, false, false, false, false, false, false, false, false, false, false, false, false, false, false, false, false, false, false, false, false, false, false, false, false, false, false] (by kernel_rfl) rfl rfl ⟨(blk_cell BK398.out 0).trans rfl, (blk_cell BK398.out 1).trans rfl, (kc HB.out hw401_0), (kc HB.out hw401_1), (kc HB.out hw401_2), (kc HB.out hw401_3)⟩ (fun hHeld => ?_); refine with_tabW impl_ReadFile.tab2 impl_ReadFile.bits2 (fun HT_ HW_ => ?_)
      generalize w36.drew = w37 at BK398 HB HR401_1 hx401_0 hx401_1 hx401_2 hx401_3 hHeld ⊢
      refine tq 0 10 HT_ HW_ hHeld ?_
      refine on_ 1 (some 11) HT_ (fun K hK => ?_); refine gs_ Try.func36 #[.agg #[.slice (some ad401) l0_0.length c0_0, .int .i64 a0_1]] ?_; with_reducible refine (impl_IsValidDisk.calls k _ _ l0_0 a0_1 true _ ?side1 ?side2 A4.out).mono ?_
      (case side1 => exact cc HR0_0.out); (case side2 => exact HC0_0.out); rintro e w38 ⟨rfl, hb⟩; refine ⟨_, rfl, ?_⟩; have n0_ := kp (kb BK398.out hb); have n1_ := kp (below_step bb hb); clear BK398; clear HB; have BK398 := n0_; have HB := n1_; clear n0_ n1_; (try clear hb); (try clear hk); refine hK.out _ _ ⟨(blk_cell BK398.out 0).trans rfl, (blk_cell BK398.out 1).trans rfl, (kc HB.out hw401_0), (kc HB.out hw401_1), (kc HB.out hw401_2), (kc HB.out hw401_3)⟩ (fun hHeld => ?_); clear hK K; refine nm_ (some 11) ?_
      refine pq 2 12 HT_ ?_
      refine pq 3 13 HT_ ?_
      refine pq 4 14 HT_ ?_
      refine pq 5 15 HT_ ?_
      refine pq 6 16 HT_ ?_
      refine pq 7 17 HT_ ?_
      refine pq 8 18 HT_ ?_
      refine pq 10 20 HT_ ?_
      refine tq 9 19 HT_ HW_ hHeld ?_
      refine pq 11 21 HT_ ?_
      refine pq 12 22 HT_ ?_
      refine tq 13 23 HT_ HW_ hHeld ?_
      refine pq 14 24 HT_ ?_
      refine pq 15 25 HT_ ?_
      refine pq 16 26 HT_ ?_
      refine uq 17 27 HT_ ?_
      refine uq 18 28 HT_ ?_
      refine uq 19 29 HT_ ?_
      refine uq 20 30 HT_ ?_
      refine uq 21 31 HT_ ?_
      refine uq 22 32 HT_ ?_
      refine uq 23 33 HT_ ?_
      refine uq 24 34 HT_ ?_
      refine uq 25 35 HT_ ?_
      refine uq 26 36 HT_ ?_
      refine uq 27 37 HT_ ?_
      refine uq 28 38 HT_ ?_
      refine uq 29 39 HT_ ?_
      refine uq 30 40 HT_ ?_
      refine uq 31 41 HT_ ?_
      refine pq 32 42 HT_ ?_
      refine done_ (done_of HT_.out (by kernel_rfl)) ?_
      try go_wp2
      go_ret2
      exact ⟨_, er, by first | exact Kd.R_nil _ _ _ _ _ | exact Kd.N_nil _ _ _ _ _ | exact Kd.V_nil _ _ _ _ _ | exact Kd.Q_nil _ _ _ _ _ | exact Kd.S_nil _ _ _ _ _, bb⟩
    ·rw [if_neg c13] at H; exact absurd H (by simp)
   ·rw [if_neg c12] at H; exact absurd H (by simp)
 ·replace c5 := Bool.eq_false_iff.mpr c5; subst c5; have H1 : (some (([] : List (S95)), false)) = some (r1, r2) := by rw [if_neg (show ¬ (false = true) by decide)] at H; exact H
  clear H; have H := H1; clear H1; simp only [Option.some.injEq, Prod.mk.injEq] at H; obtain ⟨rfl, rfl⟩ := H
  go_enter Try.func29, Try.ntmps29
  try go_wp2_with (first | ((with_reducible refine gate_dst (N := 2) rfl ?_); refine bx_ 2 #[.slice A0_0 l0_0.length c0_0, .int .i64 a0_1] 28 ?_; intro gb398 hg w39 hbox hb; have n0_ := kp (below_step bb hb); have n1_ := kp (hbox); have n2_ := kp (bs hg); have n3_ := kp (bs hg); clear HB; have HB := n0_; have BK398 := n1_; have GW398 := n2_; have GE398 := n3_; clear n0_ n1_ n2_ n3_; clear hb hbox hg; have hcz40_0 : w39.cell? ⟨gb398, 0, none⟩ = some (.slice A0_0 l0_0.length c0_0) := (blk_cell BK398.out 0).trans rfl; have hcz40_1 : w39.cell? ⟨gb398, 1, none⟩ = some (.int .i64 a0_1) := (blk_cell BK398.out 1).trans rfl; have hfz40_0 := blk_frozen BK398.out 0; have hfz40_1 := blk_frozen BK398.out 1) | ((with_reducible refine gate_callee (f := 65) rfl ?_); refine gl_ 9 Try.func65 #[.agg #[.slice A0_0 l0_0.length c0_0, .int .i64 a0_1], .int .i64 a1] ?_; (with_reducible refine (impl_fileAt.calls k _ _ l0_0 a0_1 a1 t399 _ ?side1 ?side2 A3.out).mono ?_); (case side1 => exact cc HR0_0.out); (case side2 => exact HC0_0.out); rintro e w41 ⟨rfl, hb⟩; refine ⟨_, rfl, ?_⟩; have n0_ := kp (kb BK398.out hb); have n1_ := kp (below_step bb hb); clear BK398; clear HB; have BK398 := n0_; have HB := n1_; clear n0_ n1_; (try clear hb)))
  have n0_ := kp (blk_drew BK398.out); have n1_ := kp (below_drew1 HB.out); clear BK398; clear HB; have BK398 := n0_; have HB := n1_; clear n0_ n1_
  refine start_ (n := 33) (S := fun w' => w'.cell? ⟨gb398, 0, none⟩ = some (.slice A0_0 l0_0.length c0_0) ∧ w'.cell? ⟨gb398, 1, none⟩ = some (.int .i64 a0_1)) (ds := []) #[false, false, false, false, false, false, false, false, false, false, false, false, false, false, false, false, false, false, false, false, false, false, false, false, false, false, false, false, false, false, false, false, false] (by kernel_rfl) rfl rfl ⟨(blk_cell BK398.out 0).trans rfl, (blk_cell BK398.out 1).trans rfl⟩ (fun hHeld => ?_); refine with_tabW impl_ReadFile.tab2 impl_ReadFile.bits2 (fun HT_ HW_ => ?_)
  generalize w41.drew = w42 at BK398 HB hHeld ⊢
  refine tq 0 10 HT_ HW_ hHeld ?_
  refine on_ 1 (some 11) HT_ (fun K hK => ?_); refine gs_ Try.func36 #[.agg #[.slice A0_0 l0_0.length c0_0, .int .i64 a0_1]] ?_; with_reducible refine (impl_IsValidDisk.calls k _ _ l0_0 a0_1 false _ ?side1 ?side2 A4.out).mono ?_
  (case side1 => exact cc HR0_0.out); (case side2 => exact HC0_0.out); rintro e w43 ⟨rfl, hb⟩; refine ⟨_, rfl, ?_⟩; have n0_ := kp (kb BK398.out hb); have n1_ := kp (below_step bb hb); clear BK398; clear HB; have BK398 := n0_; have HB := n1_; clear n0_ n1_; (try clear hb); (try clear hk); refine hK.out _ _ ⟨(blk_cell BK398.out 0).trans rfl, (blk_cell BK398.out 1).trans rfl⟩ (fun hHeld => ?_); clear hK K; refine nm_ (some 11) ?_
  refine pq 2 12 HT_ ?_
  refine pq 3 13 HT_ ?_
  refine uq 4 14 HT_ ?_
  refine uq 5 15 HT_ ?_
  refine pq 6 16 HT_ ?_
  refine pq 7 17 HT_ ?_
  refine uq 8 18 HT_ ?_
  refine uq 9 19 HT_ ?_
  refine uq 10 20 HT_ ?_
  refine uq 11 21 HT_ ?_
  refine uq 12 22 HT_ ?_
  refine uq 13 23 HT_ ?_
  refine uq 14 24 HT_ ?_
  refine pq 15 25 HT_ ?_
  refine pq 16 26 HT_ ?_
  refine uq 17 27 HT_ ?_
  refine uq 18 28 HT_ ?_
  refine uq 19 29 HT_ ?_
  refine uq 20 30 HT_ ?_
  refine uq 21 31 HT_ ?_
  refine uq 22 32 HT_ ?_
  refine uq 23 33 HT_ ?_
  refine uq 24 34 HT_ ?_
  refine uq 25 35 HT_ ?_
  refine uq 26 36 HT_ ?_
  refine uq 27 37 HT_ ?_
  refine uq 28 38 HT_ ?_
  refine uq 29 39 HT_ ?_
  refine uq 30 40 HT_ ?_
  refine uq 31 41 HT_ ?_
  refine pq 32 42 HT_ ?_
  refine done_ (done_of HT_.out (by kernel_rfl)) ?_
  try go_wp2
  go_ret2
  exact ⟨_, er, by first | exact Kd.R_nil _ _ _ _ _ | exact Kd.N_nil _ _ _ _ _ | exact Kd.V_nil _ _ _ _ _ | exact Kd.Q_nil _ _ _ _ _ | exact Kd.S_nil _ _ _ _ _, bb⟩
end Go.Proofs.Ytinniedbgfgclaa.PFnExactDeleteUnreadableFiles
