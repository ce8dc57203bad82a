/- Out of a copy of the print, with function values told: nothing is claimed here. -/
import Derived.Test.YtinniedbgfgclaaVQFnExactDeleteUnreadableFilesx0
import Derived.Test.YtinniedbgfgclaaVQFnExactDeleteUnreadableFilesx5
import Derived.Test.YtinniedbgfgclaaVQFnExactDeleteUnreadableFilesx7
import Derived.Test.YtinniedbgfgclaaVQFnExactDeleteUnreadableFilesx8
import Derived.Test.YtinniedbgfgclaaVQFnExactDeleteUnreadableFilesx9
import Derived.Test.YtinniedbgfgclaaVShort
import Derived.Test.YtinniedbgfgclaaVPress
namespace Go.Proofs.Ytinniedbgfgclaa.PFnExactDeleteUnreadableFiles
open Go.RowKit Go.Proofs.YtinniedbgfgclaaW.PrintWords Go.Proofs.YtinniedbgfgclaaW.PrintLast Go.Proofs.YtinniedbgfgclaaW.PrintMore Go.Proofs.Ytinniedbgfgclaa.Short Go.Proofs.Ytinniedbgfgclaa.Press
attribute [local go_sem] max2_int min2_int max_two min_two max_three min_three max_four min_four   -- for this text's walks alone
set_option linter.unusedVariables false
set_option linter.unusedSimpArgs false
def spec_ReadFile.f (k : Nat) (l0_0 : List (S80)) (a0_1 : Int) (a1 : Int) : Option ((List (S95)) × Bool) := (spec_l6At.f k l0_0 a0_1 a1).bind fun t258 => ((spec_IsValidDisk.f k l0_0 a0_1).bind fun t259 => (if t259 = true then (if t258 < 0 then (some ((([] : List (S95))), false)) else (if 0 ≤ t258 then (if t258 < (l0_0.length : Int) then (if ((rd_T80 l0_0 t258).f3 = true) then ((spec_FormatPages.f k ((rd_T80 l0_0 t258).f1)).bind fun t266 => ((spec_ChecksumOf.f k t266).bind fun t267 => (if ((rd_T80 l0_0 t258).f2) = t267 then ((spec_UnpackPages.f k ((rd_T80 l0_0 t258).f1)).bind fun t269 => (some (t269, true))) else (some ((([] : List (S95))), false))))) else (some ((([] : List (S95))), false))) else (none)) else (none))) else (some ((([] : List (S95))), false))))
theorem spec_ReadFile.mono : ∀ a0 a1 a2 k, LeO (spec_ReadFile.f k a0 a1 a2) (spec_ReadFile.f (k + 1) a0 a1 a2) := by
 intro a0 a1 a2 k
 unfold spec_ReadFile.f
 repeat' first
   | (with_reducible exact spec_ChecksumOf.mono _ _)
   | (with_reducible exact spec_FormatPages.mono _ _)
   | (with_reducible exact spec_IsValidDisk.mono _ _ _)
   | (with_reducible exact spec_UnpackPages.mono _ _)
   | (with_reducible exact spec_l6At.mono _ _ _ _)
   | (with_reducible exact LeO.refl _)
   | (with_reducible exact LeO.none _)
   | (with_reducible refine LeO.ite ?_ ?_)
   | (with_reducible refine LeO.bind ?_ (fun _ => ?_))
def spec_ReadFile.T2 : Bool × List (List Nat × List Nat) := (true, [([], []), ([0], [0]), ([1], [1]), ([2, 1], [2]), ([3], [3]), ([4, 3], [3, 4]), ([3, 5], [3, 5]), ([6, 3], [6]), ([7], [7]), ([8, 7], [7, 8]), ([7], [7]), ([9, 10, 7], [7, 9, 10]), ([11, 7], [7, 11]), ([12, 7], [7, 12]), ([13, 7], [7, 13]), ([7, 14], [7, 14]), ([15, 7], [15]), ([16], [16]), ([17, 16], [16, 17]), ([16], [16]), ([18, 19, 16], [16, 18, 19]), ([20, 16], [16, 20]), ([21, 16], [16, 21]), ([16], [16]), ([23, 16], [16, 23]), ([16], [16]), ([24, 25, 16], [16, 24, 25]), ([26, 16], [16, 26]), ([27, 16], [16, 27]), ([28, 16, 16], [16, 28]), ([29, 29, 16], [16, 29]), ([22, 30, 16], [16, 22, 30]), ([16, 31], [16, 31])])
def spec_ReadFile.B2 : List Nat := [0, 1, 3, 7, 15, 31, 63, 127, 255, 511, 255, 2047, 4095, 8191, 16383, 32767, 65535, 131071, 262143, 131071, 1048575, 2097151, 4194303, 131071, 8519679, 131071, 58851327, 125960191, 260177919, 528613375, 1065484287, 2147483647, 4294967295]
theorem spec_ReadFile.tab2 : rtab .any (opsOf Try.f30 2) = spec_ReadFile.T2 := by kernel_rfl
theorem spec_ReadFile.bits2 : waitsOk spec_ReadFile.T2.2 spec_ReadFile.B2 = true := by kernel_rfl
set_option maxHeartbeats 8000000 in
set_option maxRecDepth 100000 in
theorem spec_ReadFile.calls (k : Nat) (A0_0 : Option Addr) (c0_0 : Nat) (l0_0 : List (S80)) (a0_1 : Int) (a1 : Int) (r1 : List (S95)) (r2 : Bool) (w : World) (hr0_0 : Kd.C k80 w A0_0 l0_0.length l0_0) (hc0_0 : l0_0.length ≤ c0_0) (h : spec_ReadFile.f k l0_0 a0_1 a1 = some (r1, r2)) :
  Calls Try.prog 30 #[.agg #[.slice A0_0 l0_0.length c0_0, .int .i64 a0_1], .int .i64 a1] w fun e w' => ∃ v0_ : Value, e = .returned (.tuple #[v0_, .bool r2]) ∧ Kd.R k95 95 w' w.heap.size (fun _ => True) v0_ r1 ∧ Below w.heap.size w w' := by
 have hu28 := Try.underlying28
 have HR0_0 := kp hr0_0
 have HC0_0 := kp hc0_0
 clear hr0_0 hc0_0
 have HB := kp (Below.refl w.heap.size w)
 have H : ((spec_l6At.f k l0_0 a0_1 a1).bind fun t258 => ((spec_IsValidDisk.f k l0_0 a0_1).bind fun t259 => (if t259 = true then (if t258 < 0 then (some ((([] : List (S95))), false)) else (if 0 ≤ t258 then (if t258 < (l0_0.length : Int) then (if ((rd_T80 l0_0 t258).f3 = true) then ((spec_FormatPages.f k ((rd_T80 l0_0 t258).f1)).bind fun t266 => ((spec_ChecksumOf.f k t266).bind fun t267 => (if ((rd_T80 l0_0 t258).f2) = t267 then ((spec_UnpackPages.f k ((rd_T80 l0_0 t258).f1)).bind fun t269 => (some (t269, true))) else (some ((([] : List (S95))), false))))) else (some ((([] : List (S95))), false))) else (none)) else (none))) else (some ((([] : List (S95))), false))))) = some (r1, r2) := h
 clear h
 replace H := Option.bind_eq_some_iff.mp H
 obtain ⟨t258, A30, H⟩ := H
 replace H : ((spec_IsValidDisk.f k l0_0 a0_1).bind fun t259 => (if t259 = true then (if t258 < 0 then (some ((([] : List (S95))), false)) else (if 0 ≤ t258 then (if t258 < (l0_0.length : Int) then (if ((rd_T80 l0_0 t258).f3 = true) then ((spec_FormatPages.f k ((rd_T80 l0_0 t258).f1)).bind fun t266 => ((spec_ChecksumOf.f k t266).bind fun t267 => (if ((rd_T80 l0_0 t258).f2) = t267 then ((spec_UnpackPages.f k ((rd_T80 l0_0 t258).f1)).bind fun t269 => (some (t269, true))) else (some ((([] : List (S95))), false))))) else (some ((([] : List (S95))), false))) else (none)) else (none))) else (some ((([] : List (S95))), false)))) = some (r1, r2) := H
 have A3 := kp A30
 clear A30
 replace H := Option.bind_eq_some_iff.mp H
 obtain ⟨t259, A40, H⟩ := H
 replace H : (if t259 = true then (if t258 < 0 then (some ((([] : List (S95))), false)) else (if 0 ≤ t258 then (if t258 < (l0_0.length : Int) then (if ((rd_T80 l0_0 t258).f3 = true) then ((spec_FormatPages.f k ((rd_T80 l0_0 t258).f1)).bind fun t266 => ((spec_ChecksumOf.f k t266).bind fun t267 => (if ((rd_T80 l0_0 t258).f2) = t267 then ((spec_UnpackPages.f k ((rd_T80 l0_0 t258).f1)).bind fun t269 => (some (t269, true))) else (some ((([] : List (S95))), false))))) else (some ((([] : List (S95))), false))) else (none)) else (none))) else (some ((([] : List (S95))), false))) = some (r1, r2) := H
 have A4 := kp A40
 clear A40
 by_cases c5 : t259 = true
 ·subst c5; have H1 : (if t258 < 0 then (some ((([] : List (S95))), false)) else (if 0 ≤ t258 then (if t258 < (l0_0.length : Int) then (if ((rd_T80 l0_0 t258).f3 = true) then ((spec_FormatPages.f k ((rd_T80 l0_0 t258).f1)).bind fun t266 => ((spec_ChecksumOf.f k t266).bind fun t267 => (if ((rd_T80 l0_0 t258).f2) = t267 then ((spec_UnpackPages.f k ((rd_T80 l0_0 t258).f1)).bind fun t269 => (some (t269, true))) else (some ((([] : List (S95))), false))))) else (some ((([] : List (S95))), false))) else (none)) else (none))) = some (r1, r2) := by rw [if_pos rfl] at H; exact H
  clear H; have H := H1; clear H1
  by_cases c6 : t258 < 0
  ·rw [if_pos c6] at H; have c6b0 : decide (t258 < 0) = true := decide_eq_true c6; clear c6; obtain ⟨y260, hy260⟩ : ∃ y_ : List (S95), y_ = (([] : List (S95))) := ⟨_, rfl⟩; replace H : (some (y260, false)) = some (r1, r2) := by first | (rw [hy260]; with_reducible exact H) | (have H2_ := (Option.bind_some _ _).symm.trans H; rw [hy260]; with_reducible exact H2_) | (have H2_ := (Option.bind_some _ _).symm.trans H; with_reducible exact H2_) | with_reducible exact H | (rw [hy260]; exact H) | exact H
   have Ny260 := kp hy260; clear hy260; simp only [Option.some.injEq, Prod.mk.injEq] at H; obtain ⟨rfl, rfl⟩ := H
   go_enter Try.func30, Try.ntmps30
   try go_wp2_with (first | ((with_reducible refine gate_dst (N := 2) rfl ?_); refine bx_ 2 #[.slice A0_0 l0_0.length c0_0, .int .i64 a0_1] 28 ?_; intro gb257 hg w7 hbox hb; have n0_ := kp (below_step bb hb); have n1_ := kp (hbox); have n2_ := kp (bs hg); have n3_ := kp (bs hg); clear HB; have HB := n0_; have BK257 := n1_; have GW257 := n2_; have GE257 := n3_; clear n0_ n1_ n2_ n3_; clear hb hbox hg; have hcz8_0 : w7.cell? ⟨gb257, 0, none⟩ = some (.slice A0_0 l0_0.length c0_0) := (blk_cell BK257.out 0).trans rfl; have hcz8_1 : w7.cell? ⟨gb257, 1, none⟩ = some (.int .i64 a0_1) := (blk_cell BK257.out 1).trans rfl; have hfz8_0 := blk_frozen BK257.out 0; have hfz8_1 := blk_frozen BK257.out 1) | ((with_reducible refine gate_callee (f := 62) rfl ?_); refine gl_ 9 Try.func62 #[.agg #[.slice A0_0 l0_0.length c0_0, .int .i64 a0_1], .int .i64 a1] ?_; (with_reducible refine (spec_l6At.calls k _ _ l0_0 a0_1 a1 t258 _ ?side1 ?side2 A3.out).mono ?_); (case side1 => exact cc HR0_0.out); (case side2 => exact HC0_0.out); rintro e w9 ⟨rfl, hb⟩; refine ⟨_, rfl, ?_⟩; have n0_ := kp (kb BK257.out hb); have n1_ := kp (below_step bb hb); clear BK257; clear HB; have BK257 := n0_; have HB := n1_; clear n0_ n1_; (try clear hb)))
   have n0_ := kp (blk_drew BK257.out); have n1_ := kp (below_drew1 HB.out); clear BK257; clear HB; have BK257 := n0_; have HB := n1_; clear n0_ n1_
   refine start_ (n := 33) (S := fun w' => w'.cell? ⟨gb257, 0, none⟩ = some (.slice A0_0 l0_0.length c0_0) ∧ w'.cell? ⟨gb257, 1, none⟩ = some (.int .i64 a0_1)) (ds := []) #[false, false, false, false, false, false, false, false, false, false, false, false, false, false, false, false, false, false, false, false, false, false, false, false, false, false, false, false, false, false, false, false, false] (by kernel_rfl) rfl rfl ⟨(blk_cell BK257.out 0).trans rfl, (blk_cell BK257.out 1).trans rfl⟩ (fun hHeld => ?_); refine with_tabW spec_ReadFile.tab2 spec_ReadFile.bits2 (fun HT_ HW_ => ?_)
   generalize w9.drew = w10 at BK257 HB hHeld ⊢
   refine tq 0 10 HT_ HW_ hHeld ?_
   refine on_ 1 (some 11) HT_ (fun K hK => ?_); refine gs_ Try.func46 #[.agg #[.slice A0_0 l0_0.length c0_0, .int .i64 a0_1]] ?_; with_reducible refine (spec_IsValidDisk.calls k _ _ l0_0 a0_1 true _ ?side1 ?side2 A4.out).mono ?_
   (case side1 => exact cc HR0_0.out); (case side2 => exact HC0_0.out); rintro e w11 ⟨rfl, hb⟩; refine ⟨_, rfl, ?_⟩; have n0_ := kp (kb BK257.out hb); have n1_ := kp (below_step bb hb); clear BK257; clear HB; have BK257 := n0_; have HB := n1_; clear n0_ n1_; (try clear hb); (try clear hk); refine hK.out _ _ ⟨(blk_cell BK257.out 0).trans rfl, (blk_cell BK257.out 1).trans rfl⟩ (fun hHeld => ?_); clear hK K; refine nm_ (some 11) ?_
   refine pq 2 12 HT_ ?_
   refine pq 3 13 HT_ ?_
   refine pq 4 14 HT_ ?_
   refine pq 5 15 HT_ ?_
   refine pq 6 16 HT_ ?_
   refine pq 7 17 HT_ ?_
   refine uq 8 18 HT_ ?_
   refine uq 9 19 HT_ ?_
   refine uq 10 20 HT_ ?_
   refine uq 11 21 HT_ ?_
   refine uq 12 22 HT_ ?_
   refine uq 13 23 HT_ ?_
   refine uq 14 24 HT_ ?_
   refine pq 15 25 HT_ ?_
   refine pq 16 26 HT_ ?_
   refine uq 17 27 HT_ ?_
   refine uq 18 28 HT_ ?_
   refine uq 19 29 HT_ ?_
   refine uq 20 30 HT_ ?_
   refine uq 21 31 HT_ ?_
   refine uq 22 32 HT_ ?_
   refine uq 23 33 HT_ ?_
   refine uq 24 34 HT_ ?_
   refine uq 25 35 HT_ ?_
   refine uq 26 36 HT_ ?_
   refine uq 27 37 HT_ ?_
   refine uq 28 38 HT_ ?_
   refine uq 29 39 HT_ ?_
   refine uq 30 40 HT_ ?_
   refine uq 31 41 HT_ ?_
   refine pq 32 42 HT_ ?_
   refine done_ (done_of HT_.out (by kernel_rfl)) ?_
   try go_wp2_with (first | ((with_reducible refine gate_dst (N := 43) rfl ?_); refine Kd.R_lit k95 _ 95 ?hg (N := 43) ?hd (xs := ([] : List (S95))) (inner := []) (ok := fun _ => True) (okp := fun _ => True) ?hr ?hp (fun _ hk => hk) trivial (Below.refl _ _) (Nat.le_refl _) (by simp) ?_; (case hd => rfl); (case hg => rfl); (case hr => first | (go_simp; done) | (go_simp; rfl)); (case hp => exact (Reps.none _ _)); intro v261 w12 ho13 hb hg_ hnew_; clear hg_ hnew_; (first | rw [← Ny260.out] at ho13 | (simp only [Int.reduceToNat] at ho13; rw [← Ny260.out] at ho13)); have n0_ := kp (Kd.R_lower ho13 (below_size bb)); have n1_ := kp (kb BK257.out hb); have n2_ := kp (below_step bb hb); clear BK257; clear HB; have HO262 := n0_; have BK257 := n1_; have HB := n2_; clear n0_ n1_ n2_; clear hb ho13))
   go_ret2
   exact ⟨_, er, by (with_reducible repeat (first | apply rA | apply rN | apply rD)); exact HO262.out, bb⟩
  ·rw [if_neg c6] at H; have c6b0 : decide (t258 < 0) = false := decide_eq_false c6; clear c6
   by_cases c14 : 0 ≤ t258
   ·rw [if_pos c14] at H; have c14b0 : decide (0 ≤ t258) = true := decide_eq_true c14; clear c14
    by_cases c15 : t258 < (l0_0.length : Int)
    ·rw [if_pos c15] at H; have c15b0 : decide (t258 < (l0_0.length : Int)) = true := decide_eq_true c15; clear c15; obtain ⟨bq16, hbq16⟩ : ∃ b_ : Bool, b_ = ((rd_T80 l0_0 t258).f3) := ⟨_, rfl⟩; replace H : (if (bq16 = true) then ((spec_FormatPages.f k ((rd_T80 l0_0 t258).f1)).bind fun t266 => ((spec_ChecksumOf.f k t266).bind fun t267 => (if ((rd_T80 l0_0 t258).f2) = t267 then ((spec_UnpackPages.f k ((rd_T80 l0_0 t258).f1)).bind fun t269 => (some (t269, true))) else (some ((([] : List (S95))), false))))) else (some ((([] : List (S95))), false))) = some (r1, r2) := by rw [← hbq16] at H; exact H
     have Nbq16 := kp hbq16; clear hbq16
     by_cases c17 : (bq16 = true)
     ·subst c17; have H1 : ((spec_FormatPages.f k ((rd_T80 l0_0 t258).f1)).bind fun t266 => ((spec_ChecksumOf.f k t266).bind fun t267 => (if ((rd_T80 l0_0 t258).f2) = t267 then ((spec_UnpackPages.f k ((rd_T80 l0_0 t258).f1)).bind fun t269 => (some (t269, true))) else (some ((([] : List (S95))), false))))) = some (r1, r2) := by rw [if_pos rfl] at H; exact H
      clear H; have H := H1; clear H1; replace H := Option.bind_eq_some_iff.mp H; obtain ⟨t266, A180, H⟩ := H; replace H : ((spec_ChecksumOf.f k t266).bind fun t267 => (if ((rd_T80 l0_0 t258).f2) = t267 then ((spec_UnpackPages.f k ((rd_T80 l0_0 t258).f1)).bind fun t269 => (some (t269, true))) else (some ((([] : List (S95))), false)))) = some (r1, r2) := H; have A18 := kp A180; clear A180; replace H := Option.bind_eq_some_iff.mp H; obtain ⟨t267, A190, H⟩ := H; replace H : (if ((rd_T80 l0_0 t258).f2) = t267 then ((spec_UnpackPages.f k ((rd_T80 l0_0 t258).f1)).bind fun t269 => (some (t269, true))) else (some ((([] : List (S95))), false))) = some (r1, r2) := H; have A19 := kp A190; clear A190
      by_cases c20 : ((rd_T80 l0_0 t258).f2) = t267
      ·rw [if_pos c20] at H; have c20b0 : (((rd_T80 l0_0 t258).f2) == t267) = true := beq_iff_eq.mpr c20; have c20b1 : (((rd_T80 l0_0 t258).f2) != t267) = false := bne_eq_false_iff_eq.mpr c20; clear c20; replace H := Option.bind_eq_some_iff.mp H; obtain ⟨t269, A210, H⟩ := H; replace H : (some (t269, true)) = some (r1, r2) := H; have A21 := kp A210; clear A210; simp only [Option.some.injEq, Prod.mk.injEq] at H; obtain ⟨rfl, rfl⟩ := H
       go_enter Try.func30, Try.ntmps30
       try go_wp2_with (first | ((with_reducible refine gate_dst (N := 2) rfl ?_); refine bx_ 2 #[.slice A0_0 l0_0.length c0_0, .int .i64 a0_1] 28 ?_; intro gb257 hg w22 hbox hb; have n0_ := kp (below_step bb hb); have n1_ := kp (hbox); have n2_ := kp (bs hg); have n3_ := kp (bs hg); clear HB; have HB := n0_; have BK257 := n1_; have GW257 := n2_; have GE257 := n3_; clear n0_ n1_ n2_ n3_; clear hb hbox hg; have hcz23_0 : w22.cell? ⟨gb257, 0, none⟩ = some (.slice A0_0 l0_0.length c0_0) := (blk_cell BK257.out 0).trans rfl; have hcz23_1 : w22.cell? ⟨gb257, 1, none⟩ = some (.int .i64 a0_1) := (blk_cell BK257.out 1).trans rfl; have hfz23_0 := blk_frozen BK257.out 0; have hfz23_1 := blk_frozen BK257.out 1) | ((with_reducible refine gate_callee (f := 62) rfl ?_); refine gl_ 9 Try.func62 #[.agg #[.slice A0_0 l0_0.length c0_0, .int .i64 a0_1], .int .i64 a1] ?_; (with_reducible refine (spec_l6At.calls k _ _ l0_0 a0_1 a1 t258 _ ?side1 ?side2 A3.out).mono ?_); (case side1 => exact cc HR0_0.out); (case side2 => exact HC0_0.out); rintro e w24 ⟨rfl, hb⟩; refine ⟨_, rfl, ?_⟩; have n0_ := kp (kb BK257.out hb); have n1_ := kp (below_step bb hb); clear BK257; clear HB; have BK257 := n0_; have HB := n1_; clear n0_ n1_; (try clear hb)))
       have n0_ := kp (blk_drew BK257.out); have n1_ := kp (below_drew1 HB.out); clear BK257; clear HB; have BK257 := n0_; have HB := n1_; clear n0_ n1_; have p263 : 0 ≤ (t258 : Int) := dt; have q263 : t258 < (l0_0.length : Int) := dt; obtain ⟨ad263, A263_1, c263_1, e263, hx263_0, hx263_1, hx263_2, hx263_3, hl263_1, hi263_1⟩ := at_T80 HR0_0.out t258 p263 q263; have hw263_3 := hx263_3; have hw263_2 := hx263_2; have hw263_1 := hx263_1; have hw263_0 := hx263_0; (try rw [← Nbq16.out] at hx263_3); (try rw [← Nbq16.out] at hw263_3); cases e263; replace hx263_0 := kc HB.out hx263_0; replace hx263_1 := kc HB.out hx263_1; replace hx263_2 := kc HB.out hx263_2; replace hx263_3 := kc HB.out hx263_3; have HR263_1 := kp hi263_1; have HC263_1 := kp hl263_1; clear hi263_1 hl263_1; replace p263 := eq_true p263; replace q263 := eq_true q263; have p264 : 0 ≤ (t258 : Int) := dt; have q264 : t258 < (l0_0.length : Int) := dt; obtain ⟨ad264, A264_1, c264_1, e264, hx264_0, hx264_1, hx264_2, hx264_3, hl264_1, hi264_1⟩ := at_T80 HR0_0.out t258 p264 q264; have hw264_3 := hx264_3; have hw264_2 := hx264_2; have hw264_1 := hx264_1; have hw264_0 := hx264_0; (try rw [← Nbq16.out] at hx264_3); (try rw [← Nbq16.out] at hw264_3); obtain rfl : ad263 = ad264 := (by injection e264); replace hx264_0 := kc HB.out hx264_0; replace hx264_1 := kc HB.out hx264_1; replace hx264_2 := kc HB.out hx264_2; replace hx264_3 := kc HB.out hx264_3; have HR264_1 := kp hi264_1; have HC264_1 := kp hl264_1
       clear hi264_1 hl264_1; replace p264 := eq_true p264; replace q264 := eq_true q264; have ea_ := Option.some.inj (hx263_1.symm.trans hx264_1)
       injection ea_ with ea_ en_ ec_
       subst ea_; subst ec_; clear en_; have p265 : 0 ≤ (t258 : Int) := dt; have q265 : t258 < (l0_0.length : Int) := dt; obtain ⟨ad265, A265_1, c265_1, e265, hx265_0, hx265_1, hx265_2, hx265_3, hl265_1, hi265_1⟩ := at_T80 HR0_0.out t258 p265 q265; have hw265_3 := hx265_3; have hw265_2 := hx265_2; have hw265_1 := hx265_1; have hw265_0 := hx265_0; (try rw [← Nbq16.out] at hx265_3); (try rw [← Nbq16.out] at hw265_3); obtain rfl : ad263 = ad265 := (by injection e265); replace hx265_0 := kc HB.out hx265_0; replace hx265_1 := kc HB.out hx265_1; replace hx265_2 := kc HB.out hx265_2; replace hx265_3 := kc HB.out hx265_3; have HR265_1 := kp hi265_1; have HC265_1 := kp hl265_1; clear hi265_1 hl265_1; replace p265 := eq_true p265; replace q265 := eq_true q265; have ea_ := Option.some.inj (hx263_1.symm.trans hx265_1)
       injection ea_ with ea_ en_ ec_
       subst ea_; subst ec_; clear en_
       refine start_ (n := 33) (S := fun w' => w'.cell? ⟨gb257, 0, none⟩ = some (.slice (some ad263) l0_0.length c0_0) ∧ w'.cell? ⟨gb257, 1, none⟩ = some (.int .i64 a0_1) ∧ w'.cell? (ad263.add ((t258).toNat * 4)) = some (.int .i64 ((rd_T80 l0_0 t258).f0)) ∧ w'.cell? ⟨(ad263.add ((t258).toNat * 4)).block, (ad263.add ((t258).toNat * 4)).off + 1, none⟩ = some (.slice A263_1 ((rd_T80 l0_0 t258).f1).length c263_1) ∧ w'.cell? ⟨(ad263.add ((t258).toNat * 4)).block, (ad263.add ((t258).toNat * 4)).off + 2, none⟩ = some (.int .i64 ((rd_T80 l0_0 t258).f2)) ∧ w'.cell? ⟨(ad263.add ((t258).toNat * 4)).block, (ad263.add ((t258).toNat * 4)).off + 3, none⟩ = some (.bool true) ∧ w'.cell? ⟨(ad263.add ((t258).toNat * 4)).block, (ad263.add ((t258).toNat * 4)).off + 3, none⟩ = some (.bool (true))) (ds := []) #[false, false, false, false, false, false, false, false, false, false, false, false, false, false, false, false, false, false, false, false, false, false, false, false, false, false, false, false, false, false, false, false, false] (by kernel_rfl) rfl rfl ⟨(blk_cell BK257.out 0).trans rfl, (blk_cell BK257.out 1).trans rfl, (kc HB.out hw263_0), (kc HB.out hw263_1), (kc HB.out hw263_2), (kc HB.out hw263_3), (kc HB.out hw264_3)⟩ (fun hHeld => ?_); refine with_tabW spec_ReadFile.tab2 spec_ReadFile.bits2 (fun HT_ HW_ => ?_)
       generalize w24.drew = w25 at BK257 HB HR263_1 HR264_1 HR265_1 hx263_0 hx263_1 hx263_2 hx263_3 hx264_0 hx264_1 hx264_2 hx264_3 hx265_0 hx265_1 hx265_2 hx265_3 hHeld ⊢
       refine tq 0 10 HT_ HW_ hHeld ?_
       refine on_ 1 (some 11) HT_ (fun K hK => ?_); refine gs_ Try.func46 #[.agg #[.slice (some ad263) l0_0.length c0_0, .int .i64 a0_1]] ?_; with_reducible refine (spec_IsValidDisk.calls k _ _ l0_0 a0_1 true _ ?side1 ?side2 A4.out).mono ?_
       (case side1 => exact cc HR0_0.out); (case side2 => exact HC0_0.out); rintro e w26 ⟨rfl, hb⟩; refine ⟨_, rfl, ?_⟩; have n0_ := kp (kb BK257.out hb); have n1_ := kp (below_step bb hb); clear BK257; clear HB; have BK257 := n0_; have HB := n1_; clear n0_ n1_; (try clear hb); (try clear hk); refine hK.out _ _ ⟨(blk_cell BK257.out 0).trans rfl, (blk_cell BK257.out 1).trans rfl, (kc HB.out hw263_0), (kc HB.out hw263_1), (kc HB.out hw263_2), (kc HB.out hw263_3), (kc HB.out hw264_3)⟩ (fun hHeld => ?_); clear hK K; refine nm_ (some 11) ?_
       refine pq 2 12 HT_ ?_
       refine pq 3 13 HT_ ?_
       refine pq 4 14 HT_ ?_
       refine pq 5 15 HT_ ?_
       refine pq 6 16 HT_ ?_
       refine pq 7 17 HT_ ?_
       refine pq 8 18 HT_ ?_
       refine pq 10 20 HT_ ?_
       refine tq 9 19 HT_ HW_ hHeld ?_
       refine pq 11 21 HT_ ?_
       refine pq 12 22 HT_ ?_
       refine tq 13 23 HT_ HW_ hHeld ?_
       refine pq 14 24 HT_ ?_
       refine pq 15 25 HT_ ?_
       refine pq 16 26 HT_ ?_
       refine pq 17 27 HT_ ?_
       refine pq 19 29 HT_ ?_
       refine pq 23 33 HT_ ?_
       refine pq 25 35 HT_ ?_
       refine tq 18 28 HT_ HW_ hHeld ?_
       refine pq 20 30 HT_ ?_
       refine pq 21 31 HT_ ?_
       refine tq 22 32 HT_ HW_ hHeld ?_
       refine tq 24 34 HT_ HW_ hHeld ?_
       refine pq 26 36 HT_ ?_
       refine pq 27 37 HT_ ?_
       refine tq 28 38 HT_ HW_ hHeld ?_
       refine on_ 29 (some 39) HT_ (fun K hK => ?_); refine gs_ Try.func42 #[.slice A263_1 ((rd_T80 l0_0 t258).f1).length c263_1] ?_; with_reducible refine (spec_FormatPages.calls k _ _ ((rd_T80 l0_0 t258).f1) t266 _ ?side1 ?side2 A18.out).mono ?_
       (case side1 => exact cc HR265_1.out); (case side2 => exact HC265_1.out); rintro e w27 ⟨rfl, hb⟩; refine ⟨_, rfl, ?_⟩; have n0_ := kp (kb BK257.out hb); have n1_ := kp (below_step bb hb); clear BK257; clear HB; have BK257 := n0_; have HB := n1_; clear n0_ n1_; (try clear hb); (try clear hk); refine hK.out _ _ ⟨(blk_cell BK257.out 0).trans rfl, (blk_cell BK257.out 1).trans rfl, (kc HB.out hw263_0), (kc HB.out hw263_1), (kc HB.out hw263_2), (kc HB.out hw263_3), (kc HB.out hw264_3)⟩ (fun hHeld => ?_); clear hK K; refine nm_ (some 39) ?_; refine on_ 30 (some 40) HT_ (fun K hK => ?_); refine gs_ Try.func38 #[.string t266] ?_; with_reducible refine (spec_ChecksumOf.calls k t266 t267 _ A19.out).mono ?_
       rintro e w' ⟨rfl, ⟨nd, rfl⟩⟩; refine ⟨_, rfl, ?_⟩; refine hK.out _ _ ⟨(blk_cell BK257.out 0).trans rfl, (blk_cell BK257.out 1).trans rfl, (kc HB.out hw263_0), (kc HB.out hw263_1), (kc HB.out hw263_2), (kc HB.out hw263_3), (kc HB.out hw264_3)⟩ (fun hHeld => ?_); clear hK K; refine nm_ (some 40) ?_
       refine pq 31 41 HT_ ?_
       refine pq 32 42 HT_ ?_
       refine done_ (done_of HT_.out (by kernel_rfl)) ?_; have hcz28_0 : w27.cell? ⟨gb257, 0, none⟩ = some (.slice (some ad263) l0_0.length c0_0) := (blk_cell BK257.out 0).trans rfl; have hcz28_1 : w27.cell? ⟨gb257, 1, none⟩ = some (.int .i64 a0_1) := (blk_cell BK257.out 1).trans rfl; have hfz28_0 := blk_frozen BK257.out 0; have hfz28_1 := blk_frozen BK257.out 1; have p268 : 0 ≤ (t258 : Int) := dt; have q268 : t258 < (l0_0.length : Int) := dt; obtain ⟨ad268, A268_1, c268_1, e268, hx268_0, hx268_1, hx268_2, hx268_3, hl268_1, hi268_1⟩ := at_T80 HR0_0.out t258 p268 q268; (try rw [← Nbq16.out] at hx268_3); (try rw [← Nbq16.out] at hw268_3); obtain rfl : ad263 = ad268 := (by injection e268); (try (have ea_ := Option.some.inj (hx268_1.symm.trans hw263_1); injection ea_ with ea_ en_ ec_; subst ea_; subst ec_; clear en_)); replace hx268_0 := kc HB.out hx268_0; replace hx268_1 := kc HB.out hx268_1; replace hx268_2 := kc HB.out hx268_2; replace hx268_3 := kc HB.out hx268_3; have HR268_1 := kp hi268_1; have HC268_1 := kp hl268_1; clear hi268_1 hl268_1; replace p268 := eq_true p268; replace q268 := eq_true q268
       try go_wp2_with (first | ((with_reducible refine gate_callee (f := 79) rfl ?_); refine gl_ 50 Try.func79 #[.slice A268_1 ((rd_T80 l0_0 t258).f1).length c268_1] ?_; (with_reducible refine (spec_UnpackPages.calls k _ _ ((rd_T80 l0_0 t258).f1) t269 _ ?side1 ?side2 A21.out).mono ?_); (case side1 => repeat (first | exact (Kd.C_below HR268_1.out bb) | (with_reducible refine Kd.C_alloc ?_ _) | (with_reducible refine Kd.C_drewN ?_ _) | (with_reducible refine Kd.C_drew ?_))); (case side2 => exact HC268_1.out); rintro e w29 ⟨v270, rfl, ho0, hb⟩; refine ⟨_, rfl, ?_⟩; have n0_ := kp (Kd.R_lower ho0 (below_size bb)); have n1_ := kp (kb BK257.out hb); have n2_ := kp (below_step bb hb); clear BK257; clear HB; have HO271 := n0_; have BK257 := n1_; have HB := n2_; clear n0_ n1_ n2_; (try clear hb); (try clear ho0)))
       go_ret2
       exact ⟨_, er, by (with_reducible repeat (first | apply rA | apply rN | apply rD)); exact HO271.out, bb⟩
      ·rw [if_neg c20] at H; have c20b0 : (((rd_T80 l0_0 t258).f2) == t267) = false := beq_eq_false_iff_ne.mpr c20; have c20b1 : (((rd_T80 l0_0 t258).f2) != t267) = true := bne_iff_ne.mpr c20; obtain ⟨y272, hy272⟩ : ∃ y_ : List (S95), y_ = (([] : List (S95))) := ⟨_, rfl⟩; replace H : (some (y272, false)) = some (r1, r2) := by first | (rw [hy272]; with_reducible exact H) | (have H2_ := (Option.bind_some _ _).symm.trans H; rw [hy272]; with_reducible exact H2_) | (have H2_ := (Option.bind_some _ _).symm.trans H; with_reducible exact H2_) | with_reducible exact H | (rw [hy272]; exact H) | exact H
       have Ny272 := kp hy272; clear hy272; simp only [Option.some.injEq, Prod.mk.injEq] at H; obtain ⟨rfl, rfl⟩ := H
       go_enter Try.func30, Try.ntmps30
       try go_wp2_with (first | ((with_reducible refine gate_dst (N := 2) rfl ?_); refine bx_ 2 #[.slice A0_0 l0_0.length c0_0, .int .i64 a0_1] 28 ?_; intro gb257 hg w30 hbox hb; have n0_ := kp (below_step bb hb); have n1_ := kp (hbox); have n2_ := kp (bs hg); have n3_ := kp (bs hg); clear HB; have HB := n0_; have BK257 := n1_; have GW257 := n2_; have GE257 := n3_; clear n0_ n1_ n2_ n3_; clear hb hbox hg; have hcz31_0 : w30.cell? ⟨gb257, 0, none⟩ = some (.slice A0_0 l0_0.length c0_0) := (blk_cell BK257.out 0).trans rfl; have hcz31_1 : w30.cell? ⟨gb257, 1, none⟩ = some (.int .i64 a0_1) := (blk_cell BK257.out 1).trans rfl; have hfz31_0 := blk_frozen BK257.out 0; have hfz31_1 := blk_frozen BK257.out 1) | ((with_reducible refine gate_callee (f := 62) rfl ?_); refine gl_ 9 Try.func62 #[.agg #[.slice A0_0 l0_0.length c0_0, .int .i64 a0_1], .int .i64 a1] ?_; (with_reducible refine (spec_l6At.calls k _ _ l0_0 a0_1 a1 t258 _ ?side1 ?side2 A3.out).mono ?_); (case side1 => exact cc HR0_0.out); (case side2 => exact HC0_0.out); rintro e w32 ⟨rfl, hb⟩; refine ⟨_, rfl, ?_⟩; have n0_ := kp (kb BK257.out hb); have n1_ := kp (below_step bb hb); clear BK257; clear HB; have BK257 := n0_; have HB := n1_; clear n0_ n1_; (try clear hb)))
       have n0_ := kp (blk_drew BK257.out); have n1_ := kp (below_drew1 HB.out); clear BK257; clear HB; have BK257 := n0_; have HB := n1_; clear n0_ n1_; have p263 : 0 ≤ (t258 : Int) := dt; have q263 : t258 < (l0_0.length : Int) := dt; obtain ⟨ad263, A263_1, c263_1, e263, hx263_0, hx263_1, hx263_2, hx263_3, hl263_1, hi263_1⟩ := at_T80 HR0_0.out t258 p263 q263; have hw263_3 := hx263_3; have hw263_2 := hx263_2; have hw263_1 := hx263_1; have hw263_0 := hx263_0; (try rw [← Nbq16.out] at hx263_3); (try rw [← Nbq16.out] at hw263_3); cases e263; replace hx263_0 := kc HB.out hx263_0; replace hx263_1 := kc HB.out hx263_1; replace hx263_2 := kc HB.out hx263_2; replace hx263_3 := kc HB.out hx263_3; have HR263_1 := kp hi263_1; have HC263_1 := kp hl263_1; clear hi263_1 hl263_1; replace p263 := eq_true p263; replace q263 := eq_true q263; have p264 : 0 ≤ (t258 : Int) := dt; have q264 : t258 < (l0_0.length : Int) := dt; obtain ⟨ad264, A264_1, c264_1, e264, hx264_0, hx264_1, hx264_2, hx264_3, hl264_1, hi264_1⟩ := at_T80 HR0_0.out t258 p264 q264; have hw264_3 := hx264_3; have hw264_2 := hx264_2; have hw264_1 := hx264_1; have hw264_0 := hx264_0; (try rw [← Nbq16.out] at hx264_3); (try rw [← Nbq16.out] at hw264_3); obtain rfl : ad263 = ad264 := (by injection e264); replace hx264_0 := kc HB.out hx264_0; replace hx264_1 := kc HB.out hx264_1; replace hx264_2 := kc HB.out hx264_2; replace hx264_3 := kc HB.out hx264_3; have HR264_1 := kp hi264_1; have HC264_1 := kp hl264_1
       clear hi264_1 hl264_1; replace p264 := eq_true p264; replace q264 := eq_true q264; have ea_ := Option.some.inj (hx263_1.symm.trans hx264_1)
       injection ea_ with ea_ en_ ec_
       subst ea_; subst ec_; clear en_; have p265 : 0 ≤ (t258 : Int) := dt; have q265 : t258 < (l0_0.length : Int) := dt; obtain ⟨ad265, A265_1, c265_1, e265, hx265_0, hx265_1, hx265_2, hx265_3, hl265_1, hi265_1⟩ := at_T80 HR0_0.out t258 p265 q265; have hw265_3 := hx265_3; have hw265_2 := hx265_2; have hw265_1 := hx265_1; have hw265_0 := hx265_0; (try rw [← Nbq16.out] at hx265_3); (try rw [← Nbq16.out] at hw265_3); obtain rfl : ad263 = ad265 := (by injection e265); replace hx265_0 := kc HB.out hx265_0; replace hx265_1 := kc HB.out hx265_1; replace hx265_2 := kc HB.out hx265_2; replace hx265_3 := kc HB.out hx265_3; have HR265_1 := kp hi265_1; have HC265_1 := kp hl265_1; clear hi265_1 hl265_1; replace p265 := eq_true p265; replace q265 := eq_true q265; have ea_ := Option.some.inj (hx263_1.symm.trans hx265_1)
       injection ea_ with ea_ en_ ec_
       subst ea_; subst ec_; clear en_
       refine start_ (n := 33) (S := fun w' => w'.cell? ⟨gb257, 0, none⟩ = some (.slice (some ad263) l0_0.length c0_0) ∧ w'.cell? ⟨gb257, 1, none⟩ = some (.int .i64 a0_1) ∧ w'.cell? (ad263.add ((t258).toNat * 4)) = some (.int .i64 ((rd_T80 l0_0 t258).f0)) ∧ w'.cell? ⟨(ad263.add ((t258).toNat * 4)).block, (ad263.add ((t258).toNat * 4)).off + 1, none⟩ = some (.slice A263_1 ((rd_T80 l0_0 t258).f1).length c263_1) ∧ w'.cell? ⟨(ad263.add ((t258).toNat * 4)).block, (ad263.add ((t258).toNat * 4)).off + 2, none⟩ = some (.int .i64 ((rd_T80 l0_0 t258).f2)) ∧ w'.cell? ⟨(ad263.add ((t258).toNat * 4)).block, (ad263.add ((t258).toNat * 4)).off + 3, none⟩ = some (.bool true) ∧ w'.cell? ⟨(ad263.add ((t258).toNat * 4)).block, (ad263.add ((t258).toNat * 4)).off + 3, none⟩ = some (.bool (true))) (ds := []) #[false, false, false, false, false, false, false, false, false, false, false, false, false, false, false, false, false, false, false, false, false, false, false, false, false, false, false, false, false, false, false, false, false] (by kernel_rfl) rfl rfl ⟨(blk_cell BK257.out 0).trans rfl, (blk_cell BK257.out 1).trans rfl, (kc HB.out hw263_0), (kc HB.out hw263_1), (kc HB.out hw263_2), (kc HB.out hw263_3), (kc HB.out hw264_3)⟩ (fun hHeld => ?_); refine with_tabW spec_ReadFile.tab2 spec_ReadFile.bits2 (fun HT_ HW_ => ?_)
       generalize w32.drew = w33 at BK257 HB HR263_1 HR264_1 HR265_1 hx263_0 hx263_1 hx263_2 hx263_3 hx264_0 hx264_1 hx264_2 hx264_3 hx265_0 hx265_1 hx265_2 hx265_3 hHeld ⊢
       refine tq 0 10 HT_ HW_ hHeld ?_
       refine on_ 1 (some 11) HT_ (fun K hK => ?_); refine gs_ Try.func46 #[.agg #[.slice (some ad263) l0_0.length c0_0, .int .i64 a0_1]] ?_; with_reducible refine (spec_IsValidDisk.calls k _ _ l0_0 a0_1 true _ ?side1 ?side2 A4.out).mono ?_
       (case side1 => exact cc HR0_0.out); (case side2 => exact HC0_0.out); rintro e w34 ⟨rfl, hb⟩; refine ⟨_, rfl, ?_⟩; have n0_ := kp (kb BK257.out hb); have n1_ := kp (below_step bb hb); clear BK257; clear HB; have BK257 := n0_; have HB := n1_; clear n0_ n1_; (try clear hb); (try clear hk); refine hK.out _ _ ⟨(blk_cell BK257.out 0).trans rfl, (blk_cell BK257.out 1).trans rfl, (kc HB.out hw263_0), (kc HB.out hw263_1), (kc HB.out hw263_2), (kc HB.out hw263_3), (kc HB.out hw264_3)⟩ (fun hHeld => ?_); clear hK K; refine nm_ (some 11) ?_
       refine pq 2 12 HT_ ?_
       refine pq 3 13 HT_ ?_
       refine pq 4 14 HT_ ?_
       refine pq 5 15 HT_ ?_
       refine pq 6 16 HT_ ?_
       refine pq 7 17 HT_ ?_
       refine pq 8 18 HT_ ?_
       refine pq 10 20 HT_ ?_
       refine tq 9 19 HT_ HW_ hHeld ?_
       refine pq 11 21 HT_ ?_
       refine pq 12 22 HT_ ?_
       refine tq 13 23 HT_ HW_ hHeld ?_
       refine pq 14 24 HT_ ?_
       refine pq 15 25 HT_ ?_
       refine pq 16 26 HT_ ?_
       refine pq 17 27 HT_ ?_
       refine pq 19 29 HT_ ?_
       refine pq 23 33 HT_ ?_
       refine pq 25 35 HT_ ?_
       refine tq 18 28 HT_ HW_ hHeld ?_
       refine pq 20 30 HT_ ?_
       refine pq 21 31 HT_ ?_
       refine tq 22 32 HT_ HW_ hHeld ?_
       refine tq 24 34 HT_ HW_ hHeld ?_
       refine pq 26 36 HT_ ?_
       refine pq 27 37 HT_ ?_
       refine tq 28 38 HT_ HW_ hHeld ?_
       refine on_ 29 (some 39) HT_ (fun K hK => ?_); refine gs_ Try.func42 #[.slice A263_1 ((rd_T80 l0_0 t258).f1).length c263_1] ?_; with_reducible refine (spec_FormatPages.calls k _ _ ((rd_T80 l0_0 t258).f1) t266 _ ?side1 ?side2 A18.out).mono ?_
       (case side1 => exact cc HR265_1.out); (case side2 => exact HC265_1.out); rintro e w35 ⟨rfl, hb⟩; refine ⟨_, rfl, ?_⟩; have n0_ := kp (kb BK257.out hb); have n1_ := kp (below_step bb hb); clear BK257; clear HB; have BK257 := n0_; have HB := n1_; clear n0_ n1_; (try clear hb); (try clear hk); refine hK.out _ _ ⟨(blk_cell BK257.out 0).trans rfl, (blk_cell BK257.out 1).trans rfl, (kc HB.out hw263_0), (kc HB.out hw263_1), (kc HB.out hw263_2), (kc HB.out hw263_3), (kc HB.out hw264_3)⟩ (fun hHeld => ?_); clear hK K; refine nm_ (some 39) ?_; refine on_ 30 (some 40) HT_ (fun K hK => ?_); refine gs_ Try.func38 #[.string t266] ?_; with_reducible refine (spec_ChecksumOf.calls k t266 t267 _ A19.out).mono ?_
       rintro e w' ⟨rfl, ⟨nd, rfl⟩⟩; refine ⟨_, rfl, ?_⟩; refine hK.out _ _ ⟨(blk_cell BK257.out 0).trans rfl, (blk_cell BK257.out 1).trans rfl, (kc HB.out hw263_0), (kc HB.out hw263_1), (kc HB.out hw263_2), (kc HB.out hw263_3), (kc HB.out hw264_3)⟩ (fun hHeld => ?_); clear hK K; refine nm_ (some 40) ?_
       refine pq 31 41 HT_ ?_
       refine pq 32 42 HT_ ?_
       refine done_ (done_of HT_.out (by kernel_rfl)) ?_
       try go_wp2_with (first | ((with_reducible refine gate_dst (N := 43) rfl ?_); refine Kd.R_lit k95 _ 95 ?hg (N := 43) ?hd (xs := ([] : List (S95))) (inner := []) (ok := fun _ => True) (okp := fun _ => True) ?hr ?hp (fun _ hk => hk) trivial (Below.refl _ _) (Nat.le_refl _) (by simp) ?_; (case hd => rfl); (case hg => rfl); (case hr => first | (go_simp; done) | (go_simp; rfl)); (case hp => exact (Reps.none _ _)); intro v273 w36 ho37 hb hg_ hnew_; clear hg_ hnew_; (first | rw [← Ny272.out] at ho37 | (simp only [Int.reduceToNat] at ho37; rw [← Ny272.out] at ho37)); have n0_ := kp (Kd.R_lower ho37 (below_size bb)); have n1_ := kp (kb BK257.out hb); have n2_ := kp (below_step bb hb); clear BK257; clear HB; have HO274 := n0_; have BK257 := n1_; have HB := n2_; clear n0_ n1_ n2_; clear hb ho37))
       go_ret2
       exact ⟨_, er, by (with_reducible repeat (first | apply rA | apply rN | apply rD)); exact HO274.out, bb⟩
     ·replace c17 := Bool.eq_false_iff.mpr c17; subst c17; have H1 : (some ((([] : List (S95))), false)) = some (r1, r2) := by rw [if_neg (show ¬ (false = true) by decide)] at H; exact H
      clear H; have H := H1; clear H1; obtain ⟨y275, hy275⟩ : ∃ y_ : List (S95), y_ = (([] : List (S95))) := ⟨_, rfl⟩; replace H : (some (y275, false)) = some (r1, r2) := by first | (rw [hy275]; with_reducible exact H) | (have H2_ := (Option.bind_some _ _).symm.trans H; rw [hy275]; with_reducible exact H2_) | (have H2_ := (Option.bind_some _ _).symm.trans H; with_reducible exact H2_) | with_reducible exact H | (rw [hy275]; exact H) | exact H
      have Ny275 := kp hy275; clear hy275; simp only [Option.some.injEq, Prod.mk.injEq] at H; obtain ⟨rfl, rfl⟩ := H
      go_enter Try.func30, Try.ntmps30
      try go_wp2_with (first | ((with_reducible refine gate_dst (N := 2) rfl ?_); refine bx_ 2 #[.slice A0_0 l0_0.length c0_0, .int .i64 a0_1] 28 ?_; intro gb257 hg w38 hbox hb; have n0_ := kp (below_step bb hb); have n1_ := kp (hbox); have n2_ := kp (bs hg); have n3_ := kp (bs hg); clear HB; have HB := n0_; have BK257 := n1_; have GW257 := n2_; have GE257 := n3_; clear n0_ n1_ n2_ n3_; clear hb hbox hg; have hcz39_0 : w38.cell? ⟨gb257, 0, none⟩ = some (.slice A0_0 l0_0.length c0_0) := (blk_cell BK257.out 0).trans rfl; have hcz39_1 : w38.cell? ⟨gb257, 1, none⟩ = some (.int .i64 a0_1) := (blk_cell BK257.out 1).trans rfl; have hfz39_0 := blk_frozen BK257.out 0; have hfz39_1 := blk_frozen BK257.out 1) | ((with_reducible refine gate_callee (f := 62) rfl ?_); refine gl_ 9 Try.func62 #[.agg #[.slice A0_0 l0_0.length c0_0, .int .i64 a0_1], .int .i64 a1] ?_; (with_reducible refine (spec_l6At.calls k _ _ l0_0 a0_1 a1 t258 _ ?side1 ?side2 A3.out).mono ?_); (case side1 => exact cc HR0_0.out); (case side2 => exact HC0_0.out); rintro e w40 ⟨rfl, hb⟩; refine ⟨_, rfl, ?_⟩; have n0_ := kp (kb BK257.out hb); have n1_ := kp (below_step bb hb); clear BK257; clear HB; have BK257 := n0_; have HB := n1_; clear n0_ n1_; (try clear hb)))
      have n0_ := kp (blk_drew BK257.out); have n1_ := kp (below_drew1 HB.out); clear BK257; clear HB; have BK257 := n0_; have HB := n1_; clear n0_ n1_; have p263 : 0 ≤ (t258 : Int) := dt; have q263 : t258 < (l0_0.length : Int) := dt; obtain ⟨ad263, A263_1, c263_1, e263, hx263_0, hx263_1, hx263_2, hx263_3, hl263_1, hi263_1⟩ := at_T80 HR0_0.out t258 p263 q263; have hw263_3 := hx263_3; have hw263_2 := hx263_2; have hw263_1 := hx263_1; have hw263_0 := hx263_0; (try rw [← Nbq16.out] at hx263_3); (try rw [← Nbq16.out] at hw263_3); cases e263; replace hx263_0 := kc HB.out hx263_0; replace hx263_1 := kc HB.out hx263_1; replace hx263_2 := kc HB.out hx263_2; replace hx263_3 := kc HB.out hx263_3; have HR263_1 := kp hi263_1; have HC263_1 := kp hl263_1; clear hi263_1 hl263_1; replace p263 := eq_true p263; replace q263 := eq_true q263
      refine start_ (n := 33) (S := fun w' => w'.cell? ⟨gb257, 0, none⟩ = some (.slice (some ad263) l0_0.length c0_0) ∧ w'.cell? ⟨gb257, 1, none⟩ = some (.int .i64 a0_1) ∧ w'.cell? (ad263.add ((t258).toNat * 4)) = some (.int .i64 ((rd_T80 l0_0 t258).f0)) ∧ w'.cell? ⟨(ad263.add ((t258).toNat * 4)).block, (ad263.add ((t258).toNat * 4)).off + 1, none⟩ = some (.slice A263_1 ((rd_T80 l0_0 t258).f1).length c263_1) ∧ w'.cell? ⟨(ad263.add ((t258).toNat * 4)).block, (ad263.add ((t258).toNat * 4)).off + 2, none⟩ = some (.int .i64 ((rd_T80 l0_0 t258).f2)) ∧ w'.cell? ⟨(ad263.add ((t258).toNat * 4)).block, (ad263.add ((t258).toNat * 4)).off + 3, none⟩ = some (.bool false)) (ds := []) #[false, false, false, false, false, false, false, false, false, false, false, false, false, false, false, false, false, false, false, false, false, false, false, false, false, false, false, false, false, false, false, false, false] (by kernel_rfl) rfl rfl ⟨(blk_cell BK257.out 0).trans rfl, (blk_cell BK257.out 1).trans rfl, (kc HB.out hw263_0), (kc HB.out hw263_1), (kc HB.out hw263_2), (kc HB.out hw263_3)⟩ (fun hHeld => ?_); refine with_tabW spec_ReadFile.tab2 spec_ReadFile.bits2 (fun HT_ HW_ => ?_)
      generalize w40.drew = w41 at BK257 HB HR263_1 hx263_0 hx263_1 hx263_2 hx263_3 hHeld ⊢
      refine tq 0 10 HT_ HW_ hHeld ?_
      refine on_ 1 (some 11) HT_ (fun K hK => ?_); refine gs_ Try.func46 #[.agg #[.slice (some ad263) l0_0.length c0_0, .int .i64 a0_1]] ?_; with_reducible refine (spec_IsValidDisk.calls k _ _ l0_0 a0_1 true _ ?side1 ?side2 A4.out).mono ?_
      (case side1 => exact cc HR0_0.out); (case side2 => exact HC0_0.out); rintro e w42 ⟨rfl, hb⟩; refine ⟨_, rfl, ?_⟩; have n0_ := kp (kb BK257.out hb); have n1_ := kp (below_step bb hb); clear BK257; clear HB; have BK257 := n0_; have HB := n1_; clear n0_ n1_; (try clear hb); (try clear hk); refine hK.out _ _ ⟨(blk_cell BK257.out 0).trans rfl, (blk_cell BK257.out 1).trans rfl, (kc HB.out hw263_0), (kc HB.out hw263_1), (kc HB.out hw263_2), (kc HB.out hw263_3)⟩ (fun hHeld => ?_); clear hK K; refine nm_ (some 11) ?_
      refine pq 2 12 HT_ ?_
      refine pq 3 13 HT_ ?_
      refine pq 4 14 HT_ ?_
      refine pq 5 15 HT_ ?_
      refine pq 6 16 HT_ ?_
      refine pq 7 17 HT_ ?_
      refine pq 8 18 HT_ ?_
      refine pq 10 20 HT_ ?_
      refine tq 9 19 HT_ HW_ hHeld ?_
      refine pq 11 21 HT_ ?_
      refine pq 12 22 HT_ ?_
      refine tq 13 23 HT_ HW_ hHeld ?_
      refine pq 14 24 HT_ ?_
      refine pq 15 25 HT_ ?_
      refine pq 16 26 HT_ ?_
      refine uq 17 27 HT_ ?_
      refine uq 18 28 HT_ ?_
      refine uq 19 29 HT_ ?_
      refine uq 20 30 HT_ ?_
      refine uq 21 31 HT_ ?_
      refine uq 22 32 HT_ ?_
      refine uq 23 33 HT_ ?_
      refine uq 24 34 HT_ ?_
      refine uq 25 35 HT_ ?_
      refine uq 26 36 HT_ ?_
      refine uq 27 37 HT_ ?_
      refine uq 28 38 HT_ ?_
      refine uq 29 39 HT_ ?_
      refine uq 30 40 HT_ ?_
      refine uq 31 41 HT_ ?_
      refine pq 32 42 HT_ ?_
      refine done_ (done_of HT_.out (by kernel_rfl)) ?_
      try go_wp2_with (first | ((with_reducible refine gate_dst (N := 43) rfl ?_); refine Kd.R_lit k95 _ 95 ?hg (N := 43) ?hd (xs := ([] : List (S95))) (inner := []) (ok := fun _ => True) (okp := fun _ => True) ?hr ?hp (fun _ hk => hk) trivial (Below.refl _ _) (Nat.le_refl _) (by simp) ?_; (case hd => rfl); (case hg => rfl); (case hr => first | (go_simp; done) | (go_simp; rfl)); (case hp => exact (Reps.none _ _)); intro v276 w43 ho44 hb hg_ hnew_; clear hg_ hnew_; (first | rw [← Ny275.out] at ho44 | (simp only [Int.reduceToNat] at ho44; rw [← Ny275.out] at ho44)); have n0_ := kp (Kd.R_lower ho44 (below_size bb)); have n1_ := kp (kb BK257.out hb); have n2_ := kp (below_step bb hb); clear BK257; clear HB; have HO277 := n0_; have BK257 := n1_; have HB := n2_; clear n0_ n1_ n2_; clear hb ho44))
      go_ret2
      exact ⟨_, er, by (with_reducible repeat (first | apply rA | apply rN | apply rD)); exact HO277.out, bb⟩
    ·rw [if_neg c15] at H; exact absurd H (by simp)
   ·rw [if_neg c14] at H; exact absurd H (by simp)
 ·replace c5 := Bool.eq_false_iff.mpr c5; subst c5; have H1 : (some ((([] : List (S95))), false)) = some (r1, r2) := by rw [if_neg (show ¬ (false = true) by decide)] at H; exact H
  clear H; have H := H1; clear H1; obtain ⟨y278, hy278⟩ : ∃ y_ : List (S95), y_ = (([] : List (S95))) := ⟨_, rfl⟩; replace H : (some (y278, false)) = some (r1, r2) := by first | (rw [hy278]; with_reducible exact H) | (have H2_ := (Option.bind_some _ _).symm.trans H; rw [hy278]; with_reducible exact H2_) | (have H2_ := (Option.bind_some _ _).symm.trans H; with_reducible exact H2_) | with_reducible exact H | (rw [hy278]; exact H) | exact H
  have Ny278 := kp hy278; clear hy278; simp only [Option.some.injEq, Prod.mk.injEq] at H; obtain ⟨rfl, rfl⟩ := H
  go_enter Try.func30, Try.ntmps30
  try go_wp2_with (first | ((with_reducible refine gate_dst (N := 2) rfl ?_); refine bx_ 2 #[.slice A0_0 l0_0.length c0_0, .int .i64 a0_1] 28 ?_; intro gb257 hg w45 hbox hb; have n0_ := kp (below_step bb hb); have n1_ := kp (hbox); have n2_ := kp (bs hg); have n3_ := kp (bs hg); clear HB; have HB := n0_; have BK257 := n1_; have GW257 := n2_; have GE257 := n3_; clear n0_ n1_ n2_ n3_; clear hb hbox hg; have hcz46_0 : w45.cell? ⟨gb257, 0, none⟩ = some (.slice A0_0 l0_0.length c0_0) := (blk_cell BK257.out 0).trans rfl; have hcz46_1 : w45.cell? ⟨gb257, 1, none⟩ = some (.int .i64 a0_1) := (blk_cell BK257.out 1).trans rfl; have hfz46_0 := blk_frozen BK257.out 0; have hfz46_1 := blk_frozen BK257.out 1) | ((with_reducible refine gate_callee (f := 62) rfl ?_); refine gl_ 9 Try.func62 #[.agg #[.slice A0_0 l0_0.length c0_0, .int .i64 a0_1], .int .i64 a1] ?_; (with_reducible refine (spec_l6At.calls k _ _ l0_0 a0_1 a1 t258 _ ?side1 ?side2 A3.out).mono ?_); (case side1 => exact cc HR0_0.out); (case side2 => exact HC0_0.out); rintro e w47 ⟨rfl, hb⟩; refine ⟨_, rfl, ?_⟩; have n0_ := kp (kb BK257.out hb); have n1_ := kp (below_step bb hb); clear BK257; clear HB; have BK257 := n0_; have HB := n1_; clear n0_ n1_; (try clear hb)))
  have n0_ := kp (blk_drew BK257.out); have n1_ := kp (below_drew1 HB.out); clear BK257; clear HB; have BK257 := n0_; have HB := n1_; clear n0_ n1_
  refine start_ (n := 33) (S := fun w' => w'.cell? ⟨gb257, 0, none⟩ = some (.slice A0_0 l0_0.length c0_0) ∧ w'.cell? ⟨gb257, 1, none⟩ = some (.int .i64 a0_1)) (ds := []) #[false, false, false, false, false, false, false, false, false, false, false, false, false, false, false, false, false, false, false, false, false, false, false, false, false, false, false, false, false, false, false, false, false] (by kernel_rfl) rfl rfl ⟨(blk_cell BK257.out 0).trans rfl, (blk_cell BK257.out 1).trans rfl⟩ (fun hHeld => ?_); refine with_tabW spec_ReadFile.tab2 spec_ReadFile.bits2 (fun HT_ HW_ => ?_)
  generalize w47.drew = w48 at BK257 HB hHeld ⊢
  refine tq 0 10 HT_ HW_ hHeld ?_
  refine on_ 1 (some 11) HT_ (fun K hK => ?_); refine gs_ Try.func46 #[.agg #[.slice A0_0 l0_0.length c0_0, .int .i64 a0_1]] ?_; with_reducible refine (spec_IsValidDisk.calls k _ _ l0_0 a0_1 false _ ?side1 ?side2 A4.out).mono ?_
  (case side1 => exact cc HR0_0.out); (case side2 => exact HC0_0.out); rintro e w49 ⟨rfl, hb⟩; refine ⟨_, rfl, ?_⟩; have n0_ := kp (kb BK257.out hb); have n1_ := kp (below_step bb hb); clear BK257; clear HB; have BK257 := n0_; have HB := n1_; clear n0_ n1_; (try clear hb); (try clear hk); refine hK.out _ _ ⟨(blk_cell BK257.out 0).trans rfl, (blk_cell BK257.out 1).trans rfl⟩ (fun hHeld => ?_); clear hK K; refine nm_ (some 11) ?_
  refine pq 2 12 HT_ ?_
  refine pq 3 13 HT_ ?_
  refine uq 4 14 HT_ ?_
  refine uq 5 15 HT_ ?_
  refine pq 6 16 HT_ ?_
  refine pq 7 17 HT_ ?_
  refine uq 8 18 HT_ ?_
  refine uq 9 19 HT_ ?_
  refine uq 10 20 HT_ ?_
  refine uq 11 21 HT_ ?_
  refine uq 12 22 HT_ ?_
  refine uq 13 23 HT_ ?_
  refine uq 14 24 HT_ ?_
  refine pq 15 25 HT_ ?_
  refine pq 16 26 HT_ ?_
  refine uq 17 27 HT_ ?_
  refine uq 18 28 HT_ ?_
  refine uq 19 29 HT_ ?_
  refine uq 20 30 HT_ ?_
  refine uq 21 31 HT_ ?_
  refine uq 22 32 HT_ ?_
  refine uq 23 33 HT_ ?_
  refine uq 24 34 HT_ ?_
  refine uq 25 35 HT_ ?_
  refine uq 26 36 HT_ ?_
  refine uq 27 37 HT_ ?_
  refine uq 28 38 HT_ ?_
  refine uq 29 39 HT_ ?_
  refine uq 30 40 HT_ ?_
  refine uq 31 41 HT_ ?_
  refine pq 32 42 HT_ ?_
  refine done_ (done_of HT_.out (by kernel_rfl)) ?_
  try go_wp2_with (first | ((with_reducible refine gate_dst (N := 43) rfl ?_); refine Kd.R_lit k95 _ 95 ?hg (N := 43) ?hd (xs := ([] : List (S95))) (inner := []) (ok := fun _ => True) (okp := fun _ => True) ?hr ?hp (fun _ hk => hk) trivial (Below.refl _ _) (Nat.le_refl _) (by simp) ?_; (case hd => rfl); (case hg => rfl); (case hr => first | (go_simp; done) | (go_simp; rfl)); (case hp => exact (Reps.none _ _)); intro v279 w50 ho51 hb hg_ hnew_; clear hg_ hnew_; (first | rw [← Ny278.out] at ho51 | (simp only [Int.reduceToNat] at ho51; rw [← Ny278.out] at ho51)); have n0_ := kp (Kd.R_lower ho51 (below_size bb)); have n1_ := kp (kb BK257.out hb); have n2_ := kp (below_step bb hb); clear BK257; clear HB; have HO280 := n0_; have BK257 := n1_; have HB := n2_; clear n0_ n1_ n2_; clear hb ho51))
  go_ret2
  exact ⟨_, er, by (with_reducible repeat (first | apply rA | apply rN | apply rD)); exact HO280.out, bb⟩
end Go.Proofs.Ytinniedbgfgclaa.PFnExactDeleteUnreadableFiles
