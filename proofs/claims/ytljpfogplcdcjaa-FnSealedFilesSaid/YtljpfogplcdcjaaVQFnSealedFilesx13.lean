/- Out of a copy of the print, with function values told: nothing is claimed here. -/
import Derived.Test.YtljpfogplcdcjaaVQFnSealedFilesx0
import Derived.Test.YtljpfogplcdcjaaVQFnSealedFilesx12
import Derived.Test.YtljpfogplcdcjaaVShort
import Derived.Test.YtljpfogplcdcjaaVPress
import Derived.Test.YtljpfogplcdcjaaVFoldT
namespace Go.Proofs.Ytljpfogplcdcjaa.PFnSealedFiles
open Go.RowKit Go.Proofs.YtljpfogplcdcjaaW.PrintWords Go.Proofs.YtljpfogplcdcjaaW.PrintLast Go.Proofs.YtljpfogplcdcjaaW.PrintMore Go.Proofs.Ytljpfogplcdcjaa.Short Go.Proofs.Ytljpfogplcdcjaa.Press Go.Proofs.Ytljpfogplcdcjaa.Fold
attribute [local go_sem] max2_int min2_int max_two min_two max_three min_three max_four min_four   -- for this text's walks alone
set_option linter.unusedVariables false
set_option linter.unusedSimpArgs false
mutual
def impl_IsValidDisk.j0 : Nat → Bool → List (S87) → Int → Option (Bool)
 | 0, _, _, _ => none
 | k + 1, x13, x431000, x431001 => if x13 = true then (some false) else (impl_IsValidDisk.l0 k x431000 (x431000.length : Int) 0 x431000 x431001)
def impl_IsValidDisk.l0 : Nat → List (S87) → Int → Int → List (S87) → Int → Option (Bool)
 | 0, _, _, _, _, _ => none
 | k + 1, x15, x16, x17, x431000, x431001 => if x17 < x16 then (if 0 ≤ x17 then (if x17 < (x15.length : Int) then ((impl_within.f ((rd_T87 x15 x17).f0) 0 (wrap64 (x431001 - 1))).bind fun t435 => (if t435 = true then (if x17 > 0 then (if 0 ≤ (wrap64 (x17 - 1)) then (if (wrap64 (x17 - 1)) < (x431000.length : Int) then (if ((rd_T87 x15 x17).f0) ≤ ((rd_T87 x431000 (wrap64 (x17 - 1))).f0) then (some false) else ((impl_validPages.f k ((rd_T87 x15 x17).f1)).bind fun t437 => (if t437 = true then (if ((rd_T87 x15 x17).f3 = true) then (impl_IsValidDisk.l0 k x15 x16 (wrap64 (x17 + 1)) x431000 x431001) else (if ((rd_T87 x15 x17).f2) = 0 then (impl_IsValidDisk.l0 k x15 x16 (wrap64 (x17 + 1)) x431000 x431001) else (some false))) else (some false)))) else (none)) else (none)) else ((impl_validPages.f k ((rd_T87 x15 x17).f1)).bind fun t438 => (if t438 = true then (if ((rd_T87 x15 x17).f3 = true) then (impl_IsValidDisk.l0 k x15 x16 (wrap64 (x17 + 1)) x431000 x431001) else (if ((rd_T87 x15 x17).f2) = 0 then (impl_IsValidDisk.l0 k x15 x16 (wrap64 (x17 + 1)) x431000 x431001) else (some false))) else (some false)))) else (some false))) else (none)) else (none)) else (some true)
end
def impl_IsValidDisk.f (k : Nat) (l0_0 : List (S87)) (a0_1 : Int) : Option (Bool) := (impl_within.f a0_1 0 1000).bind fun t431 => (if t431 = true then ((impl_CountPages.f k l0_0 a0_1).bind fun t432 => (impl_IsValidDisk.j0 k (decide (t432 > 40)) l0_0 a0_1)) else (impl_IsValidDisk.j0 k true l0_0 a0_1))
def impl_IsValidDisk.T6 : Bool × List (List Nat × List Nat) := (true, [([], []), ([0], [0]), ([], []), ([2], [2]), ([3], [3]), ([1, 4], [1, 4]), ([5], [5]), ([6, 5], [6]), ([7], [7]), ([8, 7], [7, 8]), ([9, 7, 7], [7, 9]), ([10], [10]), ([11, 10], [10, 11]), ([10], [10]), ([13, 10], [10, 13]), ([10], [10]), ([15, 10], [10, 15]), ([14, 16, 10], [10, 14, 16]), ([17, 10], [10, 17]), ([18, 10], [10, 18]), ([12, 19, 10], [10, 12, 19]), ([10, 20, 7], [7, 10, 20]), ([7, 21], [7, 21]), ([22, 10], [22]), ([23], [23]), ([24, 23], [23, 24]), ([25, 23, 23], [23, 25]), ([26, 23], [23, 26]), ([23, 27], [23, 27]), ([28, 26], [28]), ([29], [29]), ([30, 29], [29, 30]), ([31, 29], [29, 31]), ([32, 29, 29], [29, 32]), ([33], [33]), ([34, 33], [33, 34]), ([35, 33], [33, 35]), ([33, 36, 29], [29, 33, 36]), ([29, 37], [29, 37])])
def impl_IsValidDisk.B6 : List Nat := [0, 1, 0, 4, 12, 31, 63, 127, 255, 511, 1023, 2047, 4095, 2047, 10239, 2047, 34815, 124927, 255999, 518143, 1048575, 2097151, 4194303, 8388607, 16777215, 33554431, 67108863, 134217727, 268435455, 536870911, 1073741823, 2147483647, 4294967295, 8589934591, 17179869183, 34359738367, 68719476735, 137438953471, 274877906943]
theorem impl_IsValidDisk.tab6 : rtab .any (opsOf Try.f32 6) = impl_IsValidDisk.T6 := by kernel_rfl
theorem impl_IsValidDisk.bits6 : waitsOk impl_IsValidDisk.T6.2 impl_IsValidDisk.B6 = true := by kernel_rfl
set_option maxHeartbeats 8000000 in
set_option maxRecDepth 100000 in
theorem impl_IsValidDisk.calls (k : Nat) (A0_0 : Option Addr) (c0_0 : Nat) (l0_0 : List (S87)) (a0_1 : Int) (r : Bool) (w : World) (hr0_0 : Kd.C k87 w A0_0 l0_0.length l0_0) (hc0_0 : l0_0.length ≤ c0_0) (h : impl_IsValidDisk.f k l0_0 a0_1 = some r) :
  Calls Try.prog 32 #[.agg #[.slice A0_0 l0_0.length c0_0, .int .i64 a0_1]] w fun e w' => e = .returned (.bool r) ∧ Below w.heap.size w w' := by
 have hu51 := Try.underlying51; have hu87 := Try.underlying87; have HR0_0 := kp hr0_0; have HC0_0 := kp hc0_0; clear hr0_0 hc0_0; have HB := kp (Below.refl w.heap.size w); have H := h; clear h; unfold impl_IsValidDisk.f at H; have HC2 := kp H; clear H; go_enter Try.func32, Try.ntmps32; go_upto_region 1 with (first | ((with_reducible refine gate_dst (N := 1) rfl ?_); refine bx_ 1 #[.slice A0_0 l0_0.length c0_0, .int .i64 a0_1] 51 ?_; intro gb430 hg w3 hbox hb; have BK430 := kp (hbox); have GE430 := kp (bs hg); replace HB := kp (below_step bb hb); clear hb hbox hg)); (try simp only [Act.put, List.setIfInBounds_toArray, List.set_cons_zero, List.set_cons_succ]); go_cut [13] (fun v13 wc => ∃ (kq : Nat) (x13_1 : Bool), v13 = .bool x13_1 ∧ Aside0 (impl_IsValidDisk.j0 kq x13_1 l0_0 a0_1 = some r) ∧ Aside0 (kq ≤ k) ∧ Aside0 (wc.heap[gb430]? = some (.cells #[(.slice A0_0 l0_0.length c0_0), .int .i64 a0_1] 51 (0, 0))) ∧ Aside0 (Below w.heap.size w wc))
 case first =>
  have H := HC2.out; clear HC2; replace H := ob H; obtain ⟨t431, A4, H⟩ := H; by_cases c5 : t431 = true; subst c5; replace H := ip H; replace H := ob H; obtain ⟨t432, A6, H⟩ := H; have H' := kp H; clear H; have i0_ := kp True.intro; rotate_left; replace c5 := Bool.eq_false_iff.mpr c5; subst c5; replace H := ie H; have H' := kp H; clear H
  all_goals
   obtain ⟨hcz7_0, hcz7_1, hfz7_0, hfz7_1⟩ := bf2 BK430.out; go_wp2_with (first | ((with_reducible refine gate_callee (f := 52) rfl ?_); refine gl_ 7 Try.func52 #[.int .i64 a0_1, .int .i64 0, .int .i64 1000] ?_; (with_reducible refine (impl_within.calls a0_1 0 1000 _ _ A4.out).mono ?_); rintro e w' ⟨rfl, ⟨nd, rfl⟩⟩; refine ⟨_, rfl, ?_⟩) | (go_at_call 71; (with_reducible refine (impl_CountPages.calls k _ _ l0_0 a0_1 t432 _ ?side1 ?side2 A6.out).mono ?_); (case side1 => repeat (first | exact (Kd.C_below HR0_0.out bb) | (with_reducible refine Kd.C_alloc ?_ _) | (with_reducible refine Kd.C_drewN ?_ _) | (with_reducible refine Kd.C_drew ?_))); (case side2 => exact HC0_0.out); rintro e w8 ⟨rfl, hb⟩; replace BK430 := kp (kb BK430.out hb); replace HB := kp (below_step bb hb); (try clear hb))); go_meet
   first
   | refine tg i0_ ?_; case rel => exact ⟨_, (decide (t432 > 40)), vr, H', ⟨by first | omega | exact Nat.le_refl _⟩, ⟨kk BK430.out⟩, ⟨bb⟩⟩
   | case rel => exact ⟨_, (true), vr, H', ⟨by first | omega | exact Nat.le_refl _⟩, ⟨kk BK430.out⟩, ⟨bb⟩⟩
 case rest =>
  clear HC2; obtain ⟨kq, x13_1, rfl, HA, HJ1, BK430, HB⟩ := hcut
  cases kq with
  | zero => exact absurd HA.out (by simp [impl_IsValidDisk.j0])
  | succ kj1 =>
   have H := HA.out; clear HA; simp only [impl_IsValidDisk.j0] at H; by_cases c10 : x13_1 = true
   ·subst c10; replace H := ip H; obtain rfl := Option.some.inj H; go_wp2; go_ret; exact ⟨er, bb⟩
   ·replace c10 := Bool.eq_false_iff.mpr c10; subst c10; replace H := ie H; have H' := kp H; clear H; obtain ⟨hcz11_0, hcz11_1, hfz11_0, hfz11_1⟩ := bf2 BK430.out; go_wp2; go_loopg [17] kj1 (fun kq v17 w' => ∃ (x17_2 : Int), v17 = .int .i64 x17_2 ∧ Aside0 (impl_IsValidDisk.l0 kq l0_0 (l0_0.length : Int) x17_2 l0_0 a0_1 = some r) ∧ Aside0 (kq ≤ kj1) ∧ Aside0 (w'.heap[gb430]? = some (.cells #[(.slice A0_0 l0_0.length c0_0), .int .i64 a0_1] 51 (0, 0))) ∧ Aside0 (Below w.heap.size w w')); case atStart => exact ⟨(0), vr, H', ⟨Nat.le_refl _⟩, ⟨kk BK430.out⟩, ⟨bb⟩⟩
    case round =>
     clear H'; try clear c10
     try clear hcz11_0
     try clear hcz11_1
     try clear hfz11_0
     try clear hfz11_1
     obtain ⟨x17_2, rfl, HA, HK2, BK430, HB⟩ := hrel
     cases gk with
     | zero => exact absurd HA.out (by simp [impl_IsValidDisk.l0])
     | succ k2 =>
      have H := HA.out; clear HA; simp only [impl_IsValidDisk.l0] at H; replace H := sp H; rcases H with ⟨c12b0, H⟩ | ⟨c12b0, H⟩
      ·replace H := sn H; obtain ⟨c13b0, H⟩ := H; replace H := sn H; obtain ⟨c14b0, H⟩ := H; replace H := ob H; obtain ⟨t435, A15, H⟩ := H; by_cases c16 : t435 = true; subst c16; replace H := ip H; replace H := sp H; rcases H with ⟨c17b0, H⟩ | ⟨c17b0, H⟩
       generalize hji18 : (wrap64 (x17_2 - 1)) = ji18 at H; (try rw [hji18] at A15); have hji18w : (IntKind.i64.wrap (x17_2 - 1)) = ji18 := (i64_w _).trans hji18; replace H := sn H; obtain ⟨c19b0, H⟩ := H; replace H := sn H; obtain ⟨c20b0, H⟩ := H; replace H := sp H; rcases H with ⟨c21b0, H⟩ | ⟨c21b0, H⟩
       obtain rfl := Option.some.inj H; have i0_ := kp True.intro; rotate_left; replace H := ob H; obtain ⟨t437, A27, H⟩ := H; by_cases c28 : t437 = true; subst c28; replace H := ip H; generalize hbq29 : ((rd_T87 l0_0 x17_2).f3) = bq29 at H; have Nbq29 := kp hbq29.symm; clear hbq29; by_cases c30 : (bq29 = true); subst c30; replace H := ip H; have H' := kp H; clear H; have i1_ := kp True.intro; rotate_left; replace c30 := Bool.eq_false_iff.mpr c30; subst c30; replace H := ie H; by_cases c37 : ((rd_T87 l0_0 x17_2).f2) = 0; rw [if_pos c37] at H; have c37b0 : (((rd_T87 l0_0 x17_2).f2) == 0) = true := beq_iff_eq.mpr c37; have c37b1 : (((rd_T87 l0_0 x17_2).f2) != 0) = false := bne_eq_false_iff_eq.mpr c37; clear c37; have H' := kp H; clear H; have i2_ := kp True.intro; rotate_left; rw [if_neg c37] at H; have c37b0 : (((rd_T87 l0_0 x17_2).f2) == 0) = false := beq_eq_false_iff_ne.mpr c37; have c37b1 : (((rd_T87 l0_0 x17_2).f2) != 0) = true := bne_iff_ne.mpr c37; obtain rfl := Option.some.inj H; have i3_ := kp True.intro; rotate_left; replace c28 := Bool.eq_false_iff.mpr c28; subst c28; replace H := ie H; obtain rfl := Option.some.inj H; have i4_ := kp True.intro; rotate_left; replace H := ob H; obtain ⟨t438, A27, H⟩ := H; by_cases c57 : t438 = true; subst c57; replace H := ip H; generalize hbq58 : ((rd_T87 l0_0 x17_2).f3) = bq58 at H; have Nbq29 := kp hbq58.symm; clear hbq58; by_cases c59 : (bq58 = true); subst c59; replace H := ip H; have H' := kp H; clear H; have i5_ := kp True.intro; rotate_left; replace c59 := Bool.eq_false_iff.mpr c59; subst c59; replace H := ie H; by_cases c66 : ((rd_T87 l0_0 x17_2).f2) = 0; rw [if_pos c66] at H; have c66b0 : (((rd_T87 l0_0 x17_2).f2) == 0) = true := beq_iff_eq.mpr c66
       have c66b1 : (((rd_T87 l0_0 x17_2).f2) != 0) = false := bne_eq_false_iff_eq.mpr c66; clear c66; have H' := kp H; clear H; have i6_ := kp True.intro; rotate_left; rw [if_neg c66] at H; have c66b0 : (((rd_T87 l0_0 x17_2).f2) == 0) = false := beq_eq_false_iff_ne.mpr c66; have c66b1 : (((rd_T87 l0_0 x17_2).f2) != 0) = true := bne_iff_ne.mpr c66; obtain rfl := Option.some.inj H; have i7_ := kp True.intro; rotate_left; replace c57 := Bool.eq_false_iff.mpr c57; subst c57; replace H := ie H; obtain rfl := Option.some.inj H; have i8_ := kp True.intro; rotate_left; replace c16 := Bool.eq_false_iff.mpr c16; subst c16; replace H := ie H; obtain rfl := Option.some.inj H; have i9_ := kp True.intro
       all_goals
        obtain ⟨ad433, A433_1, c433_1, rfl, hx433_0, hx433_1, hx433_2, hx433_3, HC433_1, HR433_1, p433, q433⟩ := ra_T87 HR0_0 HB x17_2 dt dt; (try rw [← Nbq29.out] at hx433_3); (try rw [← Nbq29.out] at hw433_3); try go_wp2_with (first | ((with_reducible refine gate_dst (N := 4) rfl ?_); refine bx_ 4 #[.int .i64 0, .slice none 0 0, .int .i64 0, .bool false] 87 ?_; intro gb434 hg w22 hbox hb; have BK434 := kp (hbox); have GE434 := kp (bs hg); have NB430_434 := kp (bl hg BK430.out); have NB434_430 := kp (bg hg BK430.out); replace BK430 := kp (kb BK430.out hb); replace HB := kp (below_step bb hb); clear hb hbox hg; have hnb23 := NB434_430.out; have hnc23 := NB430_434.out; obtain ⟨hcz24_0, hcz24_1, hcz24_2, hcz24_3, hfz24_0, hfz24_1, hfz24_2, hfz24_3⟩ := bf4 BK434.out))
        generalize hW : World.setCell _ _ _ = w25; replace BK430 : Aside0 (w25.heap[gb430]? = some (.cells #[.slice (some ad433) l0_0.length c0_0, .int .i64 a0_1] 51 (0, 0))) := hW ▸ ⟨kf BK430.out⟩
        first
        | (first | refine tg i1_ ?_ | refine tg i5_ ?_); replace BK434 : Aside0 (w25.heap[gb434]? = some (.cells #[.int .i64 ((rd_T87 l0_0 x17_2).f0), .slice A433_1 ((rd_T87 l0_0 x17_2).f1).length c433_1, .int .i64 ((rd_T87 l0_0 x17_2).f2), .bool true] 87 (0, 0))) := hW ▸ ⟨kq4 BK434.out⟩
        | (first | refine tg i0_ ?_ | refine tg i4_ ?_ | refine tg i8_ ?_ | refine tg i9_ ?_); replace BK434 : Aside0 (w25.heap[gb434]? = some (.cells #[.int .i64 ((rd_T87 l0_0 x17_2).f0), .slice A433_1 ((rd_T87 l0_0 x17_2).f1).length c433_1, .int .i64 ((rd_T87 l0_0 x17_2).f2), .bool ((rd_T87 l0_0 x17_2).f3)] 87 (0, 0))) := hW ▸ ⟨kq4 BK434.out⟩
        | replace BK434 : Aside0 (w25.heap[gb434]? = some (.cells #[.int .i64 ((rd_T87 l0_0 x17_2).f0), .slice A433_1 ((rd_T87 l0_0 x17_2).f1).length c433_1, .int .i64 ((rd_T87 l0_0 x17_2).f2), .bool false] 87 (0, 0))) := hW ▸ ⟨kq4 BK434.out⟩
        replace HB := kp (fb hW); clear hW; replace BK430 := kp (blk_drew BK430.out); replace BK434 := kp (blk_drew BK434.out); replace HB := kp (below_drew1 HB.out)
        first
        | (first | refine tg i0_ ?_ | refine tg i1_ ?_ | refine tg i2_ ?_ | refine tg i3_ ?_ | refine tg i4_ ?_); obtain ⟨ad436, A436_1, c436_1, e436, hx436_0, hx436_1, hx436_2, hx436_3, hw436_0, hw436_1, hw436_2, hw436_3, HC436_1, HR436_1, p436, q436⟩ := rb_T87 HR0_0 HB (ji18) dt dt; obtain rfl : ad433 = ad436 := (by injection e436); (try rw [← Nbq29.out] at hx436_3); (try rw [← Nbq29.out] at hw436_3); refine st_ 39 impl_IsValidDisk.tab6 impl_IsValidDisk.bits6 (ha4 BK434 (ha2 BK430 (lq (kc HB.out hw436_0) (lq (kc HB.out hw436_1) (lq (kc HB.out hw436_2) (mq (kc HB.out hw436_3))))))) (fun hHeld HT_ HW_ => ?_); generalize w25.drew = w26 at BK430 BK434 HB HR436_1 hx436_0 hx436_1 hx436_2 hx436_3 hHeld ⊢
        | refine st_ 39 impl_IsValidDisk.tab6 impl_IsValidDisk.bits6 (ha4 BK434 (hz2 BK430)) (fun hHeld HT_ HW_ => ?_); generalize w25.drew = w64 at BK430 BK434 HB hHeld ⊢
        refine pq 0 22 HT_ ?_; refine pq 2 24 HT_ ?_; refine tq 1 23 HT_ HW_ hHeld ?_; refine tq 3 25 HT_ HW_ hHeld ?_; refine pq 4 26 HT_ ?_; refine on_ 5 (some 27) HT_ (fun K hK => ?_); refine gs_ Try.func52 #[.int .i64 ((rd_T87 l0_0 x17_2).f0), .int .i64 0, .int .i64 (wrap64 (a0_1 - 1))] ?_; with_reducible refine (impl_within.calls ((rd_T87 l0_0 x17_2).f0) 0 (wrap64 (a0_1 - 1)) _ _ A15.out).mono ?_
        rintro e w' ⟨rfl, ⟨nd, rfl⟩⟩; refine ⟨_, rfl, ?_⟩; refine hk_ 27 hK (fun hHeld => ?_); clear hK K; refine pq 6 28 HT_ ?_; refine pq 7 29 HT_ ?_
        first
        | refine tg i9_ ?_; refine uq 8 30 HT_ ?_; refine uq 9 31 HT_ ?_; refine uq 10 32 HT_ ?_; refine uq 11 33 HT_ ?_; refine uq 12 34 HT_ ?_; refine uq 13 35 HT_ ?_; refine uq 14 36 HT_ ?_; refine uq 15 37 HT_ ?_; refine uq 16 38 HT_ ?_; refine uq 17 39 HT_ ?_; refine uq 18 40 HT_ ?_; refine uq 19 41 HT_ ?_; refine uq 20 42 HT_ ?_; refine uq 21 43 HT_ ?_
        | refine pq 8 30 HT_ ?_; refine pq 9 31 HT_ ?_; refine pq 10 32 HT_ ?_
          first
          | (first | refine tg i5_ ?_ | refine tg i6_ ?_ | refine tg i7_ ?_ | refine tg i8_ ?_); refine uq 11 33 HT_ ?_; refine uq 12 34 HT_ ?_; refine uq 13 35 HT_ ?_; refine uq 14 36 HT_ ?_; refine uq 15 37 HT_ ?_; refine uq 16 38 HT_ ?_; refine uq 17 39 HT_ ?_; refine uq 18 40 HT_ ?_; refine uq 19 41 HT_ ?_; refine uq 20 42 HT_ ?_
          | refine pq 11 33 HT_ ?_; refine pq 13 35 HT_ ?_; refine pq 15 37 HT_ ?_; refine pq 16 38 HT_ ?_; refine tq 12 34 HT_ HW_ hHeld ?_; refine tq 14 36 HT_ HW_ hHeld ?_; refine pq 17 39 HT_ ?_; refine pq 18 40 HT_ ?_; refine tq 19 41 HT_ HW_ hHeld ?_; refine pq 20 42 HT_ ?_
          refine pq 21 43 HT_ ?_
        refine pq 22 44 HT_ ?_; refine pq 23 45 HT_ ?_
        first
        | (first | refine tg i0_ ?_ | refine tg i9_ ?_); refine uq 24 46 HT_ ?_; refine uq 25 47 HT_ ?_; refine uq 26 48 HT_ ?_; refine uq 27 49 HT_ ?_
        | refine pq 24 46 HT_ ?_; refine tq 25 47 HT_ HW_ hHeld ?_; refine on_ 26 (some 48) HT_ (fun K hK => ?_); refine gs_ Try.func65 #[.slice A433_1 ((rd_T87 l0_0 x17_2).f1).length c433_1] ?_; with_reducible refine (impl_validPages.calls k2 _ _ ((rd_T87 l0_0 x17_2).f1) _ _ ?side1 ?side2 A27.out).mono ?_
          (case side1 => repeat (first | exact (Kd.C_below HR433_1.out bb) | (with_reducible refine Kd.C_alloc ?_ _) | (with_reducible refine Kd.C_drewN ?_ _) | (with_reducible refine Kd.C_drew ?_))); (case side2 => exact HC433_1.out); rintro e w36 ⟨rfl, hb⟩; refine ⟨_, rfl, ?_⟩; replace BK430 := kp (kb BK430.out hb); replace BK434 := kp (kb BK434.out hb); replace HB := kp (below_step bb hb); (try clear hb); (try clear hk); refine hk_ 48 hK (fun hHeld => ?_); clear hK K; refine pq 27 49 HT_ ?_
        refine pq 28 50 HT_ ?_; refine pq 29 51 HT_ ?_
        first
        | (first | refine tg i0_ ?_ | refine tg i1_ ?_)
          first
          | refine tg i0_ ?_; refine uq 30 52 HT_ ?_; refine uq 31 53 HT_ ?_; refine uq 32 54 HT_ ?_; refine uq 33 55 HT_ ?_
          | refine pq 30 52 HT_ ?_; refine tq 31 53 HT_ HW_ hHeld ?_; refine pq 32 54 HT_ ?_; refine pq 33 55 HT_ ?_
          refine uq 34 56 HT_ ?_; refine uq 35 57 HT_ ?_; refine uq 36 58 HT_ ?_
        | (first | refine tg i4_ ?_ | refine tg i8_ ?_ | refine tg i9_ ?_); refine uq 30 52 HT_ ?_; refine uq 31 53 HT_ ?_; refine uq 32 54 HT_ ?_; refine uq 33 55 HT_ ?_; refine uq 34 56 HT_ ?_; refine uq 35 57 HT_ ?_; refine uq 36 58 HT_ ?_
        | refine pq 30 52 HT_ ?_; refine tq 31 53 HT_ HW_ hHeld ?_; refine pq 32 54 HT_ ?_; refine pq 33 55 HT_ ?_
          first
          | refine tg i5_ ?_; refine uq 34 56 HT_ ?_; refine uq 35 57 HT_ ?_; refine uq 36 58 HT_ ?_
          | refine pq 34 56 HT_ ?_; refine tq 35 57 HT_ HW_ hHeld ?_; refine pq 36 58 HT_ ?_
        first
        | (first | refine tg i0_ ?_ | refine tg i4_ ?_ | refine tg i8_ ?_ | refine tg i9_ ?_); refine uq 37 59 HT_ ?_
        | refine pq 37 59 HT_ ?_
        refine pq 38 60 HT_ ?_; refine done_ (done_of HT_.out (by kernel_rfl)) ?_; try go_wp2
        first
        | (first | refine tg i0_ ?_ | refine tg i3_ ?_ | refine tg i4_ ?_); go_ret; exact ⟨by first | rfl | (simp [errW_none, errW_some] <;> rfl) | (simp only [← hji18]; first | rfl | (simp [errW_none, errW_some] <;> rfl)) | (simp [*, errW_none, errW_some] <;> rfl), bb⟩
        | (first | refine tg i7_ ?_ | refine tg i8_ ?_ | refine tg i9_ ?_); go_ret; exact ⟨er, bb⟩
        | go_roundg k2; case measure => have := HJ1.out; have := HK2.out; omega
          case rel => exact ⟨(wrap64 (x17_2 + 1)), vr, H', ⟨by have := HJ1.out; have := HK2.out; omega⟩, ⟨kk BK430.out⟩, ⟨bb⟩⟩
      ·obtain rfl := Option.some.inj H; go_wp2; go_ret; exact ⟨er, bb⟩
end Go.Proofs.Ytljpfogplcdcjaa.PFnSealedFiles
