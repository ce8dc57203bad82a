/- Out of a copy of the print, with function values told: nothing is claimed here. -/
import Derived.Test.YtinniedbgfgclaaVQFnExactAppendPagex0
import Derived.Test.YtinniedbgfgclaaVQFnExactAppendPagex5
import Derived.Test.YtinniedbgfgclaaVQFnExactAppendPagex6
import Derived.Test.YtinniedbgfgclaaVShort
import Derived.Test.YtinniedbgfgclaaVPress
namespace Go.Proofs.Ytinniedbgfgclaa.PFnExactAppendPage
open Go.RowKit Go.Proofs.YtinniedbgfgclaaW.PrintWords Go.Proofs.YtinniedbgfgclaaW.PrintLast Go.Proofs.YtinniedbgfgclaaW.PrintMore Go.Proofs.Ytinniedbgfgclaa.Short Go.Proofs.Ytinniedbgfgclaa.Press
attribute [local go_sem] max2_int min2_int max_two min_two max_three min_three max_four min_four   -- for this text's walks alone
set_option linter.unusedVariables false
set_option linter.unusedSimpArgs false
mutual
def impl_IsValidDisk.j0 : Nat → Bool → List (S80) → Int → Option (Bool)
 | 0, _, _, _ => none
 | k + 1, x13, x220000, x220001 => if x13 = true then (some false) else (impl_IsValidDisk.l0 k x220000 (x220000.length : Int) 0 x220000 x220001)
def impl_IsValidDisk.l0 : Nat → List (S80) → Int → Int → List (S80) → Int → Option (Bool)
 | 0, _, _, _, _, _ => none
 | k + 1, x15, x16, x17, x220000, x220001 => if x17 < x16 then (if 0 ≤ x17 then (if x17 < (x15.length : Int) then ((impl_within.f ((rd_T80 x15 x17).f0) 0 (wrap64 (x220001 - 1))).bind fun t224 => (if t224 = true then (if x17 > 0 then (if 0 ≤ (wrap64 (x17 - 1)) then (if (wrap64 (x17 - 1)) < (x220000.length : Int) then (if ((rd_T80 x15 x17).f0) ≤ ((rd_T80 x220000 (wrap64 (x17 - 1))).f0) then (some false) else ((impl_validPages.f k ((rd_T80 x15 x17).f1)).bind fun t226 => (if t226 = true then (if ((rd_T80 x15 x17).f3 = true) then (impl_IsValidDisk.l0 k x15 x16 (wrap64 (x17 + 1)) x220000 x220001) else (if ((rd_T80 x15 x17).f2) = 0 then (impl_IsValidDisk.l0 k x15 x16 (wrap64 (x17 + 1)) x220000 x220001) else (some false))) else (some false)))) else (none)) else (none)) else ((impl_validPages.f k ((rd_T80 x15 x17).f1)).bind fun t227 => (if t227 = true then (if ((rd_T80 x15 x17).f3 = true) then (impl_IsValidDisk.l0 k x15 x16 (wrap64 (x17 + 1)) x220000 x220001) else (if ((rd_T80 x15 x17).f2) = 0 then (impl_IsValidDisk.l0 k x15 x16 (wrap64 (x17 + 1)) x220000 x220001) else (some false))) else (some false)))) else (some false))) else (none)) else (none)) else (some true)
end
def impl_IsValidDisk.f (k : Nat) (l0_0 : List (S80)) (a0_1 : Int) : Option (Bool) := (impl_within.f a0_1 0 1000).bind fun t220 => (if t220 = true then ((impl_CountPages.f k l0_0 a0_1).bind fun t221 => (impl_IsValidDisk.j0 k (decide (t221 > 40)) l0_0 a0_1)) else (impl_IsValidDisk.j0 k true l0_0 a0_1))
def impl_IsValidDisk.T6 : Bool × List (List Nat × List Nat) := (true, [([], []), ([0], [0]), ([], []), ([2], [2]), ([3], [3]), ([1, 4], [1, 4]), ([5], [5]), ([6, 5], [6]), ([7], [7]), ([8, 7], [7, 8]), ([9, 7, 7], [7, 9]), ([10], [10]), ([11, 10], [10, 11]), ([10], [10]), ([13, 10], [10, 13]), ([10], [10]), ([15, 10], [10, 15]), ([14, 16, 10], [10, 14, 16]), ([17, 10], [10, 17]), ([18, 10], [10, 18]), ([12, 19, 10], [10, 12, 19]), ([10, 20, 7], [7, 10, 20]), ([7, 21], [7, 21]), ([22, 10], [22]), ([23], [23]), ([24, 23], [23, 24]), ([25, 23, 23], [23, 25]), ([26, 23], [23, 26]), ([23, 27], [23, 27]), ([28, 26], [28]), ([29], [29]), ([30, 29], [29, 30]), ([31, 29], [29, 31]), ([32, 29, 29], [29, 32]), ([33], [33]), ([34, 33], [33, 34]), ([35, 33], [33, 35]), ([33, 36, 29], [29, 33, 36]), ([29, 37], [29, 37])])
def impl_IsValidDisk.B6 : List Nat := [0, 1, 0, 4, 12, 31, 63, 127, 255, 511, 1023, 2047, 4095, 2047, 10239, 2047, 34815, 124927, 255999, 518143, 1048575, 2097151, 4194303, 8388607, 16777215, 33554431, 67108863, 134217727, 268435455, 536870911, 1073741823, 2147483647, 4294967295, 8589934591, 17179869183, 34359738367, 68719476735, 137438953471, 274877906943]
theorem impl_IsValidDisk.tab6 : rtab .any (opsOf Try.f36 6) = impl_IsValidDisk.T6 := by kernel_rfl
theorem impl_IsValidDisk.bits6 : waitsOk impl_IsValidDisk.T6.2 impl_IsValidDisk.B6 = true := by kernel_rfl
set_option maxHeartbeats 8000000 in
set_option maxRecDepth 100000 in
theorem impl_IsValidDisk.calls (k : Nat) (A0_0 : Option Addr) (c0_0 : Nat) (l0_0 : List (S80)) (a0_1 : Int) (r : Bool) (w : World) (hr0_0 : Kd.C k80 w A0_0 l0_0.length l0_0) (hc0_0 : l0_0.length ≤ c0_0) (h : impl_IsValidDisk.f k l0_0 a0_1 = some r) :
  Calls Try.prog 36 #[.agg #[.slice A0_0 l0_0.length c0_0, .int .i64 a0_1]] w fun e w' => e = .returned (.bool r) ∧ Below w.heap.size w w' := by
 have hu28 := Try.underlying28
 have hu80 := Try.underlying80
 have HR0_0 := kp hr0_0
 have HC0_0 := kp hc0_0
 clear hr0_0 hc0_0
 have HB := kp (Below.refl w.heap.size w)
 have H : ((impl_within.f a0_1 0 1000).bind fun t220 => (if t220 = true then ((impl_CountPages.f k l0_0 a0_1).bind fun t221 => (impl_IsValidDisk.j0 k (decide (t221 > 40)) l0_0 a0_1)) else (impl_IsValidDisk.j0 k true l0_0 a0_1))) = some r := h
 clear h
 have HC2 := kp H
 clear H
 go_enter Try.func36, Try.ntmps36
 go_upto_region 1 with (first | ((with_reducible refine gate_dst (N := 1) rfl ?_); refine bx_ 1 #[.slice A0_0 l0_0.length c0_0, .int .i64 a0_1] 28 ?_; intro gb219 hg w3 hbox hb; have n0_ := kp (below_step bb hb); have n1_ := kp (hbox); have n2_ := kp (bs hg); have n3_ := kp (bs hg); clear HB; have HB := n0_; have BK219 := n1_; have GW219 := n2_; have GE219 := n3_; clear n0_ n1_ n2_ n3_; clear hb hbox hg))
 (try simp only [Act.put, List.setIfInBounds_toArray, List.set_cons_zero, List.set_cons_succ])
 go_cut [13] (fun v13 wc => ∃ (kq : Nat) (x13_1 : Bool), v13 = .bool x13_1 ∧ Aside0 (impl_IsValidDisk.j0 kq x13_1 l0_0 a0_1 = some r) ∧ Aside0 (kq ≤ k) ∧ Aside0 (wc.heap[gb219]? = some (.cells #[(.slice A0_0 l0_0.length c0_0), .int .i64 a0_1] 28 (0, 0))) ∧ Aside0 (Below w.heap.size w wc))
 case first =>
  have H := HC2.out; clear HC2; replace H := Option.bind_eq_some_iff.mp H; obtain ⟨t220, A40, H⟩ := H; replace H : (if t220 = true then ((impl_CountPages.f k l0_0 a0_1).bind fun t221 => (impl_IsValidDisk.j0 k (decide (t221 > 40)) l0_0 a0_1)) else (impl_IsValidDisk.j0 k true l0_0 a0_1)) = some r := H; have A4 := kp A40; clear A40
  by_cases c5 : t220 = true
  ·subst c5; have H1 : ((impl_CountPages.f k l0_0 a0_1).bind fun t221 => (impl_IsValidDisk.j0 k (decide (t221 > 40)) l0_0 a0_1)) = some r := by rw [if_pos rfl] at H; exact H
   clear H; have H := H1; clear H1; replace H := Option.bind_eq_some_iff.mp H; obtain ⟨t221, A60, H⟩ := H; replace H : (impl_IsValidDisk.j0 k (decide (t221 > 40)) l0_0 a0_1) = some r := H; have A6 := kp A60; clear A60; have H' := kp H; clear H; have hcz7_0 : w3.cell? ⟨gb219, 0, none⟩ = some (.slice A0_0 l0_0.length c0_0) := (blk_cell BK219.out 0).trans rfl; have hcz7_1 : w3.cell? ⟨gb219, 1, none⟩ = some (.int .i64 a0_1) := (blk_cell BK219.out 1).trans rfl; have hfz7_0 := blk_frozen BK219.out 0; have hfz7_1 := blk_frozen BK219.out 1
   go_wp2_with (first | ((with_reducible refine gate_callee (f := 83) rfl ?_); refine gl_ 7 Try.func83 #[.int .i64 a0_1, .int .i64 0, .int .i64 1000] ?_; (with_reducible refine (impl_within.calls a0_1 0 1000 true _ A4.out).mono ?_); rintro e w' ⟨rfl, ⟨nd, rfl⟩⟩; refine ⟨_, rfl, ?_⟩) | (go_at_call 35; (with_reducible refine (impl_CountPages.calls k _ _ l0_0 a0_1 t221 _ ?side1 ?side2 A6.out).mono ?_); (case side1 => repeat (first | exact (Kd.C_below HR0_0.out bb) | (with_reducible refine Kd.C_alloc ?_ _) | (with_reducible refine Kd.C_drewN ?_ _) | (with_reducible refine Kd.C_drew ?_))); (case side2 => exact HC0_0.out); rintro e w8 ⟨rfl, hb⟩; have n0_ := kp (kb BK219.out hb); have n1_ := kp (below_step bb hb); clear BK219; clear HB; have BK219 := n0_; have HB := n1_; clear n0_ n1_; (try clear hb)))
   go_meet
   case rel => exact ⟨_, (decide (t221 > 40)), (by first | rfl | (simp; done) | (simp [*]; done)), H', ⟨by first | omega | exact Nat.le_refl _⟩, ⟨by (with_reducible repeat (first | apply bN | apply bD | apply bA)); exact BK219.out⟩, ⟨bb⟩⟩
  ·replace c5 := Bool.eq_false_iff.mpr c5; subst c5; have H1 : (impl_IsValidDisk.j0 k true l0_0 a0_1) = some r := by rw [if_neg (show ¬ (false = true) by decide)] at H; exact H
   clear H; have H := H1; clear H1; have H' := kp H; clear H; have hcz9_0 : w3.cell? ⟨gb219, 0, none⟩ = some (.slice A0_0 l0_0.length c0_0) := (blk_cell BK219.out 0).trans rfl; have hcz9_1 : w3.cell? ⟨gb219, 1, none⟩ = some (.int .i64 a0_1) := (blk_cell BK219.out 1).trans rfl; have hfz9_0 := blk_frozen BK219.out 0; have hfz9_1 := blk_frozen BK219.out 1
   go_wp2_with (first | ((with_reducible refine gate_callee (f := 83) rfl ?_); refine gl_ 7 Try.func83 #[.int .i64 a0_1, .int .i64 0, .int .i64 1000] ?_; (with_reducible refine (impl_within.calls a0_1 0 1000 false _ A4.out).mono ?_); rintro e w' ⟨rfl, ⟨nd, rfl⟩⟩; refine ⟨_, rfl, ?_⟩))
   go_meet
   case rel => exact ⟨_, (true), (by first | rfl | (simp; done) | (simp [*]; done)), H', ⟨by first | omega | exact Nat.le_refl _⟩, ⟨by (with_reducible repeat (first | apply bN | apply bD | apply bA)); exact BK219.out⟩, ⟨bb⟩⟩
 case rest =>
  clear HC2
  try clear p2
  try clear c3
  try clear c5
  try clear c8
  try clear hcz7_0
  try clear hcz7_1
  try clear hcz9_0
  try clear hcz9_1
  try clear hfz7_0
  try clear hfz7_1
  try clear hfz9_0
  try clear hfz9_1
  obtain ⟨kq, x13_1, rfl, HA, HJ1, BK219, HB⟩ := hcut
  cases kq with
  | zero => exact absurd HA.out (by simp [impl_IsValidDisk.j0])
  | succ kj1 =>
   have H := HA.out; clear HA; simp only [impl_IsValidDisk.j0] at H
   by_cases c10 : x13_1 = true
   ·subst c10; have H1 : (some false) = some r := by rw [if_pos rfl] at H; exact H
    clear H; have H := H1; clear H1; obtain rfl := Option.some.inj H; go_wp2; go_ret; exact ⟨er, bb⟩
   ·replace c10 := Bool.eq_false_iff.mpr c10; subst c10; have H1 : (impl_IsValidDisk.l0 kj1 l0_0 (l0_0.length : Int) 0 l0_0 a0_1) = some r := by rw [if_neg (show ¬ (false = true) by decide)] at H; exact H
    clear H; have H := H1; clear H1; have H' := kp H; clear H; have hcz11_0 : wc.cell? ⟨gb219, 0, none⟩ = some (.slice A0_0 l0_0.length c0_0) := (blk_cell BK219.out 0).trans rfl; have hcz11_1 : wc.cell? ⟨gb219, 1, none⟩ = some (.int .i64 a0_1) := (blk_cell BK219.out 1).trans rfl; have hfz11_0 := blk_frozen BK219.out 0; have hfz11_1 := blk_frozen BK219.out 1; go_wp2
    go_loopg [17] kj1 (fun kq v17 w' => ∃ (x17_2 : Int), v17 = .int .i64 x17_2 ∧ Aside0 (impl_IsValidDisk.l0 kq l0_0 (l0_0.length : Int) x17_2 l0_0 a0_1 = some r) ∧ Aside0 (kq ≤ kj1) ∧ Aside0 (w'.heap[gb219]? = some (.cells #[(.slice A0_0 l0_0.length c0_0), .int .i64 a0_1] 28 (0, 0))) ∧ Aside0 (Below w.heap.size w w'))
    case atStart => exact ⟨(0), (by first | rfl | (simp; done) | (simp [*]; done)), H', ⟨Nat.le_refl _⟩, ⟨by (with_reducible repeat (first | apply bN | apply bD | apply bA)); exact BK219.out⟩, ⟨bb⟩⟩
    case round =>
     clear H'
     try clear c1
     try clear p2
     try clear c3
     try clear c5
     try clear c8
     try clear c10
     try clear hcz11_0
     try clear hcz11_1
     try clear hcz7_0
     try clear hcz7_1
     try clear hcz9_0
     try clear hcz9_1
     try clear hfz11_0
     try clear hfz11_1
     try clear hfz7_0
     try clear hfz7_1
     try clear hfz9_0
     try clear hfz9_1
     try clear p2
     obtain ⟨x17_2, rfl, HA, HK2, BK219, HB⟩ := hrel
     cases gk with
     | zero => exact absurd HA.out (by simp [impl_IsValidDisk.l0])
     | succ k2 =>
      have H := HA.out; clear HA; simp only [impl_IsValidDisk.l0] at H
      by_cases c12 : x17_2 < (l0_0.length : Int)
      ·rw [if_pos c12] at H; have c12b0 : decide (x17_2 < (l0_0.length : Int)) = true := decide_eq_true c12; clear c12
       by_cases c13 : 0 ≤ x17_2
       ·rw [if_pos c13] at H; have c13b0 : decide (0 ≤ x17_2) = true := decide_eq_true c13; clear c13
        by_cases c14 : x17_2 < (l0_0.length : Int)
        ·rw [if_pos c14] at H; have c14b0 : decide (x17_2 < (l0_0.length : Int)) = true := decide_eq_true c14; clear c14; replace H := Option.bind_eq_some_iff.mp H; obtain ⟨t224, A150, H⟩ := H; replace H : (if t224 = true then (if x17_2 > 0 then (if 0 ≤ (wrap64 (x17_2 - 1)) then (if (wrap64 (x17_2 - 1)) < (l0_0.length : Int) then (if ((rd_T80 l0_0 x17_2).f0) ≤ ((rd_T80 l0_0 (wrap64 (x17_2 - 1))).f0) then (some false) else ((impl_validPages.f k2 ((rd_T80 l0_0 x17_2).f1)).bind fun t226 => (if t226 = true then (if ((rd_T80 l0_0 x17_2).f3 = true) then (impl_IsValidDisk.l0 k2 l0_0 (l0_0.length : Int) (wrap64 (x17_2 + 1)) l0_0 a0_1) else (if ((rd_T80 l0_0 x17_2).f2) = 0 then (impl_IsValidDisk.l0 k2 l0_0 (l0_0.length : Int) (wrap64 (x17_2 + 1)) l0_0 a0_1) else (some false))) else (some false)))) else (none)) else (none)) else ((impl_validPages.f k2 ((rd_T80 l0_0 x17_2).f1)).bind fun t227 => (if t227 = true then (if ((rd_T80 l0_0 x17_2).f3 = true) then (impl_IsValidDisk.l0 k2 l0_0 (l0_0.length : Int) (wrap64 (x17_2 + 1)) l0_0 a0_1) else (if ((rd_T80 l0_0 x17_2).f2) = 0 then (impl_IsValidDisk.l0 k2 l0_0 (l0_0.length : Int) (wrap64 (x17_2 + 1)) l0_0 a0_1) else (some false))) else (some false)))) else (some false)) = some r := H; have A15 := kp A150; clear A150
         by_cases c16 : t224 = true
         ·subst c16; have H1 : (if x17_2 > 0 then (if 0 ≤ (wrap64 (x17_2 - 1)) then (if (wrap64 (x17_2 - 1)) < (l0_0.length : Int) then (if ((rd_T80 l0_0 x17_2).f0) ≤ ((rd_T80 l0_0 (wrap64 (x17_2 - 1))).f0) then (some false) else ((impl_validPages.f k2 ((rd_T80 l0_0 x17_2).f1)).bind fun t226 => (if t226 = true then (if ((rd_T80 l0_0 x17_2).f3 = true) then (impl_IsValidDisk.l0 k2 l0_0 (l0_0.length : Int) (wrap64 (x17_2 + 1)) l0_0 a0_1) else (if ((rd_T80 l0_0 x17_2).f2) = 0 then (impl_IsValidDisk.l0 k2 l0_0 (l0_0.length : Int) (wrap64 (x17_2 + 1)) l0_0 a0_1) else (some false))) else (some false)))) else (none)) else (none)) else ((impl_validPages.f k2 ((rd_T80 l0_0 x17_2).f1)).bind fun t227 => (if t227 = true then (if ((rd_T80 l0_0 x17_2).f3 = true) then (impl_IsValidDisk.l0 k2 l0_0 (l0_0.length : Int) (wrap64 (x17_2 + 1)) l0_0 a0_1) else (if ((rd_T80 l0_0 x17_2).f2) = 0 then (impl_IsValidDisk.l0 k2 l0_0 (l0_0.length : Int) (wrap64 (x17_2 + 1)) l0_0 a0_1) else (some false))) else (some false)))) = some r := by rw [if_pos rfl] at H; exact H
          clear H; have H := H1; clear H1
          by_cases c17 : x17_2 > 0
          ·rw [if_pos c17] at H; have c17b0 : decide (0 < x17_2) = true := decide_eq_true c17; clear c17; obtain ⟨ji18, hji18⟩ : ∃ j_ : Int, (wrap64 (x17_2 - 1)) = j_ := ⟨_, rfl⟩; replace H : (if 0 ≤ (ji18) then (if (ji18) < (l0_0.length : Int) then (if ((rd_T80 l0_0 x17_2).f0) ≤ ((rd_T80 l0_0 (ji18)).f0) then (some false) else ((impl_validPages.f k2 ((rd_T80 l0_0 x17_2).f1)).bind fun t226 => (if t226 = true then (if ((rd_T80 l0_0 x17_2).f3 = true) then (impl_IsValidDisk.l0 k2 l0_0 (l0_0.length : Int) (wrap64 (x17_2 + 1)) l0_0 a0_1) else (if ((rd_T80 l0_0 x17_2).f2) = 0 then (impl_IsValidDisk.l0 k2 l0_0 (l0_0.length : Int) (wrap64 (x17_2 + 1)) l0_0 a0_1) else (some false))) else (some false)))) else (none)) else (none)) = some r := by first | (rw [hji18] at H; exact H) | (simp only [hji18] at H ⊢; exact H)
           (try rw [hji18] at A15); have hji18w : (IntKind.i64.wrap (x17_2 - 1)) = ji18 := (i64_w _).trans hji18
           by_cases c19 : 0 ≤ (ji18)
           ·rw [if_pos c19] at H; have c19b0 : decide (0 ≤ (ji18)) = true := decide_eq_true c19; clear c19
            by_cases c20 : (ji18) < (l0_0.length : Int)
            ·rw [if_pos c20] at H; have c20b0 : decide ((ji18) < (l0_0.length : Int)) = true := decide_eq_true c20; clear c20
             by_cases c21 : ((rd_T80 l0_0 x17_2).f0) ≤ ((rd_T80 l0_0 (ji18)).f0)
             ·rw [if_pos c21] at H; have c21b0 : decide (((rd_T80 l0_0 x17_2).f0) ≤ ((rd_T80 l0_0 (ji18)).f0)) = true := decide_eq_true c21; clear c21; obtain rfl := Option.some.inj H; have p222 : 0 ≤ (x17_2 : Int) := dt; have q222 : x17_2 < (l0_0.length : Int) := dt; obtain ⟨ad222, A222_1, c222_1, e222, hx222_0, hx222_1, hx222_2, hx222_3, hl222_1, hi222_1⟩ := at_T80 HR0_0.out x17_2 p222 q222; cases e222; replace hx222_0 := kc HB.out hx222_0; replace hx222_1 := kc HB.out hx222_1; replace hx222_2 := kc HB.out hx222_2; replace hx222_3 := kc HB.out hx222_3; have HR222_1 := kp hi222_1; have HC222_1 := kp hl222_1; clear hi222_1 hl222_1; replace p222 := eq_true p222; replace q222 := eq_true q222
              try go_wp2_with (first | ((with_reducible refine gate_dst (N := 4) rfl ?_); refine bx_ 4 #[.int .i64 0, .slice none 0 0, .int .i64 0, .bool false] 80 ?_; intro gb223 hg w22 hbox hb; have n0_ := kp (kb BK219.out hb); have n1_ := kp (below_step bb hb); have n2_ := kp (hbox); have n3_ := kp (bs hg); have n4_ := kp (bs hg); have n5_ := kp (bl hg BK219.out); have n6_ := kp (bg hg BK219.out); clear BK219; clear HB; have BK219 := n0_; have HB := n1_; have BK223 := n2_; have GW223 := n3_; have GE223 := n4_; have NB219_223 := n5_; have NB223_219 := n6_; clear n0_ n1_ n2_ n3_ n4_ n5_ n6_; clear hb hbox hg; have hnb23 := NB223_219.out; have hnc23 := NB219_223.out; have hcz24_0 : w22.cell? ⟨gb223, 0, none⟩ = some (.int .i64 0) := (blk_cell BK223.out 0).trans rfl; have hcz24_1 : w22.cell? ⟨gb223, 1, none⟩ = some (.slice none 0 0) := (blk_cell BK223.out 1).trans rfl; have hcz24_2 : w22.cell? ⟨gb223, 2, none⟩ = some (.int .i64 0) := (blk_cell BK223.out 2).trans rfl; have hcz24_3 : w22.cell? ⟨gb223, 3, none⟩ = some (.bool false) := (blk_cell BK223.out 3).trans rfl; have hfz24_0 := blk_frozen BK223.out 0; have hfz24_1 := blk_frozen BK223.out 1; have hfz24_2 := blk_frozen BK223.out 2; have hfz24_3 := blk_frozen BK223.out 3))
              have n0_ : Aside0 (((((w22.setCell ⟨gb223, 0, none⟩ (.int .i64 ((rd_T80 l0_0 x17_2).f0))).setCell ⟨gb223, 1, none⟩ (.slice A222_1 ((rd_T80 l0_0 x17_2).f1).length c222_1)).setCell ⟨gb223, 2, none⟩ (.int .i64 ((rd_T80 l0_0 x17_2).f2))).setCell ⟨gb223, 3, none⟩ (.bool ((rd_T80 l0_0 x17_2).f3))).heap[gb219]? = some (.cells #[.slice (some ad222) l0_0.length c0_0, .int .i64 a0_1] 28 (0, 0))) := ⟨by refine blk_far ?_ NB219_223.out _; refine blk_far ?_ NB219_223.out _; refine blk_far ?_ NB219_223.out _; refine blk_far ?_ NB219_223.out _; (with_reducible repeat (first | apply bN | apply bD | apply bA)); exact BK219.out⟩
              have n1_ : Aside0 (((((w22.setCell ⟨gb223, 0, none⟩ (.int .i64 ((rd_T80 l0_0 x17_2).f0))).setCell ⟨gb223, 1, none⟩ (.slice A222_1 ((rd_T80 l0_0 x17_2).f1).length c222_1)).setCell ⟨gb223, 2, none⟩ (.int .i64 ((rd_T80 l0_0 x17_2).f2))).setCell ⟨gb223, 3, none⟩ (.bool ((rd_T80 l0_0 x17_2).f3))).heap[gb223]? = some (.cells #[.int .i64 ((rd_T80 l0_0 x17_2).f0), .slice A222_1 ((rd_T80 l0_0 x17_2).f1).length c222_1, .int .i64 ((rd_T80 l0_0 x17_2).f2), .bool ((rd_T80 l0_0 x17_2).f3)] 80 (0, 0))) := ⟨by refine blk_put (cs := #[.int .i64 ((rd_T80 l0_0 x17_2).f0), .slice A222_1 ((rd_T80 l0_0 x17_2).f1).length c222_1, .int .i64 ((rd_T80 l0_0 x17_2).f2), .bool false]) ?_ 3 _ rfl; refine blk_put (cs := #[.int .i64 ((rd_T80 l0_0 x17_2).f0), .slice A222_1 ((rd_T80 l0_0 x17_2).f1).length c222_1, .int .i64 0, .bool false]) ?_ 2 _ rfl; refine blk_put (cs := #[.int .i64 ((rd_T80 l0_0 x17_2).f0), .slice none 0 0, .int .i64 0, .bool false]) ?_ 1 _ rfl; refine blk_put (cs := #[.int .i64 0, .slice none 0 0, .int .i64 0, .bool false]) ?_ 0 _ rfl; (with_reducible repeat (first | apply bN | apply bD | apply bA)); exact BK223.out⟩; have n2_ : Aside0 (Below w.heap.size w ((((w22.setCell ⟨gb223, 0, none⟩ (.int .i64 ((rd_T80 l0_0 x17_2).f0))).setCell ⟨gb223, 1, none⟩ (.slice A222_1 ((rd_T80 l0_0 x17_2).f1).length c222_1)).setCell ⟨gb223, 2, none⟩ (.int .i64 ((rd_T80 l0_0 x17_2).f2))).setCell ⟨gb223, 3, none⟩ (.bool ((rd_T80 l0_0 x17_2).f3)))) := ⟨bb⟩; (try clear BK219)
              (try clear BK223); (try clear HB); generalize ((((w22.setCell ⟨gb223, 0, none⟩ (.int .i64 ((rd_T80 l0_0 x17_2).f0))).setCell ⟨gb223, 1, none⟩ (.slice A222_1 ((rd_T80 l0_0 x17_2).f1).length c222_1)).setCell ⟨gb223, 2, none⟩ (.int .i64 ((rd_T80 l0_0 x17_2).f2))).setCell ⟨gb223, 3, none⟩ (.bool ((rd_T80 l0_0 x17_2).f3))) = w25 at n0_ n1_ n2_ ⊢; have BK219 := n0_; have BK223 := n1_; have HB := n2_; clear n0_ n1_ n2_; have n0_ := kp (blk_drew BK219.out); have n1_ := kp (blk_drew BK223.out); have n2_ := kp (below_drew1 HB.out); clear BK219; clear BK223; clear HB; have BK219 := n0_; have BK223 := n1_; have HB := n2_; clear n0_ n1_ n2_; have p225 : 0 ≤ ((ji18) : Int) := dt; have q225 : (ji18) < (l0_0.length : Int) := dt; obtain ⟨ad225, A225_1, c225_1, e225, hx225_0, hx225_1, hx225_2, hx225_3, hl225_1, hi225_1⟩ := at_T80 HR0_0.out (ji18) p225 q225; have hw225_3 := hx225_3; have hw225_2 := hx225_2; have hw225_1 := hx225_1; have hw225_0 := hx225_0; obtain rfl : ad222 = ad225 := (by injection e225); replace hx225_0 := kc HB.out hx225_0; replace hx225_1 := kc HB.out hx225_1; replace hx225_2 := kc HB.out hx225_2; replace hx225_3 := kc HB.out hx225_3; have HR225_1 := kp hi225_1; have HC225_1 := kp hl225_1; clear hi225_1 hl225_1; replace p225 := eq_true p225; replace q225 := eq_true q225
              refine start_ (n := 39) (S := fun w' => w'.cell? ⟨gb223, 0, none⟩ = some (.int .i64 ((rd_T80 l0_0 x17_2).f0)) ∧ w'.cell? ⟨gb223, 1, none⟩ = some (.slice A222_1 ((rd_T80 l0_0 x17_2).f1).length c222_1) ∧ w'.cell? ⟨gb223, 2, none⟩ = some (.int .i64 ((rd_T80 l0_0 x17_2).f2)) ∧ w'.cell? ⟨gb223, 3, none⟩ = some (.bool ((rd_T80 l0_0 x17_2).f3)) ∧ w'.cell? ⟨gb219, 0, none⟩ = some (.slice (some ad222) l0_0.length c0_0) ∧ w'.cell? ⟨gb219, 1, none⟩ = some (.int .i64 a0_1) ∧ w'.cell? (ad222.add (((ji18)).toNat * 4)) = some (.int .i64 ((rd_T80 l0_0 (ji18)).f0)) ∧ w'.cell? ⟨(ad222.add (((ji18)).toNat * 4)).block, (ad222.add (((ji18)).toNat * 4)).off + 1, none⟩ = some (.slice A225_1 ((rd_T80 l0_0 (ji18)).f1).length c225_1) ∧ w'.cell? ⟨(ad222.add (((ji18)).toNat * 4)).block, (ad222.add (((ji18)).toNat * 4)).off + 2, none⟩ = some (.int .i64 ((rd_T80 l0_0 (ji18)).f2)) ∧ w'.cell? ⟨(ad222.add (((ji18)).toNat * 4)).block, (ad222.add (((ji18)).toNat * 4)).off + 3, none⟩ = some (.bool ((rd_T80 l0_0 (ji18)).f3))) (ds := []) #[false, false, false, false, false, false, false, false, false, false, false, false, false, false, false, false, false, false, false, false, false, false, false, false, false, false, false, false, false, false, false, false, false, false, false, false, false, false, false] (by kernel_rfl) rfl rfl ⟨(blk_cell BK223.out 0).trans rfl, (blk_cell BK223.out 1).trans rfl, (blk_cell BK223.out 2).trans rfl, (blk_cell BK223.out 3).trans rfl, (blk_cell BK219.out 0).trans rfl, (blk_cell BK219.out 1).trans rfl, (kc HB.out hw225_0), (kc HB.out hw225_1), (kc HB.out hw225_2), (kc HB.out hw225_3)⟩ (fun hHeld => ?_); refine with_tabW impl_IsValidDisk.tab6 impl_IsValidDisk.bits6 (fun HT_ HW_ => ?_)
              generalize w25.drew = w26 at BK219 BK223 HB HR225_1 hx225_0 hx225_1 hx225_2 hx225_3 hHeld ⊢
              refine pq 0 22 HT_ ?_
              refine pq 2 24 HT_ ?_
              refine tq 1 23 HT_ HW_ hHeld ?_
              refine tq 3 25 HT_ HW_ hHeld ?_
              refine pq 4 26 HT_ ?_
              refine on_ 5 (some 27) HT_ (fun K hK => ?_); refine gs_ Try.func83 #[.int .i64 ((rd_T80 l0_0 x17_2).f0), .int .i64 0, .int .i64 (wrap64 (a0_1 - 1))] ?_; with_reducible refine (impl_within.calls ((rd_T80 l0_0 x17_2).f0) 0 (wrap64 (a0_1 - 1)) true _ A15.out).mono ?_
              rintro e w' ⟨rfl, ⟨nd, rfl⟩⟩; refine ⟨_, rfl, ?_⟩; refine hK.out _ _ ⟨(blk_cell BK223.out 0).trans rfl, (blk_cell BK223.out 1).trans rfl, (blk_cell BK223.out 2).trans rfl, (blk_cell BK223.out 3).trans rfl, (blk_cell BK219.out 0).trans rfl, (blk_cell BK219.out 1).trans rfl, (kc HB.out hw225_0), (kc HB.out hw225_1), (kc HB.out hw225_2), (kc HB.out hw225_3)⟩ (fun hHeld => ?_); clear hK K; refine nm_ (some 27) ?_
              refine pq 6 28 HT_ ?_
              refine pq 7 29 HT_ ?_
              refine pq 8 30 HT_ ?_
              refine pq 9 31 HT_ ?_
              refine pq 10 32 HT_ ?_
              refine pq 11 33 HT_ ?_
              refine pq 13 35 HT_ ?_
              refine pq 15 37 HT_ ?_
              refine pq 16 38 HT_ ?_
              refine tq 12 34 HT_ HW_ hHeld ?_
              refine tq 14 36 HT_ HW_ hHeld ?_
              refine pq 17 39 HT_ ?_
              refine pq 18 40 HT_ ?_
              refine tq 19 41 HT_ HW_ hHeld ?_
              refine pq 20 42 HT_ ?_
              refine pq 21 43 HT_ ?_
              refine pq 22 44 HT_ ?_
              refine pq 23 45 HT_ ?_
              refine uq 24 46 HT_ ?_
              refine uq 25 47 HT_ ?_
              refine uq 26 48 HT_ ?_
              refine uq 27 49 HT_ ?_
              refine pq 28 50 HT_ ?_
              refine pq 29 51 HT_ ?_
              refine uq 30 52 HT_ ?_
              refine uq 31 53 HT_ ?_
              refine uq 32 54 HT_ ?_
              refine uq 33 55 HT_ ?_
              refine uq 34 56 HT_ ?_
              refine uq 35 57 HT_ ?_
              refine uq 36 58 HT_ ?_
              refine uq 37 59 HT_ ?_
              refine pq 38 60 HT_ ?_
              refine done_ (done_of HT_.out (by kernel_rfl)) ?_
              try go_wp2
              go_ret; exact ⟨by first | rfl | (simp [errW_none, errW_some] <;> rfl) | (simp only [← hji18]; first | rfl | (simp [errW_none, errW_some] <;> rfl)) | (simp [*, errW_none, errW_some] <;> rfl), bb⟩
             ·rw [if_neg c21] at H; have c21b0 : decide (((rd_T80 l0_0 x17_2).f0) ≤ ((rd_T80 l0_0 (ji18)).f0)) = false := decide_eq_false c21; clear c21; replace H := Option.bind_eq_some_iff.mp H; obtain ⟨t226, A270, H⟩ := H; replace H : (if t226 = true then (if ((rd_T80 l0_0 x17_2).f3 = true) then (impl_IsValidDisk.l0 k2 l0_0 (l0_0.length : Int) (wrap64 (x17_2 + 1)) l0_0 a0_1) else (if ((rd_T80 l0_0 x17_2).f2) = 0 then (impl_IsValidDisk.l0 k2 l0_0 (l0_0.length : Int) (wrap64 (x17_2 + 1)) l0_0 a0_1) else (some false))) else (some false)) = some r := H; have A27 := kp A270; clear A270
              by_cases c28 : t226 = true
              ·subst c28; have H1 : (if ((rd_T80 l0_0 x17_2).f3 = true) then (impl_IsValidDisk.l0 k2 l0_0 (l0_0.length : Int) (wrap64 (x17_2 + 1)) l0_0 a0_1) else (if ((rd_T80 l0_0 x17_2).f2) = 0 then (impl_IsValidDisk.l0 k2 l0_0 (l0_0.length : Int) (wrap64 (x17_2 + 1)) l0_0 a0_1) else (some false))) = some r := by rw [if_pos rfl] at H; exact H
               clear H; have H := H1; clear H1; obtain ⟨bq29, hbq29⟩ : ∃ b_ : Bool, b_ = ((rd_T80 l0_0 x17_2).f3) := ⟨_, rfl⟩; replace H : (if (bq29 = true) then (impl_IsValidDisk.l0 k2 l0_0 (l0_0.length : Int) (wrap64 (x17_2 + 1)) l0_0 a0_1) else (if ((rd_T80 l0_0 x17_2).f2) = 0 then (impl_IsValidDisk.l0 k2 l0_0 (l0_0.length : Int) (wrap64 (x17_2 + 1)) l0_0 a0_1) else (some false))) = some r := by rw [← hbq29] at H; exact H
               have Nbq29 := kp hbq29; clear hbq29
               by_cases c30 : (bq29 = true)
               ·subst c30; have H1 : (impl_IsValidDisk.l0 k2 l0_0 (l0_0.length : Int) (wrap64 (x17_2 + 1)) l0_0 a0_1) = some r := by rw [if_pos rfl] at H; exact H
                clear H; have H := H1; clear H1; have H' := kp H; clear H; have p222 : 0 ≤ (x17_2 : Int) := dt; have q222 : x17_2 < (l0_0.length : Int) := dt; obtain ⟨ad222, A222_1, c222_1, e222, hx222_0, hx222_1, hx222_2, hx222_3, hl222_1, hi222_1⟩ := at_T80 HR0_0.out x17_2 p222 q222; (try rw [← Nbq29.out] at hx222_3); (try rw [← Nbq29.out] at hw222_3); cases e222; replace hx222_0 := kc HB.out hx222_0; replace hx222_1 := kc HB.out hx222_1; replace hx222_2 := kc HB.out hx222_2; replace hx222_3 := kc HB.out hx222_3; have HR222_1 := kp hi222_1; have HC222_1 := kp hl222_1; clear hi222_1 hl222_1; replace p222 := eq_true p222; replace q222 := eq_true q222
                try go_wp2_with (first | ((with_reducible refine gate_dst (N := 4) rfl ?_); refine bx_ 4 #[.int .i64 0, .slice none 0 0, .int .i64 0, .bool false] 80 ?_; intro gb223 hg w31 hbox hb; have n0_ := kp (kb BK219.out hb); have n1_ := kp (below_step bb hb); have n2_ := kp (hbox); have n3_ := kp (bs hg); have n4_ := kp (bs hg); have n5_ := kp (bl hg BK219.out); have n6_ := kp (bg hg BK219.out); clear BK219; clear HB; have BK219 := n0_; have HB := n1_; have BK223 := n2_; have GW223 := n3_; have GE223 := n4_; have NB219_223 := n5_; have NB223_219 := n6_; clear n0_ n1_ n2_ n3_ n4_ n5_ n6_; clear hb hbox hg; have hnb32 := NB223_219.out; have hnc32 := NB219_223.out; have hcz33_0 : w31.cell? ⟨gb223, 0, none⟩ = some (.int .i64 0) := (blk_cell BK223.out 0).trans rfl; have hcz33_1 : w31.cell? ⟨gb223, 1, none⟩ = some (.slice none 0 0) := (blk_cell BK223.out 1).trans rfl; have hcz33_2 : w31.cell? ⟨gb223, 2, none⟩ = some (.int .i64 0) := (blk_cell BK223.out 2).trans rfl; have hcz33_3 : w31.cell? ⟨gb223, 3, none⟩ = some (.bool false) := (blk_cell BK223.out 3).trans rfl; have hfz33_0 := blk_frozen BK223.out 0; have hfz33_1 := blk_frozen BK223.out 1; have hfz33_2 := blk_frozen BK223.out 2; have hfz33_3 := blk_frozen BK223.out 3))
                have n0_ : Aside0 (((((w31.setCell ⟨gb223, 0, none⟩ (.int .i64 ((rd_T80 l0_0 x17_2).f0))).setCell ⟨gb223, 1, none⟩ (.slice A222_1 ((rd_T80 l0_0 x17_2).f1).length c222_1)).setCell ⟨gb223, 2, none⟩ (.int .i64 ((rd_T80 l0_0 x17_2).f2))).setCell ⟨gb223, 3, none⟩ (.bool true)).heap[gb219]? = some (.cells #[.slice (some ad222) l0_0.length c0_0, .int .i64 a0_1] 28 (0, 0))) := ⟨by refine blk_far ?_ NB219_223.out _; refine blk_far ?_ NB219_223.out _; refine blk_far ?_ NB219_223.out _; refine blk_far ?_ NB219_223.out _; (with_reducible repeat (first | apply bN | apply bD | apply bA)); exact BK219.out⟩
                have n1_ : Aside0 (((((w31.setCell ⟨gb223, 0, none⟩ (.int .i64 ((rd_T80 l0_0 x17_2).f0))).setCell ⟨gb223, 1, none⟩ (.slice A222_1 ((rd_T80 l0_0 x17_2).f1).length c222_1)).setCell ⟨gb223, 2, none⟩ (.int .i64 ((rd_T80 l0_0 x17_2).f2))).setCell ⟨gb223, 3, none⟩ (.bool true)).heap[gb223]? = some (.cells #[.int .i64 ((rd_T80 l0_0 x17_2).f0), .slice A222_1 ((rd_T80 l0_0 x17_2).f1).length c222_1, .int .i64 ((rd_T80 l0_0 x17_2).f2), .bool true] 80 (0, 0))) := ⟨by refine blk_put (cs := #[.int .i64 ((rd_T80 l0_0 x17_2).f0), .slice A222_1 ((rd_T80 l0_0 x17_2).f1).length c222_1, .int .i64 ((rd_T80 l0_0 x17_2).f2), .bool false]) ?_ 3 _ rfl; refine blk_put (cs := #[.int .i64 ((rd_T80 l0_0 x17_2).f0), .slice A222_1 ((rd_T80 l0_0 x17_2).f1).length c222_1, .int .i64 0, .bool false]) ?_ 2 _ rfl; refine blk_put (cs := #[.int .i64 ((rd_T80 l0_0 x17_2).f0), .slice none 0 0, .int .i64 0, .bool false]) ?_ 1 _ rfl; refine blk_put (cs := #[.int .i64 0, .slice none 0 0, .int .i64 0, .bool false]) ?_ 0 _ rfl; (with_reducible repeat (first | apply bN | apply bD | apply bA)); exact BK223.out⟩; have n2_ : Aside0 (Below w.heap.size w ((((w31.setCell ⟨gb223, 0, none⟩ (.int .i64 ((rd_T80 l0_0 x17_2).f0))).setCell ⟨gb223, 1, none⟩ (.slice A222_1 ((rd_T80 l0_0 x17_2).f1).length c222_1)).setCell ⟨gb223, 2, none⟩ (.int .i64 ((rd_T80 l0_0 x17_2).f2))).setCell ⟨gb223, 3, none⟩ (.bool true))) := ⟨bb⟩; (try clear BK219); (try clear BK223); (try clear HB)
                generalize ((((w31.setCell ⟨gb223, 0, none⟩ (.int .i64 ((rd_T80 l0_0 x17_2).f0))).setCell ⟨gb223, 1, none⟩ (.slice A222_1 ((rd_T80 l0_0 x17_2).f1).length c222_1)).setCell ⟨gb223, 2, none⟩ (.int .i64 ((rd_T80 l0_0 x17_2).f2))).setCell ⟨gb223, 3, none⟩ (.bool true)) = w34 at n0_ n1_ n2_ ⊢; have BK219 := n0_; have BK223 := n1_; have HB := n2_; clear n0_ n1_ n2_; have n0_ := kp (blk_drew BK219.out); have n1_ := kp (blk_drew BK223.out); have n2_ := kp (below_drew1 HB.out); clear BK219; clear BK223; clear HB; have BK219 := n0_; have BK223 := n1_; have HB := n2_; clear n0_ n1_ n2_; have p225 : 0 ≤ ((ji18) : Int) := dt; have q225 : (ji18) < (l0_0.length : Int) := dt; obtain ⟨ad225, A225_1, c225_1, e225, hx225_0, hx225_1, hx225_2, hx225_3, hl225_1, hi225_1⟩ := at_T80 HR0_0.out (ji18) p225 q225; have hw225_3 := hx225_3; have hw225_2 := hx225_2; have hw225_1 := hx225_1; have hw225_0 := hx225_0; (try rw [← Nbq29.out] at hx225_3); (try rw [← Nbq29.out] at hw225_3); obtain rfl : ad222 = ad225 := (by injection e225); replace hx225_0 := kc HB.out hx225_0; replace hx225_1 := kc HB.out hx225_1; replace hx225_2 := kc HB.out hx225_2; replace hx225_3 := kc HB.out hx225_3; have HR225_1 := kp hi225_1; have HC225_1 := kp hl225_1; clear hi225_1 hl225_1; replace p225 := eq_true p225; replace q225 := eq_true q225
                refine start_ (n := 39) (S := fun w' => w'.cell? ⟨gb223, 0, none⟩ = some (.int .i64 ((rd_T80 l0_0 x17_2).f0)) ∧ w'.cell? ⟨gb223, 1, none⟩ = some (.slice A222_1 ((rd_T80 l0_0 x17_2).f1).length c222_1) ∧ w'.cell? ⟨gb223, 2, none⟩ = some (.int .i64 ((rd_T80 l0_0 x17_2).f2)) ∧ w'.cell? ⟨gb223, 3, none⟩ = some (.bool true) ∧ w'.cell? ⟨gb219, 0, none⟩ = some (.slice (some ad222) l0_0.length c0_0) ∧ w'.cell? ⟨gb219, 1, none⟩ = some (.int .i64 a0_1) ∧ w'.cell? (ad222.add (((ji18)).toNat * 4)) = some (.int .i64 ((rd_T80 l0_0 (ji18)).f0)) ∧ w'.cell? ⟨(ad222.add (((ji18)).toNat * 4)).block, (ad222.add (((ji18)).toNat * 4)).off + 1, none⟩ = some (.slice A225_1 ((rd_T80 l0_0 (ji18)).f1).length c225_1) ∧ w'.cell? ⟨(ad222.add (((ji18)).toNat * 4)).block, (ad222.add (((ji18)).toNat * 4)).off + 2, none⟩ = some (.int .i64 ((rd_T80 l0_0 (ji18)).f2)) ∧ w'.cell? ⟨(ad222.add (((ji18)).toNat * 4)).block, (ad222.add (((ji18)).toNat * 4)).off + 3, none⟩ = some (.bool ((rd_T80 l0_0 (ji18)).f3))) (ds := []) #[false, false, false, false, false, false, false, false, false, false, false, false, false, false, false, false, false, false, false, false, false, false, false, false, false, false, false, false, false, false, false, false, false, false, false, false, false, false, false] (by kernel_rfl) rfl rfl ⟨(blk_cell BK223.out 0).trans rfl, (blk_cell BK223.out 1).trans rfl, (blk_cell BK223.out 2).trans rfl, (blk_cell BK223.out 3).trans rfl, (blk_cell BK219.out 0).trans rfl, (blk_cell BK219.out 1).trans rfl, (kc HB.out hw225_0), (kc HB.out hw225_1), (kc HB.out hw225_2), (kc HB.out hw225_3)⟩ (fun hHeld => ?_); refine with_tabW impl_IsValidDisk.tab6 impl_IsValidDisk.bits6 (fun HT_ HW_ => ?_)
                generalize w34.drew = w35 at BK219 BK223 HB HR225_1 hx225_0 hx225_1 hx225_2 hx225_3 hHeld ⊢
                refine pq 0 22 HT_ ?_
                refine pq 2 24 HT_ ?_
                refine tq 1 23 HT_ HW_ hHeld ?_
                refine tq 3 25 HT_ HW_ hHeld ?_
                refine pq 4 26 HT_ ?_
                refine on_ 5 (some 27) HT_ (fun K hK => ?_); refine gs_ Try.func83 #[.int .i64 ((rd_T80 l0_0 x17_2).f0), .int .i64 0, .int .i64 (wrap64 (a0_1 - 1))] ?_; with_reducible refine (impl_within.calls ((rd_T80 l0_0 x17_2).f0) 0 (wrap64 (a0_1 - 1)) true _ A15.out).mono ?_
                rintro e w' ⟨rfl, ⟨nd, rfl⟩⟩; refine ⟨_, rfl, ?_⟩; refine hK.out _ _ ⟨(blk_cell BK223.out 0).trans rfl, (blk_cell BK223.out 1).trans rfl, (blk_cell BK223.out 2).trans rfl, (blk_cell BK223.out 3).trans rfl, (blk_cell BK219.out 0).trans rfl, (blk_cell BK219.out 1).trans rfl, (kc HB.out hw225_0), (kc HB.out hw225_1), (kc HB.out hw225_2), (kc HB.out hw225_3)⟩ (fun hHeld => ?_); clear hK K; refine nm_ (some 27) ?_
                refine pq 6 28 HT_ ?_
                refine pq 7 29 HT_ ?_
                refine pq 8 30 HT_ ?_
                refine pq 9 31 HT_ ?_
                refine pq 10 32 HT_ ?_
                refine pq 11 33 HT_ ?_
                refine pq 13 35 HT_ ?_
                refine pq 15 37 HT_ ?_
                refine pq 16 38 HT_ ?_
                refine tq 12 34 HT_ HW_ hHeld ?_
                refine tq 14 36 HT_ HW_ hHeld ?_
                refine pq 17 39 HT_ ?_
                refine pq 18 40 HT_ ?_
                refine tq 19 41 HT_ HW_ hHeld ?_
                refine pq 20 42 HT_ ?_
                refine pq 21 43 HT_ ?_
                refine pq 22 44 HT_ ?_
                refine pq 23 45 HT_ ?_
                refine pq 24 46 HT_ ?_
                refine tq 25 47 HT_ HW_ hHeld ?_
                refine on_ 26 (some 48) HT_ (fun K hK => ?_); refine gs_ Try.func84 #[.slice A222_1 ((rd_T80 l0_0 x17_2).f1).length c222_1] ?_; with_reducible refine (impl_validPages.calls k2 _ _ ((rd_T80 l0_0 x17_2).f1) true _ ?side1 ?side2 A27.out).mono ?_
                (case side1 => repeat (first | exact (Kd.C_below HR222_1.out bb) | (with_reducible refine Kd.C_alloc ?_ _) | (with_reducible refine Kd.C_drewN ?_ _) | (with_reducible refine Kd.C_drew ?_))); (case side2 => exact HC222_1.out); rintro e w36 ⟨rfl, hb⟩; refine ⟨_, rfl, ?_⟩; have n0_ := kp (kb BK219.out hb); have n1_ := kp (kb BK223.out hb); have n2_ := kp (below_step bb hb); clear BK219; clear BK223; clear HB; have BK219 := n0_; have BK223 := n1_; have HB := n2_; clear n0_ n1_ n2_; (try clear hb); (try clear hk); refine hK.out _ _ ⟨(blk_cell BK223.out 0).trans rfl, (blk_cell BK223.out 1).trans rfl, (blk_cell BK223.out 2).trans rfl, (blk_cell BK223.out 3).trans rfl, (blk_cell BK219.out 0).trans rfl, (blk_cell BK219.out 1).trans rfl, (kc HB.out hw225_0), (kc HB.out hw225_1), (kc HB.out hw225_2), (kc HB.out hw225_3)⟩ (fun hHeld => ?_); clear hK K; refine nm_ (some 48) ?_
                refine pq 27 49 HT_ ?_
                refine pq 28 50 HT_ ?_
                refine pq 29 51 HT_ ?_
                refine pq 30 52 HT_ ?_
                refine tq 31 53 HT_ HW_ hHeld ?_
                refine pq 32 54 HT_ ?_
                refine pq 33 55 HT_ ?_
                refine uq 34 56 HT_ ?_
                refine uq 35 57 HT_ ?_
                refine uq 36 58 HT_ ?_
                refine pq 37 59 HT_ ?_
                refine pq 38 60 HT_ ?_
                refine done_ (done_of HT_.out (by kernel_rfl)) ?_
                try go_wp2
                go_roundg k2
                case measure => have := HJ1.out; have := HK2.out; omega
                case rel => exact ⟨(wrap64 (x17_2 + 1)), (by first | rfl | (simp; done) | (simp [*]; done)), H', ⟨by have := HJ1.out; have := HK2.out; omega⟩, ⟨by (with_reducible repeat (first | apply bN | apply bD | apply bA)); exact BK219.out⟩, ⟨bb⟩⟩
               ·replace c30 := Bool.eq_false_iff.mpr c30; subst c30; have H1 : (if ((rd_T80 l0_0 x17_2).f2) = 0 then (impl_IsValidDisk.l0 k2 l0_0 (l0_0.length : Int) (wrap64 (x17_2 + 1)) l0_0 a0_1) else (some false)) = some r := by rw [if_neg (show ¬ (false = true) by decide)] at H; exact H
                clear H; have H := H1; clear H1
                by_cases c37 : ((rd_T80 l0_0 x17_2).f2) = 0
                ·rw [if_pos c37] at H; have c37b0 : (((rd_T80 l0_0 x17_2).f2) == 0) = true := beq_iff_eq.mpr c37; have c37b1 : (((rd_T80 l0_0 x17_2).f2) != 0) = false := bne_eq_false_iff_eq.mpr c37; clear c37; have H' := kp H; clear H; have p222 : 0 ≤ (x17_2 : Int) := dt; have q222 : x17_2 < (l0_0.length : Int) := dt; obtain ⟨ad222, A222_1, c222_1, e222, hx222_0, hx222_1, hx222_2, hx222_3, hl222_1, hi222_1⟩ := at_T80 HR0_0.out x17_2 p222 q222; (try rw [← Nbq29.out] at hx222_3); (try rw [← Nbq29.out] at hw222_3); cases e222; replace hx222_0 := kc HB.out hx222_0; replace hx222_1 := kc HB.out hx222_1; replace hx222_2 := kc HB.out hx222_2; replace hx222_3 := kc HB.out hx222_3; have HR222_1 := kp hi222_1; have HC222_1 := kp hl222_1; clear hi222_1 hl222_1; replace p222 := eq_true p222; replace q222 := eq_true q222
                 try go_wp2_with (first | ((with_reducible refine gate_dst (N := 4) rfl ?_); refine bx_ 4 #[.int .i64 0, .slice none 0 0, .int .i64 0, .bool false] 80 ?_; intro gb223 hg w38 hbox hb; have n0_ := kp (kb BK219.out hb); have n1_ := kp (below_step bb hb); have n2_ := kp (hbox); have n3_ := kp (bs hg); have n4_ := kp (bs hg); have n5_ := kp (bl hg BK219.out); have n6_ := kp (bg hg BK219.out); clear BK219; clear HB; have BK219 := n0_; have HB := n1_; have BK223 := n2_; have GW223 := n3_; have GE223 := n4_; have NB219_223 := n5_; have NB223_219 := n6_; clear n0_ n1_ n2_ n3_ n4_ n5_ n6_; clear hb hbox hg; have hnb39 := NB223_219.out; have hnc39 := NB219_223.out; have hcz40_0 : w38.cell? ⟨gb223, 0, none⟩ = some (.int .i64 0) := (blk_cell BK223.out 0).trans rfl; have hcz40_1 : w38.cell? ⟨gb223, 1, none⟩ = some (.slice none 0 0) := (blk_cell BK223.out 1).trans rfl; have hcz40_2 : w38.cell? ⟨gb223, 2, none⟩ = some (.int .i64 0) := (blk_cell BK223.out 2).trans rfl; have hcz40_3 : w38.cell? ⟨gb223, 3, none⟩ = some (.bool false) := (blk_cell BK223.out 3).trans rfl; have hfz40_0 := blk_frozen BK223.out 0; have hfz40_1 := blk_frozen BK223.out 1; have hfz40_2 := blk_frozen BK223.out 2; have hfz40_3 := blk_frozen BK223.out 3))
                 have n0_ : Aside0 (((((w38.setCell ⟨gb223, 0, none⟩ (.int .i64 ((rd_T80 l0_0 x17_2).f0))).setCell ⟨gb223, 1, none⟩ (.slice A222_1 ((rd_T80 l0_0 x17_2).f1).length c222_1)).setCell ⟨gb223, 2, none⟩ (.int .i64 ((rd_T80 l0_0 x17_2).f2))).setCell ⟨gb223, 3, none⟩ (.bool false)).heap[gb219]? = some (.cells #[.slice (some ad222) l0_0.length c0_0, .int .i64 a0_1] 28 (0, 0))) := ⟨by refine blk_far ?_ NB219_223.out _; refine blk_far ?_ NB219_223.out _; refine blk_far ?_ NB219_223.out _; refine blk_far ?_ NB219_223.out _; (with_reducible repeat (first | apply bN | apply bD | apply bA)); exact BK219.out⟩
                 have n1_ : Aside0 (((((w38.setCell ⟨gb223, 0, none⟩ (.int .i64 ((rd_T80 l0_0 x17_2).f0))).setCell ⟨gb223, 1, none⟩ (.slice A222_1 ((rd_T80 l0_0 x17_2).f1).length c222_1)).setCell ⟨gb223, 2, none⟩ (.int .i64 ((rd_T80 l0_0 x17_2).f2))).setCell ⟨gb223, 3, none⟩ (.bool false)).heap[gb223]? = some (.cells #[.int .i64 ((rd_T80 l0_0 x17_2).f0), .slice A222_1 ((rd_T80 l0_0 x17_2).f1).length c222_1, .int .i64 ((rd_T80 l0_0 x17_2).f2), .bool false] 80 (0, 0))) := ⟨by refine blk_put (cs := #[.int .i64 ((rd_T80 l0_0 x17_2).f0), .slice A222_1 ((rd_T80 l0_0 x17_2).f1).length c222_1, .int .i64 ((rd_T80 l0_0 x17_2).f2), .bool false]) ?_ 3 _ rfl; refine blk_put (cs := #[.int .i64 ((rd_T80 l0_0 x17_2).f0), .slice A222_1 ((rd_T80 l0_0 x17_2).f1).length c222_1, .int .i64 0, .bool false]) ?_ 2 _ rfl; refine blk_put (cs := #[.int .i64 ((rd_T80 l0_0 x17_2).f0), .slice none 0 0, .int .i64 0, .bool false]) ?_ 1 _ rfl; refine blk_put (cs := #[.int .i64 0, .slice none 0 0, .int .i64 0, .bool false]) ?_ 0 _ rfl; (with_reducible repeat (first | apply bN | apply bD | apply bA)); exact BK223.out⟩; have n2_ : Aside0 (Below w.heap.size w ((((w38.setCell ⟨gb223, 0, none⟩ (.int .i64 ((rd_T80 l0_0 x17_2).f0))).setCell ⟨gb223, 1, none⟩ (.slice A222_1 ((rd_T80 l0_0 x17_2).f1).length c222_1)).setCell ⟨gb223, 2, none⟩ (.int .i64 ((rd_T80 l0_0 x17_2).f2))).setCell ⟨gb223, 3, none⟩ (.bool false))) := ⟨bb⟩; (try clear BK219); (try clear BK223); (try clear HB)
                 generalize ((((w38.setCell ⟨gb223, 0, none⟩ (.int .i64 ((rd_T80 l0_0 x17_2).f0))).setCell ⟨gb223, 1, none⟩ (.slice A222_1 ((rd_T80 l0_0 x17_2).f1).length c222_1)).setCell ⟨gb223, 2, none⟩ (.int .i64 ((rd_T80 l0_0 x17_2).f2))).setCell ⟨gb223, 3, none⟩ (.bool false)) = w41 at n0_ n1_ n2_ ⊢; have BK219 := n0_; have BK223 := n1_; have HB := n2_; clear n0_ n1_ n2_; have n0_ := kp (blk_drew BK219.out); have n1_ := kp (blk_drew BK223.out); have n2_ := kp (below_drew1 HB.out); clear BK219; clear BK223; clear HB; have BK219 := n0_; have BK223 := n1_; have HB := n2_; clear n0_ n1_ n2_; have p225 : 0 ≤ ((ji18) : Int) := dt; have q225 : (ji18) < (l0_0.length : Int) := dt; obtain ⟨ad225, A225_1, c225_1, e225, hx225_0, hx225_1, hx225_2, hx225_3, hl225_1, hi225_1⟩ := at_T80 HR0_0.out (ji18) p225 q225; have hw225_3 := hx225_3; have hw225_2 := hx225_2; have hw225_1 := hx225_1; have hw225_0 := hx225_0; (try rw [← Nbq29.out] at hx225_3); (try rw [← Nbq29.out] at hw225_3); obtain rfl : ad222 = ad225 := (by injection e225); replace hx225_0 := kc HB.out hx225_0; replace hx225_1 := kc HB.out hx225_1; replace hx225_2 := kc HB.out hx225_2; replace hx225_3 := kc HB.out hx225_3; have HR225_1 := kp hi225_1; have HC225_1 := kp hl225_1; clear hi225_1 hl225_1; replace p225 := eq_true p225; replace q225 := eq_true q225
                 refine start_ (n := 39) (S := fun w' => w'.cell? ⟨gb223, 0, none⟩ = some (.int .i64 ((rd_T80 l0_0 x17_2).f0)) ∧ w'.cell? ⟨gb223, 1, none⟩ = some (.slice A222_1 ((rd_T80 l0_0 x17_2).f1).length c222_1) ∧ w'.cell? ⟨gb223, 2, none⟩ = some (.int .i64 ((rd_T80 l0_0 x17_2).f2)) ∧ w'.cell? ⟨gb223, 3, none⟩ = some (.bool false) ∧ w'.cell? ⟨gb219, 0, none⟩ = some (.slice (some ad222) l0_0.length c0_0) ∧ w'.cell? ⟨gb219, 1, none⟩ = some (.int .i64 a0_1) ∧ w'.cell? (ad222.add (((ji18)).toNat * 4)) = some (.int .i64 ((rd_T80 l0_0 (ji18)).f0)) ∧ w'.cell? ⟨(ad222.add (((ji18)).toNat * 4)).block, (ad222.add (((ji18)).toNat * 4)).off + 1, none⟩ = some (.slice A225_1 ((rd_T80 l0_0 (ji18)).f1).length c225_1) ∧ w'.cell? ⟨(ad222.add (((ji18)).toNat * 4)).block, (ad222.add (((ji18)).toNat * 4)).off + 2, none⟩ = some (.int .i64 ((rd_T80 l0_0 (ji18)).f2)) ∧ w'.cell? ⟨(ad222.add (((ji18)).toNat * 4)).block, (ad222.add (((ji18)).toNat * 4)).off + 3, none⟩ = some (.bool ((rd_T80 l0_0 (ji18)).f3))) (ds := []) #[false, false, false, false, false, false, false, false, false, false, false, false, false, false, false, false, false, false, false, false, false, false, false, false, false, false, false, false, false, false, false, false, false, false, false, false, false, false, false] (by kernel_rfl) rfl rfl ⟨(blk_cell BK223.out 0).trans rfl, (blk_cell BK223.out 1).trans rfl, (blk_cell BK223.out 2).trans rfl, (blk_cell BK223.out 3).trans rfl, (blk_cell BK219.out 0).trans rfl, (blk_cell BK219.out 1).trans rfl, (kc HB.out hw225_0), (kc HB.out hw225_1), (kc HB.out hw225_2), (kc HB.out hw225_3)⟩ (fun hHeld => ?_); refine with_tabW impl_IsValidDisk.tab6 impl_IsValidDisk.bits6 (fun HT_ HW_ => ?_)
                 generalize w41.drew = w42 at BK219 BK223 HB HR225_1 hx225_0 hx225_1 hx225_2 hx225_3 hHeld ⊢
                 refine pq 0 22 HT_ ?_
                 refine pq 2 24 HT_ ?_
                 refine tq 1 23 HT_ HW_ hHeld ?_
                 refine tq 3 25 HT_ HW_ hHeld ?_
                 refine pq 4 26 HT_ ?_
                 refine on_ 5 (some 27) HT_ (fun K hK => ?_); refine gs_ Try.func83 #[.int .i64 ((rd_T80 l0_0 x17_2).f0), .int .i64 0, .int .i64 (wrap64 (a0_1 - 1))] ?_; with_reducible refine (impl_within.calls ((rd_T80 l0_0 x17_2).f0) 0 (wrap64 (a0_1 - 1)) true _ A15.out).mono ?_
                 rintro e w' ⟨rfl, ⟨nd, rfl⟩⟩; refine ⟨_, rfl, ?_⟩; refine hK.out _ _ ⟨(blk_cell BK223.out 0).trans rfl, (blk_cell BK223.out 1).trans rfl, (blk_cell BK223.out 2).trans rfl, (blk_cell BK223.out 3).trans rfl, (blk_cell BK219.out 0).trans rfl, (blk_cell BK219.out 1).trans rfl, (kc HB.out hw225_0), (kc HB.out hw225_1), (kc HB.out hw225_2), (kc HB.out hw225_3)⟩ (fun hHeld => ?_); clear hK K; refine nm_ (some 27) ?_
                 refine pq 6 28 HT_ ?_
                 refine pq 7 29 HT_ ?_
                 refine pq 8 30 HT_ ?_
                 refine pq 9 31 HT_ ?_
                 refine pq 10 32 HT_ ?_
                 refine pq 11 33 HT_ ?_
                 refine pq 13 35 HT_ ?_
                 refine pq 15 37 HT_ ?_
                 refine pq 16 38 HT_ ?_
                 refine tq 12 34 HT_ HW_ hHeld ?_
                 refine tq 14 36 HT_ HW_ hHeld ?_
                 refine pq 17 39 HT_ ?_
                 refine pq 18 40 HT_ ?_
                 refine tq 19 41 HT_ HW_ hHeld ?_
                 refine pq 20 42 HT_ ?_
                 refine pq 21 43 HT_ ?_
                 refine pq 22 44 HT_ ?_
                 refine pq 23 45 HT_ ?_
                 refine pq 24 46 HT_ ?_
                 refine tq 25 47 HT_ HW_ hHeld ?_
                 refine on_ 26 (some 48) HT_ (fun K hK => ?_); refine gs_ Try.func84 #[.slice A222_1 ((rd_T80 l0_0 x17_2).f1).length c222_1] ?_; with_reducible refine (impl_validPages.calls k2 _ _ ((rd_T80 l0_0 x17_2).f1) true _ ?side1 ?side2 A27.out).mono ?_
                 (case side1 => repeat (first | exact (Kd.C_below HR222_1.out bb) | (with_reducible refine Kd.C_alloc ?_ _) | (with_reducible refine Kd.C_drewN ?_ _) | (with_reducible refine Kd.C_drew ?_))); (case side2 => exact HC222_1.out); rintro e w43 ⟨rfl, hb⟩; refine ⟨_, rfl, ?_⟩; have n0_ := kp (kb BK219.out hb); have n1_ := kp (kb BK223.out hb); have n2_ := kp (below_step bb hb); clear BK219; clear BK223; clear HB; have BK219 := n0_; have BK223 := n1_; have HB := n2_; clear n0_ n1_ n2_; (try clear hb); (try clear hk); refine hK.out _ _ ⟨(blk_cell BK223.out 0).trans rfl, (blk_cell BK223.out 1).trans rfl, (blk_cell BK223.out 2).trans rfl, (blk_cell BK223.out 3).trans rfl, (blk_cell BK219.out 0).trans rfl, (blk_cell BK219.out 1).trans rfl, (kc HB.out hw225_0), (kc HB.out hw225_1), (kc HB.out hw225_2), (kc HB.out hw225_3)⟩ (fun hHeld => ?_); clear hK K; refine nm_ (some 48) ?_
                 refine pq 27 49 HT_ ?_
                 refine pq 28 50 HT_ ?_
                 refine pq 29 51 HT_ ?_
                 refine pq 30 52 HT_ ?_
                 refine tq 31 53 HT_ HW_ hHeld ?_
                 refine pq 32 54 HT_ ?_
                 refine pq 33 55 HT_ ?_
                 refine pq 34 56 HT_ ?_
                 refine tq 35 57 HT_ HW_ hHeld ?_
                 refine pq 36 58 HT_ ?_
                 refine pq 37 59 HT_ ?_
                 refine pq 38 60 HT_ ?_
                 refine done_ (done_of HT_.out (by kernel_rfl)) ?_
                 try go_wp2
                 go_roundg k2
                 case measure => have := HJ1.out; have := HK2.out; omega
                 case rel => exact ⟨(wrap64 (x17_2 + 1)), (by first | rfl | (simp; done) | (simp [*]; done)), H', ⟨by have := HJ1.out; have := HK2.out; omega⟩, ⟨by (with_reducible repeat (first | apply bN | apply bD | apply bA)); exact BK219.out⟩, ⟨bb⟩⟩
                ·rw [if_neg c37] at H; have c37b0 : (((rd_T80 l0_0 x17_2).f2) == 0) = false := beq_eq_false_iff_ne.mpr c37; have c37b1 : (((rd_T80 l0_0 x17_2).f2) != 0) = true := bne_iff_ne.mpr c37; obtain rfl := Option.some.inj H; have p222 : 0 ≤ (x17_2 : Int) := dt; have q222 : x17_2 < (l0_0.length : Int) := dt; obtain ⟨ad222, A222_1, c222_1, e222, hx222_0, hx222_1, hx222_2, hx222_3, hl222_1, hi222_1⟩ := at_T80 HR0_0.out x17_2 p222 q222; (try rw [← Nbq29.out] at hx222_3); (try rw [← Nbq29.out] at hw222_3); cases e222; replace hx222_0 := kc HB.out hx222_0; replace hx222_1 := kc HB.out hx222_1; replace hx222_2 := kc HB.out hx222_2; replace hx222_3 := kc HB.out hx222_3; have HR222_1 := kp hi222_1; have HC222_1 := kp hl222_1; clear hi222_1 hl222_1; replace p222 := eq_true p222; replace q222 := eq_true q222
                 try go_wp2_with (first | ((with_reducible refine gate_dst (N := 4) rfl ?_); refine bx_ 4 #[.int .i64 0, .slice none 0 0, .int .i64 0, .bool false] 80 ?_; intro gb223 hg w44 hbox hb; have n0_ := kp (kb BK219.out hb); have n1_ := kp (below_step bb hb); have n2_ := kp (hbox); have n3_ := kp (bs hg); have n4_ := kp (bs hg); have n5_ := kp (bl hg BK219.out); have n6_ := kp (bg hg BK219.out); clear BK219; clear HB; have BK219 := n0_; have HB := n1_; have BK223 := n2_; have GW223 := n3_; have GE223 := n4_; have NB219_223 := n5_; have NB223_219 := n6_; clear n0_ n1_ n2_ n3_ n4_ n5_ n6_; clear hb hbox hg; have hnb45 := NB223_219.out; have hnc45 := NB219_223.out; have hcz46_0 : w44.cell? ⟨gb223, 0, none⟩ = some (.int .i64 0) := (blk_cell BK223.out 0).trans rfl; have hcz46_1 : w44.cell? ⟨gb223, 1, none⟩ = some (.slice none 0 0) := (blk_cell BK223.out 1).trans rfl; have hcz46_2 : w44.cell? ⟨gb223, 2, none⟩ = some (.int .i64 0) := (blk_cell BK223.out 2).trans rfl; have hcz46_3 : w44.cell? ⟨gb223, 3, none⟩ = some (.bool false) := (blk_cell BK223.out 3).trans rfl; have hfz46_0 := blk_frozen BK223.out 0; have hfz46_1 := blk_frozen BK223.out 1; have hfz46_2 := blk_frozen BK223.out 2; have hfz46_3 := blk_frozen BK223.out 3))
                 have n0_ : Aside0 (((((w44.setCell ⟨gb223, 0, none⟩ (.int .i64 ((rd_T80 l0_0 x17_2).f0))).setCell ⟨gb223, 1, none⟩ (.slice A222_1 ((rd_T80 l0_0 x17_2).f1).length c222_1)).setCell ⟨gb223, 2, none⟩ (.int .i64 ((rd_T80 l0_0 x17_2).f2))).setCell ⟨gb223, 3, none⟩ (.bool false)).heap[gb219]? = some (.cells #[.slice (some ad222) l0_0.length c0_0, .int .i64 a0_1] 28 (0, 0))) := ⟨by refine blk_far ?_ NB219_223.out _; refine blk_far ?_ NB219_223.out _; refine blk_far ?_ NB219_223.out _; refine blk_far ?_ NB219_223.out _; (with_reducible repeat (first | apply bN | apply bD | apply bA)); exact BK219.out⟩
                 have n1_ : Aside0 (((((w44.setCell ⟨gb223, 0, none⟩ (.int .i64 ((rd_T80 l0_0 x17_2).f0))).setCell ⟨gb223, 1, none⟩ (.slice A222_1 ((rd_T80 l0_0 x17_2).f1).length c222_1)).setCell ⟨gb223, 2, none⟩ (.int .i64 ((rd_T80 l0_0 x17_2).f2))).setCell ⟨gb223, 3, none⟩ (.bool false)).heap[gb223]? = some (.cells #[.int .i64 ((rd_T80 l0_0 x17_2).f0), .slice A222_1 ((rd_T80 l0_0 x17_2).f1).length c222_1, .int .i64 ((rd_T80 l0_0 x17_2).f2), .bool false] 80 (0, 0))) := ⟨by refine blk_put (cs := #[.int .i64 ((rd_T80 l0_0 x17_2).f0), .slice A222_1 ((rd_T80 l0_0 x17_2).f1).length c222_1, .int .i64 ((rd_T80 l0_0 x17_2).f2), .bool false]) ?_ 3 _ rfl; refine blk_put (cs := #[.int .i64 ((rd_T80 l0_0 x17_2).f0), .slice A222_1 ((rd_T80 l0_0 x17_2).f1).length c222_1, .int .i64 0, .bool false]) ?_ 2 _ rfl; refine blk_put (cs := #[.int .i64 ((rd_T80 l0_0 x17_2).f0), .slice none 0 0, .int .i64 0, .bool false]) ?_ 1 _ rfl; refine blk_put (cs := #[.int .i64 0, .slice none 0 0, .int .i64 0, .bool false]) ?_ 0 _ rfl; (with_reducible repeat (first | apply bN | apply bD | apply bA)); exact BK223.out⟩; have n2_ : Aside0 (Below w.heap.size w ((((w44.setCell ⟨gb223, 0, none⟩ (.int .i64 ((rd_T80 l0_0 x17_2).f0))).setCell ⟨gb223, 1, none⟩ (.slice A222_1 ((rd_T80 l0_0 x17_2).f1).length c222_1)).setCell ⟨gb223, 2, none⟩ (.int .i64 ((rd_T80 l0_0 x17_2).f2))).setCell ⟨gb223, 3, none⟩ (.bool false))) := ⟨bb⟩; (try clear BK219); (try clear BK223); (try clear HB)
                 generalize ((((w44.setCell ⟨gb223, 0, none⟩ (.int .i64 ((rd_T80 l0_0 x17_2).f0))).setCell ⟨gb223, 1, none⟩ (.slice A222_1 ((rd_T80 l0_0 x17_2).f1).length c222_1)).setCell ⟨gb223, 2, none⟩ (.int .i64 ((rd_T80 l0_0 x17_2).f2))).setCell ⟨gb223, 3, none⟩ (.bool false)) = w47 at n0_ n1_ n2_ ⊢; have BK219 := n0_; have BK223 := n1_; have HB := n2_; clear n0_ n1_ n2_; have n0_ := kp (blk_drew BK219.out); have n1_ := kp (blk_drew BK223.out); have n2_ := kp (below_drew1 HB.out); clear BK219; clear BK223; clear HB; have BK219 := n0_; have BK223 := n1_; have HB := n2_; clear n0_ n1_ n2_; have p225 : 0 ≤ ((ji18) : Int) := dt; have q225 : (ji18) < (l0_0.length : Int) := dt; obtain ⟨ad225, A225_1, c225_1, e225, hx225_0, hx225_1, hx225_2, hx225_3, hl225_1, hi225_1⟩ := at_T80 HR0_0.out (ji18) p225 q225; have hw225_3 := hx225_3; have hw225_2 := hx225_2; have hw225_1 := hx225_1; have hw225_0 := hx225_0; (try rw [← Nbq29.out] at hx225_3); (try rw [← Nbq29.out] at hw225_3); obtain rfl : ad222 = ad225 := (by injection e225); replace hx225_0 := kc HB.out hx225_0; replace hx225_1 := kc HB.out hx225_1; replace hx225_2 := kc HB.out hx225_2; replace hx225_3 := kc HB.out hx225_3; have HR225_1 := kp hi225_1; have HC225_1 := kp hl225_1; clear hi225_1 hl225_1; replace p225 := eq_true p225; replace q225 := eq_true q225
                 refine start_ (n := 39) (S := fun w' => w'.cell? ⟨gb223, 0, none⟩ = some (.int .i64 ((rd_T80 l0_0 x17_2).f0)) ∧ w'.cell? ⟨gb223, 1, none⟩ = some (.slice A222_1 ((rd_T80 l0_0 x17_2).f1).length c222_1) ∧ w'.cell? ⟨gb223, 2, none⟩ = some (.int .i64 ((rd_T80 l0_0 x17_2).f2)) ∧ w'.cell? ⟨gb223, 3, none⟩ = some (.bool false) ∧ w'.cell? ⟨gb219, 0, none⟩ = some (.slice (some ad222) l0_0.length c0_0) ∧ w'.cell? ⟨gb219, 1, none⟩ = some (.int .i64 a0_1) ∧ w'.cell? (ad222.add (((ji18)).toNat * 4)) = some (.int .i64 ((rd_T80 l0_0 (ji18)).f0)) ∧ w'.cell? ⟨(ad222.add (((ji18)).toNat * 4)).block, (ad222.add (((ji18)).toNat * 4)).off + 1, none⟩ = some (.slice A225_1 ((rd_T80 l0_0 (ji18)).f1).length c225_1) ∧ w'.cell? ⟨(ad222.add (((ji18)).toNat * 4)).block, (ad222.add (((ji18)).toNat * 4)).off + 2, none⟩ = some (.int .i64 ((rd_T80 l0_0 (ji18)).f2)) ∧ w'.cell? ⟨(ad222.add (((ji18)).toNat * 4)).block, (ad222.add (((ji18)).toNat * 4)).off + 3, none⟩ = some (.bool ((rd_T80 l0_0 (ji18)).f3))) (ds := []) #[false, false, false, false, false, false, false, false, false, false, false, false, false, false, false, false, false, false, false, false, false, false, false, false, false, false, false, false, false, false, false, false, false, false, false, false, false, false, false] (by kernel_rfl) rfl rfl ⟨(blk_cell BK223.out 0).trans rfl, (blk_cell BK223.out 1).trans rfl, (blk_cell BK223.out 2).trans rfl, (blk_cell BK223.out 3).trans rfl, (blk_cell BK219.out 0).trans rfl, (blk_cell BK219.out 1).trans rfl, (kc HB.out hw225_0), (kc HB.out hw225_1), (kc HB.out hw225_2), (kc HB.out hw225_3)⟩ (fun hHeld => ?_); refine with_tabW impl_IsValidDisk.tab6 impl_IsValidDisk.bits6 (fun HT_ HW_ => ?_)
                 generalize w47.drew = w48 at BK219 BK223 HB HR225_1 hx225_0 hx225_1 hx225_2 hx225_3 hHeld ⊢
                 refine pq 0 22 HT_ ?_
                 refine pq 2 24 HT_ ?_
                 refine tq 1 23 HT_ HW_ hHeld ?_
                 refine tq 3 25 HT_ HW_ hHeld ?_
                 refine pq 4 26 HT_ ?_
                 refine on_ 5 (some 27) HT_ (fun K hK => ?_); refine gs_ Try.func83 #[.int .i64 ((rd_T80 l0_0 x17_2).f0), .int .i64 0, .int .i64 (wrap64 (a0_1 - 1))] ?_; with_reducible refine (impl_within.calls ((rd_T80 l0_0 x17_2).f0) 0 (wrap64 (a0_1 - 1)) true _ A15.out).mono ?_
                 rintro e w' ⟨rfl, ⟨nd, rfl⟩⟩; refine ⟨_, rfl, ?_⟩; refine hK.out _ _ ⟨(blk_cell BK223.out 0).trans rfl, (blk_cell BK223.out 1).trans rfl, (blk_cell BK223.out 2).trans rfl, (blk_cell BK223.out 3).trans rfl, (blk_cell BK219.out 0).trans rfl, (blk_cell BK219.out 1).trans rfl, (kc HB.out hw225_0), (kc HB.out hw225_1), (kc HB.out hw225_2), (kc HB.out hw225_3)⟩ (fun hHeld => ?_); clear hK K; refine nm_ (some 27) ?_
                 refine pq 6 28 HT_ ?_
                 refine pq 7 29 HT_ ?_
                 refine pq 8 30 HT_ ?_
                 refine pq 9 31 HT_ ?_
                 refine pq 10 32 HT_ ?_
                 refine pq 11 33 HT_ ?_
                 refine pq 13 35 HT_ ?_
                 refine pq 15 37 HT_ ?_
                 refine pq 16 38 HT_ ?_
                 refine tq 12 34 HT_ HW_ hHeld ?_
                 refine tq 14 36 HT_ HW_ hHeld ?_
                 refine pq 17 39 HT_ ?_
                 refine pq 18 40 HT_ ?_
                 refine tq 19 41 HT_ HW_ hHeld ?_
                 refine pq 20 42 HT_ ?_
                 refine pq 21 43 HT_ ?_
                 refine pq 22 44 HT_ ?_
                 refine pq 23 45 HT_ ?_
                 refine pq 24 46 HT_ ?_
                 refine tq 25 47 HT_ HW_ hHeld ?_
                 refine on_ 26 (some 48) HT_ (fun K hK => ?_); refine gs_ Try.func84 #[.slice A222_1 ((rd_T80 l0_0 x17_2).f1).length c222_1] ?_; with_reducible refine (impl_validPages.calls k2 _ _ ((rd_T80 l0_0 x17_2).f1) true _ ?side1 ?side2 A27.out).mono ?_
                 (case side1 => repeat (first | exact (Kd.C_below HR222_1.out bb) | (with_reducible refine Kd.C_alloc ?_ _) | (with_reducible refine Kd.C_drewN ?_ _) | (with_reducible refine Kd.C_drew ?_))); (case side2 => exact HC222_1.out); rintro e w49 ⟨rfl, hb⟩; refine ⟨_, rfl, ?_⟩; have n0_ := kp (kb BK219.out hb); have n1_ := kp (kb BK223.out hb); have n2_ := kp (below_step bb hb); clear BK219; clear BK223; clear HB; have BK219 := n0_; have BK223 := n1_; have HB := n2_; clear n0_ n1_ n2_; (try clear hb); (try clear hk); refine hK.out _ _ ⟨(blk_cell BK223.out 0).trans rfl, (blk_cell BK223.out 1).trans rfl, (blk_cell BK223.out 2).trans rfl, (blk_cell BK223.out 3).trans rfl, (blk_cell BK219.out 0).trans rfl, (blk_cell BK219.out 1).trans rfl, (kc HB.out hw225_0), (kc HB.out hw225_1), (kc HB.out hw225_2), (kc HB.out hw225_3)⟩ (fun hHeld => ?_); clear hK K; refine nm_ (some 48) ?_
                 refine pq 27 49 HT_ ?_
                 refine pq 28 50 HT_ ?_
                 refine pq 29 51 HT_ ?_
                 refine pq 30 52 HT_ ?_
                 refine tq 31 53 HT_ HW_ hHeld ?_
                 refine pq 32 54 HT_ ?_
                 refine pq 33 55 HT_ ?_
                 refine pq 34 56 HT_ ?_
                 refine tq 35 57 HT_ HW_ hHeld ?_
                 refine pq 36 58 HT_ ?_
                 refine pq 37 59 HT_ ?_
                 refine pq 38 60 HT_ ?_
                 refine done_ (done_of HT_.out (by kernel_rfl)) ?_
                 try go_wp2
                 go_ret; exact ⟨by first | rfl | (simp [errW_none, errW_some] <;> rfl) | (simp only [← hji18]; first | rfl | (simp [errW_none, errW_some] <;> rfl)) | (simp [*, errW_none, errW_some] <;> rfl), bb⟩
              ·replace c28 := Bool.eq_false_iff.mpr c28; subst c28; have H1 : (some false) = some r := by rw [if_neg (show ¬ (false = true) by decide)] at H; exact H
               clear H; have H := H1; clear H1; obtain rfl := Option.some.inj H; have p222 : 0 ≤ (x17_2 : Int) := dt; have q222 : x17_2 < (l0_0.length : Int) := dt; obtain ⟨ad222, A222_1, c222_1, e222, hx222_0, hx222_1, hx222_2, hx222_3, hl222_1, hi222_1⟩ := at_T80 HR0_0.out x17_2 p222 q222; cases e222; replace hx222_0 := kc HB.out hx222_0; replace hx222_1 := kc HB.out hx222_1; replace hx222_2 := kc HB.out hx222_2; replace hx222_3 := kc HB.out hx222_3; have HR222_1 := kp hi222_1; have HC222_1 := kp hl222_1; clear hi222_1 hl222_1; replace p222 := eq_true p222; replace q222 := eq_true q222
               try go_wp2_with (first | ((with_reducible refine gate_dst (N := 4) rfl ?_); refine bx_ 4 #[.int .i64 0, .slice none 0 0, .int .i64 0, .bool false] 80 ?_; intro gb223 hg w50 hbox hb; have n0_ := kp (kb BK219.out hb); have n1_ := kp (below_step bb hb); have n2_ := kp (hbox); have n3_ := kp (bs hg); have n4_ := kp (bs hg); have n5_ := kp (bl hg BK219.out); have n6_ := kp (bg hg BK219.out); clear BK219; clear HB; have BK219 := n0_; have HB := n1_; have BK223 := n2_; have GW223 := n3_; have GE223 := n4_; have NB219_223 := n5_; have NB223_219 := n6_; clear n0_ n1_ n2_ n3_ n4_ n5_ n6_; clear hb hbox hg; have hnb51 := NB223_219.out; have hnc51 := NB219_223.out; have hcz52_0 : w50.cell? ⟨gb223, 0, none⟩ = some (.int .i64 0) := (blk_cell BK223.out 0).trans rfl; have hcz52_1 : w50.cell? ⟨gb223, 1, none⟩ = some (.slice none 0 0) := (blk_cell BK223.out 1).trans rfl; have hcz52_2 : w50.cell? ⟨gb223, 2, none⟩ = some (.int .i64 0) := (blk_cell BK223.out 2).trans rfl; have hcz52_3 : w50.cell? ⟨gb223, 3, none⟩ = some (.bool false) := (blk_cell BK223.out 3).trans rfl; have hfz52_0 := blk_frozen BK223.out 0; have hfz52_1 := blk_frozen BK223.out 1; have hfz52_2 := blk_frozen BK223.out 2; have hfz52_3 := blk_frozen BK223.out 3))
               have n0_ : Aside0 (((((w50.setCell ⟨gb223, 0, none⟩ (.int .i64 ((rd_T80 l0_0 x17_2).f0))).setCell ⟨gb223, 1, none⟩ (.slice A222_1 ((rd_T80 l0_0 x17_2).f1).length c222_1)).setCell ⟨gb223, 2, none⟩ (.int .i64 ((rd_T80 l0_0 x17_2).f2))).setCell ⟨gb223, 3, none⟩ (.bool ((rd_T80 l0_0 x17_2).f3))).heap[gb219]? = some (.cells #[.slice (some ad222) l0_0.length c0_0, .int .i64 a0_1] 28 (0, 0))) := ⟨by refine blk_far ?_ NB219_223.out _; refine blk_far ?_ NB219_223.out _; refine blk_far ?_ NB219_223.out _; refine blk_far ?_ NB219_223.out _; (with_reducible repeat (first | apply bN | apply bD | apply bA)); exact BK219.out⟩
               have n1_ : Aside0 (((((w50.setCell ⟨gb223, 0, none⟩ (.int .i64 ((rd_T80 l0_0 x17_2).f0))).setCell ⟨gb223, 1, none⟩ (.slice A222_1 ((rd_T80 l0_0 x17_2).f1).length c222_1)).setCell ⟨gb223, 2, none⟩ (.int .i64 ((rd_T80 l0_0 x17_2).f2))).setCell ⟨gb223, 3, none⟩ (.bool ((rd_T80 l0_0 x17_2).f3))).heap[gb223]? = some (.cells #[.int .i64 ((rd_T80 l0_0 x17_2).f0), .slice A222_1 ((rd_T80 l0_0 x17_2).f1).length c222_1, .int .i64 ((rd_T80 l0_0 x17_2).f2), .bool ((rd_T80 l0_0 x17_2).f3)] 80 (0, 0))) := ⟨by refine blk_put (cs := #[.int .i64 ((rd_T80 l0_0 x17_2).f0), .slice A222_1 ((rd_T80 l0_0 x17_2).f1).length c222_1, .int .i64 ((rd_T80 l0_0 x17_2).f2), .bool false]) ?_ 3 _ rfl; refine blk_put (cs := #[.int .i64 ((rd_T80 l0_0 x17_2).f0), .slice A222_1 ((rd_T80 l0_0 x17_2).f1).length c222_1, .int .i64 0, .bool false]) ?_ 2 _ rfl; refine blk_put (cs := #[.int .i64 ((rd_T80 l0_0 x17_2).f0), .slice none 0 0, .int .i64 0, .bool false]) ?_ 1 _ rfl; refine blk_put (cs := #[.int .i64 0, .slice none 0 0, .int .i64 0, .bool false]) ?_ 0 _ rfl; (with_reducible repeat (first | apply bN | apply bD | apply bA)); exact BK223.out⟩; have n2_ : Aside0 (Below w.heap.size w ((((w50.setCell ⟨gb223, 0, none⟩ (.int .i64 ((rd_T80 l0_0 x17_2).f0))).setCell ⟨gb223, 1, none⟩ (.slice A222_1 ((rd_T80 l0_0 x17_2).f1).length c222_1)).setCell ⟨gb223, 2, none⟩ (.int .i64 ((rd_T80 l0_0 x17_2).f2))).setCell ⟨gb223, 3, none⟩ (.bool ((rd_T80 l0_0 x17_2).f3)))) := ⟨bb⟩; (try clear BK219)
               (try clear BK223); (try clear HB); generalize ((((w50.setCell ⟨gb223, 0, none⟩ (.int .i64 ((rd_T80 l0_0 x17_2).f0))).setCell ⟨gb223, 1, none⟩ (.slice A222_1 ((rd_T80 l0_0 x17_2).f1).length c222_1)).setCell ⟨gb223, 2, none⟩ (.int .i64 ((rd_T80 l0_0 x17_2).f2))).setCell ⟨gb223, 3, none⟩ (.bool ((rd_T80 l0_0 x17_2).f3))) = w53 at n0_ n1_ n2_ ⊢; have BK219 := n0_; have BK223 := n1_; have HB := n2_; clear n0_ n1_ n2_; have n0_ := kp (blk_drew BK219.out); have n1_ := kp (blk_drew BK223.out); have n2_ := kp (below_drew1 HB.out); clear BK219; clear BK223; clear HB; have BK219 := n0_; have BK223 := n1_; have HB := n2_; clear n0_ n1_ n2_; have p225 : 0 ≤ ((ji18) : Int) := dt; have q225 : (ji18) < (l0_0.length : Int) := dt; obtain ⟨ad225, A225_1, c225_1, e225, hx225_0, hx225_1, hx225_2, hx225_3, hl225_1, hi225_1⟩ := at_T80 HR0_0.out (ji18) p225 q225; have hw225_3 := hx225_3; have hw225_2 := hx225_2; have hw225_1 := hx225_1; have hw225_0 := hx225_0; obtain rfl : ad222 = ad225 := (by injection e225); replace hx225_0 := kc HB.out hx225_0; replace hx225_1 := kc HB.out hx225_1; replace hx225_2 := kc HB.out hx225_2; replace hx225_3 := kc HB.out hx225_3; have HR225_1 := kp hi225_1; have HC225_1 := kp hl225_1; clear hi225_1 hl225_1; replace p225 := eq_true p225; replace q225 := eq_true q225
               refine start_ (n := 39) (S := fun w' => w'.cell? ⟨gb223, 0, none⟩ = some (.int .i64 ((rd_T80 l0_0 x17_2).f0)) ∧ w'.cell? ⟨gb223, 1, none⟩ = some (.slice A222_1 ((rd_T80 l0_0 x17_2).f1).length c222_1) ∧ w'.cell? ⟨gb223, 2, none⟩ = some (.int .i64 ((rd_T80 l0_0 x17_2).f2)) ∧ w'.cell? ⟨gb223, 3, none⟩ = some (.bool ((rd_T80 l0_0 x17_2).f3)) ∧ w'.cell? ⟨gb219, 0, none⟩ = some (.slice (some ad222) l0_0.length c0_0) ∧ w'.cell? ⟨gb219, 1, none⟩ = some (.int .i64 a0_1) ∧ w'.cell? (ad222.add (((ji18)).toNat * 4)) = some (.int .i64 ((rd_T80 l0_0 (ji18)).f0)) ∧ w'.cell? ⟨(ad222.add (((ji18)).toNat * 4)).block, (ad222.add (((ji18)).toNat * 4)).off + 1, none⟩ = some (.slice A225_1 ((rd_T80 l0_0 (ji18)).f1).length c225_1) ∧ w'.cell? ⟨(ad222.add (((ji18)).toNat * 4)).block, (ad222.add (((ji18)).toNat * 4)).off + 2, none⟩ = some (.int .i64 ((rd_T80 l0_0 (ji18)).f2)) ∧ w'.cell? ⟨(ad222.add (((ji18)).toNat * 4)).block, (ad222.add (((ji18)).toNat * 4)).off + 3, none⟩ = some (.bool ((rd_T80 l0_0 (ji18)).f3))) (ds := []) #[false, false, false, false, false, false, false, false, false, false, false, false, false, false, false, false, false, false, false, false, false, false, false, false, false, false, false, false, false, false, false, false, false, false, false, false, false, false, false] (by kernel_rfl) rfl rfl ⟨(blk_cell BK223.out 0).trans rfl, (blk_cell BK223.out 1).trans rfl, (blk_cell BK223.out 2).trans rfl, (blk_cell BK223.out 3).trans rfl, (blk_cell BK219.out 0).trans rfl, (blk_cell BK219.out 1).trans rfl, (kc HB.out hw225_0), (kc HB.out hw225_1), (kc HB.out hw225_2), (kc HB.out hw225_3)⟩ (fun hHeld => ?_); refine with_tabW impl_IsValidDisk.tab6 impl_IsValidDisk.bits6 (fun HT_ HW_ => ?_)
               generalize w53.drew = w54 at BK219 BK223 HB HR225_1 hx225_0 hx225_1 hx225_2 hx225_3 hHeld ⊢
               refine pq 0 22 HT_ ?_
               refine pq 2 24 HT_ ?_
               refine tq 1 23 HT_ HW_ hHeld ?_
               refine tq 3 25 HT_ HW_ hHeld ?_
               refine pq 4 26 HT_ ?_
               refine on_ 5 (some 27) HT_ (fun K hK => ?_); refine gs_ Try.func83 #[.int .i64 ((rd_T80 l0_0 x17_2).f0), .int .i64 0, .int .i64 (wrap64 (a0_1 - 1))] ?_; with_reducible refine (impl_within.calls ((rd_T80 l0_0 x17_2).f0) 0 (wrap64 (a0_1 - 1)) true _ A15.out).mono ?_
               rintro e w' ⟨rfl, ⟨nd, rfl⟩⟩; refine ⟨_, rfl, ?_⟩; refine hK.out _ _ ⟨(blk_cell BK223.out 0).trans rfl, (blk_cell BK223.out 1).trans rfl, (blk_cell BK223.out 2).trans rfl, (blk_cell BK223.out 3).trans rfl, (blk_cell BK219.out 0).trans rfl, (blk_cell BK219.out 1).trans rfl, (kc HB.out hw225_0), (kc HB.out hw225_1), (kc HB.out hw225_2), (kc HB.out hw225_3)⟩ (fun hHeld => ?_); clear hK K; refine nm_ (some 27) ?_
               refine pq 6 28 HT_ ?_
               refine pq 7 29 HT_ ?_
               refine pq 8 30 HT_ ?_
               refine pq 9 31 HT_ ?_
               refine pq 10 32 HT_ ?_
               refine pq 11 33 HT_ ?_
               refine pq 13 35 HT_ ?_
               refine pq 15 37 HT_ ?_
               refine pq 16 38 HT_ ?_
               refine tq 12 34 HT_ HW_ hHeld ?_
               refine tq 14 36 HT_ HW_ hHeld ?_
               refine pq 17 39 HT_ ?_
               refine pq 18 40 HT_ ?_
               refine tq 19 41 HT_ HW_ hHeld ?_
               refine pq 20 42 HT_ ?_
               refine pq 21 43 HT_ ?_
               refine pq 22 44 HT_ ?_
               refine pq 23 45 HT_ ?_
               refine pq 24 46 HT_ ?_
               refine tq 25 47 HT_ HW_ hHeld ?_
               refine on_ 26 (some 48) HT_ (fun K hK => ?_); refine gs_ Try.func84 #[.slice A222_1 ((rd_T80 l0_0 x17_2).f1).length c222_1] ?_; with_reducible refine (impl_validPages.calls k2 _ _ ((rd_T80 l0_0 x17_2).f1) false _ ?side1 ?side2 A27.out).mono ?_
               (case side1 => repeat (first | exact (Kd.C_below HR222_1.out bb) | (with_reducible refine Kd.C_alloc ?_ _) | (with_reducible refine Kd.C_drewN ?_ _) | (with_reducible refine Kd.C_drew ?_))); (case side2 => exact HC222_1.out); rintro e w55 ⟨rfl, hb⟩; refine ⟨_, rfl, ?_⟩; have n0_ := kp (kb BK219.out hb); have n1_ := kp (kb BK223.out hb); have n2_ := kp (below_step bb hb); clear BK219; clear BK223; clear HB; have BK219 := n0_; have BK223 := n1_; have HB := n2_; clear n0_ n1_ n2_; (try clear hb); (try clear hk); refine hK.out _ _ ⟨(blk_cell BK223.out 0).trans rfl, (blk_cell BK223.out 1).trans rfl, (blk_cell BK223.out 2).trans rfl, (blk_cell BK223.out 3).trans rfl, (blk_cell BK219.out 0).trans rfl, (blk_cell BK219.out 1).trans rfl, (kc HB.out hw225_0), (kc HB.out hw225_1), (kc HB.out hw225_2), (kc HB.out hw225_3)⟩ (fun hHeld => ?_); clear hK K; refine nm_ (some 48) ?_
               refine pq 27 49 HT_ ?_
               refine pq 28 50 HT_ ?_
               refine pq 29 51 HT_ ?_
               refine uq 30 52 HT_ ?_
               refine uq 31 53 HT_ ?_
               refine uq 32 54 HT_ ?_
               refine uq 33 55 HT_ ?_
               refine uq 34 56 HT_ ?_
               refine uq 35 57 HT_ ?_
               refine uq 36 58 HT_ ?_
               refine uq 37 59 HT_ ?_
               refine pq 38 60 HT_ ?_
               refine done_ (done_of HT_.out (by kernel_rfl)) ?_
               try go_wp2
               go_ret; exact ⟨by first | rfl | (simp [errW_none, errW_some] <;> rfl) | (simp only [← hji18]; first | rfl | (simp [errW_none, errW_some] <;> rfl)) | (simp [*, errW_none, errW_some] <;> rfl), bb⟩
            ·rw [if_neg c20] at H; exact absurd H (by simp)
           ·rw [if_neg c19] at H; exact absurd H (by simp)
          ·rw [if_neg c17] at H; have c17b0 : decide (0 < x17_2) = false := decide_eq_false c17; clear c17; replace H := Option.bind_eq_some_iff.mp H; obtain ⟨t227, A560, H⟩ := H; replace H : (if t227 = true then (if ((rd_T80 l0_0 x17_2).f3 = true) then (impl_IsValidDisk.l0 k2 l0_0 (l0_0.length : Int) (wrap64 (x17_2 + 1)) l0_0 a0_1) else (if ((rd_T80 l0_0 x17_2).f2) = 0 then (impl_IsValidDisk.l0 k2 l0_0 (l0_0.length : Int) (wrap64 (x17_2 + 1)) l0_0 a0_1) else (some false))) else (some false)) = some r := H; have A56 := kp A560; clear A560
           by_cases c57 : t227 = true
           ·subst c57; have H1 : (if ((rd_T80 l0_0 x17_2).f3 = true) then (impl_IsValidDisk.l0 k2 l0_0 (l0_0.length : Int) (wrap64 (x17_2 + 1)) l0_0 a0_1) else (if ((rd_T80 l0_0 x17_2).f2) = 0 then (impl_IsValidDisk.l0 k2 l0_0 (l0_0.length : Int) (wrap64 (x17_2 + 1)) l0_0 a0_1) else (some false))) = some r := by rw [if_pos rfl] at H; exact H
            clear H; have H := H1; clear H1; obtain ⟨bq58, hbq58⟩ : ∃ b_ : Bool, b_ = ((rd_T80 l0_0 x17_2).f3) := ⟨_, rfl⟩; replace H : (if (bq58 = true) then (impl_IsValidDisk.l0 k2 l0_0 (l0_0.length : Int) (wrap64 (x17_2 + 1)) l0_0 a0_1) else (if ((rd_T80 l0_0 x17_2).f2) = 0 then (impl_IsValidDisk.l0 k2 l0_0 (l0_0.length : Int) (wrap64 (x17_2 + 1)) l0_0 a0_1) else (some false))) = some r := by rw [← hbq58] at H; exact H
            have Nbq58 := kp hbq58; clear hbq58
            by_cases c59 : (bq58 = true)
            ·subst c59; have H1 : (impl_IsValidDisk.l0 k2 l0_0 (l0_0.length : Int) (wrap64 (x17_2 + 1)) l0_0 a0_1) = some r := by rw [if_pos rfl] at H; exact H
             clear H; have H := H1; clear H1; have H' := kp H; clear H; have p222 : 0 ≤ (x17_2 : Int) := dt; have q222 : x17_2 < (l0_0.length : Int) := dt; obtain ⟨ad222, A222_1, c222_1, e222, hx222_0, hx222_1, hx222_2, hx222_3, hl222_1, hi222_1⟩ := at_T80 HR0_0.out x17_2 p222 q222; (try rw [← Nbq58.out] at hx222_3); (try rw [← Nbq58.out] at hw222_3); cases e222; replace hx222_0 := kc HB.out hx222_0; replace hx222_1 := kc HB.out hx222_1; replace hx222_2 := kc HB.out hx222_2; replace hx222_3 := kc HB.out hx222_3; have HR222_1 := kp hi222_1; have HC222_1 := kp hl222_1; clear hi222_1 hl222_1; replace p222 := eq_true p222; replace q222 := eq_true q222
             try go_wp2_with (first | ((with_reducible refine gate_dst (N := 4) rfl ?_); refine bx_ 4 #[.int .i64 0, .slice none 0 0, .int .i64 0, .bool false] 80 ?_; intro gb223 hg w60 hbox hb; have n0_ := kp (kb BK219.out hb); have n1_ := kp (below_step bb hb); have n2_ := kp (hbox); have n3_ := kp (bs hg); have n4_ := kp (bs hg); have n5_ := kp (bl hg BK219.out); have n6_ := kp (bg hg BK219.out); clear BK219; clear HB; have BK219 := n0_; have HB := n1_; have BK223 := n2_; have GW223 := n3_; have GE223 := n4_; have NB219_223 := n5_; have NB223_219 := n6_; clear n0_ n1_ n2_ n3_ n4_ n5_ n6_; clear hb hbox hg; have hnb61 := NB223_219.out; have hnc61 := NB219_223.out; have hcz62_0 : w60.cell? ⟨gb223, 0, none⟩ = some (.int .i64 0) := (blk_cell BK223.out 0).trans rfl; have hcz62_1 : w60.cell? ⟨gb223, 1, none⟩ = some (.slice none 0 0) := (blk_cell BK223.out 1).trans rfl; have hcz62_2 : w60.cell? ⟨gb223, 2, none⟩ = some (.int .i64 0) := (blk_cell BK223.out 2).trans rfl; have hcz62_3 : w60.cell? ⟨gb223, 3, none⟩ = some (.bool false) := (blk_cell BK223.out 3).trans rfl; have hfz62_0 := blk_frozen BK223.out 0; have hfz62_1 := blk_frozen BK223.out 1; have hfz62_2 := blk_frozen BK223.out 2; have hfz62_3 := blk_frozen BK223.out 3))
             have n0_ : Aside0 (((((w60.setCell ⟨gb223, 0, none⟩ (.int .i64 ((rd_T80 l0_0 x17_2).f0))).setCell ⟨gb223, 1, none⟩ (.slice A222_1 ((rd_T80 l0_0 x17_2).f1).length c222_1)).setCell ⟨gb223, 2, none⟩ (.int .i64 ((rd_T80 l0_0 x17_2).f2))).setCell ⟨gb223, 3, none⟩ (.bool true)).heap[gb219]? = some (.cells #[.slice (some ad222) l0_0.length c0_0, .int .i64 a0_1] 28 (0, 0))) := ⟨by refine blk_far ?_ NB219_223.out _; refine blk_far ?_ NB219_223.out _; refine blk_far ?_ NB219_223.out _; refine blk_far ?_ NB219_223.out _; (with_reducible repeat (first | apply bN | apply bD | apply bA)); exact BK219.out⟩
             have n1_ : Aside0 (((((w60.setCell ⟨gb223, 0, none⟩ (.int .i64 ((rd_T80 l0_0 x17_2).f0))).setCell ⟨gb223, 1, none⟩ (.slice A222_1 ((rd_T80 l0_0 x17_2).f1).length c222_1)).setCell ⟨gb223, 2, none⟩ (.int .i64 ((rd_T80 l0_0 x17_2).f2))).setCell ⟨gb223, 3, none⟩ (.bool true)).heap[gb223]? = some (.cells #[.int .i64 ((rd_T80 l0_0 x17_2).f0), .slice A222_1 ((rd_T80 l0_0 x17_2).f1).length c222_1, .int .i64 ((rd_T80 l0_0 x17_2).f2), .bool true] 80 (0, 0))) := ⟨by refine blk_put (cs := #[.int .i64 ((rd_T80 l0_0 x17_2).f0), .slice A222_1 ((rd_T80 l0_0 x17_2).f1).length c222_1, .int .i64 ((rd_T80 l0_0 x17_2).f2), .bool false]) ?_ 3 _ rfl; refine blk_put (cs := #[.int .i64 ((rd_T80 l0_0 x17_2).f0), .slice A222_1 ((rd_T80 l0_0 x17_2).f1).length c222_1, .int .i64 0, .bool false]) ?_ 2 _ rfl; refine blk_put (cs := #[.int .i64 ((rd_T80 l0_0 x17_2).f0), .slice none 0 0, .int .i64 0, .bool false]) ?_ 1 _ rfl; refine blk_put (cs := #[.int .i64 0, .slice none 0 0, .int .i64 0, .bool false]) ?_ 0 _ rfl; (with_reducible repeat (first | apply bN | apply bD | apply bA)); exact BK223.out⟩; have n2_ : Aside0 (Below w.heap.size w ((((w60.setCell ⟨gb223, 0, none⟩ (.int .i64 ((rd_T80 l0_0 x17_2).f0))).setCell ⟨gb223, 1, none⟩ (.slice A222_1 ((rd_T80 l0_0 x17_2).f1).length c222_1)).setCell ⟨gb223, 2, none⟩ (.int .i64 ((rd_T80 l0_0 x17_2).f2))).setCell ⟨gb223, 3, none⟩ (.bool true))) := ⟨bb⟩; (try clear BK219); (try clear BK223); (try clear HB)
             generalize ((((w60.setCell ⟨gb223, 0, none⟩ (.int .i64 ((rd_T80 l0_0 x17_2).f0))).setCell ⟨gb223, 1, none⟩ (.slice A222_1 ((rd_T80 l0_0 x17_2).f1).length c222_1)).setCell ⟨gb223, 2, none⟩ (.int .i64 ((rd_T80 l0_0 x17_2).f2))).setCell ⟨gb223, 3, none⟩ (.bool true)) = w63 at n0_ n1_ n2_ ⊢; have BK219 := n0_; have BK223 := n1_; have HB := n2_; clear n0_ n1_ n2_; have n0_ := kp (blk_drew BK219.out); have n1_ := kp (blk_drew BK223.out); have n2_ := kp (below_drew1 HB.out); clear BK219; clear BK223; clear HB; have BK219 := n0_; have BK223 := n1_; have HB := n2_; clear n0_ n1_ n2_
             refine start_ (n := 39) (S := fun w' => w'.cell? ⟨gb223, 0, none⟩ = some (.int .i64 ((rd_T80 l0_0 x17_2).f0)) ∧ w'.cell? ⟨gb223, 1, none⟩ = some (.slice A222_1 ((rd_T80 l0_0 x17_2).f1).length c222_1) ∧ w'.cell? ⟨gb223, 2, none⟩ = some (.int .i64 ((rd_T80 l0_0 x17_2).f2)) ∧ w'.cell? ⟨gb223, 3, none⟩ = some (.bool true) ∧ w'.cell? ⟨gb219, 0, none⟩ = some (.slice (some ad222) l0_0.length c0_0) ∧ w'.cell? ⟨gb219, 1, none⟩ = some (.int .i64 a0_1)) (ds := []) #[false, false, false, false, false, false, false, false, false, false, false, false, false, false, false, false, false, false, false, false, false, false, false, false, false, false, false, false, false, false, false, false, false, false, false, false, false, false, false] (by kernel_rfl) rfl rfl ⟨(blk_cell BK223.out 0).trans rfl, (blk_cell BK223.out 1).trans rfl, (blk_cell BK223.out 2).trans rfl, (blk_cell BK223.out 3).trans rfl, (blk_cell BK219.out 0).trans rfl, (blk_cell BK219.out 1).trans rfl⟩ (fun hHeld => ?_); refine with_tabW impl_IsValidDisk.tab6 impl_IsValidDisk.bits6 (fun HT_ HW_ => ?_)
             generalize w63.drew = w64 at BK219 BK223 HB hHeld ⊢
             refine pq 0 22 HT_ ?_
             refine pq 2 24 HT_ ?_
             refine tq 1 23 HT_ HW_ hHeld ?_
             refine tq 3 25 HT_ HW_ hHeld ?_
             refine pq 4 26 HT_ ?_
             refine on_ 5 (some 27) HT_ (fun K hK => ?_); refine gs_ Try.func83 #[.int .i64 ((rd_T80 l0_0 x17_2).f0), .int .i64 0, .int .i64 (wrap64 (a0_1 - 1))] ?_; with_reducible refine (impl_within.calls ((rd_T80 l0_0 x17_2).f0) 0 (wrap64 (a0_1 - 1)) true _ A15.out).mono ?_
             rintro e w' ⟨rfl, ⟨nd, rfl⟩⟩; refine ⟨_, rfl, ?_⟩; refine hK.out _ _ ⟨(blk_cell BK223.out 0).trans rfl, (blk_cell BK223.out 1).trans rfl, (blk_cell BK223.out 2).trans rfl, (blk_cell BK223.out 3).trans rfl, (blk_cell BK219.out 0).trans rfl, (blk_cell BK219.out 1).trans rfl⟩ (fun hHeld => ?_); clear hK K; refine nm_ (some 27) ?_
             refine pq 6 28 HT_ ?_
             refine pq 7 29 HT_ ?_
             refine pq 8 30 HT_ ?_
             refine pq 9 31 HT_ ?_
             refine pq 10 32 HT_ ?_
             refine uq 11 33 HT_ ?_
             refine uq 12 34 HT_ ?_
             refine uq 13 35 HT_ ?_
             refine uq 14 36 HT_ ?_
             refine uq 15 37 HT_ ?_
             refine uq 16 38 HT_ ?_
             refine uq 17 39 HT_ ?_
             refine uq 18 40 HT_ ?_
             refine uq 19 41 HT_ ?_
             refine uq 20 42 HT_ ?_
             refine pq 21 43 HT_ ?_
             refine pq 22 44 HT_ ?_
             refine pq 23 45 HT_ ?_
             refine pq 24 46 HT_ ?_
             refine tq 25 47 HT_ HW_ hHeld ?_
             refine on_ 26 (some 48) HT_ (fun K hK => ?_); refine gs_ Try.func84 #[.slice A222_1 ((rd_T80 l0_0 x17_2).f1).length c222_1] ?_; with_reducible refine (impl_validPages.calls k2 _ _ ((rd_T80 l0_0 x17_2).f1) true _ ?side1 ?side2 A56.out).mono ?_
             (case side1 => repeat (first | exact (Kd.C_below HR222_1.out bb) | (with_reducible refine Kd.C_alloc ?_ _) | (with_reducible refine Kd.C_drewN ?_ _) | (with_reducible refine Kd.C_drew ?_))); (case side2 => exact HC222_1.out); rintro e w65 ⟨rfl, hb⟩; refine ⟨_, rfl, ?_⟩; have n0_ := kp (kb BK219.out hb); have n1_ := kp (kb BK223.out hb); have n2_ := kp (below_step bb hb); clear BK219; clear BK223; clear HB; have BK219 := n0_; have BK223 := n1_; have HB := n2_; clear n0_ n1_ n2_; (try clear hb); (try clear hk); refine hK.out _ _ ⟨(blk_cell BK223.out 0).trans rfl, (blk_cell BK223.out 1).trans rfl, (blk_cell BK223.out 2).trans rfl, (blk_cell BK223.out 3).trans rfl, (blk_cell BK219.out 0).trans rfl, (blk_cell BK219.out 1).trans rfl⟩ (fun hHeld => ?_); clear hK K; refine nm_ (some 48) ?_
             refine pq 27 49 HT_ ?_
             refine pq 28 50 HT_ ?_
             refine pq 29 51 HT_ ?_
             refine pq 30 52 HT_ ?_
             refine tq 31 53 HT_ HW_ hHeld ?_
             refine pq 32 54 HT_ ?_
             refine pq 33 55 HT_ ?_
             refine uq 34 56 HT_ ?_
             refine uq 35 57 HT_ ?_
             refine uq 36 58 HT_ ?_
             refine pq 37 59 HT_ ?_
             refine pq 38 60 HT_ ?_
             refine done_ (done_of HT_.out (by kernel_rfl)) ?_
             try go_wp2
             go_roundg k2
             case measure => have := HJ1.out; have := HK2.out; omega
             case rel => exact ⟨(wrap64 (x17_2 + 1)), (by first | rfl | (simp; done) | (simp [*]; done)), H', ⟨by have := HJ1.out; have := HK2.out; omega⟩, ⟨by (with_reducible repeat (first | apply bN | apply bD | apply bA)); exact BK219.out⟩, ⟨bb⟩⟩
            ·replace c59 := Bool.eq_false_iff.mpr c59; subst c59; have H1 : (if ((rd_T80 l0_0 x17_2).f2) = 0 then (impl_IsValidDisk.l0 k2 l0_0 (l0_0.length : Int) (wrap64 (x17_2 + 1)) l0_0 a0_1) else (some false)) = some r := by rw [if_neg (show ¬ (false = true) by decide)] at H; exact H
             clear H; have H := H1; clear H1
             by_cases c66 : ((rd_T80 l0_0 x17_2).f2) = 0
             ·rw [if_pos c66] at H; have c66b0 : (((rd_T80 l0_0 x17_2).f2) == 0) = true := beq_iff_eq.mpr c66; have c66b1 : (((rd_T80 l0_0 x17_2).f2) != 0) = false := bne_eq_false_iff_eq.mpr c66; clear c66; have H' := kp H; clear H; have p222 : 0 ≤ (x17_2 : Int) := dt; have q222 : x17_2 < (l0_0.length : Int) := dt; obtain ⟨ad222, A222_1, c222_1, e222, hx222_0, hx222_1, hx222_2, hx222_3, hl222_1, hi222_1⟩ := at_T80 HR0_0.out x17_2 p222 q222; (try rw [← Nbq58.out] at hx222_3); (try rw [← Nbq58.out] at hw222_3); cases e222; replace hx222_0 := kc HB.out hx222_0; replace hx222_1 := kc HB.out hx222_1; replace hx222_2 := kc HB.out hx222_2; replace hx222_3 := kc HB.out hx222_3; have HR222_1 := kp hi222_1; have HC222_1 := kp hl222_1; clear hi222_1 hl222_1; replace p222 := eq_true p222; replace q222 := eq_true q222
              try go_wp2_with (first | ((with_reducible refine gate_dst (N := 4) rfl ?_); refine bx_ 4 #[.int .i64 0, .slice none 0 0, .int .i64 0, .bool false] 80 ?_; intro gb223 hg w67 hbox hb; have n0_ := kp (kb BK219.out hb); have n1_ := kp (below_step bb hb); have n2_ := kp (hbox); have n3_ := kp (bs hg); have n4_ := kp (bs hg); have n5_ := kp (bl hg BK219.out); have n6_ := kp (bg hg BK219.out); clear BK219; clear HB; have BK219 := n0_; have HB := n1_; have BK223 := n2_; have GW223 := n3_; have GE223 := n4_; have NB219_223 := n5_; have NB223_219 := n6_; clear n0_ n1_ n2_ n3_ n4_ n5_ n6_; clear hb hbox hg; have hnb68 := NB223_219.out; have hnc68 := NB219_223.out; have hcz69_0 : w67.cell? ⟨gb223, 0, none⟩ = some (.int .i64 0) := (blk_cell BK223.out 0).trans rfl; have hcz69_1 : w67.cell? ⟨gb223, 1, none⟩ = some (.slice none 0 0) := (blk_cell BK223.out 1).trans rfl; have hcz69_2 : w67.cell? ⟨gb223, 2, none⟩ = some (.int .i64 0) := (blk_cell BK223.out 2).trans rfl; have hcz69_3 : w67.cell? ⟨gb223, 3, none⟩ = some (.bool false) := (blk_cell BK223.out 3).trans rfl; have hfz69_0 := blk_frozen BK223.out 0; have hfz69_1 := blk_frozen BK223.out 1; have hfz69_2 := blk_frozen BK223.out 2; have hfz69_3 := blk_frozen BK223.out 3))
              have n0_ : Aside0 (((((w67.setCell ⟨gb223, 0, none⟩ (.int .i64 ((rd_T80 l0_0 x17_2).f0))).setCell ⟨gb223, 1, none⟩ (.slice A222_1 ((rd_T80 l0_0 x17_2).f1).length c222_1)).setCell ⟨gb223, 2, none⟩ (.int .i64 ((rd_T80 l0_0 x17_2).f2))).setCell ⟨gb223, 3, none⟩ (.bool false)).heap[gb219]? = some (.cells #[.slice (some ad222) l0_0.length c0_0, .int .i64 a0_1] 28 (0, 0))) := ⟨by refine blk_far ?_ NB219_223.out _; refine blk_far ?_ NB219_223.out _; refine blk_far ?_ NB219_223.out _; refine blk_far ?_ NB219_223.out _; (with_reducible repeat (first | apply bN | apply bD | apply bA)); exact BK219.out⟩
              have n1_ : Aside0 (((((w67.setCell ⟨gb223, 0, none⟩ (.int .i64 ((rd_T80 l0_0 x17_2).f0))).setCell ⟨gb223, 1, none⟩ (.slice A222_1 ((rd_T80 l0_0 x17_2).f1).length c222_1)).setCell ⟨gb223, 2, none⟩ (.int .i64 ((rd_T80 l0_0 x17_2).f2))).setCell ⟨gb223, 3, none⟩ (.bool false)).heap[gb223]? = some (.cells #[.int .i64 ((rd_T80 l0_0 x17_2).f0), .slice A222_1 ((rd_T80 l0_0 x17_2).f1).length c222_1, .int .i64 ((rd_T80 l0_0 x17_2).f2), .bool false] 80 (0, 0))) := ⟨by refine blk_put (cs := #[.int .i64 ((rd_T80 l0_0 x17_2).f0), .slice A222_1 ((rd_T80 l0_0 x17_2).f1).length c222_1, .int .i64 ((rd_T80 l0_0 x17_2).f2), .bool false]) ?_ 3 _ rfl; refine blk_put (cs := #[.int .i64 ((rd_T80 l0_0 x17_2).f0), .slice A222_1 ((rd_T80 l0_0 x17_2).f1).length c222_1, .int .i64 0, .bool false]) ?_ 2 _ rfl; refine blk_put (cs := #[.int .i64 ((rd_T80 l0_0 x17_2).f0), .slice none 0 0, .int .i64 0, .bool false]) ?_ 1 _ rfl; refine blk_put (cs := #[.int .i64 0, .slice none 0 0, .int .i64 0, .bool false]) ?_ 0 _ rfl; (with_reducible repeat (first | apply bN | apply bD | apply bA)); exact BK223.out⟩; have n2_ : Aside0 (Below w.heap.size w ((((w67.setCell ⟨gb223, 0, none⟩ (.int .i64 ((rd_T80 l0_0 x17_2).f0))).setCell ⟨gb223, 1, none⟩ (.slice A222_1 ((rd_T80 l0_0 x17_2).f1).length c222_1)).setCell ⟨gb223, 2, none⟩ (.int .i64 ((rd_T80 l0_0 x17_2).f2))).setCell ⟨gb223, 3, none⟩ (.bool false))) := ⟨bb⟩; (try clear BK219); (try clear BK223); (try clear HB)
              generalize ((((w67.setCell ⟨gb223, 0, none⟩ (.int .i64 ((rd_T80 l0_0 x17_2).f0))).setCell ⟨gb223, 1, none⟩ (.slice A222_1 ((rd_T80 l0_0 x17_2).f1).length c222_1)).setCell ⟨gb223, 2, none⟩ (.int .i64 ((rd_T80 l0_0 x17_2).f2))).setCell ⟨gb223, 3, none⟩ (.bool false)) = w70 at n0_ n1_ n2_ ⊢; have BK219 := n0_; have BK223 := n1_; have HB := n2_; clear n0_ n1_ n2_; have n0_ := kp (blk_drew BK219.out); have n1_ := kp (blk_drew BK223.out); have n2_ := kp (below_drew1 HB.out); clear BK219; clear BK223; clear HB; have BK219 := n0_; have BK223 := n1_; have HB := n2_; clear n0_ n1_ n2_
              refine start_ (n := 39) (S := fun w' => w'.cell? ⟨gb223, 0, none⟩ = some (.int .i64 ((rd_T80 l0_0 x17_2).f0)) ∧ w'.cell? ⟨gb223, 1, none⟩ = some (.slice A222_1 ((rd_T80 l0_0 x17_2).f1).length c222_1) ∧ w'.cell? ⟨gb223, 2, none⟩ = some (.int .i64 ((rd_T80 l0_0 x17_2).f2)) ∧ w'.cell? ⟨gb223, 3, none⟩ = some (.bool false) ∧ w'.cell? ⟨gb219, 0, none⟩ = some (.slice (some ad222) l0_0.length c0_0) ∧ w'.cell? ⟨gb219, 1, none⟩ = some (.int .i64 a0_1)) (ds := []) #[false, false, false, false, false, false, false, false, false, false, false, false, false, false, false, false, false, false, false, false, false, false, false, false, false, false, false, false, false, false, false, false, false, false, false, false, false, false, false] (by kernel_rfl) rfl rfl ⟨(blk_cell BK223.out 0).trans rfl, (blk_cell BK223.out 1).trans rfl, (blk_cell BK223.out 2).trans rfl, (blk_cell BK223.out 3).trans rfl, (blk_cell BK219.out 0).trans rfl, (blk_cell BK219.out 1).trans rfl⟩ (fun hHeld => ?_); refine with_tabW impl_IsValidDisk.tab6 impl_IsValidDisk.bits6 (fun HT_ HW_ => ?_)
              generalize w70.drew = w71 at BK219 BK223 HB hHeld ⊢
              refine pq 0 22 HT_ ?_
              refine pq 2 24 HT_ ?_
              refine tq 1 23 HT_ HW_ hHeld ?_
              refine tq 3 25 HT_ HW_ hHeld ?_
              refine pq 4 26 HT_ ?_
              refine on_ 5 (some 27) HT_ (fun K hK => ?_); refine gs_ Try.func83 #[.int .i64 ((rd_T80 l0_0 x17_2).f0), .int .i64 0, .int .i64 (wrap64 (a0_1 - 1))] ?_; with_reducible refine (impl_within.calls ((rd_T80 l0_0 x17_2).f0) 0 (wrap64 (a0_1 - 1)) true _ A15.out).mono ?_
              rintro e w' ⟨rfl, ⟨nd, rfl⟩⟩; refine ⟨_, rfl, ?_⟩; refine hK.out _ _ ⟨(blk_cell BK223.out 0).trans rfl, (blk_cell BK223.out 1).trans rfl, (blk_cell BK223.out 2).trans rfl, (blk_cell BK223.out 3).trans rfl, (blk_cell BK219.out 0).trans rfl, (blk_cell BK219.out 1).trans rfl⟩ (fun hHeld => ?_); clear hK K; refine nm_ (some 27) ?_
              refine pq 6 28 HT_ ?_
              refine pq 7 29 HT_ ?_
              refine pq 8 30 HT_ ?_
              refine pq 9 31 HT_ ?_
              refine pq 10 32 HT_ ?_
              refine uq 11 33 HT_ ?_
              refine uq 12 34 HT_ ?_
              refine uq 13 35 HT_ ?_
              refine uq 14 36 HT_ ?_
              refine uq 15 37 HT_ ?_
              refine uq 16 38 HT_ ?_
              refine uq 17 39 HT_ ?_
              refine uq 18 40 HT_ ?_
              refine uq 19 41 HT_ ?_
              refine uq 20 42 HT_ ?_
              refine pq 21 43 HT_ ?_
              refine pq 22 44 HT_ ?_
              refine pq 23 45 HT_ ?_
              refine pq 24 46 HT_ ?_
              refine tq 25 47 HT_ HW_ hHeld ?_
              refine on_ 26 (some 48) HT_ (fun K hK => ?_); refine gs_ Try.func84 #[.slice A222_1 ((rd_T80 l0_0 x17_2).f1).length c222_1] ?_; with_reducible refine (impl_validPages.calls k2 _ _ ((rd_T80 l0_0 x17_2).f1) true _ ?side1 ?side2 A56.out).mono ?_
              (case side1 => repeat (first | exact (Kd.C_below HR222_1.out bb) | (with_reducible refine Kd.C_alloc ?_ _) | (with_reducible refine Kd.C_drewN ?_ _) | (with_reducible refine Kd.C_drew ?_))); (case side2 => exact HC222_1.out); rintro e w72 ⟨rfl, hb⟩; refine ⟨_, rfl, ?_⟩; have n0_ := kp (kb BK219.out hb); have n1_ := kp (kb BK223.out hb); have n2_ := kp (below_step bb hb); clear BK219; clear BK223; clear HB; have BK219 := n0_; have BK223 := n1_; have HB := n2_; clear n0_ n1_ n2_; (try clear hb); (try clear hk); refine hK.out _ _ ⟨(blk_cell BK223.out 0).trans rfl, (blk_cell BK223.out 1).trans rfl, (blk_cell BK223.out 2).trans rfl, (blk_cell BK223.out 3).trans rfl, (blk_cell BK219.out 0).trans rfl, (blk_cell BK219.out 1).trans rfl⟩ (fun hHeld => ?_); clear hK K; refine nm_ (some 48) ?_
              refine pq 27 49 HT_ ?_
              refine pq 28 50 HT_ ?_
              refine pq 29 51 HT_ ?_
              refine pq 30 52 HT_ ?_
              refine tq 31 53 HT_ HW_ hHeld ?_
              refine pq 32 54 HT_ ?_
              refine pq 33 55 HT_ ?_
              refine pq 34 56 HT_ ?_
              refine tq 35 57 HT_ HW_ hHeld ?_
              refine pq 36 58 HT_ ?_
              refine pq 37 59 HT_ ?_
              refine pq 38 60 HT_ ?_
              refine done_ (done_of HT_.out (by kernel_rfl)) ?_
              try go_wp2
              go_roundg k2
              case measure => have := HJ1.out; have := HK2.out; omega
              case rel => exact ⟨(wrap64 (x17_2 + 1)), (by first | rfl | (simp; done) | (simp [*]; done)), H', ⟨by have := HJ1.out; have := HK2.out; omega⟩, ⟨by (with_reducible repeat (first | apply bN | apply bD | apply bA)); exact BK219.out⟩, ⟨bb⟩⟩
             ·rw [if_neg c66] at H; have c66b0 : (((rd_T80 l0_0 x17_2).f2) == 0) = false := beq_eq_false_iff_ne.mpr c66; have c66b1 : (((rd_T80 l0_0 x17_2).f2) != 0) = true := bne_iff_ne.mpr c66; obtain rfl := Option.some.inj H; have p222 : 0 ≤ (x17_2 : Int) := dt; have q222 : x17_2 < (l0_0.length : Int) := dt; obtain ⟨ad222, A222_1, c222_1, e222, hx222_0, hx222_1, hx222_2, hx222_3, hl222_1, hi222_1⟩ := at_T80 HR0_0.out x17_2 p222 q222; (try rw [← Nbq58.out] at hx222_3); (try rw [← Nbq58.out] at hw222_3); cases e222; replace hx222_0 := kc HB.out hx222_0; replace hx222_1 := kc HB.out hx222_1; replace hx222_2 := kc HB.out hx222_2; replace hx222_3 := kc HB.out hx222_3; have HR222_1 := kp hi222_1; have HC222_1 := kp hl222_1; clear hi222_1 hl222_1; replace p222 := eq_true p222; replace q222 := eq_true q222
              try go_wp2_with (first | ((with_reducible refine gate_dst (N := 4) rfl ?_); refine bx_ 4 #[.int .i64 0, .slice none 0 0, .int .i64 0, .bool false] 80 ?_; intro gb223 hg w73 hbox hb; have n0_ := kp (kb BK219.out hb); have n1_ := kp (below_step bb hb); have n2_ := kp (hbox); have n3_ := kp (bs hg); have n4_ := kp (bs hg); have n5_ := kp (bl hg BK219.out); have n6_ := kp (bg hg BK219.out); clear BK219; clear HB; have BK219 := n0_; have HB := n1_; have BK223 := n2_; have GW223 := n3_; have GE223 := n4_; have NB219_223 := n5_; have NB223_219 := n6_; clear n0_ n1_ n2_ n3_ n4_ n5_ n6_; clear hb hbox hg; have hnb74 := NB223_219.out; have hnc74 := NB219_223.out; have hcz75_0 : w73.cell? ⟨gb223, 0, none⟩ = some (.int .i64 0) := (blk_cell BK223.out 0).trans rfl; have hcz75_1 : w73.cell? ⟨gb223, 1, none⟩ = some (.slice none 0 0) := (blk_cell BK223.out 1).trans rfl; have hcz75_2 : w73.cell? ⟨gb223, 2, none⟩ = some (.int .i64 0) := (blk_cell BK223.out 2).trans rfl; have hcz75_3 : w73.cell? ⟨gb223, 3, none⟩ = some (.bool false) := (blk_cell BK223.out 3).trans rfl; have hfz75_0 := blk_frozen BK223.out 0; have hfz75_1 := blk_frozen BK223.out 1; have hfz75_2 := blk_frozen BK223.out 2; have hfz75_3 := blk_frozen BK223.out 3))
              have n0_ : Aside0 (((((w73.setCell ⟨gb223, 0, none⟩ (.int .i64 ((rd_T80 l0_0 x17_2).f0))).setCell ⟨gb223, 1, none⟩ (.slice A222_1 ((rd_T80 l0_0 x17_2).f1).length c222_1)).setCell ⟨gb223, 2, none⟩ (.int .i64 ((rd_T80 l0_0 x17_2).f2))).setCell ⟨gb223, 3, none⟩ (.bool false)).heap[gb219]? = some (.cells #[.slice (some ad222) l0_0.length c0_0, .int .i64 a0_1] 28 (0, 0))) := ⟨by refine blk_far ?_ NB219_223.out _; refine blk_far ?_ NB219_223.out _; refine blk_far ?_ NB219_223.out _; refine blk_far ?_ NB219_223.out _; (with_reducible repeat (first | apply bN | apply bD | apply bA)); exact BK219.out⟩
              have n1_ : Aside0 (((((w73.setCell ⟨gb223, 0, none⟩ (.int .i64 ((rd_T80 l0_0 x17_2).f0))).setCell ⟨gb223, 1, none⟩ (.slice A222_1 ((rd_T80 l0_0 x17_2).f1).length c222_1)).setCell ⟨gb223, 2, none⟩ (.int .i64 ((rd_T80 l0_0 x17_2).f2))).setCell ⟨gb223, 3, none⟩ (.bool false)).heap[gb223]? = some (.cells #[.int .i64 ((rd_T80 l0_0 x17_2).f0), .slice A222_1 ((rd_T80 l0_0 x17_2).f1).length c222_1, .int .i64 ((rd_T80 l0_0 x17_2).f2), .bool false] 80 (0, 0))) := ⟨by refine blk_put (cs := #[.int .i64 ((rd_T80 l0_0 x17_2).f0), .slice A222_1 ((rd_T80 l0_0 x17_2).f1).length c222_1, .int .i64 ((rd_T80 l0_0 x17_2).f2), .bool false]) ?_ 3 _ rfl; refine blk_put (cs := #[.int .i64 ((rd_T80 l0_0 x17_2).f0), .slice A222_1 ((rd_T80 l0_0 x17_2).f1).length c222_1, .int .i64 0, .bool false]) ?_ 2 _ rfl; refine blk_put (cs := #[.int .i64 ((rd_T80 l0_0 x17_2).f0), .slice none 0 0, .int .i64 0, .bool false]) ?_ 1 _ rfl; refine blk_put (cs := #[.int .i64 0, .slice none 0 0, .int .i64 0, .bool false]) ?_ 0 _ rfl; (with_reducible repeat (first | apply bN | apply bD | apply bA)); exact BK223.out⟩; have n2_ : Aside0 (Below w.heap.size w ((((w73.setCell ⟨gb223, 0, none⟩ (.int .i64 ((rd_T80 l0_0 x17_2).f0))).setCell ⟨gb223, 1, none⟩ (.slice A222_1 ((rd_T80 l0_0 x17_2).f1).length c222_1)).setCell ⟨gb223, 2, none⟩ (.int .i64 ((rd_T80 l0_0 x17_2).f2))).setCell ⟨gb223, 3, none⟩ (.bool false))) := ⟨bb⟩; (try clear BK219); (try clear BK223); (try clear HB)
              generalize ((((w73.setCell ⟨gb223, 0, none⟩ (.int .i64 ((rd_T80 l0_0 x17_2).f0))).setCell ⟨gb223, 1, none⟩ (.slice A222_1 ((rd_T80 l0_0 x17_2).f1).length c222_1)).setCell ⟨gb223, 2, none⟩ (.int .i64 ((rd_T80 l0_0 x17_2).f2))).setCell ⟨gb223, 3, none⟩ (.bool false)) = w76 at n0_ n1_ n2_ ⊢; have BK219 := n0_; have BK223 := n1_; have HB := n2_; clear n0_ n1_ n2_; have n0_ := kp (blk_drew BK219.out); have n1_ := kp (blk_drew BK223.out); have n2_ := kp (below_drew1 HB.out); clear BK219; clear BK223; clear HB; have BK219 := n0_; have BK223 := n1_; have HB := n2_; clear n0_ n1_ n2_
              refine start_ (n := 39) (S := fun w' => w'.cell? ⟨gb223, 0, none⟩ = some (.int .i64 ((rd_T80 l0_0 x17_2).f0)) ∧ w'.cell? ⟨gb223, 1, none⟩ = some (.slice A222_1 ((rd_T80 l0_0 x17_2).f1).length c222_1) ∧ w'.cell? ⟨gb223, 2, none⟩ = some (.int .i64 ((rd_T80 l0_0 x17_2).f2)) ∧ w'.cell? ⟨gb223, 3, none⟩ = some (.bool false) ∧ w'.cell? ⟨gb219, 0, none⟩ = some (.slice (some ad222) l0_0.length c0_0) ∧ w'.cell? ⟨gb219, 1, none⟩ = some (.int .i64 a0_1)) (ds := []) #[false, false, false, false, false, false, false, false, false, false, false, false, false, false, false, false, false, false, false, false, false, false, false, false, false, false, false, false, false, false, false, false, false, false, false, false, false, false, false] (by kernel_rfl) rfl rfl ⟨(blk_cell BK223.out 0).trans rfl, (blk_cell BK223.out 1).trans rfl, (blk_cell BK223.out 2).trans rfl, (blk_cell BK223.out 3).trans rfl, (blk_cell BK219.out 0).trans rfl, (blk_cell BK219.out 1).trans rfl⟩ (fun hHeld => ?_); refine with_tabW impl_IsValidDisk.tab6 impl_IsValidDisk.bits6 (fun HT_ HW_ => ?_)
              generalize w76.drew = w77 at BK219 BK223 HB hHeld ⊢
              refine pq 0 22 HT_ ?_
              refine pq 2 24 HT_ ?_
              refine tq 1 23 HT_ HW_ hHeld ?_
              refine tq 3 25 HT_ HW_ hHeld ?_
              refine pq 4 26 HT_ ?_
              refine on_ 5 (some 27) HT_ (fun K hK => ?_); refine gs_ Try.func83 #[.int .i64 ((rd_T80 l0_0 x17_2).f0), .int .i64 0, .int .i64 (wrap64 (a0_1 - 1))] ?_; with_reducible refine (impl_within.calls ((rd_T80 l0_0 x17_2).f0) 0 (wrap64 (a0_1 - 1)) true _ A15.out).mono ?_
              rintro e w' ⟨rfl, ⟨nd, rfl⟩⟩; refine ⟨_, rfl, ?_⟩; refine hK.out _ _ ⟨(blk_cell BK223.out 0).trans rfl, (blk_cell BK223.out 1).trans rfl, (blk_cell BK223.out 2).trans rfl, (blk_cell BK223.out 3).trans rfl, (blk_cell BK219.out 0).trans rfl, (blk_cell BK219.out 1).trans rfl⟩ (fun hHeld => ?_); clear hK K; refine nm_ (some 27) ?_
              refine pq 6 28 HT_ ?_
              refine pq 7 29 HT_ ?_
              refine pq 8 30 HT_ ?_
              refine pq 9 31 HT_ ?_
              refine pq 10 32 HT_ ?_
              refine uq 11 33 HT_ ?_
              refine uq 12 34 HT_ ?_
              refine uq 13 35 HT_ ?_
              refine uq 14 36 HT_ ?_
              refine uq 15 37 HT_ ?_
              refine uq 16 38 HT_ ?_
              refine uq 17 39 HT_ ?_
              refine uq 18 40 HT_ ?_
              refine uq 19 41 HT_ ?_
              refine uq 20 42 HT_ ?_
              refine pq 21 43 HT_ ?_
              refine pq 22 44 HT_ ?_
              refine pq 23 45 HT_ ?_
              refine pq 24 46 HT_ ?_
              refine tq 25 47 HT_ HW_ hHeld ?_
              refine on_ 26 (some 48) HT_ (fun K hK => ?_); refine gs_ Try.func84 #[.slice A222_1 ((rd_T80 l0_0 x17_2).f1).length c222_1] ?_; with_reducible refine (impl_validPages.calls k2 _ _ ((rd_T80 l0_0 x17_2).f1) true _ ?side1 ?side2 A56.out).mono ?_
              (case side1 => repeat (first | exact (Kd.C_below HR222_1.out bb) | (with_reducible refine Kd.C_alloc ?_ _) | (with_reducible refine Kd.C_drewN ?_ _) | (with_reducible refine Kd.C_drew ?_))); (case side2 => exact HC222_1.out); rintro e w78 ⟨rfl, hb⟩; refine ⟨_, rfl, ?_⟩; have n0_ := kp (kb BK219.out hb); have n1_ := kp (kb BK223.out hb); have n2_ := kp (below_step bb hb); clear BK219; clear BK223; clear HB; have BK219 := n0_; have BK223 := n1_; have HB := n2_; clear n0_ n1_ n2_; (try clear hb); (try clear hk); refine hK.out _ _ ⟨(blk_cell BK223.out 0).trans rfl, (blk_cell BK223.out 1).trans rfl, (blk_cell BK223.out 2).trans rfl, (blk_cell BK223.out 3).trans rfl, (blk_cell BK219.out 0).trans rfl, (blk_cell BK219.out 1).trans rfl⟩ (fun hHeld => ?_); clear hK K; refine nm_ (some 48) ?_
              refine pq 27 49 HT_ ?_
              refine pq 28 50 HT_ ?_
              refine pq 29 51 HT_ ?_
              refine pq 30 52 HT_ ?_
              refine tq 31 53 HT_ HW_ hHeld ?_
              refine pq 32 54 HT_ ?_
              refine pq 33 55 HT_ ?_
              refine pq 34 56 HT_ ?_
              refine tq 35 57 HT_ HW_ hHeld ?_
              refine pq 36 58 HT_ ?_
              refine pq 37 59 HT_ ?_
              refine pq 38 60 HT_ ?_
              refine done_ (done_of HT_.out (by kernel_rfl)) ?_
              try go_wp2
              go_ret; exact ⟨er, bb⟩
           ·replace c57 := Bool.eq_false_iff.mpr c57; subst c57; have H1 : (some false) = some r := by rw [if_neg (show ¬ (false = true) by decide)] at H; exact H
            clear H; have H := H1; clear H1; obtain rfl := Option.some.inj H; have p222 : 0 ≤ (x17_2 : Int) := dt; have q222 : x17_2 < (l0_0.length : Int) := dt; obtain ⟨ad222, A222_1, c222_1, e222, hx222_0, hx222_1, hx222_2, hx222_3, hl222_1, hi222_1⟩ := at_T80 HR0_0.out x17_2 p222 q222; cases e222; replace hx222_0 := kc HB.out hx222_0; replace hx222_1 := kc HB.out hx222_1; replace hx222_2 := kc HB.out hx222_2; replace hx222_3 := kc HB.out hx222_3; have HR222_1 := kp hi222_1; have HC222_1 := kp hl222_1; clear hi222_1 hl222_1; replace p222 := eq_true p222; replace q222 := eq_true q222
            try go_wp2_with (first | ((with_reducible refine gate_dst (N := 4) rfl ?_); refine bx_ 4 #[.int .i64 0, .slice none 0 0, .int .i64 0, .bool false] 80 ?_; intro gb223 hg w79 hbox hb; have n0_ := kp (kb BK219.out hb); have n1_ := kp (below_step bb hb); have n2_ := kp (hbox); have n3_ := kp (bs hg); have n4_ := kp (bs hg); have n5_ := kp (bl hg BK219.out); have n6_ := kp (bg hg BK219.out); clear BK219; clear HB; have BK219 := n0_; have HB := n1_; have BK223 := n2_; have GW223 := n3_; have GE223 := n4_; have NB219_223 := n5_; have NB223_219 := n6_; clear n0_ n1_ n2_ n3_ n4_ n5_ n6_; clear hb hbox hg; have hnb80 := NB223_219.out; have hnc80 := NB219_223.out; have hcz81_0 : w79.cell? ⟨gb223, 0, none⟩ = some (.int .i64 0) := (blk_cell BK223.out 0).trans rfl; have hcz81_1 : w79.cell? ⟨gb223, 1, none⟩ = some (.slice none 0 0) := (blk_cell BK223.out 1).trans rfl; have hcz81_2 : w79.cell? ⟨gb223, 2, none⟩ = some (.int .i64 0) := (blk_cell BK223.out 2).trans rfl; have hcz81_3 : w79.cell? ⟨gb223, 3, none⟩ = some (.bool false) := (blk_cell BK223.out 3).trans rfl; have hfz81_0 := blk_frozen BK223.out 0; have hfz81_1 := blk_frozen BK223.out 1; have hfz81_2 := blk_frozen BK223.out 2; have hfz81_3 := blk_frozen BK223.out 3))
            have n0_ : Aside0 (((((w79.setCell ⟨gb223, 0, none⟩ (.int .i64 ((rd_T80 l0_0 x17_2).f0))).setCell ⟨gb223, 1, none⟩ (.slice A222_1 ((rd_T80 l0_0 x17_2).f1).length c222_1)).setCell ⟨gb223, 2, none⟩ (.int .i64 ((rd_T80 l0_0 x17_2).f2))).setCell ⟨gb223, 3, none⟩ (.bool ((rd_T80 l0_0 x17_2).f3))).heap[gb219]? = some (.cells #[.slice (some ad222) l0_0.length c0_0, .int .i64 a0_1] 28 (0, 0))) := ⟨by refine blk_far ?_ NB219_223.out _; refine blk_far ?_ NB219_223.out _; refine blk_far ?_ NB219_223.out _; refine blk_far ?_ NB219_223.out _; (with_reducible repeat (first | apply bN | apply bD | apply bA)); exact BK219.out⟩
            have n1_ : Aside0 (((((w79.setCell ⟨gb223, 0, none⟩ (.int .i64 ((rd_T80 l0_0 x17_2).f0))).setCell ⟨gb223, 1, none⟩ (.slice A222_1 ((rd_T80 l0_0 x17_2).f1).length c222_1)).setCell ⟨gb223, 2, none⟩ (.int .i64 ((rd_T80 l0_0 x17_2).f2))).setCell ⟨gb223, 3, none⟩ (.bool ((rd_T80 l0_0 x17_2).f3))).heap[gb223]? = some (.cells #[.int .i64 ((rd_T80 l0_0 x17_2).f0), .slice A222_1 ((rd_T80 l0_0 x17_2).f1).length c222_1, .int .i64 ((rd_T80 l0_0 x17_2).f2), .bool ((rd_T80 l0_0 x17_2).f3)] 80 (0, 0))) := ⟨by refine blk_put (cs := #[.int .i64 ((rd_T80 l0_0 x17_2).f0), .slice A222_1 ((rd_T80 l0_0 x17_2).f1).length c222_1, .int .i64 ((rd_T80 l0_0 x17_2).f2), .bool false]) ?_ 3 _ rfl; refine blk_put (cs := #[.int .i64 ((rd_T80 l0_0 x17_2).f0), .slice A222_1 ((rd_T80 l0_0 x17_2).f1).length c222_1, .int .i64 0, .bool false]) ?_ 2 _ rfl; refine blk_put (cs := #[.int .i64 ((rd_T80 l0_0 x17_2).f0), .slice none 0 0, .int .i64 0, .bool false]) ?_ 1 _ rfl; refine blk_put (cs := #[.int .i64 0, .slice none 0 0, .int .i64 0, .bool false]) ?_ 0 _ rfl; (with_reducible repeat (first | apply bN | apply bD | apply bA)); exact BK223.out⟩; have n2_ : Aside0 (Below w.heap.size w ((((w79.setCell ⟨gb223, 0, none⟩ (.int .i64 ((rd_T80 l0_0 x17_2).f0))).setCell ⟨gb223, 1, none⟩ (.slice A222_1 ((rd_T80 l0_0 x17_2).f1).length c222_1)).setCell ⟨gb223, 2, none⟩ (.int .i64 ((rd_T80 l0_0 x17_2).f2))).setCell ⟨gb223, 3, none⟩ (.bool ((rd_T80 l0_0 x17_2).f3)))) := ⟨bb⟩; (try clear BK219)
            (try clear BK223); (try clear HB); generalize ((((w79.setCell ⟨gb223, 0, none⟩ (.int .i64 ((rd_T80 l0_0 x17_2).f0))).setCell ⟨gb223, 1, none⟩ (.slice A222_1 ((rd_T80 l0_0 x17_2).f1).length c222_1)).setCell ⟨gb223, 2, none⟩ (.int .i64 ((rd_T80 l0_0 x17_2).f2))).setCell ⟨gb223, 3, none⟩ (.bool ((rd_T80 l0_0 x17_2).f3))) = w82 at n0_ n1_ n2_ ⊢; have BK219 := n0_; have BK223 := n1_; have HB := n2_; clear n0_ n1_ n2_; have n0_ := kp (blk_drew BK219.out); have n1_ := kp (blk_drew BK223.out); have n2_ := kp (below_drew1 HB.out); clear BK219; clear BK223; clear HB; have BK219 := n0_; have BK223 := n1_; have HB := n2_; clear n0_ n1_ n2_
            refine start_ (n := 39) (S := fun w' => w'.cell? ⟨gb223, 0, none⟩ = some (.int .i64 ((rd_T80 l0_0 x17_2).f0)) ∧ w'.cell? ⟨gb223, 1, none⟩ = some (.slice A222_1 ((rd_T80 l0_0 x17_2).f1).length c222_1) ∧ w'.cell? ⟨gb223, 2, none⟩ = some (.int .i64 ((rd_T80 l0_0 x17_2).f2)) ∧ w'.cell? ⟨gb223, 3, none⟩ = some (.bool ((rd_T80 l0_0 x17_2).f3)) ∧ w'.cell? ⟨gb219, 0, none⟩ = some (.slice (some ad222) l0_0.length c0_0) ∧ w'.cell? ⟨gb219, 1, none⟩ = some (.int .i64 a0_1)) (ds := []) #[false, false, false, false, false, false, false, false, false, false, false, false, false, false, false, false, false, false, false, false, false, false, false, false, false, false, false, false, false, false, false, false, false, false, false, false, false, false, false] (by kernel_rfl) rfl rfl ⟨(blk_cell BK223.out 0).trans rfl, (blk_cell BK223.out 1).trans rfl, (blk_cell BK223.out 2).trans rfl, (blk_cell BK223.out 3).trans rfl, (blk_cell BK219.out 0).trans rfl, (blk_cell BK219.out 1).trans rfl⟩ (fun hHeld => ?_); refine with_tabW impl_IsValidDisk.tab6 impl_IsValidDisk.bits6 (fun HT_ HW_ => ?_)
            generalize w82.drew = w83 at BK219 BK223 HB hHeld ⊢
            refine pq 0 22 HT_ ?_
            refine pq 2 24 HT_ ?_
            refine tq 1 23 HT_ HW_ hHeld ?_
            refine tq 3 25 HT_ HW_ hHeld ?_
            refine pq 4 26 HT_ ?_
            refine on_ 5 (some 27) HT_ (fun K hK => ?_); refine gs_ Try.func83 #[.int .i64 ((rd_T80 l0_0 x17_2).f0), .int .i64 0, .int .i64 (wrap64 (a0_1 - 1))] ?_; with_reducible refine (impl_within.calls ((rd_T80 l0_0 x17_2).f0) 0 (wrap64 (a0_1 - 1)) true _ A15.out).mono ?_
            rintro e w' ⟨rfl, ⟨nd, rfl⟩⟩; refine ⟨_, rfl, ?_⟩; refine hK.out _ _ ⟨(blk_cell BK223.out 0).trans rfl, (blk_cell BK223.out 1).trans rfl, (blk_cell BK223.out 2).trans rfl, (blk_cell BK223.out 3).trans rfl, (blk_cell BK219.out 0).trans rfl, (blk_cell BK219.out 1).trans rfl⟩ (fun hHeld => ?_); clear hK K; refine nm_ (some 27) ?_
            refine pq 6 28 HT_ ?_
            refine pq 7 29 HT_ ?_
            refine pq 8 30 HT_ ?_
            refine pq 9 31 HT_ ?_
            refine pq 10 32 HT_ ?_
            refine uq 11 33 HT_ ?_
            refine uq 12 34 HT_ ?_
            refine uq 13 35 HT_ ?_
            refine uq 14 36 HT_ ?_
            refine uq 15 37 HT_ ?_
            refine uq 16 38 HT_ ?_
            refine uq 17 39 HT_ ?_
            refine uq 18 40 HT_ ?_
            refine uq 19 41 HT_ ?_
            refine uq 20 42 HT_ ?_
            refine pq 21 43 HT_ ?_
            refine pq 22 44 HT_ ?_
            refine pq 23 45 HT_ ?_
            refine pq 24 46 HT_ ?_
            refine tq 25 47 HT_ HW_ hHeld ?_
            refine on_ 26 (some 48) HT_ (fun K hK => ?_); refine gs_ Try.func84 #[.slice A222_1 ((rd_T80 l0_0 x17_2).f1).length c222_1] ?_; with_reducible refine (impl_validPages.calls k2 _ _ ((rd_T80 l0_0 x17_2).f1) false _ ?side1 ?side2 A56.out).mono ?_
            (case side1 => repeat (first | exact (Kd.C_below HR222_1.out bb) | (with_reducible refine Kd.C_alloc ?_ _) | (with_reducible refine Kd.C_drewN ?_ _) | (with_reducible refine Kd.C_drew ?_))); (case side2 => exact HC222_1.out); rintro e w84 ⟨rfl, hb⟩; refine ⟨_, rfl, ?_⟩; have n0_ := kp (kb BK219.out hb); have n1_ := kp (kb BK223.out hb); have n2_ := kp (below_step bb hb); clear BK219; clear BK223; clear HB; have BK219 := n0_; have BK223 := n1_; have HB := n2_; clear n0_ n1_ n2_; (try clear hb); (try clear hk); refine hK.out _ _ ⟨(blk_cell BK223.out 0).trans rfl, (blk_cell BK223.out 1).trans rfl, (blk_cell BK223.out 2).trans rfl, (blk_cell BK223.out 3).trans rfl, (blk_cell BK219.out 0).trans rfl, (blk_cell BK219.out 1).trans rfl⟩ (fun hHeld => ?_); clear hK K; refine nm_ (some 48) ?_
            refine pq 27 49 HT_ ?_
            refine pq 28 50 HT_ ?_
            refine pq 29 51 HT_ ?_
            refine uq 30 52 HT_ ?_
            refine uq 31 53 HT_ ?_
            refine uq 32 54 HT_ ?_
            refine uq 33 55 HT_ ?_
            refine uq 34 56 HT_ ?_
            refine uq 35 57 HT_ ?_
            refine uq 36 58 HT_ ?_
            refine uq 37 59 HT_ ?_
            refine pq 38 60 HT_ ?_
            refine done_ (done_of HT_.out (by kernel_rfl)) ?_
            try go_wp2
            go_ret; exact ⟨er, bb⟩
         ·replace c16 := Bool.eq_false_iff.mpr c16; subst c16; have H1 : (some false) = some r := by rw [if_neg (show ¬ (false = true) by decide)] at H; exact H
          clear H; have H := H1; clear H1; obtain rfl := Option.some.inj H; have p222 : 0 ≤ (x17_2 : Int) := dt; have q222 : x17_2 < (l0_0.length : Int) := dt; obtain ⟨ad222, A222_1, c222_1, e222, hx222_0, hx222_1, hx222_2, hx222_3, hl222_1, hi222_1⟩ := at_T80 HR0_0.out x17_2 p222 q222; cases e222; replace hx222_0 := kc HB.out hx222_0; replace hx222_1 := kc HB.out hx222_1; replace hx222_2 := kc HB.out hx222_2; replace hx222_3 := kc HB.out hx222_3; have HR222_1 := kp hi222_1; have HC222_1 := kp hl222_1; clear hi222_1 hl222_1; replace p222 := eq_true p222; replace q222 := eq_true q222
          try go_wp2_with (first | ((with_reducible refine gate_dst (N := 4) rfl ?_); refine bx_ 4 #[.int .i64 0, .slice none 0 0, .int .i64 0, .bool false] 80 ?_; intro gb223 hg w85 hbox hb; have n0_ := kp (kb BK219.out hb); have n1_ := kp (below_step bb hb); have n2_ := kp (hbox); have n3_ := kp (bs hg); have n4_ := kp (bs hg); have n5_ := kp (bl hg BK219.out); have n6_ := kp (bg hg BK219.out); clear BK219; clear HB; have BK219 := n0_; have HB := n1_; have BK223 := n2_; have GW223 := n3_; have GE223 := n4_; have NB219_223 := n5_; have NB223_219 := n6_; clear n0_ n1_ n2_ n3_ n4_ n5_ n6_; clear hb hbox hg; have hnb86 := NB223_219.out; have hnc86 := NB219_223.out; have hcz87_0 : w85.cell? ⟨gb223, 0, none⟩ = some (.int .i64 0) := (blk_cell BK223.out 0).trans rfl; have hcz87_1 : w85.cell? ⟨gb223, 1, none⟩ = some (.slice none 0 0) := (blk_cell BK223.out 1).trans rfl; have hcz87_2 : w85.cell? ⟨gb223, 2, none⟩ = some (.int .i64 0) := (blk_cell BK223.out 2).trans rfl; have hcz87_3 : w85.cell? ⟨gb223, 3, none⟩ = some (.bool false) := (blk_cell BK223.out 3).trans rfl; have hfz87_0 := blk_frozen BK223.out 0; have hfz87_1 := blk_frozen BK223.out 1; have hfz87_2 := blk_frozen BK223.out 2; have hfz87_3 := blk_frozen BK223.out 3))
          have n0_ : Aside0 (((((w85.setCell ⟨gb223, 0, none⟩ (.int .i64 ((rd_T80 l0_0 x17_2).f0))).setCell ⟨gb223, 1, none⟩ (.slice A222_1 ((rd_T80 l0_0 x17_2).f1).length c222_1)).setCell ⟨gb223, 2, none⟩ (.int .i64 ((rd_T80 l0_0 x17_2).f2))).setCell ⟨gb223, 3, none⟩ (.bool ((rd_T80 l0_0 x17_2).f3))).heap[gb219]? = some (.cells #[.slice (some ad222) l0_0.length c0_0, .int .i64 a0_1] 28 (0, 0))) := ⟨by refine blk_far ?_ NB219_223.out _; refine blk_far ?_ NB219_223.out _; refine blk_far ?_ NB219_223.out _; refine blk_far ?_ NB219_223.out _; (with_reducible repeat (first | apply bN | apply bD | apply bA)); exact BK219.out⟩
          have n1_ : Aside0 (((((w85.setCell ⟨gb223, 0, none⟩ (.int .i64 ((rd_T80 l0_0 x17_2).f0))).setCell ⟨gb223, 1, none⟩ (.slice A222_1 ((rd_T80 l0_0 x17_2).f1).length c222_1)).setCell ⟨gb223, 2, none⟩ (.int .i64 ((rd_T80 l0_0 x17_2).f2))).setCell ⟨gb223, 3, none⟩ (.bool ((rd_T80 l0_0 x17_2).f3))).heap[gb223]? = some (.cells #[.int .i64 ((rd_T80 l0_0 x17_2).f0), .slice A222_1 ((rd_T80 l0_0 x17_2).f1).length c222_1, .int .i64 ((rd_T80 l0_0 x17_2).f2), .bool ((rd_T80 l0_0 x17_2).f3)] 80 (0, 0))) := ⟨by refine blk_put (cs := #[.int .i64 ((rd_T80 l0_0 x17_2).f0), .slice A222_1 ((rd_T80 l0_0 x17_2).f1).length c222_1, .int .i64 ((rd_T80 l0_0 x17_2).f2), .bool false]) ?_ 3 _ rfl; refine blk_put (cs := #[.int .i64 ((rd_T80 l0_0 x17_2).f0), .slice A222_1 ((rd_T80 l0_0 x17_2).f1).length c222_1, .int .i64 0, .bool false]) ?_ 2 _ rfl; refine blk_put (cs := #[.int .i64 ((rd_T80 l0_0 x17_2).f0), .slice none 0 0, .int .i64 0, .bool false]) ?_ 1 _ rfl; refine blk_put (cs := #[.int .i64 0, .slice none 0 0, .int .i64 0, .bool false]) ?_ 0 _ rfl; (with_reducible repeat (first | apply bN | apply bD | apply bA)); exact BK223.out⟩; have n2_ : Aside0 (Below w.heap.size w ((((w85.setCell ⟨gb223, 0, none⟩ (.int .i64 ((rd_T80 l0_0 x17_2).f0))).setCell ⟨gb223, 1, none⟩ (.slice A222_1 ((rd_T80 l0_0 x17_2).f1).length c222_1)).setCell ⟨gb223, 2, none⟩ (.int .i64 ((rd_T80 l0_0 x17_2).f2))).setCell ⟨gb223, 3, none⟩ (.bool ((rd_T80 l0_0 x17_2).f3)))) := ⟨bb⟩; (try clear BK219); (try clear BK223)
          (try clear HB); generalize ((((w85.setCell ⟨gb223, 0, none⟩ (.int .i64 ((rd_T80 l0_0 x17_2).f0))).setCell ⟨gb223, 1, none⟩ (.slice A222_1 ((rd_T80 l0_0 x17_2).f1).length c222_1)).setCell ⟨gb223, 2, none⟩ (.int .i64 ((rd_T80 l0_0 x17_2).f2))).setCell ⟨gb223, 3, none⟩ (.bool ((rd_T80 l0_0 x17_2).f3))) = w88 at n0_ n1_ n2_ ⊢; have BK219 := n0_; have BK223 := n1_; have HB := n2_; clear n0_ n1_ n2_; have n0_ := kp (blk_drew BK219.out); have n1_ := kp (blk_drew BK223.out); have n2_ := kp (below_drew1 HB.out); clear BK219; clear BK223; clear HB; have BK219 := n0_; have BK223 := n1_; have HB := n2_; clear n0_ n1_ n2_
          refine start_ (n := 39) (S := fun w' => w'.cell? ⟨gb223, 0, none⟩ = some (.int .i64 ((rd_T80 l0_0 x17_2).f0)) ∧ w'.cell? ⟨gb223, 1, none⟩ = some (.slice A222_1 ((rd_T80 l0_0 x17_2).f1).length c222_1) ∧ w'.cell? ⟨gb223, 2, none⟩ = some (.int .i64 ((rd_T80 l0_0 x17_2).f2)) ∧ w'.cell? ⟨gb223, 3, none⟩ = some (.bool ((rd_T80 l0_0 x17_2).f3)) ∧ w'.cell? ⟨gb219, 0, none⟩ = some (.slice (some ad222) l0_0.length c0_0) ∧ w'.cell? ⟨gb219, 1, none⟩ = some (.int .i64 a0_1)) (ds := []) #[false, false, false, false, false, false, false, false, false, false, false, false, false, false, false, false, false, false, false, false, false, false, false, false, false, false, false, false, false, false, false, false, false, false, false, false, false, false, false] (by kernel_rfl) rfl rfl ⟨(blk_cell BK223.out 0).trans rfl, (blk_cell BK223.out 1).trans rfl, (blk_cell BK223.out 2).trans rfl, (blk_cell BK223.out 3).trans rfl, (blk_cell BK219.out 0).trans rfl, (blk_cell BK219.out 1).trans rfl⟩ (fun hHeld => ?_); refine with_tabW impl_IsValidDisk.tab6 impl_IsValidDisk.bits6 (fun HT_ HW_ => ?_)
          generalize w88.drew = w89 at BK219 BK223 HB hHeld ⊢
          refine pq 0 22 HT_ ?_
          refine pq 2 24 HT_ ?_
          refine tq 1 23 HT_ HW_ hHeld ?_
          refine tq 3 25 HT_ HW_ hHeld ?_
          refine pq 4 26 HT_ ?_
          refine on_ 5 (some 27) HT_ (fun K hK => ?_); refine gs_ Try.func83 #[.int .i64 ((rd_T80 l0_0 x17_2).f0), .int .i64 0, .int .i64 (wrap64 (a0_1 - 1))] ?_; with_reducible refine (impl_within.calls ((rd_T80 l0_0 x17_2).f0) 0 (wrap64 (a0_1 - 1)) false _ A15.out).mono ?_
          rintro e w' ⟨rfl, ⟨nd, rfl⟩⟩; refine ⟨_, rfl, ?_⟩; refine hK.out _ _ ⟨(blk_cell BK223.out 0).trans rfl, (blk_cell BK223.out 1).trans rfl, (blk_cell BK223.out 2).trans rfl, (blk_cell BK223.out 3).trans rfl, (blk_cell BK219.out 0).trans rfl, (blk_cell BK219.out 1).trans rfl⟩ (fun hHeld => ?_); clear hK K; refine nm_ (some 27) ?_
          refine pq 6 28 HT_ ?_
          refine pq 7 29 HT_ ?_
          refine uq 8 30 HT_ ?_
          refine uq 9 31 HT_ ?_
          refine uq 10 32 HT_ ?_
          refine uq 11 33 HT_ ?_
          refine uq 12 34 HT_ ?_
          refine uq 13 35 HT_ ?_
          refine uq 14 36 HT_ ?_
          refine uq 15 37 HT_ ?_
          refine uq 16 38 HT_ ?_
          refine uq 17 39 HT_ ?_
          refine uq 18 40 HT_ ?_
          refine uq 19 41 HT_ ?_
          refine uq 20 42 HT_ ?_
          refine uq 21 43 HT_ ?_
          refine pq 22 44 HT_ ?_
          refine pq 23 45 HT_ ?_
          refine uq 24 46 HT_ ?_
          refine uq 25 47 HT_ ?_
          refine uq 26 48 HT_ ?_
          refine uq 27 49 HT_ ?_
          refine pq 28 50 HT_ ?_
          refine pq 29 51 HT_ ?_
          refine uq 30 52 HT_ ?_
          refine uq 31 53 HT_ ?_
          refine uq 32 54 HT_ ?_
          refine uq 33 55 HT_ ?_
          refine uq 34 56 HT_ ?_
          refine uq 35 57 HT_ ?_
          refine uq 36 58 HT_ ?_
          refine uq 37 59 HT_ ?_
          refine pq 38 60 HT_ ?_
          refine done_ (done_of HT_.out (by kernel_rfl)) ?_
          try go_wp2
          go_ret; exact ⟨er, bb⟩
        ·rw [if_neg c14] at H; exact absurd H (by simp)
       ·rw [if_neg c13] at H; exact absurd H (by simp)
      ·rw [if_neg c12] at H; have c12b0 : decide (x17_2 < (l0_0.length : Int)) = false := decide_eq_false c12; clear c12; obtain rfl := Option.some.inj H; go_wp2; go_ret; exact ⟨er, bb⟩
end Go.Proofs.Ytinniedbgfgclaa.PFnExactAppendPage
