/- Out of a copy of the print, with function values told: nothing is claimed here. -/
import Derived.Test.YtbcpfppiaeelbaaVQFnMultisetsx0
import Derived.Test.YtbcpfppiaeelbaaVQFnMultisetsx1
import Derived.Test.YtbcpfppiaeelbaaVQFnMultisetsx3
import Derived.Test.YtbcpfppiaeelbaaVShort
import Derived.Test.YtbcpfppiaeelbaaVPress
namespace Go.Proofs.Ytbcpfppiaeelbaa.PFnMultisets
open Go.RowKit Go.Proofs.YtbcpfppiaeelbaaW.PrintWords Go.Proofs.YtbcpfppiaeelbaaW.PrintLast Go.Proofs.YtbcpfppiaeelbaaW.PrintMore Go.Proofs.Ytbcpfppiaeelbaa.Short Go.Proofs.Ytbcpfppiaeelbaa.Press
attribute [local go_sem] max2_int min2_int max_two min_two max_three min_three max_four min_four   -- for this text's walks alone
set_option linter.unusedVariables false
set_option linter.unusedSimpArgs false
attribute [local go_sem high] eqA36
def spec_CountRow.l0 : Nat → List (S36) → Int → Int → Int → Int → Int → Option (Int)
 | 0, _, _, _, _, _, _ => none
 | k + 1, x0, x5, x6, x267000, x267001, x267002 => if x6 < (x0.length : Int) then (if 0 ≤ x6 then (if (((rd_T36 x0 x6).f0) == x267000 && (((rd_T36 x0 x6).f1) == x267001 && (((rd_T36 x0 x6).f2) == x267002))) = true then (spec_CountRow.l0 k x0 (wrap64 (x5 + 1)) (wrap64 (x6 + 1)) x267000 x267001 x267002) else (spec_CountRow.l0 k x0 x5 (wrap64 (x6 + 1)) x267000 x267001 x267002)) else (none)) else (some x5)
def spec_CountRow.f (k : Nat) (l0 : List (S36)) (a1_0 : Int) (a1_1 : Int) (a1_2 : Int) : Option (Int) := spec_CountRow.l0 k l0 0 0 a1_0 a1_1 a1_2
set_option maxHeartbeats 8000000 in
set_option maxRecDepth 100000 in
theorem spec_CountRow.calls (k : Nat) (A0 : Option Addr) (c0 : Nat) (l0 : List (S36)) (a1_0 : Int) (a1_1 : Int) (a1_2 : Int) (r : Int) (w : World) (hr0 : Kd.C k36 w A0 l0.length l0) (hc0 : l0.length ≤ c0) (h : spec_CountRow.f k l0 a1_0 a1_1 a1_2 = some r) :
  Calls Try.prog 33 #[.slice A0 l0.length c0, .agg #[.int .i64 a1_0, .int .i64 a1_1, .int .i64 a1_2]] w fun e w' => e = .returned (.int .i64 r) ∧ Below w.heap.size w w' := by
 have hu36 := Try.underlying36
 have HR0 := kp hr0
 have HC0 := kp hc0
 clear hr0 hc0
 have HB := kp (Below.refl w.heap.size w)
 have H : (spec_CountRow.l0 k l0 0 0 a1_0 a1_1 a1_2) = some r := h
 clear h
 have H' := kp H
 clear H
 go_enter Try.func33, Try.ntmps33
 go_wp2_with (first | ((with_reducible refine gate_dst (N := 3) rfl ?_); refine bx_ 3 #[.int .i64 a1_0, .int .i64 a1_1, .int .i64 a1_2] 36 ?_; intro gb266 hg w3 hbox hb; have n0_ := kp (below_step bb hb); have n1_ := kp (hbox); have n2_ := kp (bs hg); have n3_ := kp (bs hg); clear HB; have HB := n0_; have BK266 := n1_; have GW266 := n2_; have GE266 := n3_; clear n0_ n1_ n2_ n3_; clear hb hbox hg))
 repeat (go_quiet (first | ((with_reducible refine gate_dst (N := 3) rfl ?_); refine bx_ 3 #[.int .i64 a1_0, .int .i64 a1_1, .int .i64 a1_2] 36 ?_; intro gb266 hg w3 hbox hb; have n0_ := kp (below_step bb hb); have n1_ := kp (hbox); have n2_ := kp (bs hg); have n3_ := kp (bs hg); clear HB; have HB := n0_; have BK266 := n1_; have GW266 := n2_; have GE266 := n3_; clear n0_ n1_ n2_ n3_; clear hb hbox hg)); try go_wp2_with (first | ((with_reducible refine gate_dst (N := 3) rfl ?_); refine bx_ 3 #[.int .i64 a1_0, .int .i64 a1_1, .int .i64 a1_2] 36 ?_; intro gb266 hg w3 hbox hb; have n0_ := kp (below_step bb hb); have n1_ := kp (hbox); have n2_ := kp (bs hg); have n3_ := kp (bs hg); clear HB; have HB := n0_; have BK266 := n1_; have GW266 := n2_; have GE266 := n3_; clear n0_ n1_ n2_ n3_; clear hb hbox hg)))
 go_loopg [5, 6] k (fun kq v5 v6 w' => ∃ (x5_1 : Int) (x6_1 : Int), v5 = .int .i64 x5_1 ∧ v6 = .int .i64 x6_1 ∧ Aside0 (spec_CountRow.l0 kq l0 x5_1 x6_1 a1_0 a1_1 a1_2 = some r) ∧ Aside0 (kq ≤ k) ∧ Aside0 (w'.heap[gb266]? = some (.cells #[.int .i64 a1_0, .int .i64 a1_1, .int .i64 a1_2] 36 (0, 0))) ∧ Aside0 (Below w.heap.size w w'))
 case atStart => exact ⟨(0), (0), (by first | rfl | (simp; done) | (simp [*]; done)), (by first | rfl | (simp; done) | (simp [*]; done)), H', ⟨Nat.le_refl _⟩, ⟨by (with_reducible repeat (first | apply bN | apply bD | apply bA)); exact BK266.out⟩, ⟨bb⟩⟩
 case round =>
  clear H'
  try clear p2
  try clear c3
  obtain ⟨x5_1, x6_1, rfl, rfl, HA, HK1, BK266, HB⟩ := hrel
  cases gk with
  | zero => exact absurd HA.out (by simp [spec_CountRow.l0])
  | succ k1 =>
   have H := HA.out; clear HA; simp only [spec_CountRow.l0] at H
   by_cases c4 : x6_1 < (l0.length : Int)
   ·rw [if_pos c4] at H; have c4b0 : decide (x6_1 < (l0.length : Int)) = true := decide_eq_true c4; clear c4
    by_cases c5 : 0 ≤ x6_1
    ·rw [if_pos c5] at H; have c5b0 : decide (0 ≤ x6_1) = true := decide_eq_true c5; clear c5
     by_cases c6 : (((rd_T36 l0 x6_1).f0) == a1_0 && (((rd_T36 l0 x6_1).f1) == a1_1 && (((rd_T36 l0 x6_1).f2) == a1_2))) = true
     ·rw [if_pos c6] at H; have c6b0 : (((rd_T36 l0 x6_1).f0) == a1_0 && (((rd_T36 l0 x6_1).f1) == a1_1 && (((rd_T36 l0 x6_1).f2) == a1_2))) = true := c6; (try (have c6b1 : decide (((rd_T36 l0 x6_1).f0) = a1_0 && (((rd_T36 l0 x6_1).f1) == a1_1 && (((rd_T36 l0 x6_1).f2) == a1_2))) = true := by simpa using c6)); (try (have c6b2 : (((rd_T36 l0 x6_1).f0) == a1_0 && (((rd_T36 l0 x6_1).f1) == a1_1 && (((rd_T36 l0 x6_1).f2) == a1_2))) = true := by simpa using c6)); clear c6; have H' := kp H; clear H; have p267 : 0 ≤ (x6_1 : Int) := dt; have q267 : x6_1 < (l0.length : Int) := dt; obtain ⟨ad267, e267, hx267_0, hx267_1, hx267_2⟩ := at_T36 HR0.out x6_1 p267 q267; cases e267; replace hx267_0 := kc HB.out hx267_0; replace hx267_1 := kc HB.out hx267_1; replace hx267_2 := kc HB.out hx267_2; replace p267 := eq_true p267; replace q267 := eq_true q267; have hcz7_0 : wr.cell? ⟨gb266, 0, none⟩ = some (.int .i64 a1_0) := (blk_cell BK266.out 0).trans rfl; have hcz7_1 : wr.cell? ⟨gb266, 1, none⟩ = some (.int .i64 a1_1) := (blk_cell BK266.out 1).trans rfl; have hcz7_2 : wr.cell? ⟨gb266, 2, none⟩ = some (.int .i64 a1_2) := (blk_cell BK266.out 2).trans rfl; have hfz7_0 := blk_frozen BK266.out 0; have hfz7_1 := blk_frozen BK266.out 1; have hfz7_2 := blk_frozen BK266.out 2; go_wp2
      repeat (go_quiet (fail); try go_wp2)
      go_roundg k1
      case measure => have := HK1.out; omega
      case rel => exact ⟨(wrap64 (x5_1 + 1)), (wrap64 (x6_1 + 1)), (by first | rfl | (simp; done) | (simp [*]; done)), (by first | rfl | (simp; done) | (simp [*]; done)), H', ⟨by have := HK1.out; omega⟩, ⟨by (with_reducible repeat (first | apply bN | apply bD | apply bA)); exact BK266.out⟩, ⟨bb⟩⟩
     ·rw [if_neg c6] at H; have c6b0 : (((rd_T36 l0 x6_1).f0) == a1_0 && (((rd_T36 l0 x6_1).f1) == a1_1 && (((rd_T36 l0 x6_1).f2) == a1_2))) = false := by simpa using c6
      (try (have c6b1 : decide (((rd_T36 l0 x6_1).f0) = a1_0 && (((rd_T36 l0 x6_1).f1) == a1_1 && (((rd_T36 l0 x6_1).f2) == a1_2))) = false := by simpa using c6)); (try (have c6b2 : (((rd_T36 l0 x6_1).f0) == a1_0 && (((rd_T36 l0 x6_1).f1) == a1_1 && (((rd_T36 l0 x6_1).f2) == a1_2))) = false := by simpa using c6)); (try (have c6b3 : ¬ (((rd_T36 l0 x6_1).f0) = a1_0 && (((rd_T36 l0 x6_1).f1) == a1_1 && (((rd_T36 l0 x6_1).f2) == a1_2))) := by simpa using c6)); clear c6; have H' := kp H; clear H; have p267 : 0 ≤ (x6_1 : Int) := dt; have q267 : x6_1 < (l0.length : Int) := dt; obtain ⟨ad267, e267, hx267_0, hx267_1, hx267_2⟩ := at_T36 HR0.out x6_1 p267 q267; cases e267; replace hx267_0 := kc HB.out hx267_0; replace hx267_1 := kc HB.out hx267_1; replace hx267_2 := kc HB.out hx267_2; replace p267 := eq_true p267; replace q267 := eq_true q267; have hcz8_0 : wr.cell? ⟨gb266, 0, none⟩ = some (.int .i64 a1_0) := (blk_cell BK266.out 0).trans rfl; have hcz8_1 : wr.cell? ⟨gb266, 1, none⟩ = some (.int .i64 a1_1) := (blk_cell BK266.out 1).trans rfl; have hcz8_2 : wr.cell? ⟨gb266, 2, none⟩ = some (.int .i64 a1_2) := (blk_cell BK266.out 2).trans rfl; have hfz8_0 := blk_frozen BK266.out 0; have hfz8_1 := blk_frozen BK266.out 1; have hfz8_2 := blk_frozen BK266.out 2; go_wp2
      repeat (go_quiet (fail); try go_wp2)
      go_roundg k1
      case measure => have := HK1.out; omega
      case rel => exact ⟨(x5_1), (wrap64 (x6_1 + 1)), (by first | rfl | (simp; done) | (simp [*]; done)), (by first | rfl | (simp; done) | (simp [*]; done)), H', ⟨by have := HK1.out; omega⟩, ⟨by (with_reducible repeat (first | apply bN | apply bD | apply bA)); exact BK266.out⟩, ⟨bb⟩⟩
    ·rw [if_neg c5] at H; exact absurd H (by simp)
   ·rw [if_neg c4] at H; have c4b0 : decide (x6_1 < (l0.length : Int)) = false := decide_eq_false c4; clear c4; obtain rfl := Option.some.inj H; go_wp2
    repeat (go_quiet (fail); try go_wp2)
    go_ret; exact ⟨er, bb⟩
def spec_BagDifference.l0 : Nat → List (S36) → List (S36) → List (S36) → Int → Option ((List (S36)))
 | 0, _, _, _, _ => none
 | k + 1, x1, x5, x6, x7 => if x7 < (x6.length : Int) then (if 0 ≤ (wrap64 (x7 + 1)) then (if (wrap64 (x7 + 1)) ≤ (x6.length : Int) then (if 0 ≤ x7 then ((spec_CountRow.f k (x6.take ((wrap64 (x7 + 1)) : Int).toNat) ((rd_T36 x6 x7).f0) ((rd_T36 x6 x7).f1) ((rd_T36 x6 x7).f2)).bind fun t279 => ((spec_CountRow.f k x1 ((rd_T36 x6 x7).f0) ((rd_T36 x6 x7).f1) ((rd_T36 x6 x7).f2)).bind fun t281 => (if t279 > t281 then (if x5.length < 5864062014805 then (spec_BagDifference.l0 k x1 (x5 ++ [(⟨(rd_T36 x6 x7).f0, (rd_T36 x6 x7).f1, (rd_T36 x6 x7).f2⟩ : S36)]) x6 (wrap64 (x7 + 1))) else (none)) else (spec_BagDifference.l0 k x1 x5 x6 (wrap64 (x7 + 1)))))) else (none)) else (none)) else (none)) else (some x5)
def spec_BagDifference.f (k : Nat) (l0 : List (S36)) (l1 : List (S36)) : Option ((List (S36))) := (spec_SortRows.f k l0).bind fun t271 => (spec_BagDifference.l0 k l1 (([] : List (S36))) t271 0)
def spec_BagDifference.T6 : Bool × List (List Nat × List Nat) := (true, [([], []), ([], []), ([1], [1]), ([0, 2], [0, 2]), ([], []), ([], []), ([4, 5], [4, 5]), ([6], [6]), ([3, 7], [3, 7]), ([], []), ([], []), ([], []), ([10, 11], [10, 11]), ([12], [12]), ([9, 13, 8], [9, 13]), ([8, 14], [8, 14])])
def spec_BagDifference.B6 : List Nat := [0, 0, 2, 7, 0, 0, 48, 112, 255, 0, 0, 0, 3072, 7168, 16383, 32767]
theorem spec_BagDifference.tab6 : rtab .any (opsOf Try.f20 6) = spec_BagDifference.T6 := by kernel_rfl
theorem spec_BagDifference.bits6 : waitsOk spec_BagDifference.T6.2 spec_BagDifference.B6 = true := by kernel_rfl
set_option maxHeartbeats 8000000 in
set_option maxRecDepth 100000 in
theorem spec_BagDifference.calls (k : Nat) (A0 : Option Addr) (c0 : Nat) (l0 : List (S36)) (A1 : Option Addr) (c1 : Nat) (l1 : List (S36)) (r : List (S36)) (w : World) (hr0 : Kd.C k36 w A0 l0.length l0) (hc0 : l0.length ≤ c0) (hr1 : Kd.C k36 w A1 l1.length l1) (hc1 : l1.length ≤ c1) (h : spec_BagDifference.f k l0 l1 = some r) :
  Calls Try.prog 20 #[.slice A0 l0.length c0, .slice A1 l1.length c1] w fun e w' => ∃ v0_ : Value, e = .returned (v0_) ∧ Kd.R k36 36 w' w.heap.size (fun _ => True) v0_ r ∧ Below w.heap.size w w' := by
 have hu36 := Try.underlying36
 have HR0 := kp hr0
 have HC0 := kp hc0
 clear hr0 hc0
 have HR1 := kp hr1
 have HC1 := kp hc1
 clear hr1 hc1
 have HB := kp (Below.refl w.heap.size w)
 have H : ((spec_SortRows.f k l0).bind fun t271 => (spec_BagDifference.l0 k l1 (([] : List (S36))) t271 0)) = some r := h
 clear h
 obtain ⟨y268, hy268⟩ : ∃ y_ : List (S36), y_ = (([] : List (S36))) := ⟨_, rfl⟩
 replace H : ((spec_SortRows.f k l0).bind fun t271 => (spec_BagDifference.l0 k l1 y268 t271 0)) = some r := by first | (rw [hy268]; with_reducible exact H) | (have H2_ := (Option.bind_some _ _).symm.trans H; rw [hy268]; with_reducible exact H2_) | (have H2_ := (Option.bind_some _ _).symm.trans H; with_reducible exact H2_) | with_reducible exact H | (rw [hy268]; exact H) | exact H
 have Ny268 := kp hy268
 clear hy268
 replace H := Option.bind_eq_some_iff.mp H
 obtain ⟨t271, A30, H⟩ := H
 replace H : (spec_BagDifference.l0 k l1 y268 t271 0) = some r := H
 have A3 := kp A30
 clear A30
 have H' := kp H
 clear H
 go_enter Try.func20, Try.ntmps20
 go_wp2_with (first | ((with_reducible refine gate_dst (N := 8) rfl ?_); refine Kd.R_lit k36 _ 36 ?hg (N := 8) ?hd (xs := ([] : List (S36))) (inner := []) (ok := fun _ => True) (okp := fun _ => True) ?hr ?hp (fun _ hk => hk) trivial (Below.refl _ _) (Nat.le_refl _) (by simp) ?_; (case hd => rfl); (case hg => rfl); (case hr => first | (go_simp; done) | (go_simp; rfl)); (case hp => exact (Reps.none _ _)); intro v269 w4 ho5 hb hg_ hnew_; clear hg_ hnew_; (first | rw [← Ny268.out] at ho5 | (simp only [Int.reduceToNat] at ho5; rw [← Ny268.out] at ho5)); have n0_ := kp (Kd.R_lower ho5 (below_size bb)); have n1_ := kp (below_step bb hb); clear HB; have HO270 := n0_; have HB := n1_; clear n0_ n1_; clear hb ho5) | ((with_reducible refine gate_callee (f := 14) rfl ?_); refine gl_ 10 Try.func14 #[.slice A0 l0.length c0] ?_; (with_reducible refine (spec_SortRows.calls k _ _ l0 t271 _ ?side1 ?side2 A3.out).mono ?_); (case side1 => exact cc HR0.out); (case side2 => exact HC0.out); rintro e w6 ⟨v272, rfl, ho0, hb⟩; refine ⟨_, rfl, ?_⟩; have n0_ := kp (Kd.R_elder' (by (with_reducible repeat (first | apply rA | apply rN | apply rD)); exact HO270.out) (Kd.R_base ho0) hb); have n1_ := kp (Kd.R_lower (Kd.R_new' ho0 (Kd.R_lt (by (with_reducible repeat (first | apply rA | apply rN | apply rD)); exact HO270.out))) (below_size bb)); have n2_ := kp (below_step bb hb); clear HO270; clear HB; have HO270 := n0_; have HO273 := n1_; have HB := n2_; clear n0_ n1_ n2_; (try clear hb); (try clear ho0)))
 (try simp only [Act.put, List.setIfInBounds_toArray, List.set_cons_zero, List.set_cons_succ])
 go_loopg [5, 7] k (fun kq v5 v7 w' => ∃ (x5_1 : List (S36)) (x7_1 : Int), v7 = .int .i64 x7_1 ∧ Aside0 (spec_BagDifference.l0 kq l1 x5_1 t271 x7_1 = some r) ∧ Aside0 (kq ≤ k) ∧ Aside0 (Kd.R k36 36 w' w.heap.size (fun k_ => some k_ ≠ (v272 : Value).ownBlock) v5 x5_1) ∧ Aside0 (Kd.R k36 36 w' w.heap.size (fun k_ => some k_ ≠ (v5 : Value).ownBlock) v272 t271) ∧ Aside0 (Below w.heap.size w w'))
 case atStart => exact ⟨(y268), (0), (by first | rfl | (simp; done) | (simp [*]; done)), H', ⟨Nat.le_refl _⟩, ⟨by (with_reducible repeat (first | apply rA | apply rN | apply rD)); exact Kd.R_mono HO270.out (fun _ hk => hk.2)⟩, ⟨by (with_reducible repeat (first | apply rA | apply rN | apply rD)); exact Kd.R_mono HO273.out (fun _ hk => hk.2)⟩, ⟨bb⟩⟩
 case round =>
  clear H'
  try clear c1
  try clear c2
  try clear p2
  obtain ⟨x5_1, x7_1, rfl, HA, HK1, HO_5, HO_6, HB⟩ := hrel
  cases gk with
  | zero => exact absurd HA.out (by simp [spec_BagDifference.l0])
  | succ k1 =>
   have H := HA.out; clear HA; simp only [spec_BagDifference.l0] at H
   by_cases c7 : x7_1 < (t271.length : Int)
   ·rw [if_pos c7] at H; have c7b0 : decide (x7_1 < (t271.length : Int)) = true := decide_eq_true c7; clear c7; obtain ⟨ji8, hji8⟩ : ∃ j_ : Int, (wrap64 (x7_1 + 1)) = j_ := ⟨_, rfl⟩; replace H : (if 0 ≤ (ji8) then (if (ji8) ≤ (t271.length : Int) then (if 0 ≤ x7_1 then ((spec_CountRow.f k1 (t271.take ((ji8) : Int).toNat) ((rd_T36 t271 x7_1).f0) ((rd_T36 t271 x7_1).f1) ((rd_T36 t271 x7_1).f2)).bind fun t279 => ((spec_CountRow.f k1 l1 ((rd_T36 t271 x7_1).f0) ((rd_T36 t271 x7_1).f1) ((rd_T36 t271 x7_1).f2)).bind fun t281 => (if t279 > t281 then (if x5_1.length < 5864062014805 then (spec_BagDifference.l0 k1 l1 (x5_1 ++ [(⟨(rd_T36 t271 x7_1).f0, (rd_T36 t271 x7_1).f1, (rd_T36 t271 x7_1).f2⟩ : S36)]) t271 ji8) else (none)) else (spec_BagDifference.l0 k1 l1 x5_1 t271 ji8)))) else (none)) else (none)) else (none)) = some r := by first | (rw [hji8] at H; exact H) | (simp only [hji8] at H ⊢; exact H)
    have hji8w : (IntKind.i64.wrap (x7_1 + 1)) = ji8 := (i64_w _).trans hji8
    by_cases c9 : 0 ≤ (ji8)
    ·rw [if_pos c9] at H; have c9b0 := eq_true c9; have c9b1 : decide (0 ≤ (ji8)) = true := decide_eq_true c9; clear c9
     by_cases c10 : (ji8) ≤ (t271.length : Int)
     ·rw [if_pos c10] at H; have c10b0 := eq_true c10; have c10b1 : decide ((ji8) ≤ (t271.length : Int)) = true := decide_eq_true c10; clear c10; obtain ⟨y274, hy274⟩ : ∃ y_ : List (S36), y_ = (t271.take ((ji8) : Int).toNat) := ⟨_, rfl⟩; replace H : (if 0 ≤ x7_1 then ((spec_CountRow.f k1 y274 ((rd_T36 t271 x7_1).f0) ((rd_T36 t271 x7_1).f1) ((rd_T36 t271 x7_1).f2)).bind fun t279 => ((spec_CountRow.f k1 l1 ((rd_T36 t271 x7_1).f0) ((rd_T36 t271 x7_1).f1) ((rd_T36 t271 x7_1).f2)).bind fun t281 => (if t279 > t281 then (if x5_1.length < 5864062014805 then (spec_BagDifference.l0 k1 l1 (x5_1 ++ [(⟨(rd_T36 t271 x7_1).f0, (rd_T36 t271 x7_1).f1, (rd_T36 t271 x7_1).f2⟩ : S36)]) t271 ji8) else (none)) else (spec_BagDifference.l0 k1 l1 x5_1 t271 ji8)))) else (none)) = some r := by first | (rw [hy274]; with_reducible exact H) | (have H2_ := (Option.bind_some _ _).symm.trans H; rw [hy274]; with_reducible exact H2_) | (have H2_ := (Option.bind_some _ _).symm.trans H; with_reducible exact H2_) | with_reducible exact H | (rw [hy274]; exact H) | exact H
      have Ny274 := kp hy274; clear hy274
      by_cases c11 : 0 ≤ x7_1
      ·rw [if_pos c11] at H; have c11b0 : decide (0 ≤ x7_1) = true := decide_eq_true c11; clear c11; replace H := Option.bind_eq_some_iff.mp H; obtain ⟨t279, A120, H⟩ := H; replace H : ((spec_CountRow.f k1 l1 ((rd_T36 t271 x7_1).f0) ((rd_T36 t271 x7_1).f1) ((rd_T36 t271 x7_1).f2)).bind fun t281 => (if t279 > t281 then (if x5_1.length < 5864062014805 then (spec_BagDifference.l0 k1 l1 (x5_1 ++ [(⟨(rd_T36 t271 x7_1).f0, (rd_T36 t271 x7_1).f1, (rd_T36 t271 x7_1).f2⟩ : S36)]) t271 ji8) else (none)) else (spec_BagDifference.l0 k1 l1 x5_1 t271 ji8))) = some r := H; have A12 := kp A120; clear A120; replace H := Option.bind_eq_some_iff.mp H; obtain ⟨t281, A130, H⟩ := H; replace H : (if t279 > t281 then (if x5_1.length < 5864062014805 then (spec_BagDifference.l0 k1 l1 (x5_1 ++ [(⟨(rd_T36 t271 x7_1).f0, (rd_T36 t271 x7_1).f1, (rd_T36 t271 x7_1).f2⟩ : S36)]) t271 ji8) else (none)) else (spec_BagDifference.l0 k1 l1 x5_1 t271 ji8)) = some r := H; have A13 := kp A130; clear A130
       by_cases c14 : t279 > t281
       ·rw [if_pos c14] at H; have c14b0 : decide (t281 < t279) = true := decide_eq_true c14; clear c14
        by_cases c15 : x5_1.length < 5864062014805
        ·rw [if_pos c15] at H; have LMc15 := kp c15; clear c15; obtain ⟨y283, hy283⟩ : ∃ y_ : List (S36), y_ = (x5_1 ++ [(⟨(rd_T36 t271 x7_1).f0, (rd_T36 t271 x7_1).f1, (rd_T36 t271 x7_1).f2⟩ : S36)]) := ⟨_, rfl⟩; replace H : (spec_BagDifference.l0 k1 l1 y283 t271 ji8) = some r := by first | (rw [hy283]; with_reducible exact H) | (have H2_ := (Option.bind_some _ _).symm.trans H; rw [hy283]; with_reducible exact H2_) | (have H2_ := (Option.bind_some _ _).symm.trans H; with_reducible exact H2_) | with_reducible exact H | (rw [hy283]; exact H) | exact H
         have Ny283 := kp hy283; clear hy283; have H' := kp H; clear H; obtain ⟨Ao16, co16, eo16⟩ := Kd.R_slice HO_6.out; subst eo16
         try go_wp2
         have n0_ := kp (Kd.R_drew HO_5.out); have n1_ := kp (Kd.R_drew HO_6.out); have n2_ := kp (below_drew1 HB.out); clear HO_5; clear HO_6; clear HB; have HO_5 := n0_; have HO_6 := n1_; have HB := n2_; clear n0_ n1_ n2_; have q18 : ((ji8) : Int) ≤ ((t271.length : Int) : Int) := dt; obtain ⟨i018, hi018, _, hsz18, _⟩ := info_parts info36; have hroom18 : t271.length ≤ co16 := (Kd.R_reads' HO_6.out).2.1; have hC18 : Kd.C k36 _ Ao16 t271.length t271 := (Kd.R_reads' HO_6.out).2.2; have hcut18 := cut_to (P := Try.prog) 25 36 .i64 Try.underlying25 hi018 Ao16 t271.length co16 (ji8) (dt) q18 hroom18; have hr18 := Kd.C_take (m := ((ji8) : Int).toNat) hC18 (by omega); have hy18 : y274.length = ((ji8) : Int).toNat := (by rw [Ny274.out, List.length_take]; omega); rw [← Ny274.out] at hr18; rw [← hy18] at hcut18; have HR277 := kp hr18; have HC277 := kp (show y274.length ≤ co16 from by omega); clear hr18 hC18 hroom18 hi018 hsz18; have KY18 := kp hy18; clear hy18; have KL18 := kp (show ((ji8) : Int).toNat ≤ t271.length from by omega); replace q18 := eq_true q18; have p278 : 0 ≤ (x7_1 : Int) := dt; have q278 : x7_1 < (t271.length : Int) := dt; obtain ⟨ad278, e278, hx278_0, hx278_1, hx278_2⟩ := at_T36 (Kd.R_reads' HO_6.out).2.2 x7_1 p278 q278; cases e278; replace p278 := eq_true p278; replace q278 := eq_true q278; have p280 : 0 ≤ (x7_1 : Int) := dt; have q280 : x7_1 < (t271.length : Int) := dt
         obtain ⟨ad280, e280, hx280_0, hx280_1, hx280_2⟩ := at_T36 (Kd.R_reads' HO_6.out).2.2 x7_1 p280 q280; obtain rfl : ad278 = ad280 := (by injection e280); replace p280 := eq_true p280; replace q280 := eq_true q280
         refine start_ (n := 16) (S := fun w' => w'.cell? (ad278.add ((x7_1).toNat * 3)) = some (.int .i64 ((rd_T36 t271 x7_1).f0)) ∧ w'.cell? ⟨(ad278.add ((x7_1).toNat * 3)).block, (ad278.add ((x7_1).toNat * 3)).off + 1, none⟩ = some (.int .i64 ((rd_T36 t271 x7_1).f1)) ∧ w'.cell? ⟨(ad278.add ((x7_1).toNat * 3)).block, (ad278.add ((x7_1).toNat * 3)).off + 2, none⟩ = some (.int .i64 ((rd_T36 t271 x7_1).f2))) (ds := []) #[false, false, false, false, false, false, false, false, false, false, false, false, false, false, false, false] (by kernel_rfl) rfl rfl ⟨hx278_0, hx278_1, hx278_2⟩ (fun hHeld => ?_); refine with_tabW spec_BagDifference.tab6 spec_BagDifference.bits6 (fun HT_ HW_ => ?_)
         generalize wr.drew = w17 at HO_5 HO_6 HB HR277 hx278_0 hx278_1 hx278_2 hx280_0 hx280_1 hx280_2 hHeld ⊢
         refine pq 0 17 HT_ ?_
         refine pq 1 18 HT_ ?_
         refine pq 2 19 HT_ ?_
         refine pq 3 20 HT_ ?_
         refine pq 4 21 HT_ ?_
         refine pq 5 22 HT_ ?_
         refine pq 6 23 HT_ ?_
         refine pq 9 26 HT_ ?_
         refine pq 10 27 HT_ ?_
         refine pq 11 28 HT_ ?_
         refine pq 12 29 HT_ ?_
         refine tq 7 24 HT_ HW_ hHeld ?_
         refine tq 13 30 HT_ HW_ hHeld ?_
         refine on_ 8 (some 25) HT_ (fun K hK => ?_); refine gs_ Try.func33 #[.slice (some ad278) y274.length co16, .agg #[.int .i64 ((rd_T36 t271 x7_1).f0), .int .i64 ((rd_T36 t271 x7_1).f1), .int .i64 ((rd_T36 t271 x7_1).f2)]] ?_; with_reducible refine (spec_CountRow.calls k1 _ _ y274 ((rd_T36 t271 x7_1).f0) ((rd_T36 t271 x7_1).f1) ((rd_T36 t271 x7_1).f2) t279 _ ?side1 ?side2 A12.out).mono ?_
         (case side1 => repeat (first | exact (by repeat (first | (with_reducible exact HR277.out) | (with_reducible refine Kd.C_alloc ?_ _) | (with_reducible refine Kd.C_drewN ?_ _) | (with_reducible refine Kd.C_drew ?_) | exact HR277.out)) | (with_reducible refine Kd.C_alloc ?_ _) | (with_reducible refine Kd.C_drewN ?_ _) | (with_reducible refine Kd.C_drew ?_))); (case side2 => exact HC277.out); rintro e w19 ⟨rfl, hb⟩; have HS0_ := (hb.cell (World.block_lt_of_cell? _ _ (hHeld.1))).trans (hHeld.1); have HS1_ := (hb.cell (World.block_lt_of_cell? _ _ (hHeld.2.1))).trans (hHeld.2.1); have HS2_ := (hb.cell (World.block_lt_of_cell? _ _ (hHeld.2.2))).trans (hHeld.2.2); have HS3_ := (hb.cell (World.block_lt_of_cell? _ _ (hHeld.1))).trans (hHeld.1); have HS4_ := (hb.cell (World.block_lt_of_cell? _ _ (hHeld.2.1))).trans (hHeld.2.1); have HS5_ := (hb.cell (World.block_lt_of_cell? _ _ (hHeld.2.2))).trans (hHeld.2.2); refine ⟨_, rfl, ?_⟩; have n0_ := kp (Kd.R_below (by (with_reducible repeat (first | apply rA | apply rN | apply rD)); exact HO_5.out) hb); have n1_ := kp (Kd.R_below (by (with_reducible repeat (first | apply rA | apply rN | apply rD)); exact HO_6.out) hb); have n2_ := kp (Kd.C_below (by repeat (first | (with_reducible exact HR277.out) | (with_reducible refine Kd.C_alloc ?_ _) | (with_reducible refine Kd.C_drewN ?_ _) | (with_reducible refine Kd.C_drew ?_) | exact HR277.out)) hb); have n3_ := kp (below_step bb hb); clear HO_5; clear HO_6; clear HR277; clear HB
         have HO_5 := n0_; have HO_6 := n1_; have HR277 := n2_; have HB := n3_; clear n0_ n1_ n2_ n3_; (try clear hb); (try clear hk); refine hK.out _ _ ⟨HS0_, HS1_, HS2_⟩ (fun hHeld => ?_); clear hK K; refine nm_ (some 25) ?_; refine on_ 14 (some 31) HT_ (fun K hK => ?_); refine gs_ Try.func33 #[.slice A1 l1.length c1, .agg #[.int .i64 ((rd_T36 t271 x7_1).f0), .int .i64 ((rd_T36 t271 x7_1).f1), .int .i64 ((rd_T36 t271 x7_1).f2)]] ?_; with_reducible refine (spec_CountRow.calls k1 _ _ l1 ((rd_T36 t271 x7_1).f0) ((rd_T36 t271 x7_1).f1) ((rd_T36 t271 x7_1).f2) t281 _ ?side1 ?side2 A13.out).mono ?_
         (case side1 => exact cc HR1.out); (case side2 => exact HC1.out); rintro e w20 ⟨rfl, hb⟩; have HS0_ := (hb.cell (World.block_lt_of_cell? _ _ (hHeld.1))).trans (hHeld.1); have HS1_ := (hb.cell (World.block_lt_of_cell? _ _ (hHeld.2.1))).trans (hHeld.2.1); have HS2_ := (hb.cell (World.block_lt_of_cell? _ _ (hHeld.2.2))).trans (hHeld.2.2); have HS3_ := (hb.cell (World.block_lt_of_cell? _ _ (hHeld.1))).trans (hHeld.1); have HS4_ := (hb.cell (World.block_lt_of_cell? _ _ (hHeld.2.1))).trans (hHeld.2.1); have HS5_ := (hb.cell (World.block_lt_of_cell? _ _ (hHeld.2.2))).trans (hHeld.2.2); refine ⟨_, rfl, ?_⟩; have n0_ := kp (Kd.R_below (by (with_reducible repeat (first | apply rA | apply rN | apply rD)); exact HO_5.out) hb); have n1_ := kp (Kd.R_below (by (with_reducible repeat (first | apply rA | apply rN | apply rD)); exact HO_6.out) hb); have n2_ := kp (Kd.C_below (by repeat (first | (with_reducible exact HR277.out) | (with_reducible refine Kd.C_alloc ?_ _) | (with_reducible refine Kd.C_drewN ?_ _) | (with_reducible refine Kd.C_drew ?_) | exact HR277.out)) hb); have n3_ := kp (below_step bb hb); clear HO_5; clear HO_6; clear HR277; clear HB; have HO_5 := n0_; have HO_6 := n1_; have HR277 := n2_; have HB := n3_; clear n0_ n1_ n2_ n3_; (try clear hb); (try clear hk); refine hK.out _ _ ⟨HS0_, HS1_, HS2_⟩ (fun hHeld => ?_); clear hK K; refine nm_ (some 31) ?_
         refine pq 15 32 HT_ ?_
         refine done_ (done_of HT_.out (by kernel_rfl)) ?_; have p282 : 0 ≤ (x7_1 : Int) := dt; have q282 : x7_1 < (t271.length : Int) := dt; obtain ⟨ad282, e282, hx282_0, hx282_1, hx282_2⟩ := at_T36 (Kd.R_reads' HO_6.out).2.2 x7_1 p282 q282; obtain rfl : ad278 = ad282 := (by injection e282); replace p282 := eq_true p282; replace q282 := eq_true q282
         try go_wp2_with (first | ((with_reducible refine gate_builtin (b := .append) (xs := #[.tmp 33, .tmp 38]) rfl ?_); at_builtin; refine Kd.R_append k36 (w0 := w) w.heap.size rfl (.tmp 33) (.tmp 38) 25 36 (.agg #[(.int .i64 0), (.int .i64 0), (.int .i64 0)]) 24 rfl Try.underlying25 info36 rfl (by decide) (by omega) u5 x5_1 (⟨(rd_T36 t271 x7_1).f0, (rd_T36 t271 x7_1).f1, (rd_T36 t271 x7_1).f2⟩ : S36) [.int .i64 ((rd_T36 t271 x7_1).f0), .int .i64 ((rd_T36 t271 x7_1).f1), .int .i64 ((rd_T36 t271 x7_1).f2)] (fun k_ => some k_ ≠ (.slice (some ad278) t271.length co16 : Value).ownBlock) (fun _ => False) rfl rfl ?aP (fun _ hk => hk.elim) ?aF ?aO ?aB ?aS ?aL ?_; (case aP => exact k36_mkM _ _ _ (⟨(rd_T36 t271 x7_1).f0, (rd_T36 t271 x7_1).f1, (rd_T36 t271 x7_1).f2⟩ : S36)); (case aB => exact bb); (case aF => exact (fun k_ hk => Kd.fresh' (Kd.R_lt (by (with_reducible repeat (first | apply rA | apply rN | apply rD)); exact HO_6.out)) k_ hk)); (case aO => exact (by (with_reducible repeat (first | apply rA | apply rN | apply rD)); exact HO_5.out)); (case aS => exact (below_size bb)); (case aL => have := LMc15.out; omega); intro v284 w21 ho hb hg hat; rw [← Ny283.out] at ho; have n0_ := kp (Kd.R_after (ok := (fun _ => True)) (by (with_reducible repeat (first | apply rA | apply rN | apply rD)); exact Kd.R_mono HO_6.out (fun _ hk => ⟨trivial, hk⟩)) hg hat); have n1_ := kp (hb); have n2_ := kp ((show Kd.C k36 w21 (some ad278) y274.length y274 from by rw [Ny274.out]; exact Kd.C_take (m := ((ji8) : Int).toNat) ((Kd.R_reads' (Kd.R_after (ok := (fun _ => True)) (by (with_reducible repeat (first | apply rA | apply rN | apply rD)); exact Kd.R_mono HO_6.out (fun _ hk => ⟨trivial, hk⟩)) hg hat)).2.2) KL18.out)); have n3_ := kp (ho); clear HO_6; clear HB; clear HR277; clear HO_5; have HO_6 := n0_; have HB := n1_; have HR277 := n2_; have HO285 := n3_; clear n0_ n1_ n2_ n3_; clear ho hb hg hat))
         go_roundg k1
         case measure => have := HK1.out; omega
         case rel => exact ⟨(y283), (ji8), (by first | rfl | (simp; done) | (simp only [← hji8] <;> (first | rfl | simp)) | (simp [*]; done)), H', ⟨by have := HK1.out; omega⟩, ⟨by (with_reducible repeat (first | apply rA | apply rN | apply rD)); exact HO285.out⟩, ⟨by (with_reducible repeat (first | apply rA | apply rN | apply rD)); exact Kd.R_mono HO_6.out (fun _ hk => hk.2)⟩, ⟨bb⟩⟩
        ·rw [if_neg c15] at H; exact absurd H (by simp)
       ·rw [if_neg c14] at H; have c14b0 : decide (t281 < t279) = false := decide_eq_false c14; clear c14; have H' := kp H; clear H; obtain ⟨Ao22, co22, eo22⟩ := Kd.R_slice HO_6.out; subst eo22
        try go_wp2
        have n0_ := kp (Kd.R_drew HO_5.out); have n1_ := kp (Kd.R_drew HO_6.out); have n2_ := kp (below_drew1 HB.out); clear HO_5; clear HO_6; clear HB; have HO_5 := n0_; have HO_6 := n1_; have HB := n2_; clear n0_ n1_ n2_; have q24 : ((ji8) : Int) ≤ ((t271.length : Int) : Int) := dt; obtain ⟨i024, hi024, _, hsz24, _⟩ := info_parts info36; have hroom24 : t271.length ≤ co22 := (Kd.R_reads' HO_6.out).2.1; have hC24 : Kd.C k36 _ Ao22 t271.length t271 := (Kd.R_reads' HO_6.out).2.2; have hcut24 := cut_to (P := Try.prog) 25 36 .i64 Try.underlying25 hi024 Ao22 t271.length co22 (ji8) (dt) q24 hroom24; have hr24 := Kd.C_take (m := ((ji8) : Int).toNat) hC24 (by omega); have hy24 : y274.length = ((ji8) : Int).toNat := (by rw [Ny274.out, List.length_take]; omega); rw [← Ny274.out] at hr24; rw [← hy24] at hcut24; have HR277 := kp hr24; have HC277 := kp (show y274.length ≤ co22 from by omega); clear hr24 hC24 hroom24 hi024 hsz24; have KY24 := kp hy24; clear hy24; have KL24 := kp (show ((ji8) : Int).toNat ≤ t271.length from by omega); replace q24 := eq_true q24; have p278 : 0 ≤ (x7_1 : Int) := dt; have q278 : x7_1 < (t271.length : Int) := dt; obtain ⟨ad278, e278, hx278_0, hx278_1, hx278_2⟩ := at_T36 (Kd.R_reads' HO_6.out).2.2 x7_1 p278 q278; cases e278; replace p278 := eq_true p278; replace q278 := eq_true q278; have p280 : 0 ≤ (x7_1 : Int) := dt; have q280 : x7_1 < (t271.length : Int) := dt
        obtain ⟨ad280, e280, hx280_0, hx280_1, hx280_2⟩ := at_T36 (Kd.R_reads' HO_6.out).2.2 x7_1 p280 q280; obtain rfl : ad278 = ad280 := (by injection e280); replace p280 := eq_true p280; replace q280 := eq_true q280
        refine start_ (n := 16) (S := fun w' => w'.cell? (ad278.add ((x7_1).toNat * 3)) = some (.int .i64 ((rd_T36 t271 x7_1).f0)) ∧ w'.cell? ⟨(ad278.add ((x7_1).toNat * 3)).block, (ad278.add ((x7_1).toNat * 3)).off + 1, none⟩ = some (.int .i64 ((rd_T36 t271 x7_1).f1)) ∧ w'.cell? ⟨(ad278.add ((x7_1).toNat * 3)).block, (ad278.add ((x7_1).toNat * 3)).off + 2, none⟩ = some (.int .i64 ((rd_T36 t271 x7_1).f2))) (ds := []) #[false, false, false, false, false, false, false, false, false, false, false, false, false, false, false, false] (by kernel_rfl) rfl rfl ⟨hx278_0, hx278_1, hx278_2⟩ (fun hHeld => ?_); refine with_tabW spec_BagDifference.tab6 spec_BagDifference.bits6 (fun HT_ HW_ => ?_)
        generalize wr.drew = w23 at HO_5 HO_6 HB HR277 hx278_0 hx278_1 hx278_2 hx280_0 hx280_1 hx280_2 hHeld ⊢
        refine pq 0 17 HT_ ?_
        refine pq 1 18 HT_ ?_
        refine pq 2 19 HT_ ?_
        refine pq 3 20 HT_ ?_
        refine pq 4 21 HT_ ?_
        refine pq 5 22 HT_ ?_
        refine pq 6 23 HT_ ?_
        refine pq 9 26 HT_ ?_
        refine pq 10 27 HT_ ?_
        refine pq 11 28 HT_ ?_
        refine pq 12 29 HT_ ?_
        refine tq 7 24 HT_ HW_ hHeld ?_
        refine tq 13 30 HT_ HW_ hHeld ?_
        refine on_ 8 (some 25) HT_ (fun K hK => ?_); refine gs_ Try.func33 #[.slice (some ad278) y274.length co22, .agg #[.int .i64 ((rd_T36 t271 x7_1).f0), .int .i64 ((rd_T36 t271 x7_1).f1), .int .i64 ((rd_T36 t271 x7_1).f2)]] ?_; with_reducible refine (spec_CountRow.calls k1 _ _ y274 ((rd_T36 t271 x7_1).f0) ((rd_T36 t271 x7_1).f1) ((rd_T36 t271 x7_1).f2) t279 _ ?side1 ?side2 A12.out).mono ?_
        (case side1 => repeat (first | exact (by repeat (first | (with_reducible exact HR277.out) | (with_reducible refine Kd.C_alloc ?_ _) | (with_reducible refine Kd.C_drewN ?_ _) | (with_reducible refine Kd.C_drew ?_) | exact HR277.out)) | (with_reducible refine Kd.C_alloc ?_ _) | (with_reducible refine Kd.C_drewN ?_ _) | (with_reducible refine Kd.C_drew ?_))); (case side2 => exact HC277.out); rintro e w25 ⟨rfl, hb⟩; have HS0_ := (hb.cell (World.block_lt_of_cell? _ _ (hHeld.1))).trans (hHeld.1); have HS1_ := (hb.cell (World.block_lt_of_cell? _ _ (hHeld.2.1))).trans (hHeld.2.1); have HS2_ := (hb.cell (World.block_lt_of_cell? _ _ (hHeld.2.2))).trans (hHeld.2.2); have HS3_ := (hb.cell (World.block_lt_of_cell? _ _ (hHeld.1))).trans (hHeld.1); have HS4_ := (hb.cell (World.block_lt_of_cell? _ _ (hHeld.2.1))).trans (hHeld.2.1); have HS5_ := (hb.cell (World.block_lt_of_cell? _ _ (hHeld.2.2))).trans (hHeld.2.2); refine ⟨_, rfl, ?_⟩; have n0_ := kp (Kd.R_below (by (with_reducible repeat (first | apply rA | apply rN | apply rD)); exact HO_5.out) hb); have n1_ := kp (Kd.R_below (by (with_reducible repeat (first | apply rA | apply rN | apply rD)); exact HO_6.out) hb); have n2_ := kp (Kd.C_below (by repeat (first | (with_reducible exact HR277.out) | (with_reducible refine Kd.C_alloc ?_ _) | (with_reducible refine Kd.C_drewN ?_ _) | (with_reducible refine Kd.C_drew ?_) | exact HR277.out)) hb); have n3_ := kp (below_step bb hb); clear HO_5; clear HO_6; clear HR277; clear HB
        have HO_5 := n0_; have HO_6 := n1_; have HR277 := n2_; have HB := n3_; clear n0_ n1_ n2_ n3_; (try clear hb); (try clear hk); refine hK.out _ _ ⟨HS0_, HS1_, HS2_⟩ (fun hHeld => ?_); clear hK K; refine nm_ (some 25) ?_; refine on_ 14 (some 31) HT_ (fun K hK => ?_); refine gs_ Try.func33 #[.slice A1 l1.length c1, .agg #[.int .i64 ((rd_T36 t271 x7_1).f0), .int .i64 ((rd_T36 t271 x7_1).f1), .int .i64 ((rd_T36 t271 x7_1).f2)]] ?_; with_reducible refine (spec_CountRow.calls k1 _ _ l1 ((rd_T36 t271 x7_1).f0) ((rd_T36 t271 x7_1).f1) ((rd_T36 t271 x7_1).f2) t281 _ ?side1 ?side2 A13.out).mono ?_
        (case side1 => exact cc HR1.out); (case side2 => exact HC1.out); rintro e w26 ⟨rfl, hb⟩; have HS0_ := (hb.cell (World.block_lt_of_cell? _ _ (hHeld.1))).trans (hHeld.1); have HS1_ := (hb.cell (World.block_lt_of_cell? _ _ (hHeld.2.1))).trans (hHeld.2.1); have HS2_ := (hb.cell (World.block_lt_of_cell? _ _ (hHeld.2.2))).trans (hHeld.2.2); have HS3_ := (hb.cell (World.block_lt_of_cell? _ _ (hHeld.1))).trans (hHeld.1); have HS4_ := (hb.cell (World.block_lt_of_cell? _ _ (hHeld.2.1))).trans (hHeld.2.1); have HS5_ := (hb.cell (World.block_lt_of_cell? _ _ (hHeld.2.2))).trans (hHeld.2.2); refine ⟨_, rfl, ?_⟩; have n0_ := kp (Kd.R_below (by (with_reducible repeat (first | apply rA | apply rN | apply rD)); exact HO_5.out) hb); have n1_ := kp (Kd.R_below (by (with_reducible repeat (first | apply rA | apply rN | apply rD)); exact HO_6.out) hb); have n2_ := kp (Kd.C_below (by repeat (first | (with_reducible exact HR277.out) | (with_reducible refine Kd.C_alloc ?_ _) | (with_reducible refine Kd.C_drewN ?_ _) | (with_reducible refine Kd.C_drew ?_) | exact HR277.out)) hb); have n3_ := kp (below_step bb hb); clear HO_5; clear HO_6; clear HR277; clear HB; have HO_5 := n0_; have HO_6 := n1_; have HR277 := n2_; have HB := n3_; clear n0_ n1_ n2_ n3_; (try clear hb); (try clear hk); refine hK.out _ _ ⟨HS0_, HS1_, HS2_⟩ (fun hHeld => ?_); clear hK K; refine nm_ (some 31) ?_
        refine pq 15 32 HT_ ?_
        refine done_ (done_of HT_.out (by kernel_rfl)) ?_
        try go_wp2
        go_roundg k1
        case measure => have := HK1.out; omega
        case rel => exact ⟨(x5_1), (ji8), (by first | rfl | (simp; done) | (simp only [← hji8] <;> (first | rfl | simp)) | (simp [*]; done)), H', ⟨by have := HK1.out; omega⟩, ⟨by (with_reducible repeat (first | apply rA | apply rN | apply rD)); exact HO_5.out⟩, ⟨by (with_reducible repeat (first | apply rA | apply rN | apply rD)); exact HO_6.out⟩, ⟨bb⟩⟩
      ·rw [if_neg c11] at H; exact absurd H (by simp)
     ·rw [if_neg c10] at H; exact absurd H (by simp)
    ·rw [if_neg c9] at H; exact absurd H (by simp)
   ·rw [if_neg c7] at H; have c7b0 : decide (x7_1 < (t271.length : Int)) = false := decide_eq_false c7; clear c7; obtain rfl := Option.some.inj H; obtain ⟨Ao27, co27, eo27⟩ := Kd.R_slice HO_6.out; subst eo27; go_wp2; go_ret; exact ⟨_, er, by (with_reducible repeat (first | apply rA | apply rN | apply rD)); exact Kd.R_mono HO_5.out (fun _ hk => trivial), bb⟩
def laws_big.f (l0 : List Int) : Option (Bool) := some (decide ((l0.length : Int) > 1048576))
set_option maxHeartbeats 8000000 in
set_option maxRecDepth 100000 in
theorem laws_big.calls (A0 : Option Addr) (c0 : Nat) (l0 : List Int) (r : Bool) (w : World) (hr0 : Kd.C (Kd.int .u8) w A0 l0.length l0) (hc0 : l0.length ≤ c0) (h : laws_big.f l0 = some r) :
  Calls Try.prog 22 #[.slice A0 l0.length c0] w fun e w' => e = .returned (.bool r) ∧ Drawn0 w w' := by
 have HR0 := kp hr0
 have HC0 := kp hc0
 clear hr0 hc0
 have H : (some (decide ((l0.length : Int) > 1048576))) = some r := h
 clear h
 obtain rfl := Option.some.inj H
 go_enter Try.func22, Try.ntmps22
 go_wp2
 go_ret
 exact ⟨by first | rfl | (simp; done) | (simp [*]; done), by repeat (first | exact Drawn0.refl _ | apply Drawn0.step)⟩
end Go.Proofs.Ytbcpfppiaeelbaa.PFnMultisets
