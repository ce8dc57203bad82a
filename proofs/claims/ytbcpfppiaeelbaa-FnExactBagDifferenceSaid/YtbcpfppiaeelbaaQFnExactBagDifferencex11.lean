/- The walk of the law FnExactBagDifference: every test is decided by the premises; nothing is claimed here. -/
import Derived.Test.YtbcpfppiaeelbaaQFnExactBagDifferencex10
import Derived.Test.YtbcpfppiaeelbaaQFnExactBagDifferencex2
import Derived.Test.YtbcpfppiaeelbaaQFnExactBagDifferencex3
import Derived.Test.YtbcpfppiaeelbaaQFnExactBagDifferencex5
import Derived.Test.YtbcpfppiaeelbaaLin
namespace Go.Proofs.Ytbcpfppiaeelbaa.PFnExactBagDifference
open Go.RowKit Go.Proofs.YtbcpfppiaeelbaaW.PrintWords Go.Proofs.YtbcpfppiaeelbaaW.PrintLast Go.Proofs.YtbcpfppiaeelbaaW.PrintMore Go.Proofs.Ytbcpfppiaeelbaa.Lin
set_option linter.unusedVariables false
set_option linter.unusedSimpArgs false
theorem heldRowS_n (k : Nat) (A0 : Option Addr) (n c0 : Nat) (l0 : List S36) (a1 r : Int) (w : World) (hn : l0.length = n) (hr : Kd.C k36 w A0 l0.length l0) (hc : l0.length ≤ c0) (h : laws_heldRowS.f k l0 a1 = some r) :
    Calls Try.prog 17 #[.slice A0 n c0, .int .i64 a1] w fun e w' => e = .returned (.int .i64 r) ∧ Below w.heap.size w w' := by
  subst hn; exact (laws_heldRowS.calls k A0 c0 l0 a1 r w hr hc h).mono fun e w' hh => ⟨hh.1, hh.2.below⟩
set_option maxHeartbeats 4000000 in
set_option maxRecDepth 100000 in
theorem laws_FnExactBagDifference.big0 (k : Nat) (A0 : Option Addr) (c0 : Nat) (l0 : List S45) (A1 : Option Addr) (c1 : Nat) (l1 : List S45) (t0 : Int) (w : World) (hr0 : Kd.C k45 w A0 l0.length l0) (hc0 : l0.length ≤ c0) (hr1 : Kd.C k45 w A1 l1.length l1) (hc1 : l1.length ≤ c1) (Z0 : laws_szRowS.f l0 1048576 = some t0) (n0 : t0 < 0) :
    Calls Try.prog 6 #[.slice A0 l0.length c0, .slice A1 l1.length c1] w fun e w' => e = .returned (.bool true) ∧ Below w.heap.size w w' := by
  have HR0 := Aside0.mk hr0
  have HC0 := Aside0.mk hc0
  clear hr0 hc0
  have HR1 := Aside0.mk hr1
  have HC1 := Aside0.mk hc1
  clear hr1 hc1
  have HB := Aside0.mk (Below.refl w.heap.size w)
  have QZ0 := Aside0.mk Z0
  clear Z0
  have dn0 : decide (t0 < 0) = true := decide_eq_true n0
  clear n0
  go_enter Try.func6, Try.ntmps6
  go_wp2_with fail
  (with_reducible refine (laws_szRowS.calls _ _ l0 1048576 t0 _ ?s1a ?s1b QZ0.out).mono ?_)
  case s1a => repeat (first | exact (Kd.C_below HR0.out (by repeat (first | (with_reducible first | exact HB.out | apply below_alloc | apply pw_below_drewN | apply below_drew1) | exact HB.out))) | (with_reducible refine Kd.C_alloc ?_ _) | (with_reducible refine Kd.C_drewN ?_ _) | (with_reducible refine Kd.C_drew ?_))
  case s1b => exact HC0.out
  rintro e w1 ⟨rfl, hb⟩
  (try (have hb_ := hb.below; clear hb; have hb := hb_; clear hb_))
  have nB_ := Aside0.mk (below_step (by repeat (first | (with_reducible first | exact HB.out | apply below_alloc | apply pw_below_drewN | apply below_drew1) | exact HB.out)) hb)
  clear HB
  have HB := nB_
  clear nB_
  clear hb
  go_wp2
  go_ret
  exact ⟨by first | rfl | simp, (by repeat (first | (with_reducible first | exact HB.out | apply below_alloc | apply pw_below_drewN | apply below_drew1) | exact HB.out))⟩
set_option maxHeartbeats 4000000 in
set_option maxRecDepth 100000 in
theorem laws_FnExactBagDifference.big1 (k : Nat) (A0 : Option Addr) (c0 : Nat) (l0 : List S45) (A1 : Option Addr) (c1 : Nat) (l1 : List S45) (t0 : Int) (t1 : Int) (w : World) (hr0 : Kd.C k45 w A0 l0.length l0) (hc0 : l0.length ≤ c0) (hr1 : Kd.C k45 w A1 l1.length l1) (hc1 : l1.length ≤ c1) (Z0 : laws_szRowS.f l0 1048576 = some t0) (Z1 : laws_szRowS.f l1 t0 = some t1) (n0 : ¬ t0 < 0) (n1 : t1 < 0) :
    Calls Try.prog 6 #[.slice A0 l0.length c0, .slice A1 l1.length c1] w fun e w' => e = .returned (.bool true) ∧ Below w.heap.size w w' := by
  have HR0 := Aside0.mk hr0
  have HC0 := Aside0.mk hc0
  clear hr0 hc0
  have HR1 := Aside0.mk hr1
  have HC1 := Aside0.mk hc1
  clear hr1 hc1
  have HB := Aside0.mk (Below.refl w.heap.size w)
  have QZ0 := Aside0.mk Z0
  clear Z0
  have QZ1 := Aside0.mk Z1
  clear Z1
  have dn0 : decide (t0 < 0) = false := decide_eq_false n0
  clear n0
  have dn1 : decide (t1 < 0) = true := decide_eq_true n1
  clear n1
  go_enter Try.func6, Try.ntmps6
  go_wp2_with fail
  (with_reducible refine (laws_szRowS.calls _ _ l0 1048576 t0 _ ?s1a ?s1b QZ0.out).mono ?_)
  case s1a => repeat (first | exact (Kd.C_below HR0.out (by repeat (first | (with_reducible first | exact HB.out | apply below_alloc | apply pw_below_drewN | apply below_drew1) | exact HB.out))) | (with_reducible refine Kd.C_alloc ?_ _) | (with_reducible refine Kd.C_drewN ?_ _) | (with_reducible refine Kd.C_drew ?_))
  case s1b => exact HC0.out
  rintro e w1 ⟨rfl, hb⟩
  (try (have hb_ := hb.below; clear hb; have hb := hb_; clear hb_))
  have nB_ := Aside0.mk (below_step (by repeat (first | (with_reducible first | exact HB.out | apply below_alloc | apply pw_below_drewN | apply below_drew1) | exact HB.out)) hb)
  clear HB
  have HB := nB_
  clear nB_
  clear hb
  go_wp2_with fail
  (with_reducible refine (laws_szRowS.calls _ _ l1 t0 t1 _ ?s2a ?s2b QZ1.out).mono ?_)
  case s2a => repeat (first | exact (Kd.C_below HR1.out (by repeat (first | (with_reducible first | exact HB.out | apply below_alloc | apply pw_below_drewN | apply below_drew1) | exact HB.out))) | (with_reducible refine Kd.C_alloc ?_ _) | (with_reducible refine Kd.C_drewN ?_ _) | (with_reducible refine Kd.C_drew ?_))
  case s2b => exact HC1.out
  rintro e w2 ⟨rfl, hb⟩
  (try (have hb_ := hb.below; clear hb; have hb := hb_; clear hb_))
  have nB_ := Aside0.mk (below_step (by repeat (first | (with_reducible first | exact HB.out | apply below_alloc | apply pw_below_drewN | apply below_drew1) | exact HB.out)) hb)
  clear HB
  have HB := nB_
  clear nB_
  clear hb
  go_wp2
  go_ret
  exact ⟨by first | rfl | simp, (by repeat (first | (with_reducible first | exact HB.out | apply below_alloc | apply pw_below_drewN | apply below_drew1) | exact HB.out))⟩
set_option maxHeartbeats 4000000 in
set_option maxRecDepth 100000 in
theorem laws_FnExactBagDifference.walk (k : Nat) (A0 : Option Addr) (c0 : Nat) (l0 : List S45) (A1 : Option Addr) (c1 : Nat) (l1 : List S45) (t0 t1 : Int) (x0 x1 y0 y1 : List S36) (w0 g0 g1 : List S36) (k0 k1 m : Int) (w : World) (hr0 : Kd.C k45 w A0 l0.length l0) (hc0 : l0.length ≤ c0) (hr1 : Kd.C k45 w A1 l1.length l1) (hc1 : l1.length ≤ c1)
    (Z0 : laws_szRowS.f l0 1048576 = some t0) (Z1 : laws_szRowS.f l1 t0 = some t1)
    (T0 : laws_toRowS.f k l0 = some x0) (T1 : laws_toRowS.f k l1 = some x1) (FS : spec_BagDifference.f k x0 x1 = some w0) (FI : impl_BagDifference.f k x0 x1 = some g0) (FE : laws_eqRowS.f k g0 w0 = some true) (E0 : laws_eqRowS.f k x0 x0 = some true) (E1 : laws_eqRowS.f k x1 x1 = some true) (M0 : laws_markRowS.f k x0 1 = some (k0, y0)) (M1 : laws_markRowS.f k x1 k0 = some (k1, y1)) (MG : laws_markRowS.f k g0 1 = some (m, g1)) (HG : laws_heldRowS.f k g1 1 = some m)
    (n0 : ¬ t0 < 0) (n1 : ¬ t1 < 0) (nk : ¬ k1 < 0) (nm : ¬ m < 0) :
    Calls Try.prog 6 #[.slice A0 l0.length c0, .slice A1 l1.length c1] w fun e w' => e = .returned (.bool true) ∧ Below w.heap.size w w' := by
  have HR0 := Aside0.mk hr0
  have HC0 := Aside0.mk hc0
  clear hr0 hc0
  have HR1 := Aside0.mk hr1
  have HC1 := Aside0.mk hc1
  clear hr1 hc1
  have HB := Aside0.mk (Below.refl w.heap.size w)
  have QZ0 := Aside0.mk Z0
  clear Z0
  have QZ1 := Aside0.mk Z1
  clear Z1
  have QT0 := Aside0.mk T0
  clear T0
  have QT1 := Aside0.mk T1
  clear T1
  have QFS := Aside0.mk FS
  clear FS
  have QFI := Aside0.mk FI
  clear FI
  have QFE := Aside0.mk FE
  clear FE
  have QE0 := Aside0.mk E0
  clear E0
  have QE1 := Aside0.mk E1
  clear E1
  have QM0 := Aside0.mk M0
  clear M0
  have QM1 := Aside0.mk M1
  clear M1
  have QMG := Aside0.mk MG
  clear MG
  have QHG := Aside0.mk HG
  clear HG
  have dn0 : decide (t0 < 0) = false := decide_eq_false n0
  clear n0
  have dn1 : decide (t1 < 0) = false := decide_eq_false n1
  clear n1
  have dnk : decide (k1 < 0) = false := decide_eq_false nk
  clear nk
  have dnm : decide (m < 0) = false := decide_eq_false nm
  clear nm
  go_enter Try.func6, Try.ntmps6
  go_wp2_with fail
  (with_reducible refine (laws_szRowS.calls _ _ l0 1048576 t0 _ ?s1a ?s1b QZ0.out).mono ?_)
  case s1a => repeat (first | exact (Kd.C_below HR0.out (by repeat (first | (with_reducible first | exact HB.out | apply below_alloc | apply pw_below_drewN | apply below_drew1) | exact HB.out))) | (with_reducible refine Kd.C_alloc ?_ _) | (with_reducible refine Kd.C_drewN ?_ _) | (with_reducible refine Kd.C_drew ?_))
  case s1b => exact HC0.out
  rintro e w1 ⟨rfl, hb⟩
  (try (have hb_ := hb.below; clear hb; have hb := hb_; clear hb_))
  have nB_ := Aside0.mk (below_step (by repeat (first | (with_reducible first | exact HB.out | apply below_alloc | apply pw_below_drewN | apply below_drew1) | exact HB.out)) hb)
  clear HB
  have HB := nB_
  clear nB_
  clear hb
  go_wp2_with fail
  (with_reducible refine (laws_szRowS.calls _ _ l1 t0 t1 _ ?s2a ?s2b QZ1.out).mono ?_)
  case s2a => repeat (first | exact (Kd.C_below HR1.out (by repeat (first | (with_reducible first | exact HB.out | apply below_alloc | apply pw_below_drewN | apply below_drew1) | exact HB.out))) | (with_reducible refine Kd.C_alloc ?_ _) | (with_reducible refine Kd.C_drewN ?_ _) | (with_reducible refine Kd.C_drew ?_))
  case s2b => exact HC1.out
  rintro e w2 ⟨rfl, hb⟩
  (try (have hb_ := hb.below; clear hb; have hb := hb_; clear hb_))
  have nB_ := Aside0.mk (below_step (by repeat (first | (with_reducible first | exact HB.out | apply below_alloc | apply pw_below_drewN | apply below_drew1) | exact HB.out)) hb)
  clear HB
  have HB := nB_
  clear nB_
  clear hb
  go_wp2_with fail
  (with_reducible refine (laws_toRowS.calls k _ _ l0 x0 _ ?s3a ?s3b QT0.out).mono ?_)
  case s3a => repeat (first | exact (Kd.C_below HR0.out (by repeat (first | (with_reducible first | exact HB.out | apply below_alloc | apply pw_below_drewN | apply below_drew1) | exact HB.out))) | (with_reducible refine Kd.C_alloc ?_ _) | (with_reducible refine Kd.C_drewN ?_ _) | (with_reducible refine Kd.C_drew ?_))
  case s3b => exact HC0.out
  rintro e w3 ⟨vx0, rfl, hox0, hb⟩
  obtain ⟨bx0, hlex0, mx0_⟩ := R_ivx hox0 (below_size (by repeat (first | (with_reducible first | exact HB.out | apply below_alloc | apply pw_below_drewN | apply below_drew1) | exact HB.out)))
  clear hox0
  clear hlex0
  have nB_ := Aside0.mk (below_step (by repeat (first | (with_reducible first | exact HB.out | apply below_alloc | apply pw_below_drewN | apply below_drew1) | exact HB.out)) hb)
  clear HB
  have HB := nB_
  clear nB_
  clear hb
  obtain ⟨Ax0, cx0, ex0⟩ := Kd.R_slice mx0_.out
  subst ex0
  have Ox0 := mx0_
  have Gx0 := Aside0.mk (Nat.le_refl w3.heap.size)
  clear mx0_
  go_wp2_with fail
  (with_reducible refine (laws_toRowS.calls k _ _ l1 x1 _ ?s4a ?s4b QT1.out).mono ?_)
  case s4a => repeat (first | exact (Kd.C_below HR1.out (by repeat (first | (with_reducible first | exact HB.out | apply below_alloc | apply pw_below_drewN | apply below_drew1) | exact HB.out))) | (with_reducible refine Kd.C_alloc ?_ _) | (with_reducible refine Kd.C_drewN ?_ _) | (with_reducible refine Kd.C_drew ?_))
  case s4b => exact HC1.out
  rintro e w4 ⟨vx1, rfl, hox1, hb⟩
  obtain ⟨bx1, hlex1, mx1_⟩ := R_ivx hox1 (below_size (by repeat (first | (with_reducible first | exact HB.out | apply below_alloc | apply pw_below_drewN | apply below_drew1) | exact HB.out)))
  clear hox1
  have Z_x0_x1 := Aside0.mk (hlex1 _ Gx0.out)
  clear hlex1
  have nx0_ := Aside0.mk (Kd.R_below (by (with_reducible repeat (first | apply Kd.R_alloc | apply Kd.R_drewN | apply Kd.R_drew)); exact Ox0.out) hb)
  have gx0_ := Aside0.mk (Nat.le_trans Gx0.out hb.size)
  clear Ox0 Gx0
  have Ox0 := nx0_
  have Gx0 := gx0_
  clear nx0_ gx0_
  have nB_ := Aside0.mk (below_step (by repeat (first | (with_reducible first | exact HB.out | apply below_alloc | apply pw_below_drewN | apply below_drew1) | exact HB.out)) hb)
  clear HB
  have HB := nB_
  clear nB_
  clear hb
  obtain ⟨Ax1, cx1, ex1⟩ := Kd.R_slice mx1_.out
  subst ex1
  have Ox1 := mx1_
  have Gx1 := Aside0.mk (Nat.le_refl w4.heap.size)
  clear mx1_
  go_wp2_with fail
  (with_reducible refine (spec_BagDifference.calls k _ _ x0 _ _ x1 w0 _ ?s5a ?s5b ?s6a ?s6b QFS.out).mono ?_)
  case s5a => repeat (first | exact (R_rd Ox0.out).1 | (with_reducible refine Kd.C_alloc ?_ _) | (with_reducible refine Kd.C_drewN ?_ _) | (with_reducible refine Kd.C_drew ?_))
  case s5b => exact (R_rd Ox0.out).2
  case s6a => repeat (first | exact (R_rd Ox1.out).1 | (with_reducible refine Kd.C_alloc ?_ _) | (with_reducible refine Kd.C_drewN ?_ _) | (with_reducible refine Kd.C_drew ?_))
  case s6b => exact (R_rd Ox1.out).2
  rintro e w5 ⟨vw0, rfl, how0, hb⟩
  obtain ⟨bw0, hlew0, mw0_⟩ := R_ivx how0 (below_size (by repeat (first | (with_reducible first | exact HB.out | apply below_alloc | apply pw_below_drewN | apply below_drew1) | exact HB.out)))
  clear how0
  clear Ox0 Gx0
  clear Ox1 Gx1
  clear hlew0
  have nB_ := Aside0.mk (below_step (by repeat (first | (with_reducible first | exact HB.out | apply below_alloc | apply pw_below_drewN | apply below_drew1) | exact HB.out)) hb)
  clear HB
  have HB := nB_
  clear nB_
  clear hb
  obtain ⟨Aw0, cw0, ew0⟩ := Kd.R_slice mw0_.out
  subst ew0
  have Ow0 := mw0_
  have Gw0 := Aside0.mk (Nat.le_refl w5.heap.size)
  clear mw0_
  go_wp2_with fail
  (with_reducible refine (laws_toRowS.calls k _ _ l0 x0 _ ?s7a ?s7b QT0.out).mono ?_)
  case s7a => repeat (first | exact (Kd.C_below HR0.out (by repeat (first | (with_reducible first | exact HB.out | apply below_alloc | apply pw_below_drewN | apply below_drew1) | exact HB.out))) | (with_reducible refine Kd.C_alloc ?_ _) | (with_reducible refine Kd.C_drewN ?_ _) | (with_reducible refine Kd.C_drew ?_))
  case s7b => exact HC0.out
  rintro e w6 ⟨vx0, rfl, hox0, hb⟩
  obtain ⟨bx0, hlex0, mx0_⟩ := R_ivx hox0 (below_size (by repeat (first | (with_reducible first | exact HB.out | apply below_alloc | apply pw_below_drewN | apply below_drew1) | exact HB.out)))
  clear hox0
  have Z_w0_x0 := Aside0.mk (hlex0 _ Gw0.out)
  clear hlex0
  have nw0_ := Aside0.mk (Kd.R_below (by (with_reducible repeat (first | apply Kd.R_alloc | apply Kd.R_drewN | apply Kd.R_drew)); exact Ow0.out) hb)
  have gw0_ := Aside0.mk (Nat.le_trans Gw0.out hb.size)
  clear Ow0 Gw0
  have Ow0 := nw0_
  have Gw0 := gw0_
  clear nw0_ gw0_
  have nB_ := Aside0.mk (below_step (by repeat (first | (with_reducible first | exact HB.out | apply below_alloc | apply pw_below_drewN | apply below_drew1) | exact HB.out)) hb)
  clear HB
  have HB := nB_
  clear nB_
  clear hb
  obtain ⟨Ax0, cx0, ex0⟩ := Kd.R_slice mx0_.out
  subst ex0
  have Ox0 := mx0_
  have Gx0 := Aside0.mk (Nat.le_refl w6.heap.size)
  clear mx0_
  go_wp2_with fail
  (with_reducible refine (laws_toRowS.calls k _ _ l1 x1 _ ?s8a ?s8b QT1.out).mono ?_)
  case s8a => repeat (first | exact (Kd.C_below HR1.out (by repeat (first | (with_reducible first | exact HB.out | apply below_alloc | apply pw_below_drewN | apply below_drew1) | exact HB.out))) | (with_reducible refine Kd.C_alloc ?_ _) | (with_reducible refine Kd.C_drewN ?_ _) | (with_reducible refine Kd.C_drew ?_))
  case s8b => exact HC1.out
  rintro e w7 ⟨vx1, rfl, hox1, hb⟩
  obtain ⟨bx1, hlex1, mx1_⟩ := R_ivx hox1 (below_size (by repeat (first | (with_reducible first | exact HB.out | apply below_alloc | apply pw_below_drewN | apply below_drew1) | exact HB.out)))
  clear hox1
  have Z_w0_x1 := Aside0.mk (hlex1 _ Gw0.out)
  have Z_x0_x1 := Aside0.mk (hlex1 _ Gx0.out)
  clear hlex1
  have nw0_ := Aside0.mk (Kd.R_below (by (with_reducible repeat (first | apply Kd.R_alloc | apply Kd.R_drewN | apply Kd.R_drew)); exact Ow0.out) hb)
  have gw0_ := Aside0.mk (Nat.le_trans Gw0.out hb.size)
  have nx0_ := Aside0.mk (Kd.R_below (by (with_reducible repeat (first | apply Kd.R_alloc | apply Kd.R_drewN | apply Kd.R_drew)); exact Ox0.out) hb)
  have gx0_ := Aside0.mk (Nat.le_trans Gx0.out hb.size)
  clear Ow0 Gw0
  clear Ox0 Gx0
  have Ow0 := nw0_
  have Gw0 := gw0_
  clear nw0_ gw0_
  have Ox0 := nx0_
  have Gx0 := gx0_
  clear nx0_ gx0_
  have nB_ := Aside0.mk (below_step (by repeat (first | (with_reducible first | exact HB.out | apply below_alloc | apply pw_below_drewN | apply below_drew1) | exact HB.out)) hb)
  clear HB
  have HB := nB_
  clear nB_
  clear hb
  obtain ⟨Ax1, cx1, ex1⟩ := Kd.R_slice mx1_.out
  subst ex1
  have Ox1 := mx1_
  have Gx1 := Aside0.mk (Nat.le_refl w7.heap.size)
  clear mx1_
  go_wp2_with fail
  (with_reducible refine (impl_BagDifference.calls k _ _ x0 _ _ x1 g0 _ ?s9a ?s9b ?s10a ?s10b QFI.out).mono ?_)
  case s9a => repeat (first | exact (R_rd Ox0.out).1 | (with_reducible refine Kd.C_alloc ?_ _) | (with_reducible refine Kd.C_drewN ?_ _) | (with_reducible refine Kd.C_drew ?_))
  case s9b => exact (R_rd Ox0.out).2
  case s10a => repeat (first | exact (R_rd Ox1.out).1 | (with_reducible refine Kd.C_alloc ?_ _) | (with_reducible refine Kd.C_drewN ?_ _) | (with_reducible refine Kd.C_drew ?_))
  case s10b => exact (R_rd Ox1.out).2
  rintro e w8 ⟨vg0, rfl, hog0, hb⟩
  obtain ⟨bg0, hleg0, mg0_⟩ := R_ivx hog0 (below_size (by repeat (first | (with_reducible first | exact HB.out | apply below_alloc | apply pw_below_drewN | apply below_drew1) | exact HB.out)))
  clear hog0
  have Z_w0_g0 := Aside0.mk (hleg0 _ Gw0.out)
  have Z_x0_g0 := Aside0.mk (hleg0 _ Gx0.out)
  have Z_x1_g0 := Aside0.mk (hleg0 _ Gx1.out)
  clear hleg0
  have nw0_ := Aside0.mk (Kd.R_below (by (with_reducible repeat (first | apply Kd.R_alloc | apply Kd.R_drewN | apply Kd.R_drew)); exact Ow0.out) hb)
  have gw0_ := Aside0.mk (Nat.le_trans Gw0.out hb.size)
  have nx0_ := Aside0.mk (Kd.R_below (by (with_reducible repeat (first | apply Kd.R_alloc | apply Kd.R_drewN | apply Kd.R_drew)); exact Ox0.out) hb)
  have gx0_ := Aside0.mk (Nat.le_trans Gx0.out hb.size)
  have nx1_ := Aside0.mk (Kd.R_below (by (with_reducible repeat (first | apply Kd.R_alloc | apply Kd.R_drewN | apply Kd.R_drew)); exact Ox1.out) hb)
  have gx1_ := Aside0.mk (Nat.le_trans Gx1.out hb.size)
  clear Ow0 Gw0
  clear Ox0 Gx0
  clear Ox1 Gx1
  have Ow0 := nw0_
  have Gw0 := gw0_
  clear nw0_ gw0_
  have Ox0 := nx0_
  have Gx0 := gx0_
  clear nx0_ gx0_
  have Ox1 := nx1_
  have Gx1 := gx1_
  clear nx1_ gx1_
  have nB_ := Aside0.mk (below_step (by repeat (first | (with_reducible first | exact HB.out | apply below_alloc | apply pw_below_drewN | apply below_drew1) | exact HB.out)) hb)
  clear HB
  have HB := nB_
  clear nB_
  clear hb
  obtain ⟨Ag0, cg0, eg0⟩ := Kd.R_slice mg0_.out
  subst eg0
  have Og0 := mg0_
  have Gg0 := Aside0.mk (Nat.le_refl w8.heap.size)
  clear mg0_
  go_wp2_with fail
  (with_reducible refine (laws_eqRowS.calls k _ _ g0 _ _ w0 true _ ?s11a ?s11b ?s12a ?s12b QFE.out).mono ?_)
  case s11a => repeat (first | exact (R_rd Og0.out).1 | (with_reducible refine Kd.C_alloc ?_ _) | (with_reducible refine Kd.C_drewN ?_ _) | (with_reducible refine Kd.C_drew ?_))
  case s11b => exact (R_rd Og0.out).2
  case s12a => repeat (first | exact (R_rd Ow0.out).1 | (with_reducible refine Kd.C_alloc ?_ _) | (with_reducible refine Kd.C_drewN ?_ _) | (with_reducible refine Kd.C_drew ?_))
  case s12b => exact (R_rd Ow0.out).2
  rintro e w9 ⟨rfl, hb⟩
  (try (have hb_ := hb.below; clear hb; have hb := hb_; clear hb_))
  have nw0_ := Aside0.mk (Kd.R_below (by (with_reducible repeat (first | apply Kd.R_alloc | apply Kd.R_drewN | apply Kd.R_drew)); exact Ow0.out) hb)
  have gw0_ := Aside0.mk (Nat.le_trans Gw0.out hb.size)
  have nx0_ := Aside0.mk (Kd.R_below (by (with_reducible repeat (first | apply Kd.R_alloc | apply Kd.R_drewN | apply Kd.R_drew)); exact Ox0.out) hb)
  have gx0_ := Aside0.mk (Nat.le_trans Gx0.out hb.size)
  have nx1_ := Aside0.mk (Kd.R_below (by (with_reducible repeat (first | apply Kd.R_alloc | apply Kd.R_drewN | apply Kd.R_drew)); exact Ox1.out) hb)
  have gx1_ := Aside0.mk (Nat.le_trans Gx1.out hb.size)
  have ng0_ := Aside0.mk (Kd.R_below (by (with_reducible repeat (first | apply Kd.R_alloc | apply Kd.R_drewN | apply Kd.R_drew)); exact Og0.out) hb)
  have gg0_ := Aside0.mk (Nat.le_trans Gg0.out hb.size)
  clear Ow0 Gw0
  clear Ox0 Gx0
  clear Ox1 Gx1
  clear Og0 Gg0
  have Ow0 := nw0_
  have Gw0 := gw0_
  clear nw0_ gw0_
  have Ox0 := nx0_
  have Gx0 := gx0_
  clear nx0_ gx0_
  have Ox1 := nx1_
  have Gx1 := gx1_
  clear nx1_ gx1_
  have Og0 := ng0_
  have Gg0 := gg0_
  clear ng0_ gg0_
  have nB_ := Aside0.mk (below_step (by repeat (first | (with_reducible first | exact HB.out | apply below_alloc | apply pw_below_drewN | apply below_drew1) | exact HB.out)) hb)
  clear HB
  have HB := nB_
  clear nB_
  clear hb
  go_wp2_with fail
  (with_reducible refine (laws_toRowS.calls k _ _ l0 x0 _ ?s13a ?s13b QT0.out).mono ?_)
  case s13a => repeat (first | exact (Kd.C_below HR0.out (by repeat (first | (with_reducible first | exact HB.out | apply below_alloc | apply pw_below_drewN | apply below_drew1) | exact HB.out))) | (with_reducible refine Kd.C_alloc ?_ _) | (with_reducible refine Kd.C_drewN ?_ _) | (with_reducible refine Kd.C_drew ?_))
  case s13b => exact HC0.out
  rintro e w10 ⟨vy0, rfl, hoy0, hb⟩
  obtain ⟨by0, hley0, my0_⟩ := R_ivx hoy0 (below_size (by repeat (first | (with_reducible first | exact HB.out | apply below_alloc | apply pw_below_drewN | apply below_drew1) | exact HB.out)))
  clear hoy0
  have Z_w0_y0 := Aside0.mk (hley0 _ Gw0.out)
  have Z_x0_y0 := Aside0.mk (hley0 _ Gx0.out)
  have Z_x1_y0 := Aside0.mk (hley0 _ Gx1.out)
  have Z_g0_y0 := Aside0.mk (hley0 _ Gg0.out)
  clear hley0
  have nw0_ := Aside0.mk (Kd.R_below (by (with_reducible repeat (first | apply Kd.R_alloc | apply Kd.R_drewN | apply Kd.R_drew)); exact Ow0.out) hb)
  have gw0_ := Aside0.mk (Nat.le_trans Gw0.out hb.size)
  have nx0_ := Aside0.mk (Kd.R_below (by (with_reducible repeat (first | apply Kd.R_alloc | apply Kd.R_drewN | apply Kd.R_drew)); exact Ox0.out) hb)
  have gx0_ := Aside0.mk (Nat.le_trans Gx0.out hb.size)
  have nx1_ := Aside0.mk (Kd.R_below (by (with_reducible repeat (first | apply Kd.R_alloc | apply Kd.R_drewN | apply Kd.R_drew)); exact Ox1.out) hb)
  have gx1_ := Aside0.mk (Nat.le_trans Gx1.out hb.size)
  have ng0_ := Aside0.mk (Kd.R_below (by (with_reducible repeat (first | apply Kd.R_alloc | apply Kd.R_drewN | apply Kd.R_drew)); exact Og0.out) hb)
  have gg0_ := Aside0.mk (Nat.le_trans Gg0.out hb.size)
  clear Ow0 Gw0
  clear Ox0 Gx0
  clear Ox1 Gx1
  clear Og0 Gg0
  have Ow0 := nw0_
  have Gw0 := gw0_
  clear nw0_ gw0_
  have Ox0 := nx0_
  have Gx0 := gx0_
  clear nx0_ gx0_
  have Ox1 := nx1_
  have Gx1 := gx1_
  clear nx1_ gx1_
  have Og0 := ng0_
  have Gg0 := gg0_
  clear ng0_ gg0_
  have nB_ := Aside0.mk (below_step (by repeat (first | (with_reducible first | exact HB.out | apply below_alloc | apply pw_below_drewN | apply below_drew1) | exact HB.out)) hb)
  clear HB
  have HB := nB_
  clear nB_
  clear hb
  obtain ⟨Ay0, cy0, ey0⟩ := Kd.R_slice my0_.out
  subst ey0
  have Oy0 := my0_
  have Gy0 := Aside0.mk (Nat.le_refl w10.heap.size)
  clear my0_
  go_wp2_with fail
  (with_reducible refine (laws_eqRowS.calls k _ _ x0 _ _ x0 true _ ?s14a ?s14b ?s15a ?s15b QE0.out).mono ?_)
  case s14a => repeat (first | exact (R_rd Ox0.out).1 | (with_reducible refine Kd.C_alloc ?_ _) | (with_reducible refine Kd.C_drewN ?_ _) | (with_reducible refine Kd.C_drew ?_))
  case s14b => exact (R_rd Ox0.out).2
  case s15a => repeat (first | exact (R_rd Oy0.out).1 | (with_reducible refine Kd.C_alloc ?_ _) | (with_reducible refine Kd.C_drewN ?_ _) | (with_reducible refine Kd.C_drew ?_))
  case s15b => exact (R_rd Oy0.out).2
  rintro e w11 ⟨rfl, hb⟩
  (try (have hb_ := hb.below; clear hb; have hb := hb_; clear hb_))
  clear Oy0 Gy0
  have nw0_ := Aside0.mk (Kd.R_below (by (with_reducible repeat (first | apply Kd.R_alloc | apply Kd.R_drewN | apply Kd.R_drew)); exact Ow0.out) hb)
  have gw0_ := Aside0.mk (Nat.le_trans Gw0.out hb.size)
  have nx0_ := Aside0.mk (Kd.R_below (by (with_reducible repeat (first | apply Kd.R_alloc | apply Kd.R_drewN | apply Kd.R_drew)); exact Ox0.out) hb)
  have gx0_ := Aside0.mk (Nat.le_trans Gx0.out hb.size)
  have nx1_ := Aside0.mk (Kd.R_below (by (with_reducible repeat (first | apply Kd.R_alloc | apply Kd.R_drewN | apply Kd.R_drew)); exact Ox1.out) hb)
  have gx1_ := Aside0.mk (Nat.le_trans Gx1.out hb.size)
  have ng0_ := Aside0.mk (Kd.R_below (by (with_reducible repeat (first | apply Kd.R_alloc | apply Kd.R_drewN | apply Kd.R_drew)); exact Og0.out) hb)
  have gg0_ := Aside0.mk (Nat.le_trans Gg0.out hb.size)
  clear Ow0 Gw0
  clear Ox0 Gx0
  clear Ox1 Gx1
  clear Og0 Gg0
  have Ow0 := nw0_
  have Gw0 := gw0_
  clear nw0_ gw0_
  have Ox0 := nx0_
  have Gx0 := gx0_
  clear nx0_ gx0_
  have Ox1 := nx1_
  have Gx1 := gx1_
  clear nx1_ gx1_
  have Og0 := ng0_
  have Gg0 := gg0_
  clear ng0_ gg0_
  have nB_ := Aside0.mk (below_step (by repeat (first | (with_reducible first | exact HB.out | apply below_alloc | apply pw_below_drewN | apply below_drew1) | exact HB.out)) hb)
  clear HB
  have HB := nB_
  clear nB_
  clear hb
  go_wp2_with fail
  (with_reducible refine (laws_toRowS.calls k _ _ l1 x1 _ ?s16a ?s16b QT1.out).mono ?_)
  case s16a => repeat (first | exact (Kd.C_below HR1.out (by repeat (first | (with_reducible first | exact HB.out | apply below_alloc | apply pw_below_drewN | apply below_drew1) | exact HB.out))) | (with_reducible refine Kd.C_alloc ?_ _) | (with_reducible refine Kd.C_drewN ?_ _) | (with_reducible refine Kd.C_drew ?_))
  case s16b => exact HC1.out
  rintro e w12 ⟨vy1, rfl, hoy1, hb⟩
  obtain ⟨by1, hley1, my1_⟩ := R_ivx hoy1 (below_size (by repeat (first | (with_reducible first | exact HB.out | apply below_alloc | apply pw_below_drewN | apply below_drew1) | exact HB.out)))
  clear hoy1
  have Z_w0_y1 := Aside0.mk (hley1 _ Gw0.out)
  have Z_x0_y1 := Aside0.mk (hley1 _ Gx0.out)
  have Z_x1_y1 := Aside0.mk (hley1 _ Gx1.out)
  have Z_g0_y1 := Aside0.mk (hley1 _ Gg0.out)
  clear hley1
  have nw0_ := Aside0.mk (Kd.R_below (by (with_reducible repeat (first | apply Kd.R_alloc | apply Kd.R_drewN | apply Kd.R_drew)); exact Ow0.out) hb)
  have gw0_ := Aside0.mk (Nat.le_trans Gw0.out hb.size)
  have nx0_ := Aside0.mk (Kd.R_below (by (with_reducible repeat (first | apply Kd.R_alloc | apply Kd.R_drewN | apply Kd.R_drew)); exact Ox0.out) hb)
  have gx0_ := Aside0.mk (Nat.le_trans Gx0.out hb.size)
  have nx1_ := Aside0.mk (Kd.R_below (by (with_reducible repeat (first | apply Kd.R_alloc | apply Kd.R_drewN | apply Kd.R_drew)); exact Ox1.out) hb)
  have gx1_ := Aside0.mk (Nat.le_trans Gx1.out hb.size)
  have ng0_ := Aside0.mk (Kd.R_below (by (with_reducible repeat (first | apply Kd.R_alloc | apply Kd.R_drewN | apply Kd.R_drew)); exact Og0.out) hb)
  have gg0_ := Aside0.mk (Nat.le_trans Gg0.out hb.size)
  clear Ow0 Gw0
  clear Ox0 Gx0
  clear Ox1 Gx1
  clear Og0 Gg0
  have Ow0 := nw0_
  have Gw0 := gw0_
  clear nw0_ gw0_
  have Ox0 := nx0_
  have Gx0 := gx0_
  clear nx0_ gx0_
  have Ox1 := nx1_
  have Gx1 := gx1_
  clear nx1_ gx1_
  have Og0 := ng0_
  have Gg0 := gg0_
  clear ng0_ gg0_
  have nB_ := Aside0.mk (below_step (by repeat (first | (with_reducible first | exact HB.out | apply below_alloc | apply pw_below_drewN | apply below_drew1) | exact HB.out)) hb)
  clear HB
  have HB := nB_
  clear nB_
  clear hb
  obtain ⟨Ay1, cy1, ey1⟩ := Kd.R_slice my1_.out
  subst ey1
  have Oy1 := my1_
  have Gy1 := Aside0.mk (Nat.le_refl w12.heap.size)
  clear my1_
  go_wp2_with fail
  (with_reducible refine (laws_eqRowS.calls k _ _ x1 _ _ x1 true _ ?s17a ?s17b ?s18a ?s18b QE1.out).mono ?_)
  case s17a => repeat (first | exact (R_rd Ox1.out).1 | (with_reducible refine Kd.C_alloc ?_ _) | (with_reducible refine Kd.C_drewN ?_ _) | (with_reducible refine Kd.C_drew ?_))
  case s17b => exact (R_rd Ox1.out).2
  case s18a => repeat (first | exact (R_rd Oy1.out).1 | (with_reducible refine Kd.C_alloc ?_ _) | (with_reducible refine Kd.C_drewN ?_ _) | (with_reducible refine Kd.C_drew ?_))
  case s18b => exact (R_rd Oy1.out).2
  rintro e w13 ⟨rfl, hb⟩
  (try (have hb_ := hb.below; clear hb; have hb := hb_; clear hb_))
  clear Oy1 Gy1
  have nw0_ := Aside0.mk (Kd.R_below (by (with_reducible repeat (first | apply Kd.R_alloc | apply Kd.R_drewN | apply Kd.R_drew)); exact Ow0.out) hb)
  have gw0_ := Aside0.mk (Nat.le_trans Gw0.out hb.size)
  have nx0_ := Aside0.mk (Kd.R_below (by (with_reducible repeat (first | apply Kd.R_alloc | apply Kd.R_drewN | apply Kd.R_drew)); exact Ox0.out) hb)
  have gx0_ := Aside0.mk (Nat.le_trans Gx0.out hb.size)
  have nx1_ := Aside0.mk (Kd.R_below (by (with_reducible repeat (first | apply Kd.R_alloc | apply Kd.R_drewN | apply Kd.R_drew)); exact Ox1.out) hb)
  have gx1_ := Aside0.mk (Nat.le_trans Gx1.out hb.size)
  have ng0_ := Aside0.mk (Kd.R_below (by (with_reducible repeat (first | apply Kd.R_alloc | apply Kd.R_drewN | apply Kd.R_drew)); exact Og0.out) hb)
  have gg0_ := Aside0.mk (Nat.le_trans Gg0.out hb.size)
  clear Ow0 Gw0
  clear Ox0 Gx0
  clear Ox1 Gx1
  clear Og0 Gg0
  have Ow0 := nw0_
  have Gw0 := gw0_
  clear nw0_ gw0_
  have Ox0 := nx0_
  have Gx0 := gx0_
  clear nx0_ gx0_
  have Ox1 := nx1_
  have Gx1 := gx1_
  clear nx1_ gx1_
  have Og0 := ng0_
  have Gg0 := gg0_
  clear ng0_ gg0_
  have nB_ := Aside0.mk (below_step (by repeat (first | (with_reducible first | exact HB.out | apply below_alloc | apply pw_below_drewN | apply below_drew1) | exact HB.out)) hb)
  clear HB
  have HB := nB_
  clear nB_
  clear hb
  go_wp2_with fail
  (with_reducible refine (laws_markRowS.calls k (Iv bx0 w6.heap.size) _ x0 1 k0 y0 w _ ?s19a ?s19b QM0.out).mono ?_)
  case s19a => exact (by repeat (first | (with_reducible first | exact HB.out | apply below_alloc | apply pw_below_drewN | apply below_drew1) | exact HB.out))
  case s19b => ((with_reducible repeat (first | apply Kd.R_alloc | apply Kd.R_drewN | apply Kd.R_drew)); exact Ox0.out)
  rintro e w14 ⟨rfl, hy, hb, hk⟩
  have mm_ := Aside0.mk (Kd.R_reok rfl hy (fun k_ e_ => Ox0.out.1 k_ e_))
  clear hy
  have gg_ := Aside0.mk (Nat.le_trans Gx0.out hk.1)
  clear Ox0 Gx0
  have nw0_ := Aside0.mk (Kd.R_kept (by (with_reducible repeat (first | apply Kd.R_alloc | apply Kd.R_drewN | apply Kd.R_drew)); exact Ow0.out) hk (iv_dn Z_w0_x0.out))
  have gw0_ := Aside0.mk (Nat.le_trans Gw0.out hk.1)
  have nx1_ := Aside0.mk (Kd.R_kept (by (with_reducible repeat (first | apply Kd.R_alloc | apply Kd.R_drewN | apply Kd.R_drew)); exact Ox1.out) hk (iv_up Z_x0_x1.out))
  have gx1_ := Aside0.mk (Nat.le_trans Gx1.out hk.1)
  have ng0_ := Aside0.mk (Kd.R_kept (by (with_reducible repeat (first | apply Kd.R_alloc | apply Kd.R_drewN | apply Kd.R_drew)); exact Og0.out) hk (iv_up Z_x0_g0.out))
  have gg0_ := Aside0.mk (Nat.le_trans Gg0.out hk.1)
  clear Ow0 Gw0
  clear Ox1 Gx1
  clear Og0 Gg0
  have Ow0 := nw0_
  have Gw0 := gw0_
  clear nw0_ gw0_
  have Ox1 := nx1_
  have Gx1 := gx1_
  clear nx1_ gx1_
  have Og0 := ng0_
  have Gg0 := gg0_
  clear ng0_ gg0_
  clear HB
  have HB := Aside0.mk hb
  have Oy0 := mm_
  have Gy0 := gg_
  clear mm_ gg_ hb hk
  go_wp2_with fail
  (with_reducible refine (laws_markRowS.calls k (Iv bx1 w7.heap.size) _ x1 k0 k1 y1 w _ ?s20a ?s20b QM1.out).mono ?_)
  case s20a => exact (by repeat (first | (with_reducible first | exact HB.out | apply below_alloc | apply pw_below_drewN | apply below_drew1) | exact HB.out))
  case s20b => ((with_reducible repeat (first | apply Kd.R_alloc | apply Kd.R_drewN | apply Kd.R_drew)); exact Ox1.out)
  rintro e w15 ⟨rfl, hy, hb, hk⟩
  have mm_ := Aside0.mk (Kd.R_reok rfl hy (fun k_ e_ => Ox1.out.1 k_ e_))
  clear hy
  have gg_ := Aside0.mk (Nat.le_trans Gx1.out hk.1)
  clear Ox1 Gx1
  have nw0_ := Aside0.mk (Kd.R_kept (by (with_reducible repeat (first | apply Kd.R_alloc | apply Kd.R_drewN | apply Kd.R_drew)); exact Ow0.out) hk (iv_dn Z_w0_x1.out))
  have gw0_ := Aside0.mk (Nat.le_trans Gw0.out hk.1)
  have ng0_ := Aside0.mk (Kd.R_kept (by (with_reducible repeat (first | apply Kd.R_alloc | apply Kd.R_drewN | apply Kd.R_drew)); exact Og0.out) hk (iv_up Z_x1_g0.out))
  have gg0_ := Aside0.mk (Nat.le_trans Gg0.out hk.1)
  have ny0_ := Aside0.mk (Kd.R_kept (by (with_reducible repeat (first | apply Kd.R_alloc | apply Kd.R_drewN | apply Kd.R_drew)); exact Oy0.out) hk (iv_dn Z_x0_x1.out))
  have gy0_ := Aside0.mk (Nat.le_trans Gy0.out hk.1)
  clear Ow0 Gw0
  clear Og0 Gg0
  clear Oy0 Gy0
  have Ow0 := nw0_
  have Gw0 := gw0_
  clear nw0_ gw0_
  have Og0 := ng0_
  have Gg0 := gg0_
  clear ng0_ gg0_
  have Oy0 := ny0_
  have Gy0 := gy0_
  clear ny0_ gy0_
  clear HB
  have HB := Aside0.mk hb
  have Oy1 := mm_
  have Gy1 := gg_
  clear mm_ gg_ hb hk
  go_wp2_with fail
  (with_reducible refine (laws_eqRowS.calls k _ _ g0 _ _ w0 true _ ?s21a ?s21b ?s22a ?s22b QFE.out).mono ?_)
  case s21a => repeat (first | exact (R_rd Og0.out).1 | (with_reducible refine Kd.C_alloc ?_ _) | (with_reducible refine Kd.C_drewN ?_ _) | (with_reducible refine Kd.C_drew ?_))
  case s21b => exact (R_rd Og0.out).2
  case s22a => repeat (first | exact (R_rd Ow0.out).1 | (with_reducible refine Kd.C_alloc ?_ _) | (with_reducible refine Kd.C_drewN ?_ _) | (with_reducible refine Kd.C_drew ?_))
  case s22b => exact (R_rd Ow0.out).2
  rintro e w16 ⟨rfl, hb⟩
  (try (have hb_ := hb.below; clear hb; have hb := hb_; clear hb_))
  clear Oy0 Gy0
  clear Oy1 Gy1
  have nw0_ := Aside0.mk (Kd.R_below (by (with_reducible repeat (first | apply Kd.R_alloc | apply Kd.R_drewN | apply Kd.R_drew)); exact Ow0.out) hb)
  have gw0_ := Aside0.mk (Nat.le_trans Gw0.out hb.size)
  have ng0_ := Aside0.mk (Kd.R_below (by (with_reducible repeat (first | apply Kd.R_alloc | apply Kd.R_drewN | apply Kd.R_drew)); exact Og0.out) hb)
  have gg0_ := Aside0.mk (Nat.le_trans Gg0.out hb.size)
  clear Ow0 Gw0
  clear Og0 Gg0
  have Ow0 := nw0_
  have Gw0 := gw0_
  clear nw0_ gw0_
  have Og0 := ng0_
  have Gg0 := gg0_
  clear ng0_ gg0_
  have nB_ := Aside0.mk (below_step (by repeat (first | (with_reducible first | exact HB.out | apply below_alloc | apply pw_below_drewN | apply below_drew1) | exact HB.out)) hb)
  clear HB
  have HB := nB_
  clear nB_
  clear hb
  go_wp2_with fail
  (with_reducible refine (laws_markRowS.calls k (Iv bg0 w8.heap.size) _ g0 1 m g1 w _ ?s23a ?s23b QMG.out).mono ?_)
  case s23a => exact (by repeat (first | (with_reducible first | exact HB.out | apply below_alloc | apply pw_below_drewN | apply below_drew1) | exact HB.out))
  case s23b => ((with_reducible repeat (first | apply Kd.R_alloc | apply Kd.R_drewN | apply Kd.R_drew)); exact Og0.out)
  rintro e w17 ⟨rfl, hy, hb, hk⟩
  have mm_ := Aside0.mk (Kd.R_reok rfl hy (fun k_ e_ => Og0.out.1 k_ e_))
  clear hy
  have gg_ := Aside0.mk (Nat.le_trans Gg0.out hk.1)
  clear Og0 Gg0
  have nw0_ := Aside0.mk (Kd.R_kept (by (with_reducible repeat (first | apply Kd.R_alloc | apply Kd.R_drewN | apply Kd.R_drew)); exact Ow0.out) hk (iv_dn Z_w0_g0.out))
  have gw0_ := Aside0.mk (Nat.le_trans Gw0.out hk.1)
  clear Ow0 Gw0
  have Ow0 := nw0_
  have Gw0 := gw0_
  clear nw0_ gw0_
  clear HB
  have HB := Aside0.mk hb
  have Og1 := mm_
  have Gg1 := gg_
  clear mm_ gg_ hb hk
  go_wp2_with fail
  (with_reducible refine (heldRowS_n k _ _ _ g1 1 m _ ?s24n ?s24a ?s24b QHG.out).mono ?_)
  case s24n => exact (Kd.R_reads' Og1.out).1.symm
  case s24a => repeat (first | exact (R_rd Og1.out).1 | (with_reducible refine Kd.C_alloc ?_ _) | (with_reducible refine Kd.C_drewN ?_ _) | (with_reducible refine Kd.C_drew ?_))
  case s24b => exact (R_rd Og1.out).2
  rintro e w18 ⟨rfl, hb⟩
  have nw0_ := Aside0.mk (Kd.R_below (by (with_reducible repeat (first | apply Kd.R_alloc | apply Kd.R_drewN | apply Kd.R_drew)); exact Ow0.out) hb)
  have gw0_ := Aside0.mk (Nat.le_trans Gw0.out hb.size)
  have ng1_ := Aside0.mk (Kd.R_below (by (with_reducible repeat (first | apply Kd.R_alloc | apply Kd.R_drewN | apply Kd.R_drew)); exact Og1.out) hb)
  have gg1_ := Aside0.mk (Nat.le_trans Gg1.out hb.size)
  clear Ow0 Gw0
  clear Og1 Gg1
  have Ow0 := nw0_
  have Gw0 := gw0_
  clear nw0_ gw0_
  have Og1 := ng1_
  have Gg1 := gg1_
  clear ng1_ gg1_
  have nB_ := Aside0.mk (below_step (by repeat (first | (with_reducible first | exact HB.out | apply below_alloc | apply pw_below_drewN | apply below_drew1) | exact HB.out)) hb)
  clear HB
  have HB := nB_
  clear nB_
  clear hb
  go_wp2_with fail
  (with_reducible refine (laws_toRowS.calls k _ _ l0 x0 _ ?s25a ?s25b QT0.out).mono ?_)
  case s25a => repeat (first | exact (Kd.C_below HR0.out (by repeat (first | (with_reducible first | exact HB.out | apply below_alloc | apply pw_below_drewN | apply below_drew1) | exact HB.out))) | (with_reducible refine Kd.C_alloc ?_ _) | (with_reducible refine Kd.C_drewN ?_ _) | (with_reducible refine Kd.C_drew ?_))
  case s25b => exact HC0.out
  rintro e w19 ⟨vx0, rfl, hox0, hb⟩
  obtain ⟨bx0, hlex0, mx0_⟩ := R_ivx hox0 (below_size (by repeat (first | (with_reducible first | exact HB.out | apply below_alloc | apply pw_below_drewN | apply below_drew1) | exact HB.out)))
  clear hox0
  have Z_w0_x0 := Aside0.mk (hlex0 _ Gw0.out)
  have Z_g0_x0 := Aside0.mk (hlex0 _ Gg1.out)
  clear hlex0
  have nw0_ := Aside0.mk (Kd.R_below (by (with_reducible repeat (first | apply Kd.R_alloc | apply Kd.R_drewN | apply Kd.R_drew)); exact Ow0.out) hb)
  have gw0_ := Aside0.mk (Nat.le_trans Gw0.out hb.size)
  have ng1_ := Aside0.mk (Kd.R_below (by (with_reducible repeat (first | apply Kd.R_alloc | apply Kd.R_drewN | apply Kd.R_drew)); exact Og1.out) hb)
  have gg1_ := Aside0.mk (Nat.le_trans Gg1.out hb.size)
  clear Ow0 Gw0
  clear Og1 Gg1
  have Ow0 := nw0_
  have Gw0 := gw0_
  clear nw0_ gw0_
  have Og1 := ng1_
  have Gg1 := gg1_
  clear ng1_ gg1_
  have nB_ := Aside0.mk (below_step (by repeat (first | (with_reducible first | exact HB.out | apply below_alloc | apply pw_below_drewN | apply below_drew1) | exact HB.out)) hb)
  clear HB
  have HB := nB_
  clear nB_
  clear hb
  obtain ⟨Ax0, cx0, ex0⟩ := Kd.R_slice mx0_.out
  subst ex0
  have Ox0 := mx0_
  have Gx0 := Aside0.mk (Nat.le_refl w19.heap.size)
  clear mx0_
  go_wp2_with fail
  (with_reducible refine (laws_toRowS.calls k _ _ l1 x1 _ ?s26a ?s26b QT1.out).mono ?_)
  case s26a => repeat (first | exact (Kd.C_below HR1.out (by repeat (first | (with_reducible first | exact HB.out | apply below_alloc | apply pw_below_drewN | apply below_drew1) | exact HB.out))) | (with_reducible refine Kd.C_alloc ?_ _) | (with_reducible refine Kd.C_drewN ?_ _) | (with_reducible refine Kd.C_drew ?_))
  case s26b => exact HC1.out
  rintro e w20 ⟨vx1, rfl, hox1, hb⟩
  obtain ⟨bx1, hlex1, mx1_⟩ := R_ivx hox1 (below_size (by repeat (first | (with_reducible first | exact HB.out | apply below_alloc | apply pw_below_drewN | apply below_drew1) | exact HB.out)))
  clear hox1
  have Z_w0_x1 := Aside0.mk (hlex1 _ Gw0.out)
  have Z_g0_x1 := Aside0.mk (hlex1 _ Gg1.out)
  have Z_x0_x1 := Aside0.mk (hlex1 _ Gx0.out)
  clear hlex1
  have nw0_ := Aside0.mk (Kd.R_below (by (with_reducible repeat (first | apply Kd.R_alloc | apply Kd.R_drewN | apply Kd.R_drew)); exact Ow0.out) hb)
  have gw0_ := Aside0.mk (Nat.le_trans Gw0.out hb.size)
  have ng1_ := Aside0.mk (Kd.R_below (by (with_reducible repeat (first | apply Kd.R_alloc | apply Kd.R_drewN | apply Kd.R_drew)); exact Og1.out) hb)
  have gg1_ := Aside0.mk (Nat.le_trans Gg1.out hb.size)
  have nx0_ := Aside0.mk (Kd.R_below (by (with_reducible repeat (first | apply Kd.R_alloc | apply Kd.R_drewN | apply Kd.R_drew)); exact Ox0.out) hb)
  have gx0_ := Aside0.mk (Nat.le_trans Gx0.out hb.size)
  clear Ow0 Gw0
  clear Og1 Gg1
  clear Ox0 Gx0
  have Ow0 := nw0_
  have Gw0 := gw0_
  clear nw0_ gw0_
  have Og1 := ng1_
  have Gg1 := gg1_
  clear ng1_ gg1_
  have Ox0 := nx0_
  have Gx0 := gx0_
  clear nx0_ gx0_
  have nB_ := Aside0.mk (below_step (by repeat (first | (with_reducible first | exact HB.out | apply below_alloc | apply pw_below_drewN | apply below_drew1) | exact HB.out)) hb)
  clear HB
  have HB := nB_
  clear nB_
  clear hb
  obtain ⟨Ax1, cx1, ex1⟩ := Kd.R_slice mx1_.out
  subst ex1
  have Ox1 := mx1_
  have Gx1 := Aside0.mk (Nat.le_refl w20.heap.size)
  clear mx1_
  go_wp2_with fail
  (with_reducible refine (impl_BagDifference.calls k _ _ x0 _ _ x1 g0 _ ?s27a ?s27b ?s28a ?s28b QFI.out).mono ?_)
  case s27a => repeat (first | exact (R_rd Ox0.out).1 | (with_reducible refine Kd.C_alloc ?_ _) | (with_reducible refine Kd.C_drewN ?_ _) | (with_reducible refine Kd.C_drew ?_))
  case s27b => exact (R_rd Ox0.out).2
  case s28a => repeat (first | exact (R_rd Ox1.out).1 | (with_reducible refine Kd.C_alloc ?_ _) | (with_reducible refine Kd.C_drewN ?_ _) | (with_reducible refine Kd.C_drew ?_))
  case s28b => exact (R_rd Ox1.out).2
  rintro e w21 ⟨vg0, rfl, hog0, hb⟩
  obtain ⟨bg0, hleg0, mg0_⟩ := R_ivx hog0 (below_size (by repeat (first | (with_reducible first | exact HB.out | apply below_alloc | apply pw_below_drewN | apply below_drew1) | exact HB.out)))
  clear hog0
  clear Ox0 Gx0
  clear Ox1 Gx1
  have Z_w0_g0 := Aside0.mk (hleg0 _ Gw0.out)
  have Z_g0_g0 := Aside0.mk (hleg0 _ Gg1.out)
  clear hleg0
  have nw0_ := Aside0.mk (Kd.R_below (by (with_reducible repeat (first | apply Kd.R_alloc | apply Kd.R_drewN | apply Kd.R_drew)); exact Ow0.out) hb)
  have gw0_ := Aside0.mk (Nat.le_trans Gw0.out hb.size)
  have ng1_ := Aside0.mk (Kd.R_below (by (with_reducible repeat (first | apply Kd.R_alloc | apply Kd.R_drewN | apply Kd.R_drew)); exact Og1.out) hb)
  have gg1_ := Aside0.mk (Nat.le_trans Gg1.out hb.size)
  clear Ow0 Gw0
  clear Og1 Gg1
  have Ow0 := nw0_
  have Gw0 := gw0_
  clear nw0_ gw0_
  have Og1 := ng1_
  have Gg1 := gg1_
  clear ng1_ gg1_
  have nB_ := Aside0.mk (below_step (by repeat (first | (with_reducible first | exact HB.out | apply below_alloc | apply pw_below_drewN | apply below_drew1) | exact HB.out)) hb)
  clear HB
  have HB := nB_
  clear nB_
  clear hb
  obtain ⟨Ag0, cg0, eg0⟩ := Kd.R_slice mg0_.out
  subst eg0
  have Og0 := mg0_
  have Gg0 := Aside0.mk (Nat.le_refl w21.heap.size)
  clear mg0_
  go_wp2_with fail
  (with_reducible refine (laws_eqRowS.calls k _ _ g0 _ _ w0 true _ ?s29a ?s29b ?s30a ?s30b QFE.out).mono ?_)
  case s29a => repeat (first | exact (R_rd Og0.out).1 | (with_reducible refine Kd.C_alloc ?_ _) | (with_reducible refine Kd.C_drewN ?_ _) | (with_reducible refine Kd.C_drew ?_))
  case s29b => exact (R_rd Og0.out).2
  case s30a => repeat (first | exact (R_rd Ow0.out).1 | (with_reducible refine Kd.C_alloc ?_ _) | (with_reducible refine Kd.C_drewN ?_ _) | (with_reducible refine Kd.C_drew ?_))
  case s30b => exact (R_rd Ow0.out).2
  rintro e w22 ⟨rfl, hb⟩
  (try (have hb_ := hb.below; clear hb; have hb := hb_; clear hb_))
  clear Og0 Gg0
  clear Ow0 Gw0
  have ng1_ := Aside0.mk (Kd.R_below (by (with_reducible repeat (first | apply Kd.R_alloc | apply Kd.R_drewN | apply Kd.R_drew)); exact Og1.out) hb)
  have gg1_ := Aside0.mk (Nat.le_trans Gg1.out hb.size)
  clear Og1 Gg1
  have Og1 := ng1_
  have Gg1 := gg1_
  clear ng1_ gg1_
  have nB_ := Aside0.mk (below_step (by repeat (first | (with_reducible first | exact HB.out | apply below_alloc | apply pw_below_drewN | apply below_drew1) | exact HB.out)) hb)
  clear HB
  have HB := nB_
  clear nB_
  clear hb
  go_wp2_with fail
  (with_reducible refine (heldRowS_n k _ _ _ g1 1 m _ ?s31n ?s31a ?s31b QHG.out).mono ?_)
  case s31n => exact (Kd.R_reads' Og1.out).1.symm
  case s31a => repeat (first | exact (R_rd Og1.out).1 | (with_reducible refine Kd.C_alloc ?_ _) | (with_reducible refine Kd.C_drewN ?_ _) | (with_reducible refine Kd.C_drew ?_))
  case s31b => exact (R_rd Og1.out).2
  rintro e w23 ⟨rfl, hb⟩
  have ng1_ := Aside0.mk (Kd.R_below (by (with_reducible repeat (first | apply Kd.R_alloc | apply Kd.R_drewN | apply Kd.R_drew)); exact Og1.out) hb)
  have gg1_ := Aside0.mk (Nat.le_trans Gg1.out hb.size)
  clear Og1 Gg1
  have Og1 := ng1_
  have Gg1 := gg1_
  clear ng1_ gg1_
  have nB_ := Aside0.mk (below_step (by repeat (first | (with_reducible first | exact HB.out | apply below_alloc | apply pw_below_drewN | apply below_drew1) | exact HB.out)) hb)
  clear HB
  have HB := nB_
  clear nB_
  clear hb
  go_wp2
  go_ret
  exact ⟨by first | rfl | simp, (by repeat (first | (with_reducible first | exact HB.out | apply below_alloc | apply pw_below_drewN | apply below_drew1) | exact HB.out))⟩
/-- What the walk asks of the values. -/
def laws_FnExactBagDifference.OK (k : Nat) (l0 : List S45) (l1 : List S45) : Prop := (∃ (t0 : Int), laws_szRowS.f l0 1048576 = some t0 ∧ t0 < 0) ∨ (∃ (t0 t1 : Int), laws_szRowS.f l0 1048576 = some t0 ∧ laws_szRowS.f l1 t0 = some t1 ∧ ¬ t0 < 0 ∧ t1 < 0) ∨ (∃ (t0 t1 : Int) (x0 x1 y0 y1 : List S36) (w0 g0 g1 : List S36) (k0 k1 m : Int), laws_szRowS.f l0 1048576 = some t0 ∧ laws_szRowS.f l1 t0 = some t1 ∧ laws_toRowS.f k l0 = some x0 ∧ laws_toRowS.f k l1 = some x1 ∧ spec_BagDifference.f k x0 x1 = some w0 ∧ impl_BagDifference.f k x0 x1 = some g0 ∧ laws_eqRowS.f k g0 w0 = some true ∧ laws_eqRowS.f k x0 x0 = some true ∧ laws_eqRowS.f k x1 x1 = some true ∧ laws_markRowS.f k x0 1 = some (k0, y0) ∧ laws_markRowS.f k x1 k0 = some (k1, y1) ∧ laws_markRowS.f k g0 1 = some (m, g1) ∧ laws_heldRowS.f k g1 1 = some m ∧ ¬ t0 < 0 ∧ ¬ t1 < 0 ∧ ¬ k1 < 0 ∧ ¬ m < 0)
theorem laws_FnExactBagDifference.calls (k : Nat) (A0 : Option Addr) (c0 : Nat) (l0 : List S45) (A1 : Option Addr) (c1 : Nat) (l1 : List S45) (r : Bool) (w : World) (hr0 : Kd.C k45 w A0 l0.length l0) (hc0 : l0.length ≤ c0) (hr1 : Kd.C k45 w A1 l1.length l1) (hc1 : l1.length ≤ c1) (h : laws_FnExactBagDifference.OK k l0 l1) :
    Calls Try.prog 6 #[.slice A0 l0.length c0, .slice A1 l1.length c1] w fun e w' => e = .returned (.bool true) ∧ Below w.heap.size w w' := by
  obtain ⟨t0, Z0, n0⟩ | ⟨t0, t1, Z0, Z1, n0, n1⟩ | ⟨t0, t1, x0, x1, y0, y1, w0, g0, g1, k0, k1, m, Z0, Z1, T0, T1, FS, FI, FE, E0, E1, M0, M1, MG, HG, n0, n1, nk, nm⟩ := h
  · exact laws_FnExactBagDifference.big0 k A0 c0 l0 A1 c1 l1 t0 w hr0 hc0 hr1 hc1 Z0 n0
  · exact laws_FnExactBagDifference.big1 k A0 c0 l0 A1 c1 l1 t0 t1 w hr0 hc0 hr1 hc1 Z0 Z1 n0 n1
  · exact laws_FnExactBagDifference.walk k A0 c0 l0 A1 c1 l1 t0 t1 x0 x1 y0 y1 w0 g0 g1 k0 k1 m w hr0 hc0 hr1 hc1 Z0 Z1 T0 T1 FS FI FE E0 E1 M0 M1 MG HG n0 n1 nk nm
end Go.Proofs.Ytbcpfppiaeelbaa.PFnExactBagDifference
