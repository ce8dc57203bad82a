/- The walk of the law FnExactPackPages: every test is decided by the premises; nothing is claimed here. -/
import Derived.Test.YtljpfogplcdcjaaQFnExactPackPagesx7
import Derived.Test.YtljpfogplcdcjaaQFnExactPackPagesx2
import Derived.Test.YtljpfogplcdcjaaQFnExactPackPagesx4
import Derived.Test.YtljpfogplcdcjaaQFnExactPackPagesx5
import Derived.Test.YtljpfogplcdcjaaQFnExactPackPagesx6
import Derived.Test.YtljpfogplcdcjaaLin
namespace Go.Proofs.Ytljpfogplcdcjaa.PFnExactPackPages
open Go.RowKit Go.Proofs.YtljpfogplcdcjaaW.PrintWords Go.Proofs.YtljpfogplcdcjaaW.PrintLast Go.Proofs.YtljpfogplcdcjaaW.PrintMore Go.Proofs.Ytljpfogplcdcjaa.Lin
set_option linter.unusedVariables false
set_option linter.unusedSimpArgs false
theorem heldPageS_n (k : Nat) (A0 : Option Addr) (n c0 : Nat) (l0 : List S39) (a1 r : Int) (w : World) (hn : l0.length = n) (hr : Kd.C k39 w A0 l0.length l0) (hc : l0.length ≤ c0) (h : laws_heldPageS.f k l0 a1 = some r) :
    Calls Try.prog 14 #[.slice A0 n c0, .int .i64 a1] w fun e w' => e = .returned (.int .i64 r) ∧ Below w.heap.size w w' := by
  subst hn; exact (laws_heldPageS.calls k A0 c0 l0 a1 r w hr hc h).mono fun e w' hh => ⟨hh.1, hh.2.below⟩
set_option maxHeartbeats 4000000 in
set_option maxRecDepth 100000 in
theorem laws_FnExactPackPages.big0 (k : Nat) (A0 : Option Addr) (c0 : Nat) (l0 : List S65) (t0 : Int) (w : World) (hr0 : Kd.C k65 w A0 l0.length l0) (hc0 : l0.length ≤ c0) (Z0 : laws_szRowS.f l0 1048576 = some t0) (n0 : t0 < 0) :
    Calls Try.prog 3 #[.slice A0 l0.length c0] w fun e w' => e = .returned (.bool true) ∧ Below w.heap.size w w' := by
  have HR0 := Aside0.mk hr0
  have HC0 := Aside0.mk hc0
  clear hr0 hc0
  have HB := Aside0.mk (Below.refl w.heap.size w)
  have QZ0 := Aside0.mk Z0
  clear Z0
  have dn0 : decide (t0 < 0) = true := decide_eq_true n0
  clear n0
  go_enter Try.func3, Try.ntmps3
  go_wp2_with fail
  (with_reducible refine (laws_szRowS.calls _ _ l0 1048576 t0 _ ?s1a ?s1b QZ0.out).mono ?_)
  case s1a => repeat (first | exact (Kd.C_below HR0.out (by repeat (first | (with_reducible first | exact HB.out | apply below_alloc | apply pw_below_drewN | apply below_drew1) | exact HB.out))) | (with_reducible refine Kd.C_alloc ?_ _) | (with_reducible refine Kd.C_drewN ?_ _) | (with_reducible refine Kd.C_drew ?_))
  case s1b => exact HC0.out
  rintro e w1 ⟨rfl, hb⟩
  (try (have hb_ := hb.below; clear hb; have hb := hb_; clear hb_))
  have nB_ := Aside0.mk (below_step (by repeat (first | (with_reducible first | exact HB.out | apply below_alloc | apply pw_below_drewN | apply below_drew1) | exact HB.out)) hb)
  clear HB
  have HB := nB_
  clear nB_
  clear hb
  go_wp2
  go_ret
  exact ⟨by first | rfl | simp, (by repeat (first | (with_reducible first | exact HB.out | apply below_alloc | apply pw_below_drewN | apply below_drew1) | exact HB.out))⟩
set_option maxHeartbeats 4000000 in
set_option maxRecDepth 100000 in
theorem laws_FnExactPackPages.walk (k : Nat) (A0 : Option Addr) (c0 : Nat) (l0 : List S65) (t0 : Int) (x0 y0 : List S42) (w0 g0 g1 : List S39) (k0 m : Int) (w : World) (hr0 : Kd.C k65 w A0 l0.length l0) (hc0 : l0.length ≤ c0)
    (Z0 : laws_szRowS.f l0 1048576 = some t0)
    (T0 : laws_toRowS.f k l0 = some x0) (FS : spec_PackPages.f k x0 = some w0) (FI : impl_PackPages.f k x0 = some g0) (FE : laws_eqPageS.f k g0 w0 = some true) (E0 : laws_eqRowS.f k x0 x0 = some true) (M0 : laws_markRowS.f k x0 1 = some (k0, y0)) (MG : laws_markPageS.f k g0 1 = some (m, g1)) (HG : laws_heldPageS.f k g1 1 = some m)
    (n0 : ¬ t0 < 0) (nk : ¬ k0 < 0) (nm : ¬ m < 0) :
    Calls Try.prog 3 #[.slice A0 l0.length c0] w fun e w' => e = .returned (.bool true) ∧ Below w.heap.size w w' := by
  have HR0 := Aside0.mk hr0
  have HC0 := Aside0.mk hc0
  clear hr0 hc0
  have HB := Aside0.mk (Below.refl w.heap.size w)
  have QZ0 := Aside0.mk Z0
  clear Z0
  have QT0 := Aside0.mk T0
  clear T0
  have QFS := Aside0.mk FS
  clear FS
  have QFI := Aside0.mk FI
  clear FI
  have QFE := Aside0.mk FE
  clear FE
  have QE0 := Aside0.mk E0
  clear E0
  have QM0 := Aside0.mk M0
  clear M0
  have QMG := Aside0.mk MG
  clear MG
  have QHG := Aside0.mk HG
  clear HG
  have dn0 : decide (t0 < 0) = false := decide_eq_false n0
  clear n0
  have dnk : decide (k0 < 0) = false := decide_eq_false nk
  clear nk
  have dnm : decide (m < 0) = false := decide_eq_false nm
  clear nm
  go_enter Try.func3, Try.ntmps3
  go_wp2_with fail
  (with_reducible refine (laws_szRowS.calls _ _ l0 1048576 t0 _ ?s1a ?s1b QZ0.out).mono ?_)
  case s1a => repeat (first | exact (Kd.C_below HR0.out (by repeat (first | (with_reducible first | exact HB.out | apply below_alloc | apply pw_below_drewN | apply below_drew1) | exact HB.out))) | (with_reducible refine Kd.C_alloc ?_ _) | (with_reducible refine Kd.C_drewN ?_ _) | (with_reducible refine Kd.C_drew ?_))
  case s1b => exact HC0.out
  rintro e w1 ⟨rfl, hb⟩
  (try (have hb_ := hb.below; clear hb; have hb := hb_; clear hb_))
  have nB_ := Aside0.mk (below_step (by repeat (first | (with_reducible first | exact HB.out | apply below_alloc | apply pw_below_drewN | apply below_drew1) | exact HB.out)) hb)
  clear HB
  have HB := nB_
  clear nB_
  clear hb
  go_wp2_with fail
  (with_reducible refine (laws_toRowS.calls k _ _ l0 x0 _ ?s2a ?s2b QT0.out).mono ?_)
  case s2a => repeat (first | exact (Kd.C_below HR0.out (by repeat (first | (with_reducible first | exact HB.out | apply below_alloc | apply pw_below_drewN | apply below_drew1) | exact HB.out))) | (with_reducible refine Kd.C_alloc ?_ _) | (with_reducible refine Kd.C_drewN ?_ _) | (with_reducible refine Kd.C_drew ?_))
  case s2b => exact HC0.out
  rintro e w2 ⟨vx0, rfl, hox0, hb⟩
  obtain ⟨bx0, hlex0, mx0_⟩ := R_ivx hox0 (below_size (by repeat (first | (with_reducible first | exact HB.out | apply below_alloc | apply pw_below_drewN | apply below_drew1) | exact HB.out)))
  clear hox0
  clear hlex0
  have nB_ := Aside0.mk (below_step (by repeat (first | (with_reducible first | exact HB.out | apply below_alloc | apply pw_below_drewN | apply below_drew1) | exact HB.out)) hb)
  clear HB
  have HB := nB_
  clear nB_
  clear hb
  obtain ⟨Ax0, cx0, ex0⟩ := Kd.R_slice mx0_.out
  subst ex0
  have Ox0 := mx0_
  have Gx0 := Aside0.mk (Nat.le_refl w2.heap.size)
  clear mx0_
  go_wp2_with fail
  (with_reducible refine (spec_PackPages.calls k _ _ x0 w0 _ ?s3a ?s3b QFS.out).mono ?_)
  case s3a => repeat (first | exact (R_rd Ox0.out).1 | (with_reducible refine Kd.C_alloc ?_ _) | (with_reducible refine Kd.C_drewN ?_ _) | (with_reducible refine Kd.C_drew ?_))
  case s3b => exact (R_rd Ox0.out).2
  rintro e w3 ⟨vw0, rfl, how0, hb⟩
  obtain ⟨bw0, hlew0, mw0_⟩ := S_ivx how0 (below_size (by repeat (first | (with_reducible first | exact HB.out | apply below_alloc | apply pw_below_drewN | apply below_drew1) | exact HB.out)))
  clear how0
  clear Ox0 Gx0
  clear hlew0
  have nB_ := Aside0.mk (below_step (by repeat (first | (with_reducible first | exact HB.out | apply below_alloc | apply pw_below_drewN | apply below_drew1) | exact HB.out)) hb)
  clear HB
  have HB := nB_
  clear nB_
  clear hb
  obtain ⟨Aw0, cw0, ew0⟩ := Kd.S_slice mw0_.out
  subst ew0
  have Ow0 := mw0_
  have Gw0 := Aside0.mk (Nat.le_refl w3.heap.size)
  clear mw0_
  go_wp2_with fail
  (with_reducible refine (laws_toRowS.calls k _ _ l0 x0 _ ?s4a ?s4b QT0.out).mono ?_)
  case s4a => repeat (first | exact (Kd.C_below HR0.out (by repeat (first | (with_reducible first | exact HB.out | apply below_alloc | apply pw_below_drewN | apply below_drew1) | exact HB.out))) | (with_reducible refine Kd.C_alloc ?_ _) | (with_reducible refine Kd.C_drewN ?_ _) | (with_reducible refine Kd.C_drew ?_))
  case s4b => exact HC0.out
  rintro e w4 ⟨vx0, rfl, hox0, hb⟩
  obtain ⟨bx0, hlex0, mx0_⟩ := R_ivx hox0 (below_size (by repeat (first | (with_reducible first | exact HB.out | apply below_alloc | apply pw_below_drewN | apply below_drew1) | exact HB.out)))
  clear hox0
  have Z_w0_x0 := Aside0.mk (hlex0 _ Gw0.out)
  clear hlex0
  have nw0_ := Aside0.mk (Kd.S_below (by (with_reducible repeat (first | apply Kd.S_alloc | apply Kd.S_drewN | apply Kd.S_drew)); exact Ow0.out) hb)
  have gw0_ := Aside0.mk (Nat.le_trans Gw0.out hb.size)
  clear Ow0 Gw0
  have Ow0 := nw0_
  have Gw0 := gw0_
  clear nw0_ gw0_
  have nB_ := Aside0.mk (below_step (by repeat (first | (with_reducible first | exact HB.out | apply below_alloc | apply pw_below_drewN | apply below_drew1) | exact HB.out)) hb)
  clear HB
  have HB := nB_
  clear nB_
  clear hb
  obtain ⟨Ax0, cx0, ex0⟩ := Kd.R_slice mx0_.out
  subst ex0
  have Ox0 := mx0_
  have Gx0 := Aside0.mk (Nat.le_refl w4.heap.size)
  clear mx0_
  go_wp2_with fail
  (with_reducible refine (impl_PackPages.calls k _ _ x0 g0 _ ?s5a ?s5b QFI.out).mono ?_)
  case s5a => repeat (first | exact (R_rd Ox0.out).1 | (with_reducible refine Kd.C_alloc ?_ _) | (with_reducible refine Kd.C_drewN ?_ _) | (with_reducible refine Kd.C_drew ?_))
  case s5b => exact (R_rd Ox0.out).2
  rintro e w5 ⟨vg0, rfl, hog0, hb⟩
  obtain ⟨bg0, hleg0, mg0_⟩ := S_ivx hog0 (below_size (by repeat (first | (with_reducible first | exact HB.out | apply below_alloc | apply pw_below_drewN | apply below_drew1) | exact HB.out)))
  clear hog0
  have Z_w0_g0 := Aside0.mk (hleg0 _ Gw0.out)
  have Z_x0_g0 := Aside0.mk (hleg0 _ Gx0.out)
  clear hleg0
  have nw0_ := Aside0.mk (Kd.S_below (by (with_reducible repeat (first | apply Kd.S_alloc | apply Kd.S_drewN | apply Kd.S_drew)); exact Ow0.out) hb)
  have gw0_ := Aside0.mk (Nat.le_trans Gw0.out hb.size)
  have nx0_ := Aside0.mk (Kd.R_below (by (with_reducible repeat (first | apply Kd.R_alloc | apply Kd.R_drewN | apply Kd.R_drew)); exact Ox0.out) hb)
  have gx0_ := Aside0.mk (Nat.le_trans Gx0.out hb.size)
  clear Ow0 Gw0
  clear Ox0 Gx0
  have Ow0 := nw0_
  have Gw0 := gw0_
  clear nw0_ gw0_
  have Ox0 := nx0_
  have Gx0 := gx0_
  clear nx0_ gx0_
  have nB_ := Aside0.mk (below_step (by repeat (first | (with_reducible first | exact HB.out | apply below_alloc | apply pw_below_drewN | apply below_drew1) | exact HB.out)) hb)
  clear HB
  have HB := nB_
  clear nB_
  clear hb
  obtain ⟨Ag0, cg0, eg0⟩ := Kd.S_slice mg0_.out
  subst eg0
  have Og0 := mg0_
  have Gg0 := Aside0.mk (Nat.le_refl w5.heap.size)
  clear mg0_
  go_wp2_with fail
  (with_reducible refine (laws_eqPageS.calls k _ _ g0 _ _ w0 true _ ?s6a ?s6b ?s7a ?s7b QFE.out).mono ?_)
  case s6a => repeat (first | exact (S_rd Og0.out).1 | (with_reducible refine Kd.C_alloc ?_ _) | (with_reducible refine Kd.C_drewN ?_ _) | (with_reducible refine Kd.C_drew ?_))
  case s6b => exact (S_rd Og0.out).2
  case s7a => repeat (first | exact (S_rd Ow0.out).1 | (with_reducible refine Kd.C_alloc ?_ _) | (with_reducible refine Kd.C_drewN ?_ _) | (with_reducible refine Kd.C_drew ?_))
  case s7b => exact (S_rd Ow0.out).2
  rintro e w6 ⟨rfl, hb⟩
  (try (have hb_ := hb.below; clear hb; have hb := hb_; clear hb_))
  have nw0_ := Aside0.mk (Kd.S_below (by (with_reducible repeat (first | apply Kd.S_alloc | apply Kd.S_drewN | apply Kd.S_drew)); exact Ow0.out) hb)
  have gw0_ := Aside0.mk (Nat.le_trans Gw0.out hb.size)
  have nx0_ := Aside0.mk (Kd.R_below (by (with_reducible repeat (first | apply Kd.R_alloc | apply Kd.R_drewN | apply Kd.R_drew)); exact Ox0.out) hb)
  have gx0_ := Aside0.mk (Nat.le_trans Gx0.out hb.size)
  have ng0_ := Aside0.mk (Kd.S_below (by (with_reducible repeat (first | apply Kd.S_alloc | apply Kd.S_drewN | apply Kd.S_drew)); exact Og0.out) hb)
  have gg0_ := Aside0.mk (Nat.le_trans Gg0.out hb.size)
  clear Ow0 Gw0
  clear Ox0 Gx0
  clear Og0 Gg0
  have Ow0 := nw0_
  have Gw0 := gw0_
  clear nw0_ gw0_
  have Ox0 := nx0_
  have Gx0 := gx0_
  clear nx0_ gx0_
  have Og0 := ng0_
  have Gg0 := gg0_
  clear ng0_ gg0_
  have nB_ := Aside0.mk (below_step (by repeat (first | (with_reducible first | exact HB.out | apply below_alloc | apply pw_below_drewN | apply below_drew1) | exact HB.out)) hb)
  clear HB
  have HB := nB_
  clear nB_
  clear hb
  go_wp2_with fail
  (with_reducible refine (laws_toRowS.calls k _ _ l0 x0 _ ?s8a ?s8b QT0.out).mono ?_)
  case s8a => repeat (first | exact (Kd.C_below HR0.out (by repeat (first | (with_reducible first | exact HB.out | apply below_alloc | apply pw_below_drewN | apply below_drew1) | exact HB.out))) | (with_reducible refine Kd.C_alloc ?_ _) | (with_reducible refine Kd.C_drewN ?_ _) | (with_reducible refine Kd.C_drew ?_))
  case s8b => exact HC0.out
  rintro e w7 ⟨vy0, rfl, hoy0, hb⟩
  obtain ⟨by0, hley0, my0_⟩ := R_ivx hoy0 (below_size (by repeat (first | (with_reducible first | exact HB.out | apply below_alloc | apply pw_below_drewN | apply below_drew1) | exact HB.out)))
  clear hoy0
  have Z_w0_y0 := Aside0.mk (hley0 _ Gw0.out)
  have Z_x0_y0 := Aside0.mk (hley0 _ Gx0.out)
  have Z_g0_y0 := Aside0.mk (hley0 _ Gg0.out)
  clear hley0
  have nw0_ := Aside0.mk (Kd.S_below (by (with_reducible repeat (first | apply Kd.S_alloc | apply Kd.S_drewN | apply Kd.S_drew)); exact Ow0.out) hb)
  have gw0_ := Aside0.mk (Nat.le_trans Gw0.out hb.size)
  have nx0_ := Aside0.mk (Kd.R_below (by (with_reducible repeat (first | apply Kd.R_alloc | apply Kd.R_drewN | apply Kd.R_drew)); exact Ox0.out) hb)
  have gx0_ := Aside0.mk (Nat.le_trans Gx0.out hb.size)
  have ng0_ := Aside0.mk (Kd.S_below (by (with_reducible repeat (first | apply Kd.S_alloc | apply Kd.S_drewN | apply Kd.S_drew)); exact Og0.out) hb)
  have gg0_ := Aside0.mk (Nat.le_trans Gg0.out hb.size)
  clear Ow0 Gw0
  clear Ox0 Gx0
  clear Og0 Gg0
  have Ow0 := nw0_
  have Gw0 := gw0_
  clear nw0_ gw0_
  have Ox0 := nx0_
  have Gx0 := gx0_
  clear nx0_ gx0_
  have Og0 := ng0_
  have Gg0 := gg0_
  clear ng0_ gg0_
  have nB_ := Aside0.mk (below_step (by repeat (first | (with_reducible first | exact HB.out | apply below_alloc | apply pw_below_drewN | apply below_drew1) | exact HB.out)) hb)
  clear HB
  have HB := nB_
  clear nB_
  clear hb
  obtain ⟨Ay0, cy0, ey0⟩ := Kd.R_slice my0_.out
  subst ey0
  have Oy0 := my0_
  have Gy0 := Aside0.mk (Nat.le_refl w7.heap.size)
  clear my0_
  go_wp2_with fail
  (with_reducible refine (laws_eqRowS.calls k _ _ x0 _ _ x0 true _ ?s9a ?s9b ?s10a ?s10b QE0.out).mono ?_)
  case s9a => repeat (first | exact (R_rd Ox0.out).1 | (with_reducible refine Kd.C_alloc ?_ _) | (with_reducible refine Kd.C_drewN ?_ _) | (with_reducible refine Kd.C_drew ?_))
  case s9b => exact (R_rd Ox0.out).2
  case s10a => repeat (first | exact (R_rd Oy0.out).1 | (with_reducible refine Kd.C_alloc ?_ _) | (with_reducible refine Kd.C_drewN ?_ _) | (with_reducible refine Kd.C_drew ?_))
  case s10b => exact (R_rd Oy0.out).2
  rintro e w8 ⟨rfl, hb⟩
  (try (have hb_ := hb.below; clear hb; have hb := hb_; clear hb_))
  clear Oy0 Gy0
  have nw0_ := Aside0.mk (Kd.S_below (by (with_reducible repeat (first | apply Kd.S_alloc | apply Kd.S_drewN | apply Kd.S_drew)); exact Ow0.out) hb)
  have gw0_ := Aside0.mk (Nat.le_trans Gw0.out hb.size)
  have nx0_ := Aside0.mk (Kd.R_below (by (with_reducible repeat (first | apply Kd.R_alloc | apply Kd.R_drewN | apply Kd.R_drew)); exact Ox0.out) hb)
  have gx0_ := Aside0.mk (Nat.le_trans Gx0.out hb.size)
  have ng0_ := Aside0.mk (Kd.S_below (by (with_reducible repeat (first | apply Kd.S_alloc | apply Kd.S_drewN | apply Kd.S_drew)); exact Og0.out) hb)
  have gg0_ := Aside0.mk (Nat.le_trans Gg0.out hb.size)
  clear Ow0 Gw0
  clear Ox0 Gx0
  clear Og0 Gg0
  have Ow0 := nw0_
  have Gw0 := gw0_
  clear nw0_ gw0_
  have Ox0 := nx0_
  have Gx0 := gx0_
  clear nx0_ gx0_
  have Og0 := ng0_
  have Gg0 := gg0_
  clear ng0_ gg0_
  have nB_ := Aside0.mk (below_step (by repeat (first | (with_reducible first | exact HB.out | apply below_alloc | apply pw_below_drewN | apply below_drew1) | exact HB.out)) hb)
  clear HB
  have HB := nB_
  clear nB_
  clear hb
  go_wp2_with fail
  (with_reducible refine (laws_markRowS.calls k (Iv bx0 w4.heap.size) _ x0 1 k0 y0 w _ ?s11a ?s11b QM0.out).mono ?_)
  case s11a => exact (by repeat (first | (with_reducible first | exact HB.out | apply below_alloc | apply pw_below_drewN | apply below_drew1) | exact HB.out))
  case s11b => ((with_reducible repeat (first | apply Kd.R_alloc | apply Kd.R_drewN | apply Kd.R_drew)); exact Ox0.out)
  rintro e w9 ⟨rfl, hy, hb, hk⟩
  have mm_ := Aside0.mk (Kd.R_reok rfl hy (fun k_ e_ => Ox0.out.1 k_ e_))
  clear hy
  have gg_ := Aside0.mk (Nat.le_trans Gx0.out hk.1)
  clear Ox0 Gx0
  have nw0_ := Aside0.mk (Kd.S_kept (by (with_reducible repeat (first | apply Kd.S_alloc | apply Kd.S_drewN | apply Kd.S_drew)); exact Ow0.out) hk (iv_dn Z_w0_x0.out))
  have gw0_ := Aside0.mk (Nat.le_trans Gw0.out hk.1)
  have ng0_ := Aside0.mk (Kd.S_kept (by (with_reducible repeat (first | apply Kd.S_alloc | apply Kd.S_drewN | apply Kd.S_drew)); exact Og0.out) hk (iv_up Z_x0_g0.out))
  have gg0_ := Aside0.mk (Nat.le_trans Gg0.out hk.1)
  clear Ow0 Gw0
  clear Og0 Gg0
  have Ow0 := nw0_
  have Gw0 := gw0_
  clear nw0_ gw0_
  have Og0 := ng0_
  have Gg0 := gg0_
  clear ng0_ gg0_
  clear HB
  have HB := Aside0.mk hb
  have Oy0 := mm_
  have Gy0 := gg_
  clear mm_ gg_ hb hk
  go_wp2_with fail
  (with_reducible refine (laws_eqPageS.calls k _ _ g0 _ _ w0 true _ ?s12a ?s12b ?s13a ?s13b QFE.out).mono ?_)
  case s12a => repeat (first | exact (S_rd Og0.out).1 | (with_reducible refine Kd.C_alloc ?_ _) | (with_reducible refine Kd.C_drewN ?_ _) | (with_reducible refine Kd.C_drew ?_))
  case s12b => exact (S_rd Og0.out).2
  case s13a => repeat (first | exact (S_rd Ow0.out).1 | (with_reducible refine Kd.C_alloc ?_ _) | (with_reducible refine Kd.C_drewN ?_ _) | (with_reducible refine Kd.C_drew ?_))
  case s13b => exact (S_rd Ow0.out).2
  rintro e w10 ⟨rfl, hb⟩
  (try (have hb_ := hb.below; clear hb; have hb := hb_; clear hb_))
  clear Oy0 Gy0
  have nw0_ := Aside0.mk (Kd.S_below (by (with_reducible repeat (first | apply Kd.S_alloc | apply Kd.S_drewN | apply Kd.S_drew)); exact Ow0.out) hb)
  have gw0_ := Aside0.mk (Nat.le_trans Gw0.out hb.size)
  have ng0_ := Aside0.mk (Kd.S_below (by (with_reducible repeat (first | apply Kd.S_alloc | apply Kd.S_drewN | apply Kd.S_drew)); exact Og0.out) hb)
  have gg0_ := Aside0.mk (Nat.le_trans Gg0.out hb.size)
  clear Ow0 Gw0
  clear Og0 Gg0
  have Ow0 := nw0_
  have Gw0 := gw0_
  clear nw0_ gw0_
  have Og0 := ng0_
  have Gg0 := gg0_
  clear ng0_ gg0_
  have nB_ := Aside0.mk (below_step (by repeat (first | (with_reducible first | exact HB.out | apply below_alloc | apply pw_below_drewN | apply below_drew1) | exact HB.out)) hb)
  clear HB
  have HB := nB_
  clear nB_
  clear hb
  go_wp2_with fail
  (with_reducible refine (laws_markPageS.calls k (Iv bg0 w5.heap.size) _ g0 1 m g1 w _ ?s14a ?s14b QMG.out).mono ?_)
  case s14a => exact (by repeat (first | (with_reducible first | exact HB.out | apply below_alloc | apply pw_below_drewN | apply below_drew1) | exact HB.out))
  case s14b => ((with_reducible repeat (first | apply Kd.S_alloc | apply Kd.S_drewN | apply Kd.S_drew)); exact Og0.out)
  rintro e w11 ⟨rfl, hy, hb, hk⟩
  have mm_ := Aside0.mk hy
  clear hy
  have gg_ := Aside0.mk (Nat.le_trans Gg0.out hk.1)
  clear Og0 Gg0
  have nw0_ := Aside0.mk (Kd.S_kept (by (with_reducible repeat (first | apply Kd.S_alloc | apply Kd.S_drewN | apply Kd.S_drew)); exact Ow0.out) hk (iv_dn Z_w0_g0.out))
  have gw0_ := Aside0.mk (Nat.le_trans Gw0.out hk.1)
  clear Ow0 Gw0
  have Ow0 := nw0_
  have Gw0 := gw0_
  clear nw0_ gw0_
  clear HB
  have HB := Aside0.mk hb
  have Og1 := mm_
  have Gg1 := gg_
  clear mm_ gg_ hb hk
  go_wp2_with fail
  (with_reducible refine (heldPageS_n k _ _ _ g1 1 m _ ?s15n ?s15a ?s15b QHG.out).mono ?_)
  case s15n => exact (Kd.R_reads' (Kd.S_R Og1.out)).1.symm
  case s15a => repeat (first | exact (S_rd Og1.out).1 | (with_reducible refine Kd.C_alloc ?_ _) | (with_reducible refine Kd.C_drewN ?_ _) | (with_reducible refine Kd.C_drew ?_))
  case s15b => exact (S_rd Og1.out).2
  rintro e w12 ⟨rfl, hb⟩
  have nw0_ := Aside0.mk (Kd.S_below (by (with_reducible repeat (first | apply Kd.S_alloc | apply Kd.S_drewN | apply Kd.S_drew)); exact Ow0.out) hb)
  have gw0_ := Aside0.mk (Nat.le_trans Gw0.out hb.size)
  have ng1_ := Aside0.mk (Kd.S_below (by (with_reducible repeat (first | apply Kd.S_alloc | apply Kd.S_drewN | apply Kd.S_drew)); exact Og1.out) hb)
  have gg1_ := Aside0.mk (Nat.le_trans Gg1.out hb.size)
  clear Ow0 Gw0
  clear Og1 Gg1
  have Ow0 := nw0_
  have Gw0 := gw0_
  clear nw0_ gw0_
  have Og1 := ng1_
  have Gg1 := gg1_
  clear ng1_ gg1_
  have nB_ := Aside0.mk (below_step (by repeat (first | (with_reducible first | exact HB.out | apply below_alloc | apply pw_below_drewN | apply below_drew1) | exact HB.out)) hb)
  clear HB
  have HB := nB_
  clear nB_
  clear hb
  go_wp2_with fail
  (with_reducible refine (laws_toRowS.calls k _ _ l0 x0 _ ?s16a ?s16b QT0.out).mono ?_)
  case s16a => repeat (first | exact (Kd.C_below HR0.out (by repeat (first | (with_reducible first | exact HB.out | apply below_alloc | apply pw_below_drewN | apply below_drew1) | exact HB.out))) | (with_reducible refine Kd.C_alloc ?_ _) | (with_reducible refine Kd.C_drewN ?_ _) | (with_reducible refine Kd.C_drew ?_))
  case s16b => exact HC0.out
  rintro e w13 ⟨vx0, rfl, hox0, hb⟩
  obtain ⟨bx0, hlex0, mx0_⟩ := R_ivx hox0 (below_size (by repeat (first | (with_reducible first | exact HB.out | apply below_alloc | apply pw_below_drewN | apply below_drew1) | exact HB.out)))
  clear hox0
  have Z_w0_x0 := Aside0.mk (hlex0 _ Gw0.out)
  have Z_g1_x0 := Aside0.mk (hlex0 _ Gg1.out)
  clear hlex0
  have nw0_ := Aside0.mk (Kd.S_below (by (with_reducible repeat (first | apply Kd.S_alloc | apply Kd.S_drewN | apply Kd.S_drew)); exact Ow0.out) hb)
  have gw0_ := Aside0.mk (Nat.le_trans Gw0.out hb.size)
  have ng1_ := Aside0.mk (Kd.S_below (by (with_reducible repeat (first | apply Kd.S_alloc | apply Kd.S_drewN | apply Kd.S_drew)); exact Og1.out) hb)
  have gg1_ := Aside0.mk (Nat.le_trans Gg1.out hb.size)
  clear Ow0 Gw0
  clear Og1 Gg1
  have Ow0 := nw0_
  have Gw0 := gw0_
  clear nw0_ gw0_
  have Og1 := ng1_
  have Gg1 := gg1_
  clear ng1_ gg1_
  have nB_ := Aside0.mk (below_step (by repeat (first | (with_reducible first | exact HB.out | apply below_alloc | apply pw_below_drewN | apply below_drew1) | exact HB.out)) hb)
  clear HB
  have HB := nB_
  clear nB_
  clear hb
  obtain ⟨Ax0, cx0, ex0⟩ := Kd.R_slice mx0_.out
  subst ex0
  have Ox0 := mx0_
  have Gx0 := Aside0.mk (Nat.le_refl w13.heap.size)
  clear mx0_
  go_wp2_with fail
  (with_reducible refine (impl_PackPages.calls k _ _ x0 g0 _ ?s17a ?s17b QFI.out).mono ?_)
  case s17a => repeat (first | exact (R_rd Ox0.out).1 | (with_reducible refine Kd.C_alloc ?_ _) | (with_reducible refine Kd.C_drewN ?_ _) | (with_reducible refine Kd.C_drew ?_))
  case s17b => exact (R_rd Ox0.out).2
  rintro e w14 ⟨vg0, rfl, hog0, hb⟩
  obtain ⟨bg0, hleg0, mg0_⟩ := S_ivx hog0 (below_size (by repeat (first | (with_reducible first | exact HB.out | apply below_alloc | apply pw_below_drewN | apply below_drew1) | exact HB.out)))
  clear hog0
  clear Ox0 Gx0
  have Z_w0_g0 := Aside0.mk (hleg0 _ Gw0.out)
  have Z_g1_g0 := Aside0.mk (hleg0 _ Gg1.out)
  clear hleg0
  have nw0_ := Aside0.mk (Kd.S_below (by (with_reducible repeat (first | apply Kd.S_alloc | apply Kd.S_drewN | apply Kd.S_drew)); exact Ow0.out) hb)
  have gw0_ := Aside0.mk (Nat.le_trans Gw0.out hb.size)
  have ng1_ := Aside0.mk (Kd.S_below (by (with_reducible repeat (first | apply Kd.S_alloc | apply Kd.S_drewN | apply Kd.S_drew)); exact Og1.out) hb)
  have gg1_ := Aside0.mk (Nat.le_trans Gg1.out hb.size)
  clear Ow0 Gw0
  clear Og1 Gg1
  have Ow0 := nw0_
  have Gw0 := gw0_
  clear nw0_ gw0_
  have Og1 := ng1_
  have Gg1 := gg1_
  clear ng1_ gg1_
  have nB_ := Aside0.mk (below_step (by repeat (first | (with_reducible first | exact HB.out | apply below_alloc | apply pw_below_drewN | apply below_drew1) | exact HB.out)) hb)
  clear HB
  have HB := nB_
  clear nB_
  clear hb
  obtain ⟨Ag0, cg0, eg0⟩ := Kd.S_slice mg0_.out
  subst eg0
  have Og0 := mg0_
  have Gg0 := Aside0.mk (Nat.le_refl w14.heap.size)
  clear mg0_
  go_wp2_with fail
  (with_reducible refine (laws_eqPageS.calls k _ _ g0 _ _ w0 true _ ?s18a ?s18b ?s19a ?s19b QFE.out).mono ?_)
  case s18a => repeat (first | exact (S_rd Og0.out).1 | (with_reducible refine Kd.C_alloc ?_ _) | (with_reducible refine Kd.C_drewN ?_ _) | (with_reducible refine Kd.C_drew ?_))
  case s18b => exact (S_rd Og0.out).2
  case s19a => repeat (first | exact (S_rd Ow0.out).1 | (with_reducible refine Kd.C_alloc ?_ _) | (with_reducible refine Kd.C_drewN ?_ _) | (with_reducible refine Kd.C_drew ?_))
  case s19b => exact (S_rd Ow0.out).2
  rintro e w15 ⟨rfl, hb⟩
  (try (have hb_ := hb.below; clear hb; have hb := hb_; clear hb_))
  clear Og0 Gg0
  clear Ow0 Gw0
  have ng1_ := Aside0.mk (Kd.S_below (by (with_reducible repeat (first | apply Kd.S_alloc | apply Kd.S_drewN | apply Kd.S_drew)); exact Og1.out) hb)
  have gg1_ := Aside0.mk (Nat.le_trans Gg1.out hb.size)
  clear Og1 Gg1
  have Og1 := ng1_
  have Gg1 := gg1_
  clear ng1_ gg1_
  have nB_ := Aside0.mk (below_step (by repeat (first | (with_reducible first | exact HB.out | apply below_alloc | apply pw_below_drewN | apply below_drew1) | exact HB.out)) hb)
  clear HB
  have HB := nB_
  clear nB_
  clear hb
  go_wp2_with fail
  (with_reducible refine (heldPageS_n k _ _ _ g1 1 m _ ?s20n ?s20a ?s20b QHG.out).mono ?_)
  case s20n => exact (Kd.R_reads' (Kd.S_R Og1.out)).1.symm
  case s20a => repeat (first | exact (S_rd Og1.out).1 | (with_reducible refine Kd.C_alloc ?_ _) | (with_reducible refine Kd.C_drewN ?_ _) | (with_reducible refine Kd.C_drew ?_))
  case s20b => exact (S_rd Og1.out).2
  rintro e w16 ⟨rfl, hb⟩
  have ng1_ := Aside0.mk (Kd.S_below (by (with_reducible repeat (first | apply Kd.S_alloc | apply Kd.S_drewN | apply Kd.S_drew)); exact Og1.out) hb)
  have gg1_ := Aside0.mk (Nat.le_trans Gg1.out hb.size)
  clear Og1 Gg1
  have Og1 := ng1_
  have Gg1 := gg1_
  clear ng1_ gg1_
  have nB_ := Aside0.mk (below_step (by repeat (first | (with_reducible first | exact HB.out | apply below_alloc | apply pw_below_drewN | apply below_drew1) | exact HB.out)) hb)
  clear HB
  have HB := nB_
  clear nB_
  clear hb
  go_wp2
  go_ret
  exact ⟨by first | rfl | simp, (by repeat (first | (with_reducible first | exact HB.out | apply below_alloc | apply pw_below_drewN | apply below_drew1) | exact HB.out))⟩
/-- What the walk asks of the values. -/
def laws_FnExactPackPages.OK (k : Nat) (l0 : List S65) : Prop := (∃ (t0 : Int), laws_szRowS.f l0 1048576 = some t0 ∧ t0 < 0) ∨ (∃ (t0 : Int) (x0 y0 : List S42) (w0 g0 g1 : List S39) (k0 m : Int), laws_szRowS.f l0 1048576 = some t0 ∧ laws_toRowS.f k l0 = some x0 ∧ spec_PackPages.f k x0 = some w0 ∧ impl_PackPages.f k x0 = some g0 ∧ laws_eqPageS.f k g0 w0 = some true ∧ laws_eqRowS.f k x0 x0 = some true ∧ laws_markRowS.f k x0 1 = some (k0, y0) ∧ laws_markPageS.f k g0 1 = some (m, g1) ∧ laws_heldPageS.f k g1 1 = some m ∧ ¬ t0 < 0 ∧ ¬ k0 < 0 ∧ ¬ m < 0)
theorem laws_FnExactPackPages.calls (k : Nat) (A0 : Option Addr) (c0 : Nat) (l0 : List S65) (r : Bool) (w : World) (hr0 : Kd.C k65 w A0 l0.length l0) (hc0 : l0.length ≤ c0) (h : laws_FnExactPackPages.OK k l0) :
    Calls Try.prog 3 #[.slice A0 l0.length c0] w fun e w' => e = .returned (.bool true) ∧ Below w.heap.size w w' := by
  obtain ⟨t0, Z0, n0⟩ | ⟨t0, x0, y0, w0, g0, g1, k0, m, Z0, T0, FS, FI, FE, E0, M0, MG, HG, n0, nk, nm⟩ := h
  · exact laws_FnExactPackPages.big0 k A0 c0 l0 t0 w hr0 hc0 Z0 n0
  · exact laws_FnExactPackPages.walk k A0 c0 l0 t0 x0 y0 w0 g0 g1 k0 m w hr0 hc0 Z0 T0 FS FI FE E0 M0 MG HG n0 nk nm
end Go.Proofs.Ytljpfogplcdcjaa.PFnExactPackPages
