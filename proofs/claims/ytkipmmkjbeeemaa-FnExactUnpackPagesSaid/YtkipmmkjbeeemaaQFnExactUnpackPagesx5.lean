/- The walk of the law FnExactUnpackPages where its arguments are not too large: every test is decided by the premises; nothing is claimed here. -/
import Derived.Test.YtkipmmkjbeeemaaQFnExactUnpackPagesx4
import Derived.Test.YtkipmmkjbeeemaaQFnExactUnpackPagesx3
import Derived.Test.YtkipmmkjbeeemaaLin
namespace Go.Proofs.Ytkipmmkjbeeemaa.PFnExactUnpackPages
open Go.RowKit Go.Proofs.YtkipmmkjbeeemaaW.PrintWords Go.Proofs.YtkipmmkjbeeemaaW.PrintLast Go.Proofs.YtkipmmkjbeeemaaW.PrintMore Go.Proofs.Ytkipmmkjbeeemaa.Lin
set_option linter.unusedVariables false
set_option linter.unusedSimpArgs false
theorem heldRowS_n (k : Nat) (A0 : Option Addr) (n c0 : Nat) (l0 : List S33) (a1 r : Int) (w : World) (hn : l0.length = n) (hr : Kd.C k33 w A0 l0.length l0) (hc : l0.length ≤ c0) (h : laws_heldRowS.f k l0 a1 = some r) :
    Calls Try.prog 27 #[.slice A0 n c0, .int .i64 a1] w fun e w' => e = .returned (.int .i64 r) ∧ Below w.heap.size w w' := by
  subst hn; exact (laws_heldRowS.calls k A0 c0 l0 a1 r w hr hc h).mono fun e w' hh => ⟨hh.1, hh.2.below⟩
set_option maxHeartbeats 4000000 in
set_option maxRecDepth 100000 in
theorem laws_FnExactUnpackPages.big (k : Nat) (A0 : Option Addr) (c0 : Nat) (l0 : List (S24)) (t1 : Int) (w : World) (hr0 : Kd.C k24 w A0 l0.length l0) (hc0 : l0.length ≤ c0) (F1 : laws_szPageS.f k l0 1048576 = some t1) (n1 : t1 < 0) :
    Calls Try.prog 6 #[.slice A0 l0.length c0] w fun e w' => e = .returned (.bool true) ∧ Below w.heap.size w w' := by
  have HR0 := Aside0.mk hr0
  have HC0 := Aside0.mk hc0
  clear hr0 hc0
  have HB := Aside0.mk (Below.refl w.heap.size w)
  have QF1 := Aside0.mk F1
  clear F1
  have dn1 : decide (t1 < 0) = true := decide_eq_true n1
  clear n1
  go_enter Try.func6, Try.ntmps6
  go_wp2_with fail
  (with_reducible refine (laws_szPageS.calls k _ _ l0 1048576 t1 _ ?s1a ?s1b QF1.out).mono ?_)
  case s1a => repeat (first | exact (Kd.C_below HR0.out (by repeat (first | (with_reducible first | exact HB.out | apply below_alloc | apply pw_below_drewN | apply below_drew1) | exact HB.out))) | (with_reducible refine Kd.C_alloc ?_ _) | (with_reducible refine Kd.C_drewN ?_ _) | (with_reducible refine Kd.C_drew ?_))
  case s1b => exact HC0.out
  rintro e w1 ⟨rfl, hb⟩
  have nB_ := Aside0.mk (below_step (by repeat (first | (with_reducible first | exact HB.out | apply below_alloc | apply pw_below_drewN | apply below_drew1) | exact HB.out)) hb)
  clear HB
  have HB := nB_
  clear nB_
  clear hb
  go_wp2
  go_ret
  exact ⟨by first | rfl | simp, (by repeat (first | (with_reducible first | exact HB.out | apply below_alloc | apply pw_below_drewN | apply below_drew1) | exact HB.out))⟩
set_option maxHeartbeats 4000000 in
set_option maxRecDepth 100000 in
theorem laws_FnExactUnpackPages.walk (k : Nat) (A0 : Option Addr) (c0 : Nat) (l0 : List (S24)) (t1 : Int) (x0 y0 z0 x1 : List S31) (w0 g0 g1 : List S33) (kk m : Int) (w : World) (hr0 : Kd.C k24 w A0 l0.length l0) (hc0 : l0.length ≤ c0)
    (F1 : laws_szPageS.f k l0 1048576 = some t1) (n1 : ¬ t1 < 0) (F2 : laws_toPageS.f k l0 = some x0) (F3 : spec_UnpackPages.f k x0 = some w0) (F4 : impl_UnpackPages.f k x0 = some g0) (F5 : laws_eqRowS.f k g0 w0 = some true) (F6 : laws_eqPageS.f k x0 x0 = some true)
    (F7 : laws_markPageS.f k x0 1 = some (kk, x1)) (n7 : ¬ kk < 0) (F8 : laws_markRowS.f k g0 1 = some (m, g1)) (F9 : laws_heldRowS.f k g1 1 = some m) (n9 : ¬ m < 0) :
    Calls Try.prog 6 #[.slice A0 l0.length c0] w fun e w' => e = .returned (.bool true) ∧ Below w.heap.size w w' := by
  have HR0 := Aside0.mk hr0
  have HC0 := Aside0.mk hc0
  clear hr0 hc0
  have HB := Aside0.mk (Below.refl w.heap.size w)
  have QF1 := Aside0.mk F1
  clear F1
  have QF2 := Aside0.mk F2
  clear F2
  have QF3 := Aside0.mk F3
  clear F3
  have QF4 := Aside0.mk F4
  clear F4
  have QF5 := Aside0.mk F5
  clear F5
  have QF6 := Aside0.mk F6
  clear F6
  have QF7 := Aside0.mk F7
  clear F7
  have QF8 := Aside0.mk F8
  clear F8
  have QF9 := Aside0.mk F9
  clear F9
  have dn1 : decide (t1 < 0) = false := decide_eq_false n1
  clear n1
  have dn7 : decide (kk < 0) = false := decide_eq_false n7
  clear n7
  have dn9 : decide (m < 0) = false := decide_eq_false n9
  clear n9
  go_enter Try.func6, Try.ntmps6
  go_wp2_with fail
  (with_reducible refine (laws_szPageS.calls k _ _ l0 1048576 t1 _ ?s1a ?s1b QF1.out).mono ?_)
  case s1a => repeat (first | exact (Kd.C_below HR0.out (by repeat (first | (with_reducible first | exact HB.out | apply below_alloc | apply pw_below_drewN | apply below_drew1) | exact HB.out))) | (with_reducible refine Kd.C_alloc ?_ _) | (with_reducible refine Kd.C_drewN ?_ _) | (with_reducible refine Kd.C_drew ?_))
  case s1b => exact HC0.out
  rintro e w1 ⟨rfl, hb⟩
  have nB_ := Aside0.mk (below_step (by repeat (first | (with_reducible first | exact HB.out | apply below_alloc | apply pw_below_drewN | apply below_drew1) | exact HB.out)) hb)
  clear HB
  have HB := nB_
  clear nB_
  clear hb
  go_wp2_with fail
  (with_reducible refine (laws_toPageS.calls k _ _ l0 x0 _ ?s2a ?s2b QF2.out).mono ?_)
  case s2a => repeat (first | exact (Kd.C_below HR0.out (by repeat (first | (with_reducible first | exact HB.out | apply below_alloc | apply pw_below_drewN | apply below_drew1) | exact HB.out))) | (with_reducible refine Kd.C_alloc ?_ _) | (with_reducible refine Kd.C_drewN ?_ _) | (with_reducible refine Kd.C_drew ?_))
  case s2b => exact HC0.out
  rintro e w2 ⟨vx0, rfl, ho, hb⟩
  obtain ⟨bx0, hle_, m_⟩ := S_ivx ho (below_size (by repeat (first | (with_reducible first | exact HB.out | apply below_alloc | apply pw_below_drewN | apply below_drew1) | exact HB.out)))
  clear ho
  clear hle_
  have nB_ := Aside0.mk (below_step (by repeat (first | (with_reducible first | exact HB.out | apply below_alloc | apply pw_below_drewN | apply below_drew1) | exact HB.out)) hb)
  clear HB
  have HB := nB_
  clear nB_
  clear hb
  obtain ⟨Ax0, cx0, ex0⟩ := Kd.S_slice m_.out
  subst ex0
  have Ox0 := m_
  have Gx0 := Aside0.mk (Nat.le_refl w2.heap.size)
  clear m_
  go_wp2_with fail
  (with_reducible refine (spec_UnpackPages.calls k _ _ x0 w0 _ ?s3a ?s3b QF3.out).mono ?_)
  case s3a => repeat (first | exact (S_rd Ox0.out).1 | (with_reducible refine Kd.C_alloc ?_ _) | (with_reducible refine Kd.C_drewN ?_ _) | (with_reducible refine Kd.C_drew ?_))
  case s3b => exact (S_rd Ox0.out).2
  rintro e w3 ⟨vw0, rfl, ho, hb⟩
  obtain ⟨bw0, hle_, m_⟩ := R_ivx ho (below_size (by repeat (first | (with_reducible first | exact HB.out | apply below_alloc | apply pw_below_drewN | apply below_drew1) | exact HB.out)))
  clear ho
  clear Ox0 Gx0
  clear hle_
  have nB_ := Aside0.mk (below_step (by repeat (first | (with_reducible first | exact HB.out | apply below_alloc | apply pw_below_drewN | apply below_drew1) | exact HB.out)) hb)
  clear HB
  have HB := nB_
  clear nB_
  clear hb
  obtain ⟨Aw0, cw0, ew0⟩ := Kd.R_slice m_.out
  subst ew0
  have Ow0 := m_
  have Gw0 := Aside0.mk (Nat.le_refl w3.heap.size)
  clear m_
  go_wp2_with fail
  (with_reducible refine (laws_toPageS.calls k _ _ l0 x0 _ ?s4a ?s4b QF2.out).mono ?_)
  case s4a => repeat (first | exact (Kd.C_below HR0.out (by repeat (first | (with_reducible first | exact HB.out | apply below_alloc | apply pw_below_drewN | apply below_drew1) | exact HB.out))) | (with_reducible refine Kd.C_alloc ?_ _) | (with_reducible refine Kd.C_drewN ?_ _) | (with_reducible refine Kd.C_drew ?_))
  case s4b => exact HC0.out
  rintro e w4 ⟨vx0, rfl, ho, hb⟩
  obtain ⟨bx0, hle_, m_⟩ := S_ivx ho (below_size (by repeat (first | (with_reducible first | exact HB.out | apply below_alloc | apply pw_below_drewN | apply below_drew1) | exact HB.out)))
  clear ho
  have Z_w0_x0 := Aside0.mk (hle_ _ Gw0.out)
  clear hle_
  have nw0_ := Aside0.mk (Kd.R_below (by (with_reducible repeat (first | apply Kd.R_alloc | apply Kd.R_drewN | apply Kd.R_drew)); exact Ow0.out) hb)
  have gw0_ := Aside0.mk (Nat.le_trans Gw0.out hb.size)
  clear Ow0 Gw0
  have Ow0 := nw0_
  have Gw0 := gw0_
  clear nw0_ gw0_
  have nB_ := Aside0.mk (below_step (by repeat (first | (with_reducible first | exact HB.out | apply below_alloc | apply pw_below_drewN | apply below_drew1) | exact HB.out)) hb)
  clear HB
  have HB := nB_
  clear nB_
  clear hb
  obtain ⟨Ax0, cx0, ex0⟩ := Kd.S_slice m_.out
  subst ex0
  have Ox0 := m_
  have Gx0 := Aside0.mk (Nat.le_refl w4.heap.size)
  clear m_
  go_wp2_with fail
  (with_reducible refine (impl_UnpackPages.calls k _ _ x0 g0 _ ?s5a ?s5b QF4.out).mono ?_)
  case s5a => repeat (first | exact (S_rd Ox0.out).1 | (with_reducible refine Kd.C_alloc ?_ _) | (with_reducible refine Kd.C_drewN ?_ _) | (with_reducible refine Kd.C_drew ?_))
  case s5b => exact (S_rd Ox0.out).2
  rintro e w5 ⟨vg0, rfl, ho, hb⟩
  obtain ⟨bg0, hle_, m_⟩ := R_ivx ho (below_size (by repeat (first | (with_reducible first | exact HB.out | apply below_alloc | apply pw_below_drewN | apply below_drew1) | exact HB.out)))
  clear ho
  have Z_w0_g0 := Aside0.mk (hle_ _ Gw0.out)
  have Z_x0_g0 := Aside0.mk (hle_ _ Gx0.out)
  clear hle_
  have nw0_ := Aside0.mk (Kd.R_below (by (with_reducible repeat (first | apply Kd.R_alloc | apply Kd.R_drewN | apply Kd.R_drew)); exact Ow0.out) hb)
  have gw0_ := Aside0.mk (Nat.le_trans Gw0.out hb.size)
  have nx0_ := Aside0.mk (Kd.S_below (by (with_reducible repeat (first | apply Kd.S_alloc | apply Kd.S_drewN | apply Kd.S_drew)); exact Ox0.out) hb)
  have gx0_ := Aside0.mk (Nat.le_trans Gx0.out hb.size)
  clear Ow0 Gw0
  clear Ox0 Gx0
  have Ow0 := nw0_
  have Gw0 := gw0_
  clear nw0_ gw0_
  have Ox0 := nx0_
  have Gx0 := gx0_
  clear nx0_ gx0_
  have nB_ := Aside0.mk (below_step (by repeat (first | (with_reducible first | exact HB.out | apply below_alloc | apply pw_below_drewN | apply below_drew1) | exact HB.out)) hb)
  clear HB
  have HB := nB_
  clear nB_
  clear hb
  obtain ⟨Ag0, cg0, eg0⟩ := Kd.R_slice m_.out
  subst eg0
  have Og0 := m_
  have Gg0 := Aside0.mk (Nat.le_refl w5.heap.size)
  clear m_
  go_wp2_with fail
  (with_reducible refine (laws_eqRowS.calls k _ _ g0 _ _ w0 true _ ?s6a ?s6b ?s7a ?s7b QF5.out).mono ?_)
  case s6a => repeat (first | exact (R_rd Og0.out).1 | (with_reducible refine Kd.C_alloc ?_ _) | (with_reducible refine Kd.C_drewN ?_ _) | (with_reducible refine Kd.C_drew ?_))
  case s6b => exact (R_rd Og0.out).2
  case s7a => repeat (first | exact (R_rd Ow0.out).1 | (with_reducible refine Kd.C_alloc ?_ _) | (with_reducible refine Kd.C_drewN ?_ _) | (with_reducible refine Kd.C_drew ?_))
  case s7b => exact (R_rd Ow0.out).2
  rintro e w6 ⟨rfl, hb⟩
  have nw0_ := Aside0.mk (Kd.R_below (by (with_reducible repeat (first | apply Kd.R_alloc | apply Kd.R_drewN | apply Kd.R_drew)); exact Ow0.out) hb)
  have gw0_ := Aside0.mk (Nat.le_trans Gw0.out hb.size)
  have nx0_ := Aside0.mk (Kd.S_below (by (with_reducible repeat (first | apply Kd.S_alloc | apply Kd.S_drewN | apply Kd.S_drew)); exact Ox0.out) hb)
  have gx0_ := Aside0.mk (Nat.le_trans Gx0.out hb.size)
  have ng0_ := Aside0.mk (Kd.R_below (by (with_reducible repeat (first | apply Kd.R_alloc | apply Kd.R_drewN | apply Kd.R_drew)); exact Og0.out) hb)
  have gg0_ := Aside0.mk (Nat.le_trans Gg0.out hb.size)
  clear Ow0 Gw0
  clear Ox0 Gx0
  clear Og0 Gg0
  have Ow0 := nw0_
  have Gw0 := gw0_
  clear nw0_ gw0_
  have Ox0 := nx0_
  have Gx0 := gx0_
  clear nx0_ gx0_
  have Og0 := ng0_
  have Gg0 := gg0_
  clear ng0_ gg0_
  have nB_ := Aside0.mk (below_step (by repeat (first | (with_reducible first | exact HB.out | apply below_alloc | apply pw_below_drewN | apply below_drew1) | exact HB.out)) hb)
  clear HB
  have HB := nB_
  clear nB_
  clear hb
  go_wp2_with fail
  (with_reducible refine (laws_toPageS.calls k _ _ l0 x0 _ ?s8a ?s8b QF2.out).mono ?_)
  case s8a => repeat (first | exact (Kd.C_below HR0.out (by repeat (first | (with_reducible first | exact HB.out | apply below_alloc | apply pw_below_drewN | apply below_drew1) | exact HB.out))) | (with_reducible refine Kd.C_alloc ?_ _) | (with_reducible refine Kd.C_drewN ?_ _) | (with_reducible refine Kd.C_drew ?_))
  case s8b => exact HC0.out
  rintro e w7 ⟨vy0, rfl, ho, hb⟩
  obtain ⟨by0, hle_, m_⟩ := S_ivx ho (below_size (by repeat (first | (with_reducible first | exact HB.out | apply below_alloc | apply pw_below_drewN | apply below_drew1) | exact HB.out)))
  clear ho
  have Z_w0_y0 := Aside0.mk (hle_ _ Gw0.out)
  have Z_x0_y0 := Aside0.mk (hle_ _ Gx0.out)
  have Z_g0_y0 := Aside0.mk (hle_ _ Gg0.out)
  clear hle_
  have nw0_ := Aside0.mk (Kd.R_below (by (with_reducible repeat (first | apply Kd.R_alloc | apply Kd.R_drewN | apply Kd.R_drew)); exact Ow0.out) hb)
  have gw0_ := Aside0.mk (Nat.le_trans Gw0.out hb.size)
  have nx0_ := Aside0.mk (Kd.S_below (by (with_reducible repeat (first | apply Kd.S_alloc | apply Kd.S_drewN | apply Kd.S_drew)); exact Ox0.out) hb)
  have gx0_ := Aside0.mk (Nat.le_trans Gx0.out hb.size)
  have ng0_ := Aside0.mk (Kd.R_below (by (with_reducible repeat (first | apply Kd.R_alloc | apply Kd.R_drewN | apply Kd.R_drew)); exact Og0.out) hb)
  have gg0_ := Aside0.mk (Nat.le_trans Gg0.out hb.size)
  clear Ow0 Gw0
  clear Ox0 Gx0
  clear Og0 Gg0
  have Ow0 := nw0_
  have Gw0 := gw0_
  clear nw0_ gw0_
  have Ox0 := nx0_
  have Gx0 := gx0_
  clear nx0_ gx0_
  have Og0 := ng0_
  have Gg0 := gg0_
  clear ng0_ gg0_
  have nB_ := Aside0.mk (below_step (by repeat (first | (with_reducible first | exact HB.out | apply below_alloc | apply pw_below_drewN | apply below_drew1) | exact HB.out)) hb)
  clear HB
  have HB := nB_
  clear nB_
  clear hb
  obtain ⟨Ay0, cy0, ey0⟩ := Kd.S_slice m_.out
  subst ey0
  have Oy0 := m_
  have Gy0 := Aside0.mk (Nat.le_refl w7.heap.size)
  clear m_
  go_wp2_with fail
  (with_reducible refine (laws_eqPageS.calls k _ _ x0 _ _ x0 true _ ?s9a ?s9b ?s10a ?s10b QF6.out).mono ?_)
  case s9a => repeat (first | exact (S_rd Ox0.out).1 | (with_reducible refine Kd.C_alloc ?_ _) | (with_reducible refine Kd.C_drewN ?_ _) | (with_reducible refine Kd.C_drew ?_))
  case s9b => exact (S_rd Ox0.out).2
  case s10a => repeat (first | exact (S_rd Oy0.out).1 | (with_reducible refine Kd.C_alloc ?_ _) | (with_reducible refine Kd.C_drewN ?_ _) | (with_reducible refine Kd.C_drew ?_))
  case s10b => exact (S_rd Oy0.out).2
  rintro e w8 ⟨rfl, hb⟩
  clear Oy0 Gy0
  have nw0_ := Aside0.mk (Kd.R_below (by (with_reducible repeat (first | apply Kd.R_alloc | apply Kd.R_drewN | apply Kd.R_drew)); exact Ow0.out) hb)
  have gw0_ := Aside0.mk (Nat.le_trans Gw0.out hb.size)
  have nx0_ := Aside0.mk (Kd.S_below (by (with_reducible repeat (first | apply Kd.S_alloc | apply Kd.S_drewN | apply Kd.S_drew)); exact Ox0.out) hb)
  have gx0_ := Aside0.mk (Nat.le_trans Gx0.out hb.size)
  have ng0_ := Aside0.mk (Kd.R_below (by (with_reducible repeat (first | apply Kd.R_alloc | apply Kd.R_drewN | apply Kd.R_drew)); exact Og0.out) hb)
  have gg0_ := Aside0.mk (Nat.le_trans Gg0.out hb.size)
  clear Ow0 Gw0
  clear Ox0 Gx0
  clear Og0 Gg0
  have Ow0 := nw0_
  have Gw0 := gw0_
  clear nw0_ gw0_
  have Ox0 := nx0_
  have Gx0 := gx0_
  clear nx0_ gx0_
  have Og0 := ng0_
  have Gg0 := gg0_
  clear ng0_ gg0_
  have nB_ := Aside0.mk (below_step (by repeat (first | (with_reducible first | exact HB.out | apply below_alloc | apply pw_below_drewN | apply below_drew1) | exact HB.out)) hb)
  clear HB
  have HB := nB_
  clear nB_
  clear hb
  go_wp2_with fail
  (with_reducible refine (laws_markPageS.calls k (Iv bx0 w4.heap.size) _ x0 1 kk x1 w _ ?s11a ?s11b QF7.out).mono ?_)
  case s11a => exact (by repeat (first | (with_reducible first | exact HB.out | apply below_alloc | apply pw_below_drewN | apply below_drew1) | exact HB.out))
  case s11b => ((with_reducible repeat (first | apply Kd.S_alloc | apply Kd.S_drewN | apply Kd.S_drew)); exact Ox0.out)
  rintro e w9 ⟨rfl, hy, hb, hk⟩
  have mm_ := Aside0.mk hy
  clear hy
  have gg_ := Aside0.mk (Nat.le_trans Gx0.out hk.1)
  clear Ox0 Gx0
  have nw0_ := Aside0.mk (Kd.R_kept (by (with_reducible repeat (first | apply Kd.R_alloc | apply Kd.R_drewN | apply Kd.R_drew)); exact Ow0.out) hk (iv_dn Z_w0_x0.out))
  have gw0_ := Aside0.mk (Nat.le_trans Gw0.out hk.1)
  have ng0_ := Aside0.mk (Kd.R_kept (by (with_reducible repeat (first | apply Kd.R_alloc | apply Kd.R_drewN | apply Kd.R_drew)); exact Og0.out) hk (iv_up Z_x0_g0.out))
  have gg0_ := Aside0.mk (Nat.le_trans Gg0.out hk.1)
  clear Ow0 Gw0
  clear Og0 Gg0
  have Ow0 := nw0_
  have Gw0 := gw0_
  clear nw0_ gw0_
  have Og0 := ng0_
  have Gg0 := gg0_
  clear ng0_ gg0_
  clear HB
  have HB := Aside0.mk hb
  have Ox1 := mm_
  have Gx1 := gg_
  clear mm_ gg_ hb hk
  go_wp2_with fail
  (with_reducible refine (laws_eqRowS.calls k _ _ g0 _ _ w0 true _ ?s12a ?s12b ?s13a ?s13b QF5.out).mono ?_)
  case s12a => repeat (first | exact (R_rd Og0.out).1 | (with_reducible refine Kd.C_alloc ?_ _) | (with_reducible refine Kd.C_drewN ?_ _) | (with_reducible refine Kd.C_drew ?_))
  case s12b => exact (R_rd Og0.out).2
  case s13a => repeat (first | exact (R_rd Ow0.out).1 | (with_reducible refine Kd.C_alloc ?_ _) | (with_reducible refine Kd.C_drewN ?_ _) | (with_reducible refine Kd.C_drew ?_))
  case s13b => exact (R_rd Ow0.out).2
  rintro e w10 ⟨rfl, hb⟩
  clear Ox1 Gx1
  have nw0_ := Aside0.mk (Kd.R_below (by (with_reducible repeat (first | apply Kd.R_alloc | apply Kd.R_drewN | apply Kd.R_drew)); exact Ow0.out) hb)
  have gw0_ := Aside0.mk (Nat.le_trans Gw0.out hb.size)
  have ng0_ := Aside0.mk (Kd.R_below (by (with_reducible repeat (first | apply Kd.R_alloc | apply Kd.R_drewN | apply Kd.R_drew)); exact Og0.out) hb)
  have gg0_ := Aside0.mk (Nat.le_trans Gg0.out hb.size)
  clear Ow0 Gw0
  clear Og0 Gg0
  have Ow0 := nw0_
  have Gw0 := gw0_
  clear nw0_ gw0_
  have Og0 := ng0_
  have Gg0 := gg0_
  clear ng0_ gg0_
  have nB_ := Aside0.mk (below_step (by repeat (first | (with_reducible first | exact HB.out | apply below_alloc | apply pw_below_drewN | apply below_drew1) | exact HB.out)) hb)
  clear HB
  have HB := nB_
  clear nB_
  clear hb
  go_wp2_with fail
  (with_reducible refine (laws_markRowS.calls k (Iv bg0 w5.heap.size) _ g0 1 m g1 w _ ?s14a ?s14b QF8.out).mono ?_)
  case s14a => exact (by repeat (first | (with_reducible first | exact HB.out | apply below_alloc | apply pw_below_drewN | apply below_drew1) | exact HB.out))
  case s14b => ((with_reducible repeat (first | apply Kd.R_alloc | apply Kd.R_drewN | apply Kd.R_drew)); exact Og0.out)
  rintro e w11 ⟨rfl, hy, hb, hk⟩
  have mm_ := Aside0.mk (Kd.R_reok rfl hy (fun k_ e_ => Og0.out.1 k_ e_))
  clear hy
  have gg_ := Aside0.mk (Nat.le_trans Gg0.out hk.1)
  clear Og0 Gg0
  have nw0_ := Aside0.mk (Kd.R_kept (by (with_reducible repeat (first | apply Kd.R_alloc | apply Kd.R_drewN | apply Kd.R_drew)); exact Ow0.out) hk (iv_dn Z_w0_g0.out))
  have gw0_ := Aside0.mk (Nat.le_trans Gw0.out hk.1)
  clear Ow0 Gw0
  have Ow0 := nw0_
  have Gw0 := gw0_
  clear nw0_ gw0_
  clear HB
  have HB := Aside0.mk hb
  have Og1 := mm_
  have Gg1 := gg_
  clear mm_ gg_ hb hk
  go_wp2_with fail
  (with_reducible refine (heldRowS_n k _ _ _ g1 1 m _ ?s15n ?s15a ?s15b QF9.out).mono ?_)
  case s15n => exact (Kd.R_reads' Og1.out).1.symm
  case s15a => repeat (first | exact (R_rd Og1.out).1 | (with_reducible refine Kd.C_alloc ?_ _) | (with_reducible refine Kd.C_drewN ?_ _) | (with_reducible refine Kd.C_drew ?_))
  case s15b => exact (R_rd Og1.out).2
  rintro e w12 ⟨rfl, hb⟩
  have nw0_ := Aside0.mk (Kd.R_below (by (with_reducible repeat (first | apply Kd.R_alloc | apply Kd.R_drewN | apply Kd.R_drew)); exact Ow0.out) hb)
  have gw0_ := Aside0.mk (Nat.le_trans Gw0.out hb.size)
  have ng1_ := Aside0.mk (Kd.R_below (by (with_reducible repeat (first | apply Kd.R_alloc | apply Kd.R_drewN | apply Kd.R_drew)); exact Og1.out) hb)
  have gg1_ := Aside0.mk (Nat.le_trans Gg1.out hb.size)
  clear Ow0 Gw0
  clear Og1 Gg1
  have Ow0 := nw0_
  have Gw0 := gw0_
  clear nw0_ gw0_
  have Og1 := ng1_
  have Gg1 := gg1_
  clear ng1_ gg1_
  have nB_ := Aside0.mk (below_step (by repeat (first | (with_reducible first | exact HB.out | apply below_alloc | apply pw_below_drewN | apply below_drew1) | exact HB.out)) hb)
  clear HB
  have HB := nB_
  clear nB_
  clear hb
  go_wp2_with fail
  (with_reducible refine (laws_toPageS.calls k _ _ l0 x0 _ ?s16a ?s16b QF2.out).mono ?_)
  case s16a => repeat (first | exact (Kd.C_below HR0.out (by repeat (first | (with_reducible first | exact HB.out | apply below_alloc | apply pw_below_drewN | apply below_drew1) | exact HB.out))) | (with_reducible refine Kd.C_alloc ?_ _) | (with_reducible refine Kd.C_drewN ?_ _) | (with_reducible refine Kd.C_drew ?_))
  case s16b => exact HC0.out
  rintro e w13 ⟨vx0, rfl, ho, hb⟩
  obtain ⟨bx0, hle_, m_⟩ := S_ivx ho (below_size (by repeat (first | (with_reducible first | exact HB.out | apply below_alloc | apply pw_below_drewN | apply below_drew1) | exact HB.out)))
  clear ho
  have Z_w0_x0 := Aside0.mk (hle_ _ Gw0.out)
  have Z_g1_x0 := Aside0.mk (hle_ _ Gg1.out)
  clear hle_
  have nw0_ := Aside0.mk (Kd.R_below (by (with_reducible repeat (first | apply Kd.R_alloc | apply Kd.R_drewN | apply Kd.R_drew)); exact Ow0.out) hb)
  have gw0_ := Aside0.mk (Nat.le_trans Gw0.out hb.size)
  have ng1_ := Aside0.mk (Kd.R_below (by (with_reducible repeat (first | apply Kd.R_alloc | apply Kd.R_drewN | apply Kd.R_drew)); exact Og1.out) hb)
  have gg1_ := Aside0.mk (Nat.le_trans Gg1.out hb.size)
  clear Ow0 Gw0
  clear Og1 Gg1
  have Ow0 := nw0_
  have Gw0 := gw0_
  clear nw0_ gw0_
  have Og1 := ng1_
  have Gg1 := gg1_
  clear ng1_ gg1_
  have nB_ := Aside0.mk (below_step (by repeat (first | (with_reducible first | exact HB.out | apply below_alloc | apply pw_below_drewN | apply below_drew1) | exact HB.out)) hb)
  clear HB
  have HB := nB_
  clear nB_
  clear hb
  obtain ⟨Ax0, cx0, ex0⟩ := Kd.S_slice m_.out
  subst ex0
  have Ox0 := m_
  have Gx0 := Aside0.mk (Nat.le_refl w13.heap.size)
  clear m_
  go_wp2_with fail
  (with_reducible refine (impl_UnpackPages.calls k _ _ x0 g0 _ ?s17a ?s17b QF4.out).mono ?_)
  case s17a => repeat (first | exact (S_rd Ox0.out).1 | (with_reducible refine Kd.C_alloc ?_ _) | (with_reducible refine Kd.C_drewN ?_ _) | (with_reducible refine Kd.C_drew ?_))
  case s17b => exact (S_rd Ox0.out).2
  rintro e w14 ⟨vg0, rfl, ho, hb⟩
  obtain ⟨bg0, hle_, m_⟩ := R_ivx ho (below_size (by repeat (first | (with_reducible first | exact HB.out | apply below_alloc | apply pw_below_drewN | apply below_drew1) | exact HB.out)))
  clear ho
  clear Ox0 Gx0
  have Z_w0_g0 := Aside0.mk (hle_ _ Gw0.out)
  have Z_g1_g0 := Aside0.mk (hle_ _ Gg1.out)
  clear hle_
  have nw0_ := Aside0.mk (Kd.R_below (by (with_reducible repeat (first | apply Kd.R_alloc | apply Kd.R_drewN | apply Kd.R_drew)); exact Ow0.out) hb)
  have gw0_ := Aside0.mk (Nat.le_trans Gw0.out hb.size)
  have ng1_ := Aside0.mk (Kd.R_below (by (with_reducible repeat (first | apply Kd.R_alloc | apply Kd.R_drewN | apply Kd.R_drew)); exact Og1.out) hb)
  have gg1_ := Aside0.mk (Nat.le_trans Gg1.out hb.size)
  clear Ow0 Gw0
  clear Og1 Gg1
  have Ow0 := nw0_
  have Gw0 := gw0_
  clear nw0_ gw0_
  have Og1 := ng1_
  have Gg1 := gg1_
  clear ng1_ gg1_
  have nB_ := Aside0.mk (below_step (by repeat (first | (with_reducible first | exact HB.out | apply below_alloc | apply pw_below_drewN | apply below_drew1) | exact HB.out)) hb)
  clear HB
  have HB := nB_
  clear nB_
  clear hb
  obtain ⟨Ag0, cg0, eg0⟩ := Kd.R_slice m_.out
  subst eg0
  have Og0 := m_
  have Gg0 := Aside0.mk (Nat.le_refl w14.heap.size)
  clear m_
  go_wp2_with fail
  (with_reducible refine (laws_eqRowS.calls k _ _ g0 _ _ w0 true _ ?s18a ?s18b ?s19a ?s19b QF5.out).mono ?_)
  case s18a => repeat (first | exact (R_rd Og0.out).1 | (with_reducible refine Kd.C_alloc ?_ _) | (with_reducible refine Kd.C_drewN ?_ _) | (with_reducible refine Kd.C_drew ?_))
  case s18b => exact (R_rd Og0.out).2
  case s19a => repeat (first | exact (R_rd Ow0.out).1 | (with_reducible refine Kd.C_alloc ?_ _) | (with_reducible refine Kd.C_drewN ?_ _) | (with_reducible refine Kd.C_drew ?_))
  case s19b => exact (R_rd Ow0.out).2
  rintro e w15 ⟨rfl, hb⟩
  clear Og0 Gg0
  clear Ow0 Gw0
  have ng1_ := Aside0.mk (Kd.R_below (by (with_reducible repeat (first | apply Kd.R_alloc | apply Kd.R_drewN | apply Kd.R_drew)); exact Og1.out) hb)
  have gg1_ := Aside0.mk (Nat.le_trans Gg1.out hb.size)
  clear Og1 Gg1
  have Og1 := ng1_
  have Gg1 := gg1_
  clear ng1_ gg1_
  have nB_ := Aside0.mk (below_step (by repeat (first | (with_reducible first | exact HB.out | apply below_alloc | apply pw_below_drewN | apply below_drew1) | exact HB.out)) hb)
  clear HB
  have HB := nB_
  clear nB_
  clear hb
  go_wp2_with fail
  (with_reducible refine (heldRowS_n k _ _ _ g1 1 m _ ?s20n ?s20a ?s20b QF9.out).mono ?_)
  case s20n => exact (Kd.R_reads' Og1.out).1.symm
  case s20a => repeat (first | exact (R_rd Og1.out).1 | (with_reducible refine Kd.C_alloc ?_ _) | (with_reducible refine Kd.C_drewN ?_ _) | (with_reducible refine Kd.C_drew ?_))
  case s20b => exact (R_rd Og1.out).2
  rintro e w16 ⟨rfl, hb⟩
  have ng1_ := Aside0.mk (Kd.R_below (by (with_reducible repeat (first | apply Kd.R_alloc | apply Kd.R_drewN | apply Kd.R_drew)); exact Og1.out) hb)
  have gg1_ := Aside0.mk (Nat.le_trans Gg1.out hb.size)
  clear Og1 Gg1
  have Og1 := ng1_
  have Gg1 := gg1_
  clear ng1_ gg1_
  have nB_ := Aside0.mk (below_step (by repeat (first | (with_reducible first | exact HB.out | apply below_alloc | apply pw_below_drewN | apply below_drew1) | exact HB.out)) hb)
  clear HB
  have HB := nB_
  clear nB_
  clear hb
  go_wp2
  go_ret
  exact ⟨by first | rfl | simp, (by repeat (first | (with_reducible first | exact HB.out | apply below_alloc | apply pw_below_drewN | apply below_drew1) | exact HB.out))⟩
/-- What the walk asks of the values. -/
def laws_FnExactUnpackPages.OK (k : Nat) (l0 : List (S24)) : Prop := ∃ t1, laws_szPageS.f k l0 1048576 = some t1 ∧ (t1 < 0 ∨ ∃ (x0 x1 : List S31) (w0 g0 g1 : List S33) (kk m : Int), ¬ t1 < 0 ∧ laws_toPageS.f k l0 = some x0 ∧ spec_UnpackPages.f k x0 = some w0 ∧ impl_UnpackPages.f k x0 = some g0 ∧ laws_eqRowS.f k g0 w0 = some true ∧ laws_eqPageS.f k x0 x0 = some true ∧
    laws_markPageS.f k x0 1 = some (kk, x1) ∧ ¬ kk < 0 ∧ laws_markRowS.f k g0 1 = some (m, g1) ∧ laws_heldRowS.f k g1 1 = some m ∧ ¬ m < 0)
theorem laws_FnExactUnpackPages.calls (k : Nat) (A0 : Option Addr) (c0 : Nat) (l0 : List (S24)) (r : Bool) (w : World) (hr0 : Kd.C k24 w A0 l0.length l0) (hc0 : l0.length ≤ c0) (h : laws_FnExactUnpackPages.OK k l0) :
    Calls Try.prog 6 #[.slice A0 l0.length c0] w fun e w' => e = .returned (.bool true) ∧ Below w.heap.size w w' := by
  obtain ⟨t1, F1, n1 | ⟨x0, x1, w0, g0, g1, kk, m, n1, F2, F3, F4, F5, F6, F7, n7, F8, F9, n9⟩⟩ := h
  · exact laws_FnExactUnpackPages.big k A0 c0 l0 t1 w hr0 hc0 F1 n1
  · exact laws_FnExactUnpackPages.walk k A0 c0 l0 t1 x0 [] [] x1 w0 g0 g1 kk m w hr0 hc0 F1 n1 F2 F3 F4 F5 F6 F7 n7 F8 F9 n9
end Go.Proofs.Ytkipmmkjbeeemaa.PFnExactUnpackPages
