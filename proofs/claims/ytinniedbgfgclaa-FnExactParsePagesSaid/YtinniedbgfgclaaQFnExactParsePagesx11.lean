/- The walk of the law FnExactParsePages: every test is decided by the premises; nothing is claimed here. -/
import Derived.Test.YtinniedbgfgclaaQFnExactParsePagesx10
import Derived.Test.YtinniedbgfgclaaQFnExactParsePagesx1
import Derived.Test.YtinniedbgfgclaaQFnExactParsePagesx5
import Derived.Test.YtinniedbgfgclaaLin
namespace Go.Proofs.Ytinniedbgfgclaa.PFnExactParsePages
open Go.RowKit Go.Proofs.YtinniedbgfgclaaW.PrintWords Go.Proofs.YtinniedbgfgclaaW.PrintLast Go.Proofs.YtinniedbgfgclaaW.PrintMore Go.Proofs.Ytinniedbgfgclaa.Lin
set_option linter.unusedVariables false
set_option linter.unusedSimpArgs false
theorem heldPageS_n (k : Nat) (A0 : Option Addr) (n c0 : Nat) (l0 : List S39) (a1 r : Int) (w : World) (hn : l0.length = n) (hr : Kd.C k39 w A0 l0.length l0) (hc : l0.length ≤ c0) (h : laws_heldPageS.f k l0 a1 = some r) :
    Calls Try.prog 59 #[.slice A0 n c0, .int .i64 a1] w fun e w' => e = .returned (.int .i64 r) ∧ Below w.heap.size w w' := by
  subst hn; exact (laws_heldPageS.calls k A0 c0 l0 a1 r w hr hc h).mono fun e w' hh => ⟨hh.1, hh.2.below⟩
set_option maxHeartbeats 4000000 in
set_option maxRecDepth 100000 in
theorem laws_FnExactParsePages.big (s : ByteArray) (w : World) (n1 : (s.size : Int) > 1048576) :
    Calls Try.prog 12 #[.string s] w fun e w' => e = .returned (.bool true) ∧ Below w.heap.size w w' := by
  have HB := Aside0.mk (Below.refl w.heap.size w)
  have dn1 : decide ((s.size : Int) > 1048576) = true := decide_eq_true n1
  clear n1
  go_enter Try.func12, Try.ntmps12
  go_wp2
  go_ret
  exact ⟨by first | rfl | simp, (by repeat (first | (with_reducible first | exact HB.out | apply below_alloc | apply pw_below_drewN | apply below_drew1) | exact HB.out))⟩
set_option maxHeartbeats 4000000 in
set_option maxRecDepth 100000 in
theorem laws_FnExactParsePages.lin_true (k : Nat) (s : ByteArray) (w0 g0 g1 : List S39) (m : Int) (w : World) (n1 : ¬ (s.size : Int) > 1048576) (F1 : spec_ParsePages.f k s = some (w0, true)) (F2 : impl_ParsePages.f k s = some (g0, true)) (F3 : laws_eqPageS.f k g0 w0 = some true)
    (F4 : laws_markPageS.f k g0 1 = some (m, g1)) (F5 : laws_heldPageS.f k g1 1 = some m) (n2 : ¬ m < 0) :
    Calls Try.prog 12 #[.string s] w fun e w' => e = .returned (.bool true) ∧ Below w.heap.size w w' := by
  have HB := Aside0.mk (Below.refl w.heap.size w)
  have QF1 := Aside0.mk F1
  clear F1
  have QF2 := Aside0.mk F2
  clear F2
  have QF3 := Aside0.mk F3
  clear F3
  have QF4 := Aside0.mk F4
  clear F4
  have QF5 := Aside0.mk F5
  clear F5
  have dn1 : decide ((s.size : Int) > 1048576) = false := decide_eq_false n1
  clear n1
  have dn2 : decide (m < 0) = false := decide_eq_false n2
  clear n2
  go_enter Try.func12, Try.ntmps12
  go_wp2_with fail
  (with_reducible refine (spec_ParsePages.calls k s w0 true _  QF1.out).mono ?_)
  rintro e w1 ⟨vw0, rfl, how0, hb⟩
  obtain ⟨bw0, hlew0, mw0_⟩ := S_ivx how0 (below_size (by repeat (first | (with_reducible first | exact HB.out | apply below_alloc | apply pw_below_drewN | apply below_drew1) | exact HB.out)))
  clear how0
  clear hlew0
  have nB_ := Aside0.mk (below_step (by repeat (first | (with_reducible first | exact HB.out | apply below_alloc | apply pw_below_drewN | apply below_drew1) | exact HB.out)) hb)
  clear HB
  have HB := nB_
  clear nB_
  clear hb
  obtain ⟨Aw0, cw0, ew0⟩ := Kd.S_slice mw0_.out
  subst ew0
  have Ow0 := mw0_
  have Gw0 := Aside0.mk (Nat.le_refl w1.heap.size)
  clear mw0_
  go_wp2_with fail
  (with_reducible refine (impl_ParsePages.calls k s g0 true _  QF2.out).mono ?_)
  rintro e w2 ⟨vg0, rfl, hog0, hb⟩
  obtain ⟨bg0, hleg0, mg0_⟩ := S_ivx hog0 (below_size (by repeat (first | (with_reducible first | exact HB.out | apply below_alloc | apply pw_below_drewN | apply below_drew1) | exact HB.out)))
  clear hog0
  have Z_w0_g0 := Aside0.mk (hleg0 _ Gw0.out)
  clear hleg0
  have nw0_ := Aside0.mk (Kd.S_below (by (with_reducible repeat (first | apply Kd.S_alloc | apply Kd.S_drewN | apply Kd.S_drew)); exact Ow0.out) hb)
  have gw0_ := Aside0.mk (Nat.le_trans Gw0.out hb.size)
  clear Ow0 Gw0
  have Ow0 := nw0_
  have Gw0 := gw0_
  clear nw0_ gw0_
  have nB_ := Aside0.mk (below_step (by repeat (first | (with_reducible first | exact HB.out | apply below_alloc | apply pw_below_drewN | apply below_drew1) | exact HB.out)) hb)
  clear HB
  have HB := nB_
  clear nB_
  clear hb
  obtain ⟨Ag0, cg0, eg0⟩ := Kd.S_slice mg0_.out
  subst eg0
  have Og0 := mg0_
  have Gg0 := Aside0.mk (Nat.le_refl w2.heap.size)
  clear mg0_
  go_wp2_with fail
  (with_reducible refine (laws_eqPageS.calls k _ _ g0 _ _ w0 true _ ?s1a ?s1b ?s2a ?s2b QF3.out).mono ?_)
  case s1a => repeat (first | exact (S_rd Og0.out).1 | (with_reducible refine Kd.C_alloc ?_ _) | (with_reducible refine Kd.C_drewN ?_ _) | (with_reducible refine Kd.C_drew ?_))
  case s1b => exact (S_rd Og0.out).2
  case s2a => repeat (first | exact (S_rd Ow0.out).1 | (with_reducible refine Kd.C_alloc ?_ _) | (with_reducible refine Kd.C_drewN ?_ _) | (with_reducible refine Kd.C_drew ?_))
  case s2b => exact (S_rd Ow0.out).2
  rintro e w3 ⟨rfl, hb⟩
  (try (have hb_ := hb.below; clear hb; have hb := hb_; clear hb_))
  have nw0_ := Aside0.mk (Kd.S_below (by (with_reducible repeat (first | apply Kd.S_alloc | apply Kd.S_drewN | apply Kd.S_drew)); exact Ow0.out) hb)
  have gw0_ := Aside0.mk (Nat.le_trans Gw0.out hb.size)
  have ng0_ := Aside0.mk (Kd.S_below (by (with_reducible repeat (first | apply Kd.S_alloc | apply Kd.S_drewN | apply Kd.S_drew)); exact Og0.out) hb)
  have gg0_ := Aside0.mk (Nat.le_trans Gg0.out hb.size)
  clear Ow0 Gw0
  clear Og0 Gg0
  have Ow0 := nw0_
  have Gw0 := gw0_
  clear nw0_ gw0_
  have Og0 := ng0_
  have Gg0 := gg0_
  clear ng0_ gg0_
  have nB_ := Aside0.mk (below_step (by repeat (first | (with_reducible first | exact HB.out | apply below_alloc | apply pw_below_drewN | apply below_drew1) | exact HB.out)) hb)
  clear HB
  have HB := nB_
  clear nB_
  clear hb
  go_wp2_with fail
  (with_reducible refine (laws_markPageS.calls k (Iv bg0 w2.heap.size) _ g0 1 m g1 w _ ?s3a ?s3b QF4.out).mono ?_)
  case s3a => exact (by repeat (first | (with_reducible first | exact HB.out | apply below_alloc | apply pw_below_drewN | apply below_drew1) | exact HB.out))
  case s3b => ((with_reducible repeat (first | apply Kd.S_alloc | apply Kd.S_drewN | apply Kd.S_drew)); exact Og0.out)
  rintro e w4 ⟨rfl, hy, hb, hk⟩
  have mm_ := Aside0.mk hy
  clear hy
  have gg_ := Aside0.mk (Nat.le_trans Gg0.out hk.1)
  clear Og0 Gg0
  have nw0_ := Aside0.mk (Kd.S_kept (by (with_reducible repeat (first | apply Kd.S_alloc | apply Kd.S_drewN | apply Kd.S_drew)); exact Ow0.out) hk (iv_dn Z_w0_g0.out))
  have gw0_ := Aside0.mk (Nat.le_trans Gw0.out hk.1)
  clear Ow0 Gw0
  have Ow0 := nw0_
  have Gw0 := gw0_
  clear nw0_ gw0_
  clear HB
  have HB := Aside0.mk hb
  have Og1 := mm_
  have Gg1 := gg_
  clear mm_ gg_ hb hk
  go_wp2_with fail
  (with_reducible refine (heldPageS_n k _ _ _ g1 1 m _ ?s4n ?s4a ?s4b QF5.out).mono ?_)
  case s4n => exact (Kd.R_reads' (Kd.S_R Og1.out)).1.symm
  case s4a => repeat (first | exact (S_rd Og1.out).1 | (with_reducible refine Kd.C_alloc ?_ _) | (with_reducible refine Kd.C_drewN ?_ _) | (with_reducible refine Kd.C_drew ?_))
  case s4b => exact (S_rd Og1.out).2
  rintro e w5 ⟨rfl, hb⟩
  have nw0_ := Aside0.mk (Kd.S_below (by (with_reducible repeat (first | apply Kd.S_alloc | apply Kd.S_drewN | apply Kd.S_drew)); exact Ow0.out) hb)
  have gw0_ := Aside0.mk (Nat.le_trans Gw0.out hb.size)
  have ng1_ := Aside0.mk (Kd.S_below (by (with_reducible repeat (first | apply Kd.S_alloc | apply Kd.S_drewN | apply Kd.S_drew)); exact Og1.out) hb)
  have gg1_ := Aside0.mk (Nat.le_trans Gg1.out hb.size)
  clear Ow0 Gw0
  clear Og1 Gg1
  have Ow0 := nw0_
  have Gw0 := gw0_
  clear nw0_ gw0_
  have Og1 := ng1_
  have Gg1 := gg1_
  clear ng1_ gg1_
  have nB_ := Aside0.mk (below_step (by repeat (first | (with_reducible first | exact HB.out | apply below_alloc | apply pw_below_drewN | apply below_drew1) | exact HB.out)) hb)
  clear HB
  have HB := nB_
  clear nB_
  clear hb
  go_wp2_with fail
  (with_reducible refine (impl_ParsePages.calls k s g0 true _  QF2.out).mono ?_)
  rintro e w6 ⟨vh0, rfl, hoh0, hb⟩
  obtain ⟨bh0, hleh0, mh0_⟩ := S_ivx hoh0 (below_size (by repeat (first | (with_reducible first | exact HB.out | apply below_alloc | apply pw_below_drewN | apply below_drew1) | exact HB.out)))
  clear hoh0
  have Z_w0_h0 := Aside0.mk (hleh0 _ Gw0.out)
  have Z_g1_h0 := Aside0.mk (hleh0 _ Gg1.out)
  clear hleh0
  have nw0_ := Aside0.mk (Kd.S_below (by (with_reducible repeat (first | apply Kd.S_alloc | apply Kd.S_drewN | apply Kd.S_drew)); exact Ow0.out) hb)
  have gw0_ := Aside0.mk (Nat.le_trans Gw0.out hb.size)
  have ng1_ := Aside0.mk (Kd.S_below (by (with_reducible repeat (first | apply Kd.S_alloc | apply Kd.S_drewN | apply Kd.S_drew)); exact Og1.out) hb)
  have gg1_ := Aside0.mk (Nat.le_trans Gg1.out hb.size)
  clear Ow0 Gw0
  clear Og1 Gg1
  have Ow0 := nw0_
  have Gw0 := gw0_
  clear nw0_ gw0_
  have Og1 := ng1_
  have Gg1 := gg1_
  clear ng1_ gg1_
  have nB_ := Aside0.mk (below_step (by repeat (first | (with_reducible first | exact HB.out | apply below_alloc | apply pw_below_drewN | apply below_drew1) | exact HB.out)) hb)
  clear HB
  have HB := nB_
  clear nB_
  clear hb
  obtain ⟨Ah0, ch0, eh0⟩ := Kd.S_slice mh0_.out
  subst eh0
  have Oh0 := mh0_
  have Gh0 := Aside0.mk (Nat.le_refl w6.heap.size)
  clear mh0_
  go_wp2_with fail
  (with_reducible refine (laws_eqPageS.calls k _ _ g0 _ _ w0 true _ ?s5a ?s5b ?s6a ?s6b QF3.out).mono ?_)
  case s5a => repeat (first | exact (S_rd Oh0.out).1 | (with_reducible refine Kd.C_alloc ?_ _) | (with_reducible refine Kd.C_drewN ?_ _) | (with_reducible refine Kd.C_drew ?_))
  case s5b => exact (S_rd Oh0.out).2
  case s6a => repeat (first | exact (S_rd Ow0.out).1 | (with_reducible refine Kd.C_alloc ?_ _) | (with_reducible refine Kd.C_drewN ?_ _) | (with_reducible refine Kd.C_drew ?_))
  case s6b => exact (S_rd Ow0.out).2
  rintro e w7 ⟨rfl, hb⟩
  (try (have hb_ := hb.below; clear hb; have hb := hb_; clear hb_))
  clear Oh0 Gh0
  clear Ow0 Gw0
  have ng1_ := Aside0.mk (Kd.S_below (by (with_reducible repeat (first | apply Kd.S_alloc | apply Kd.S_drewN | apply Kd.S_drew)); exact Og1.out) hb)
  have gg1_ := Aside0.mk (Nat.le_trans Gg1.out hb.size)
  clear Og1 Gg1
  have Og1 := ng1_
  have Gg1 := gg1_
  clear ng1_ gg1_
  have nB_ := Aside0.mk (below_step (by repeat (first | (with_reducible first | exact HB.out | apply below_alloc | apply pw_below_drewN | apply below_drew1) | exact HB.out)) hb)
  clear HB
  have HB := nB_
  clear nB_
  clear hb
  go_wp2_with fail
  (with_reducible refine (heldPageS_n k _ _ _ g1 1 m _ ?s7n ?s7a ?s7b QF5.out).mono ?_)
  case s7n => exact (Kd.R_reads' (Kd.S_R Og1.out)).1.symm
  case s7a => repeat (first | exact (S_rd Og1.out).1 | (with_reducible refine Kd.C_alloc ?_ _) | (with_reducible refine Kd.C_drewN ?_ _) | (with_reducible refine Kd.C_drew ?_))
  case s7b => exact (S_rd Og1.out).2
  rintro e w8 ⟨rfl, hb⟩
  have ng1_ := Aside0.mk (Kd.S_below (by (with_reducible repeat (first | apply Kd.S_alloc | apply Kd.S_drewN | apply Kd.S_drew)); exact Og1.out) hb)
  have gg1_ := Aside0.mk (Nat.le_trans Gg1.out hb.size)
  clear Og1 Gg1
  have Og1 := ng1_
  have Gg1 := gg1_
  clear ng1_ gg1_
  have nB_ := Aside0.mk (below_step (by repeat (first | (with_reducible first | exact HB.out | apply below_alloc | apply pw_below_drewN | apply below_drew1) | exact HB.out)) hb)
  clear HB
  have HB := nB_
  clear nB_
  clear hb
  go_wp2
  go_ret
  exact ⟨by first | rfl | simp, (by repeat (first | (with_reducible first | exact HB.out | apply below_alloc | apply pw_below_drewN | apply below_drew1) | exact HB.out))⟩
set_option maxHeartbeats 4000000 in
set_option maxRecDepth 100000 in
theorem laws_FnExactParsePages.lin_false (k : Nat) (s : ByteArray) (w0 g0 g1 : List S39) (m : Int) (w : World) (n1 : ¬ (s.size : Int) > 1048576) (F1 : spec_ParsePages.f k s = some (w0, false)) (F2 : impl_ParsePages.f k s = some (g0, false)) (F3 : laws_eqPageS.f k g0 w0 = some true)
    (F4 : laws_markPageS.f k g0 1 = some (m, g1)) (F5 : laws_heldPageS.f k g1 1 = some m) (n2 : ¬ m < 0) :
    Calls Try.prog 12 #[.string s] w fun e w' => e = .returned (.bool true) ∧ Below w.heap.size w w' := by
  have HB := Aside0.mk (Below.refl w.heap.size w)
  have QF1 := Aside0.mk F1
  clear F1
  have QF2 := Aside0.mk F2
  clear F2
  have QF3 := Aside0.mk F3
  clear F3
  have QF4 := Aside0.mk F4
  clear F4
  have QF5 := Aside0.mk F5
  clear F5
  have dn1 : decide ((s.size : Int) > 1048576) = false := decide_eq_false n1
  clear n1
  have dn2 : decide (m < 0) = false := decide_eq_false n2
  clear n2
  go_enter Try.func12, Try.ntmps12
  go_wp2_with fail
  (with_reducible refine (spec_ParsePages.calls k s w0 false _  QF1.out).mono ?_)
  rintro e w1 ⟨vw0, rfl, how0, hb⟩
  obtain ⟨bw0, hlew0, mw0_⟩ := S_ivx how0 (below_size (by repeat (first | (with_reducible first | exact HB.out | apply below_alloc | apply pw_below_drewN | apply below_drew1) | exact HB.out)))
  clear how0
  clear hlew0
  have nB_ := Aside0.mk (below_step (by repeat (first | (with_reducible first | exact HB.out | apply below_alloc | apply pw_below_drewN | apply below_drew1) | exact HB.out)) hb)
  clear HB
  have HB := nB_
  clear nB_
  clear hb
  obtain ⟨Aw0, cw0, ew0⟩ := Kd.S_slice mw0_.out
  subst ew0
  have Ow0 := mw0_
  have Gw0 := Aside0.mk (Nat.le_refl w1.heap.size)
  clear mw0_
  go_wp2_with fail
  (with_reducible refine (impl_ParsePages.calls k s g0 false _  QF2.out).mono ?_)
  rintro e w2 ⟨vg0, rfl, hog0, hb⟩
  obtain ⟨bg0, hleg0, mg0_⟩ := S_ivx hog0 (below_size (by repeat (first | (with_reducible first | exact HB.out | apply below_alloc | apply pw_below_drewN | apply below_drew1) | exact HB.out)))
  clear hog0
  have Z_w0_g0 := Aside0.mk (hleg0 _ Gw0.out)
  clear hleg0
  have nw0_ := Aside0.mk (Kd.S_below (by (with_reducible repeat (first | apply Kd.S_alloc | apply Kd.S_drewN | apply Kd.S_drew)); exact Ow0.out) hb)
  have gw0_ := Aside0.mk (Nat.le_trans Gw0.out hb.size)
  clear Ow0 Gw0
  have Ow0 := nw0_
  have Gw0 := gw0_
  clear nw0_ gw0_
  have nB_ := Aside0.mk (below_step (by repeat (first | (with_reducible first | exact HB.out | apply below_alloc | apply pw_below_drewN | apply below_drew1) | exact HB.out)) hb)
  clear HB
  have HB := nB_
  clear nB_
  clear hb
  obtain ⟨Ag0, cg0, eg0⟩ := Kd.S_slice mg0_.out
  subst eg0
  have Og0 := mg0_
  have Gg0 := Aside0.mk (Nat.le_refl w2.heap.size)
  clear mg0_
  go_wp2_with fail
  (with_reducible refine (laws_eqPageS.calls k _ _ g0 _ _ w0 true _ ?s1a ?s1b ?s2a ?s2b QF3.out).mono ?_)
  case s1a => repeat (first | exact (S_rd Og0.out).1 | (with_reducible refine Kd.C_alloc ?_ _) | (with_reducible refine Kd.C_drewN ?_ _) | (with_reducible refine Kd.C_drew ?_))
  case s1b => exact (S_rd Og0.out).2
  case s2a => repeat (first | exact (S_rd Ow0.out).1 | (with_reducible refine Kd.C_alloc ?_ _) | (with_reducible refine Kd.C_drewN ?_ _) | (with_reducible refine Kd.C_drew ?_))
  case s2b => exact (S_rd Ow0.out).2
  rintro e w3 ⟨rfl, hb⟩
  (try (have hb_ := hb.below; clear hb; have hb := hb_; clear hb_))
  have nw0_ := Aside0.mk (Kd.S_below (by (with_reducible repeat (first | apply Kd.S_alloc | apply Kd.S_drewN | apply Kd.S_drew)); exact Ow0.out) hb)
  have gw0_ := Aside0.mk (Nat.le_trans Gw0.out hb.size)
  have ng0_ := Aside0.mk (Kd.S_below (by (with_reducible repeat (first | apply Kd.S_alloc | apply Kd.S_drewN | apply Kd.S_drew)); exact Og0.out) hb)
  have gg0_ := Aside0.mk (Nat.le_trans Gg0.out hb.size)
  clear Ow0 Gw0
  clear Og0 Gg0
  have Ow0 := nw0_
  have Gw0 := gw0_
  clear nw0_ gw0_
  have Og0 := ng0_
  have Gg0 := gg0_
  clear ng0_ gg0_
  have nB_ := Aside0.mk (below_step (by repeat (first | (with_reducible first | exact HB.out | apply below_alloc | apply pw_below_drewN | apply below_drew1) | exact HB.out)) hb)
  clear HB
  have HB := nB_
  clear nB_
  clear hb
  go_wp2_with fail
  (with_reducible refine (laws_markPageS.calls k (Iv bg0 w2.heap.size) _ g0 1 m g1 w _ ?s3a ?s3b QF4.out).mono ?_)
  case s3a => exact (by repeat (first | (with_reducible first | exact HB.out | apply below_alloc | apply pw_below_drewN | apply below_drew1) | exact HB.out))
  case s3b => ((with_reducible repeat (first | apply Kd.S_alloc | apply Kd.S_drewN | apply Kd.S_drew)); exact Og0.out)
  rintro e w4 ⟨rfl, hy, hb, hk⟩
  have mm_ := Aside0.mk hy
  clear hy
  have gg_ := Aside0.mk (Nat.le_trans Gg0.out hk.1)
  clear Og0 Gg0
  have nw0_ := Aside0.mk (Kd.S_kept (by (with_reducible repeat (first | apply Kd.S_alloc | apply Kd.S_drewN | apply Kd.S_drew)); exact Ow0.out) hk (iv_dn Z_w0_g0.out))
  have gw0_ := Aside0.mk (Nat.le_trans Gw0.out hk.1)
  clear Ow0 Gw0
  have Ow0 := nw0_
  have Gw0 := gw0_
  clear nw0_ gw0_
  clear HB
  have HB := Aside0.mk hb
  have Og1 := mm_
  have Gg1 := gg_
  clear mm_ gg_ hb hk
  go_wp2_with fail
  (with_reducible refine (heldPageS_n k _ _ _ g1 1 m _ ?s4n ?s4a ?s4b QF5.out).mono ?_)
  case s4n => exact (Kd.R_reads' (Kd.S_R Og1.out)).1.symm
  case s4a => repeat (first | exact (S_rd Og1.out).1 | (with_reducible refine Kd.C_alloc ?_ _) | (with_reducible refine Kd.C_drewN ?_ _) | (with_reducible refine Kd.C_drew ?_))
  case s4b => exact (S_rd Og1.out).2
  rintro e w5 ⟨rfl, hb⟩
  have nw0_ := Aside0.mk (Kd.S_below (by (with_reducible repeat (first | apply Kd.S_alloc | apply Kd.S_drewN | apply Kd.S_drew)); exact Ow0.out) hb)
  have gw0_ := Aside0.mk (Nat.le_trans Gw0.out hb.size)
  have ng1_ := Aside0.mk (Kd.S_below (by (with_reducible repeat (first | apply Kd.S_alloc | apply Kd.S_drewN | apply Kd.S_drew)); exact Og1.out) hb)
  have gg1_ := Aside0.mk (Nat.le_trans Gg1.out hb.size)
  clear Ow0 Gw0
  clear Og1 Gg1
  have Ow0 := nw0_
  have Gw0 := gw0_
  clear nw0_ gw0_
  have Og1 := ng1_
  have Gg1 := gg1_
  clear ng1_ gg1_
  have nB_ := Aside0.mk (below_step (by repeat (first | (with_reducible first | exact HB.out | apply below_alloc | apply pw_below_drewN | apply below_drew1) | exact HB.out)) hb)
  clear HB
  have HB := nB_
  clear nB_
  clear hb
  go_wp2_with fail
  (with_reducible refine (impl_ParsePages.calls k s g0 false _  QF2.out).mono ?_)
  rintro e w6 ⟨vh0, rfl, hoh0, hb⟩
  obtain ⟨bh0, hleh0, mh0_⟩ := S_ivx hoh0 (below_size (by repeat (first | (with_reducible first | exact HB.out | apply below_alloc | apply pw_below_drewN | apply below_drew1) | exact HB.out)))
  clear hoh0
  have Z_w0_h0 := Aside0.mk (hleh0 _ Gw0.out)
  have Z_g1_h0 := Aside0.mk (hleh0 _ Gg1.out)
  clear hleh0
  have nw0_ := Aside0.mk (Kd.S_below (by (with_reducible repeat (first | apply Kd.S_alloc | apply Kd.S_drewN | apply Kd.S_drew)); exact Ow0.out) hb)
  have gw0_ := Aside0.mk (Nat.le_trans Gw0.out hb.size)
  have ng1_ := Aside0.mk (Kd.S_below (by (with_reducible repeat (first | apply Kd.S_alloc | apply Kd.S_drewN | apply Kd.S_drew)); exact Og1.out) hb)
  have gg1_ := Aside0.mk (Nat.le_trans Gg1.out hb.size)
  clear Ow0 Gw0
  clear Og1 Gg1
  have Ow0 := nw0_
  have Gw0 := gw0_
  clear nw0_ gw0_
  have Og1 := ng1_
  have Gg1 := gg1_
  clear ng1_ gg1_
  have nB_ := Aside0.mk (below_step (by repeat (first | (with_reducible first | exact HB.out | apply below_alloc | apply pw_below_drewN | apply below_drew1) | exact HB.out)) hb)
  clear HB
  have HB := nB_
  clear nB_
  clear hb
  obtain ⟨Ah0, ch0, eh0⟩ := Kd.S_slice mh0_.out
  subst eh0
  have Oh0 := mh0_
  have Gh0 := Aside0.mk (Nat.le_refl w6.heap.size)
  clear mh0_
  go_wp2_with fail
  (with_reducible refine (laws_eqPageS.calls k _ _ g0 _ _ w0 true _ ?s5a ?s5b ?s6a ?s6b QF3.out).mono ?_)
  case s5a => repeat (first | exact (S_rd Oh0.out).1 | (with_reducible refine Kd.C_alloc ?_ _) | (with_reducible refine Kd.C_drewN ?_ _) | (with_reducible refine Kd.C_drew ?_))
  case s5b => exact (S_rd Oh0.out).2
  case s6a => repeat (first | exact (S_rd Ow0.out).1 | (with_reducible refine Kd.C_alloc ?_ _) | (with_reducible refine Kd.C_drewN ?_ _) | (with_reducible refine Kd.C_drew ?_))
  case s6b => exact (S_rd Ow0.out).2
  rintro e w7 ⟨rfl, hb⟩
  (try (have hb_ := hb.below; clear hb; have hb := hb_; clear hb_))
  clear Oh0 Gh0
  clear Ow0 Gw0
  have ng1_ := Aside0.mk (Kd.S_below (by (with_reducible repeat (first | apply Kd.S_alloc | apply Kd.S_drewN | apply Kd.S_drew)); exact Og1.out) hb)
  have gg1_ := Aside0.mk (Nat.le_trans Gg1.out hb.size)
  clear Og1 Gg1
  have Og1 := ng1_
  have Gg1 := gg1_
  clear ng1_ gg1_
  have nB_ := Aside0.mk (below_step (by repeat (first | (with_reducible first | exact HB.out | apply below_alloc | apply pw_below_drewN | apply below_drew1) | exact HB.out)) hb)
  clear HB
  have HB := nB_
  clear nB_
  clear hb
  go_wp2_with fail
  (with_reducible refine (heldPageS_n k _ _ _ g1 1 m _ ?s7n ?s7a ?s7b QF5.out).mono ?_)
  case s7n => exact (Kd.R_reads' (Kd.S_R Og1.out)).1.symm
  case s7a => repeat (first | exact (S_rd Og1.out).1 | (with_reducible refine Kd.C_alloc ?_ _) | (with_reducible refine Kd.C_drewN ?_ _) | (with_reducible refine Kd.C_drew ?_))
  case s7b => exact (S_rd Og1.out).2
  rintro e w8 ⟨rfl, hb⟩
  have ng1_ := Aside0.mk (Kd.S_below (by (with_reducible repeat (first | apply Kd.S_alloc | apply Kd.S_drewN | apply Kd.S_drew)); exact Og1.out) hb)
  have gg1_ := Aside0.mk (Nat.le_trans Gg1.out hb.size)
  clear Og1 Gg1
  have Og1 := ng1_
  have Gg1 := gg1_
  clear ng1_ gg1_
  have nB_ := Aside0.mk (below_step (by repeat (first | (with_reducible first | exact HB.out | apply below_alloc | apply pw_below_drewN | apply below_drew1) | exact HB.out)) hb)
  clear HB
  have HB := nB_
  clear nB_
  clear hb
  go_wp2
  go_ret
  exact ⟨by first | rfl | simp, (by repeat (first | (with_reducible first | exact HB.out | apply below_alloc | apply pw_below_drewN | apply below_drew1) | exact HB.out))⟩
/-- What the walk asks of the values. -/
def laws_FnExactParsePages.OK (k : Nat) (s : ByteArray) : Prop := (s.size : Int) > 1048576 ∨ ∃ (w0 g1 : List S39) (b : Bool) (m : Int), ¬ (s.size : Int) > 1048576 ∧ spec_ParsePages.f k s = some (w0, b) ∧ impl_ParsePages.f k s = some (w0, b) ∧ laws_eqPageS.f k w0 w0 = some true ∧ laws_markPageS.f k w0 1 = some (m, g1) ∧ laws_heldPageS.f k g1 1 = some m ∧ ¬ m < 0
theorem laws_FnExactParsePages.calls (k : Nat) (s : ByteArray) (r : Bool) (w : World) (h : laws_FnExactParsePages.OK k s) :
    Calls Try.prog 12 #[.string s] w fun e w' => e = .returned (.bool true) ∧ Below w.heap.size w w' := by
  obtain n1 | ⟨w0, g1, b, m, n1, F1, F2, F3, F4, F5, n2⟩ := h
  · exact laws_FnExactParsePages.big s w n1
  · cases b
    · exact laws_FnExactParsePages.lin_false k s w0 w0 g1 m w n1 F1 F2 F3 F4 F5 n2
    · exact laws_FnExactParsePages.lin_true k s w0 w0 g1 m w n1 F1 F2 F3 F4 F5 n2
end Go.Proofs.Ytinniedbgfgclaa.PFnExactParsePages
