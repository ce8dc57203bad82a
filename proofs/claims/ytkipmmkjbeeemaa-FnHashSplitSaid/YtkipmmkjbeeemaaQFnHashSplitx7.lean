/- The walk of the law FnHashSplit: every test is decided by the premises; nothing is claimed here. -/
import Derived.Test.YtkipmmkjbeeemaaQFnHashSplitx6
import Derived.Test.YtkipmmkjbeeemaaLin
namespace Go.Proofs.Ytkipmmkjbeeemaa.PFnHashSplit
open Go.RowKit Go.Proofs.YtkipmmkjbeeemaaW.PrintWords Go.Proofs.YtkipmmkjbeeemaaW.PrintLast Go.Proofs.YtkipmmkjbeeemaaW.PrintMore Go.Proofs.Ytkipmmkjbeeemaa.Lin
attribute [local go_sem] max2_int min2_int max_two min_two max_three min_three max_four min_four
set_option linter.unusedVariables false
set_option linter.unusedSimpArgs false
set_option maxHeartbeats 4000000 in
set_option maxRecDepth 100000 in
theorem laws_FnHashSplit.big (A0 : Option Addr) (c0 : Nat) (l0 : List Int) (w : World) (hr0 : Kd.C (Kd.int .u8) w A0 l0.length l0) (hc0 : l0.length ≤ c0) (F1 : laws_big.f l0 = some true) :
    Calls Try.prog 10 #[.slice A0 l0.length c0] w fun e w' => e = .returned (.bool true) ∧ Below w.heap.size w w' := by
  have HR0 := Aside0.mk hr0
  have HC0 := Aside0.mk hc0
  clear hr0 hc0
  have HB := Aside0.mk (Below.refl w.heap.size w)
  have QF1 := Aside0.mk F1
  clear F1
  go_enter Try.func10, Try.ntmps10
  go_wp2_with fail
  (with_reducible refine (laws_big.calls _ _ l0 true _ ?s1a ?s1b QF1.out).mono ?_)
  case s1a => repeat (first | exact (Kd.C_below HR0.out (by repeat (first | (with_reducible first | exact HB.out | apply below_alloc | apply pw_below_drewN | apply below_drew1) | exact HB.out))) | (with_reducible refine Kd.C_alloc ?_ _) | (with_reducible refine Kd.C_drewN ?_ _) | (with_reducible refine Kd.C_drew ?_))
  case s1b => exact HC0.out
  rintro e w1 ⟨rfl, hb⟩
  (try (have hb_ := hb.below; clear hb; have hb := hb_; clear hb_))
  have nB_ := Aside0.mk (below_step (by repeat (first | (with_reducible first | exact HB.out | apply below_alloc | apply pw_below_drewN | apply below_drew1) | exact HB.out)) hb)
  clear HB
  have HB := nB_
  clear nB_
  clear hb
  go_wp2
  go_ret
  exact ⟨by first | rfl | simp, (by repeat (first | (with_reducible first | exact HB.out | apply below_alloc | apply pw_below_drewN | apply below_drew1) | exact HB.out))⟩
set_option maxHeartbeats 16000000 in
set_option maxRecDepth 100000 in
theorem laws_FnHashSplit.lin (k : Nat) (A0 : Option Addr) (c0 : Nat) (l0 : List Int) (l a b m y1 y2 : List S33) (n ke lev h lv : Int) (sk av : Bool) (w : World) (hr0 : Kd.C (Kd.int .u8) w A0 l0.length l0) (hc0 : l0.length ≤ c0)
    (F1 : laws_big.f l0 = some false) (F2 : spec_DrawSplitByHashBit.f k l0 = some (l, n)) (F3 : impl_SplitByHashBit.f k l n = some (a, b)) (F4 : spec_SplitByHashBit.f k l n = some (a, b)) (F5 : spec_DrawHashBit.f k l0 = some (ke, lev))
    (F6 : laws_sameRows.f k a a = some true) (F7 : laws_sameRows.f k b b = some true) (F8 : impl_HashBit.f ke lev = some h) (F9 : spec_HashBit.f ke lev = some h) (n1 : ¬ h < 0) (n2 : ¬ 1 < h)
    (E1 : y1 = [] ++ a) (E2 : y2 = y1 ++ b) (L1 : a.length ≤ 1048576) (L2 : b.length ≤ 1048576) (F10 : spec_EqualBags.f k y2 l = some true)
    (HD : ∀ i j : Nat, i < a.length → j < b.length → ((rd_T33 a (i : Int)).f0 == (rd_T33 b (j : Int)).f0) = false)
    (F11 : spec_DrawFirstSplittingLevel.f k l0 = some m) (F12 : impl_FirstSplittingLevel.f k m = some lv) (F13 : spec_FirstSplittingLevel.f k m = some lv) (F14 : impl_AllSameKey.f k m = some sk) (F15 : spec_AllSameKey.f k m = some sk)
    (F16 : spec_AreValidRows.f k m = some av) (n3 : av = true → ((lv == 4) == sk) = true) :
    Calls Try.prog 10 #[.slice A0 l0.length c0] w fun e w' => e = .returned (.bool true) ∧ Below w.heap.size w w' := by
  have HR0 := Aside0.mk hr0
  have HC0 := Aside0.mk hc0
  clear hr0 hc0
  have HB := Aside0.mk (Below.refl w.heap.size w)
  have QF1 := Aside0.mk F1
  clear F1
  have QF2 := Aside0.mk F2
  clear F2
  have QF3 := Aside0.mk F3
  clear F3
  have QF4 := Aside0.mk F4
  clear F4
  have QF5 := Aside0.mk F5
  clear F5
  have QF6 := Aside0.mk F6
  clear F6
  have QF7 := Aside0.mk F7
  clear F7
  have QF8 := Aside0.mk F8
  clear F8
  have QF9 := Aside0.mk F9
  clear F9
  have QF10 := Aside0.mk F10
  clear F10
  have QF11 := Aside0.mk F11
  clear F11
  have QF12 := Aside0.mk F12
  clear F12
  have QF13 := Aside0.mk F13
  clear F13
  have QF14 := Aside0.mk F14
  clear F14
  have QF15 := Aside0.mk F15
  clear F15
  have QF16 := Aside0.mk F16
  clear F16
  have QE1 := Aside0.mk E1
  clear E1
  have QE2 := Aside0.mk E2
  clear E2
  have QHD := Aside0.mk HD
  clear HD
  have Qn3 := Aside0.mk n3
  clear n3
  have QL1 := Aside0.mk L1
  clear L1
  have QL2 := Aside0.mk L2
  clear L2
  have dn1 : decide (h < 0) = false := decide_eq_false n1
  clear n1
  have dn2 : decide (1 < h) = false := decide_eq_false n2
  clear n2
  have hu29 := Try.underlying29
  have e1_ : (h == h) = true := beq_self_eq_true h
  have e2_ : (h != h) = false := by simp
  have e3_ : (lv == lv) = true := beq_self_eq_true lv
  go_enter Try.func10, Try.ntmps10
  go_wp2_with fail
  (with_reducible refine (laws_big.calls _ _ l0 false _ ?s1a ?s1b QF1.out).mono ?_)
  case s1a => repeat (first | exact (Kd.C_below HR0.out (by repeat (first | (with_reducible first | exact HB.out | apply below_alloc | apply pw_below_drewN | apply below_drew1) | exact HB.out))) | (with_reducible refine Kd.C_alloc ?_ _) | (with_reducible refine Kd.C_drewN ?_ _) | (with_reducible refine Kd.C_drew ?_))
  case s1b => exact HC0.out
  rintro e w1 ⟨rfl, hb⟩
  (try (have hb_ := hb.below; clear hb; have hb := hb_; clear hb_))
  have nB_ := Aside0.mk (below_step (by repeat (first | (with_reducible first | exact HB.out | apply below_alloc | apply pw_below_drewN | apply below_drew1) | exact HB.out)) hb)
  clear HB
  have HB := nB_
  clear nB_
  clear hb
  go_wp2_with fail
  (with_reducible refine (spec_DrawSplitByHashBit.calls k _ _ l0 l n _ ?s2a ?s2b QF2.out).mono ?_)
  case s2a => repeat (first | exact (Kd.C_below HR0.out (by repeat (first | (with_reducible first | exact HB.out | apply below_alloc | apply pw_below_drewN | apply below_drew1) | exact HB.out))) | (with_reducible refine Kd.C_alloc ?_ _) | (with_reducible refine Kd.C_drewN ?_ _) | (with_reducible refine Kd.C_drew ?_))
  case s2b => exact HC0.out
  rintro e w2 ⟨vl, rfl, hol, hb⟩
  obtain ⟨bl, hlel, ml_⟩ := R_ivx hol (below_size (by repeat (first | (with_reducible first | exact HB.out | apply below_alloc | apply pw_below_drewN | apply below_drew1) | exact HB.out)))
  clear hol
  clear hlel
  have nB_ := Aside0.mk (below_step (by repeat (first | (with_reducible first | exact HB.out | apply below_alloc | apply pw_below_drewN | apply below_drew1) | exact HB.out)) hb)
  clear HB
  have HB := nB_
  clear nB_
  clear hb
  obtain ⟨Al, cl, el⟩ := Kd.R_slice ml_.out
  subst el
  have Ol := ml_
  have Gl := Aside0.mk (Nat.le_refl w2.heap.size)
  clear ml_
  go_wp2_with fail
  (with_reducible refine (impl_SplitByHashBit.calls k _ _ l n a b _ ?s3a ?s3b QF3.out).mono ?_)
  case s3a => repeat (first | exact (R_rd Ol.out).1 | (with_reducible refine Kd.C_alloc ?_ _) | (with_reducible refine Kd.C_drewN ?_ _) | (with_reducible refine Kd.C_drew ?_))
  case s3b => exact (R_rd Ol.out).2
  rintro e w3 ⟨va, vb, rfl, hoa, hob, hb⟩
  obtain ⟨ba, hlea, ma_⟩ := R_ivx hoa (below_size (by repeat (first | (with_reducible first | exact HB.out | apply below_alloc | apply pw_below_drewN | apply below_drew1) | exact HB.out)))
  clear hoa
  obtain ⟨bb, hleb, mb_⟩ := R_ivx hob (below_size (by repeat (first | (with_reducible first | exact HB.out | apply below_alloc | apply pw_below_drewN | apply below_drew1) | exact HB.out)))
  clear hob
  have Z_l_a := Aside0.mk (hlea _ Gl.out)
  clear hlea
  have Z_l_b := Aside0.mk (hleb _ Gl.out)
  clear hleb
  have nl_ := Aside0.mk (Kd.R_below (by (with_reducible repeat (first | apply Kd.R_alloc | apply Kd.R_drewN | apply Kd.R_drew)); exact Ol.out) hb)
  have gl_ := Aside0.mk (Nat.le_trans Gl.out hb.size)
  clear Ol Gl
  have Ol := nl_
  have Gl := gl_
  clear nl_ gl_
  have nB_ := Aside0.mk (below_step (by repeat (first | (with_reducible first | exact HB.out | apply below_alloc | apply pw_below_drewN | apply below_drew1) | exact HB.out)) hb)
  clear HB
  have HB := nB_
  clear nB_
  clear hb
  obtain ⟨Aa, ca, ea⟩ := Kd.R_slice ma_.out
  subst ea
  have Oa := ma_
  have Ga := Aside0.mk (Nat.le_refl w3.heap.size)
  clear ma_
  obtain ⟨Ab, cb, eb⟩ := Kd.R_slice mb_.out
  subst eb
  have Ob := mb_
  have Gb := Aside0.mk (Nat.le_refl w3.heap.size)
  clear mb_
  go_wp2_with fail
  (with_reducible refine (spec_SplitByHashBit.calls k _ _ l n a b _ ?s4a ?s4b QF4.out).mono ?_)
  case s4a => repeat (first | exact (R_rd Ol.out).1 | (with_reducible refine Kd.C_alloc ?_ _) | (with_reducible refine Kd.C_drewN ?_ _) | (with_reducible refine Kd.C_drew ?_))
  case s4b => exact (R_rd Ol.out).2
  rintro e w4 ⟨va2, vb2, rfl, hoa2, hob2, hb⟩
  obtain ⟨ba2, hlea2, ma2_⟩ := R_ivx hoa2 (below_size (by repeat (first | (with_reducible first | exact HB.out | apply below_alloc | apply pw_below_drewN | apply below_drew1) | exact HB.out)))
  clear hoa2
  obtain ⟨bb2, hleb2, mb2_⟩ := R_ivx hob2 (below_size (by repeat (first | (with_reducible first | exact HB.out | apply below_alloc | apply pw_below_drewN | apply below_drew1) | exact HB.out)))
  clear hob2
  have Z_l_a2 := Aside0.mk (hlea2 _ Gl.out)
  have Z_a_a2 := Aside0.mk (hlea2 _ Ga.out)
  have Z_b_a2 := Aside0.mk (hlea2 _ Gb.out)
  clear hlea2
  have Z_l_b2 := Aside0.mk (hleb2 _ Gl.out)
  have Z_a_b2 := Aside0.mk (hleb2 _ Ga.out)
  have Z_b_b2 := Aside0.mk (hleb2 _ Gb.out)
  clear hleb2
  have nl_ := Aside0.mk (Kd.R_below (by (with_reducible repeat (first | apply Kd.R_alloc | apply Kd.R_drewN | apply Kd.R_drew)); exact Ol.out) hb)
  have gl_ := Aside0.mk (Nat.le_trans Gl.out hb.size)
  have na_ := Aside0.mk (Kd.R_below (by (with_reducible repeat (first | apply Kd.R_alloc | apply Kd.R_drewN | apply Kd.R_drew)); exact Oa.out) hb)
  have ga_ := Aside0.mk (Nat.le_trans Ga.out hb.size)
  have nb_ := Aside0.mk (Kd.R_below (by (with_reducible repeat (first | apply Kd.R_alloc | apply Kd.R_drewN | apply Kd.R_drew)); exact Ob.out) hb)
  have gb_ := Aside0.mk (Nat.le_trans Gb.out hb.size)
  clear Ol Gl
  clear Oa Ga
  clear Ob Gb
  have Ol := nl_
  have Gl := gl_
  clear nl_ gl_
  have Oa := na_
  have Ga := ga_
  clear na_ ga_
  have Ob := nb_
  have Gb := gb_
  clear nb_ gb_
  have nB_ := Aside0.mk (below_step (by repeat (first | (with_reducible first | exact HB.out | apply below_alloc | apply pw_below_drewN | apply below_drew1) | exact HB.out)) hb)
  clear HB
  have HB := nB_
  clear nB_
  clear hb
  obtain ⟨Aa2, ca2, ea2⟩ := Kd.R_slice ma2_.out
  subst ea2
  have Oa2 := ma2_
  have Ga2 := Aside0.mk (Nat.le_refl w4.heap.size)
  clear ma2_
  obtain ⟨Ab2, cb2, eb2⟩ := Kd.R_slice mb2_.out
  subst eb2
  have Ob2 := mb2_
  have Gb2 := Aside0.mk (Nat.le_refl w4.heap.size)
  clear mb2_
  go_wp2_with fail
  (with_reducible refine (spec_DrawHashBit.calls k _ _ l0 ke lev _ ?s5a ?s5b QF5.out).mono ?_)
  case s5a => repeat (first | exact (Kd.C_below HR0.out (by repeat (first | (with_reducible first | exact HB.out | apply below_alloc | apply pw_below_drewN | apply below_drew1) | exact HB.out))) | (with_reducible refine Kd.C_alloc ?_ _) | (with_reducible refine Kd.C_drewN ?_ _) | (with_reducible refine Kd.C_drew ?_))
  case s5b => exact HC0.out
  rintro e w5 ⟨rfl, hb⟩
  (try (have hb_ := hb.below; clear hb; have hb := hb_; clear hb_))
  have nl_ := Aside0.mk (Kd.R_below (by (with_reducible repeat (first | apply Kd.R_alloc | apply Kd.R_drewN | apply Kd.R_drew)); exact Ol.out) hb)
  have gl_ := Aside0.mk (Nat.le_trans Gl.out hb.size)
  have na_ := Aside0.mk (Kd.R_below (by (with_reducible repeat (first | apply Kd.R_alloc | apply Kd.R_drewN | apply Kd.R_drew)); exact Oa.out) hb)
  have ga_ := Aside0.mk (Nat.le_trans Ga.out hb.size)
  have nb_ := Aside0.mk (Kd.R_below (by (with_reducible repeat (first | apply Kd.R_alloc | apply Kd.R_drewN | apply Kd.R_drew)); exact Ob.out) hb)
  have gb_ := Aside0.mk (Nat.le_trans Gb.out hb.size)
  have na2_ := Aside0.mk (Kd.R_below (by (with_reducible repeat (first | apply Kd.R_alloc | apply Kd.R_drewN | apply Kd.R_drew)); exact Oa2.out) hb)
  have ga2_ := Aside0.mk (Nat.le_trans Ga2.out hb.size)
  have nb2_ := Aside0.mk (Kd.R_below (by (with_reducible repeat (first | apply Kd.R_alloc | apply Kd.R_drewN | apply Kd.R_drew)); exact Ob2.out) hb)
  have gb2_ := Aside0.mk (Nat.le_trans Gb2.out hb.size)
  clear Ol Gl
  clear Oa Ga
  clear Ob Gb
  clear Oa2 Ga2
  clear Ob2 Gb2
  have Ol := nl_
  have Gl := gl_
  clear nl_ gl_
  have Oa := na_
  have Ga := ga_
  clear na_ ga_
  have Ob := nb_
  have Gb := gb_
  clear nb_ gb_
  have Oa2 := na2_
  have Ga2 := ga2_
  clear na2_ ga2_
  have Ob2 := nb2_
  have Gb2 := gb2_
  clear nb2_ gb2_
  have nB_ := Aside0.mk (below_step (by repeat (first | (with_reducible first | exact HB.out | apply below_alloc | apply pw_below_drewN | apply below_drew1) | exact HB.out)) hb)
  clear HB
  have HB := nB_
  clear nB_
  clear hb
  go_wp2_with fail
  (with_reducible refine (laws_sameRows.calls k _ _ a _ _ a true _ ?s6a ?s6b ?s7a ?s7b QF6.out).mono ?_)
  case s6a => repeat (first | exact (R_rd Oa.out).1 | (with_reducible refine Kd.C_alloc ?_ _) | (with_reducible refine Kd.C_drewN ?_ _) | (with_reducible refine Kd.C_drew ?_))
  case s6b => exact (R_rd Oa.out).2
  case s7a => repeat (first | exact (R_rd Oa2.out).1 | (with_reducible refine Kd.C_alloc ?_ _) | (with_reducible refine Kd.C_drewN ?_ _) | (with_reducible refine Kd.C_drew ?_))
  case s7b => exact (R_rd Oa2.out).2
  rintro e w6 ⟨rfl, hb⟩
  (try (have hb_ := hb.below; clear hb; have hb := hb_; clear hb_))
  clear Oa2 Ga2
  have nl_ := Aside0.mk (Kd.R_below (by (with_reducible repeat (first | apply Kd.R_alloc | apply Kd.R_drewN | apply Kd.R_drew)); exact Ol.out) hb)
  have gl_ := Aside0.mk (Nat.le_trans Gl.out hb.size)
  have na_ := Aside0.mk (Kd.R_below (by (with_reducible repeat (first | apply Kd.R_alloc | apply Kd.R_drewN | apply Kd.R_drew)); exact Oa.out) hb)
  have ga_ := Aside0.mk (Nat.le_trans Ga.out hb.size)
  have nb_ := Aside0.mk (Kd.R_below (by (with_reducible repeat (first | apply Kd.R_alloc | apply Kd.R_drewN | apply Kd.R_drew)); exact Ob.out) hb)
  have gb_ := Aside0.mk (Nat.le_trans Gb.out hb.size)
  have nb2_ := Aside0.mk (Kd.R_below (by (with_reducible repeat (first | apply Kd.R_alloc | apply Kd.R_drewN | apply Kd.R_drew)); exact Ob2.out) hb)
  have gb2_ := Aside0.mk (Nat.le_trans Gb2.out hb.size)
  clear Ol Gl
  clear Oa Ga
  clear Ob Gb
  clear Ob2 Gb2
  have Ol := nl_
  have Gl := gl_
  clear nl_ gl_
  have Oa := na_
  have Ga := ga_
  clear na_ ga_
  have Ob := nb_
  have Gb := gb_
  clear nb_ gb_
  have Ob2 := nb2_
  have Gb2 := gb2_
  clear nb2_ gb2_
  have nB_ := Aside0.mk (below_step (by repeat (first | (with_reducible first | exact HB.out | apply below_alloc | apply pw_below_drewN | apply below_drew1) | exact HB.out)) hb)
  clear HB
  have HB := nB_
  clear nB_
  clear hb
  go_wp2_with fail
  (with_reducible refine (laws_sameRows.calls k _ _ b _ _ b true _ ?s8a ?s8b ?s9a ?s9b QF7.out).mono ?_)
  case s8a => repeat (first | exact (R_rd Ob.out).1 | (with_reducible refine Kd.C_alloc ?_ _) | (with_reducible refine Kd.C_drewN ?_ _) | (with_reducible refine Kd.C_drew ?_))
  case s8b => exact (R_rd Ob.out).2
  case s9a => repeat (first | exact (R_rd Ob2.out).1 | (with_reducible refine Kd.C_alloc ?_ _) | (with_reducible refine Kd.C_drewN ?_ _) | (with_reducible refine Kd.C_drew ?_))
  case s9b => exact (R_rd Ob2.out).2
  rintro e w7 ⟨rfl, hb⟩
  (try (have hb_ := hb.below; clear hb; have hb := hb_; clear hb_))
  clear Ob2 Gb2
  have nl_ := Aside0.mk (Kd.R_below (by (with_reducible repeat (first | apply Kd.R_alloc | apply Kd.R_drewN | apply Kd.R_drew)); exact Ol.out) hb)
  have gl_ := Aside0.mk (Nat.le_trans Gl.out hb.size)
  have na_ := Aside0.mk (Kd.R_below (by (with_reducible repeat (first | apply Kd.R_alloc | apply Kd.R_drewN | apply Kd.R_drew)); exact Oa.out) hb)
  have ga_ := Aside0.mk (Nat.le_trans Ga.out hb.size)
  have nb_ := Aside0.mk (Kd.R_below (by (with_reducible repeat (first | apply Kd.R_alloc | apply Kd.R_drewN | apply Kd.R_drew)); exact Ob.out) hb)
  have gb_ := Aside0.mk (Nat.le_trans Gb.out hb.size)
  clear Ol Gl
  clear Oa Ga
  clear Ob Gb
  have Ol := nl_
  have Gl := gl_
  clear nl_ gl_
  have Oa := na_
  have Ga := ga_
  clear na_ ga_
  have Ob := nb_
  have Gb := gb_
  clear nb_ gb_
  have nB_ := Aside0.mk (below_step (by repeat (first | (with_reducible first | exact HB.out | apply below_alloc | apply pw_below_drewN | apply below_drew1) | exact HB.out)) hb)
  clear HB
  have HB := nB_
  clear nB_
  clear hb
  go_wp2_with fail
  (with_reducible refine (impl_HashBit.calls ke lev h _  QF8.out).mono ?_)
  rintro e w8 ⟨rfl, hb⟩
  (try (have hb_ := hb.below; clear hb; have hb := hb_; clear hb_))
  have nl_ := Aside0.mk (Kd.R_below (by (with_reducible repeat (first | apply Kd.R_alloc | apply Kd.R_drewN | apply Kd.R_drew)); exact Ol.out) hb)
  have gl_ := Aside0.mk (Nat.le_trans Gl.out hb.size)
  have na_ := Aside0.mk (Kd.R_below (by (with_reducible repeat (first | apply Kd.R_alloc | apply Kd.R_drewN | apply Kd.R_drew)); exact Oa.out) hb)
  have ga_ := Aside0.mk (Nat.le_trans Ga.out hb.size)
  have nb_ := Aside0.mk (Kd.R_below (by (with_reducible repeat (first | apply Kd.R_alloc | apply Kd.R_drewN | apply Kd.R_drew)); exact Ob.out) hb)
  have gb_ := Aside0.mk (Nat.le_trans Gb.out hb.size)
  clear Ol Gl
  clear Oa Ga
  clear Ob Gb
  have Ol := nl_
  have Gl := gl_
  clear nl_ gl_
  have Oa := na_
  have Ga := ga_
  clear na_ ga_
  have Ob := nb_
  have Gb := gb_
  clear nb_ gb_
  have nB_ := Aside0.mk (below_step (by repeat (first | (with_reducible first | exact HB.out | apply below_alloc | apply pw_below_drewN | apply below_drew1) | exact HB.out)) hb)
  clear HB
  have HB := nB_
  clear nB_
  clear hb
  go_wp2_with fail
  (with_reducible refine (spec_HashBit.calls ke lev h _  QF9.out).mono ?_)
  rintro e w9 ⟨rfl, hb⟩
  (try (have hb_ := hb.below; clear hb; have hb := hb_; clear hb_))
  have nl_ := Aside0.mk (Kd.R_below (by (with_reducible repeat (first | apply Kd.R_alloc | apply Kd.R_drewN | apply Kd.R_drew)); exact Ol.out) hb)
  have gl_ := Aside0.mk (Nat.le_trans Gl.out hb.size)
  have na_ := Aside0.mk (Kd.R_below (by (with_reducible repeat (first | apply Kd.R_alloc | apply Kd.R_drewN | apply Kd.R_drew)); exact Oa.out) hb)
  have ga_ := Aside0.mk (Nat.le_trans Ga.out hb.size)
  have nb_ := Aside0.mk (Kd.R_below (by (with_reducible repeat (first | apply Kd.R_alloc | apply Kd.R_drewN | apply Kd.R_drew)); exact Ob.out) hb)
  have gb_ := Aside0.mk (Nat.le_trans Gb.out hb.size)
  clear Ol Gl
  clear Oa Ga
  clear Ob Gb
  have Ol := nl_
  have Gl := gl_
  clear nl_ gl_
  have Oa := na_
  have Ga := ga_
  clear na_ ga_
  have Ob := nb_
  have Gb := gb_
  clear nb_ gb_
  have nB_ := Aside0.mk (below_step (by repeat (first | (with_reducible first | exact HB.out | apply below_alloc | apply pw_below_drewN | apply below_drew1) | exact HB.out)) hb)
  clear HB
  have HB := nB_
  clear nB_
  clear hb
  go_wp2_with fail
  (with_reducible refine (impl_HashBit.calls ke lev h _  QF8.out).mono ?_)
  rintro e w10 ⟨rfl, hb⟩
  (try (have hb_ := hb.below; clear hb; have hb := hb_; clear hb_))
  have nl_ := Aside0.mk (Kd.R_below (by (with_reducible repeat (first | apply Kd.R_alloc | apply Kd.R_drewN | apply Kd.R_drew)); exact Ol.out) hb)
  have gl_ := Aside0.mk (Nat.le_trans Gl.out hb.size)
  have na_ := Aside0.mk (Kd.R_below (by (with_reducible repeat (first | apply Kd.R_alloc | apply Kd.R_drewN | apply Kd.R_drew)); exact Oa.out) hb)
  have ga_ := Aside0.mk (Nat.le_trans Ga.out hb.size)
  have nb_ := Aside0.mk (Kd.R_below (by (with_reducible repeat (first | apply Kd.R_alloc | apply Kd.R_drewN | apply Kd.R_drew)); exact Ob.out) hb)
  have gb_ := Aside0.mk (Nat.le_trans Gb.out hb.size)
  clear Ol Gl
  clear Oa Ga
  clear Ob Gb
  have Ol := nl_
  have Gl := gl_
  clear nl_ gl_
  have Oa := na_
  have Ga := ga_
  clear na_ ga_
  have Ob := nb_
  have Gb := gb_
  clear nb_ gb_
  have nB_ := Aside0.mk (below_step (by repeat (first | (with_reducible first | exact HB.out | apply below_alloc | apply pw_below_drewN | apply below_drew1) | exact HB.out)) hb)
  clear HB
  have HB := nB_
  clear nB_
  clear hb
  go_wp2_with fail
  (with_reducible refine (impl_HashBit.calls ke lev h _  QF8.out).mono ?_)
  rintro e w11 ⟨rfl, hb⟩
  (try (have hb_ := hb.below; clear hb; have hb := hb_; clear hb_))
  have nl_ := Aside0.mk (Kd.R_below (by (with_reducible repeat (first | apply Kd.R_alloc | apply Kd.R_drewN | apply Kd.R_drew)); exact Ol.out) hb)
  have gl_ := Aside0.mk (Nat.le_trans Gl.out hb.size)
  have na_ := Aside0.mk (Kd.R_below (by (with_reducible repeat (first | apply Kd.R_alloc | apply Kd.R_drewN | apply Kd.R_drew)); exact Oa.out) hb)
  have ga_ := Aside0.mk (Nat.le_trans Ga.out hb.size)
  have nb_ := Aside0.mk (Kd.R_below (by (with_reducible repeat (first | apply Kd.R_alloc | apply Kd.R_drewN | apply Kd.R_drew)); exact Ob.out) hb)
  have gb_ := Aside0.mk (Nat.le_trans Gb.out hb.size)
  clear Ol Gl
  clear Oa Ga
  clear Ob Gb
  have Ol := nl_
  have Gl := gl_
  clear nl_ gl_
  have Oa := na_
  have Ga := ga_
  clear na_ ga_
  have Ob := nb_
  have Gb := gb_
  clear nb_ gb_
  have nB_ := Aside0.mk (below_step (by repeat (first | (with_reducible first | exact HB.out | apply below_alloc | apply pw_below_drewN | apply below_drew1) | exact HB.out)) hb)
  clear HB
  have HB := nB_
  clear nB_
  clear hb
  go_wp2_with (first | ((with_reducible refine gate_dst (N := 71) rfl ?_); (try (refine gate_guard (by rfl) ?_; dsimp only)); refine Kd.R_lit k33 _ 33 ?hg12 (N := 71) ?hd12 (xs := ([] : List (S33))) (inner := []) (ok := fun _ => True) (okp := fun _ => True) ?hr12 ?hp12 (fun _ hk => hk) trivial (Below.refl _ _) (Nat.le_refl _) (by simp) ?_; (case hd12 => rfl); (case hg12 => rfl); (case hr12 => first | (go_simp; done) | (go_simp; rfl)); (case hp12 => exact (Reps.none _ _)); intro vy0 w12 ho hb hg_ hnew_; clear hg_ hnew_; obtain ⟨by0, hle_, gy0_, m_⟩ := R_lo ho hb.size (below_size (by repeat (first | (with_reducible first | exact HB.out | apply below_alloc | apply pw_below_drewN | apply below_drew1) | exact HB.out))); clear ho; have Z_l_y0 := Aside0.mk (hle_ _ Gl.out); have Z_a_y0 := Aside0.mk (hle_ _ Ga.out); have Z_b_y0 := Aside0.mk (hle_ _ Gb.out); clear hle_; have nl_ := Aside0.mk (Kd.R_below (by (with_reducible repeat (first | apply Kd.R_alloc | apply Kd.R_drewN | apply Kd.R_drew)); exact Ol.out) hb); have gl_ := Aside0.mk (Nat.le_trans Gl.out hb.size); have na_ := Aside0.mk (Kd.R_below (by (with_reducible repeat (first | apply Kd.R_alloc | apply Kd.R_drewN | apply Kd.R_drew)); exact Oa.out) hb); have ga_ := Aside0.mk (Nat.le_trans Ga.out hb.size); have nb_ := Aside0.mk (Kd.R_below (by (with_reducible repeat (first | apply Kd.R_alloc | apply Kd.R_drewN | apply Kd.R_drew)); exact Ob.out) hb); have gb_ := Aside0.mk (Nat.le_trans Gb.out hb.size); clear Ol Gl; clear Oa Ga; clear Ob Gb; have Ol := nl_; have Gl := gl_; clear nl_ gl_; have Oa := na_; have Ga := ga_; clear na_ ga_; have Ob := nb_; have Gb := gb_; clear nb_ gb_; have nB_ := Aside0.mk (below_step (by repeat (first | (with_reducible first | exact HB.out | apply below_alloc | apply pw_below_drewN | apply below_drew1) | exact HB.out)) hb); clear HB; have HB := nB_; clear nB_; clear hb; have Oy0 := m_; have Gy0 := gy0_; clear m_ gy0_) | ((with_reducible refine gate_builtin (b := .append) (xs := #[.tmp 71, .tmp 72]) rfl ?_); (try (refine gate_guard (by rfl) ?_; dsimp only)); at_builtin; refine Kd.R_append_rows k33 (w0 := w) w.heap.size rfl (.tmp 71) (.tmp 72) 29 33 (.agg #[(.int .i64 0), (.int .i64 0), (.int .i64 0)]) 24 rfl Try.underlying29 info33 rfl (by decide) (by omega) vy0 [] a _ _ _ (Lo by0) (fun _ => False) rfl rfl ?aO13 ?aR13 (fun _ _ h => h) (fun _ h => h.elim) ?aF13 ?aB13 ?aS13 ?aL13 ?_; (case aR13 => repeat (first | exact (R_rd Oa.out).1 | (with_reducible refine Kd.C_alloc ?_ _) | (with_reducible refine Kd.C_drewN ?_ _) | (with_reducible refine Kd.C_drew ?_))); (case aB13 => exact (by repeat (first | (with_reducible first | exact HB.out | apply below_alloc | apply pw_below_drewN | apply below_drew1) | exact HB.out))); (case aF13 => exact (fun k_ hk => Nat.le_trans Gy0.out hk)); (case aO13 => ((with_reducible repeat (first | apply Kd.R_alloc | apply Kd.R_drewN | apply Kd.R_drew)); exact Oy0.out)); (case aS13 => exact (below_size (by repeat (first | (with_reducible first | exact HB.out | apply below_alloc | apply pw_below_drewN | apply below_drew1) | exact HB.out)))); (case aL13 => exact (by have := QL1.out; simp only [List.length_nil]; omega)); intro vy1 w13 ho hb hg hat_; clear hat_; rw [← QE1.out] at ho; have m_ := Aside0.mk ho; clear ho; have gm_ := Aside0.mk (Nat.le_trans Gy0.out hg.size); have nl_ := Aside0.mk (Kd.R_grown (by (with_reducible repeat (first | apply Kd.R_alloc | apply Kd.R_drewN | apply Kd.R_drew)); exact Ol.out) hg (iv_row Oy0.out Z_l_y0.out)); have gl_ := Aside0.mk (Nat.le_trans Gl.out hg.size); have na_ := Aside0.mk (Kd.R_grown (by (with_reducible repeat (first | apply Kd.R_alloc | apply Kd.R_drewN | apply Kd.R_drew)); exact Oa.out) hg (iv_row Oy0.out Z_a_y0.out)); have ga_ := Aside0.mk (Nat.le_trans Ga.out hg.size); have nb_ := Aside0.mk (Kd.R_grown (by (with_reducible repeat (first | apply Kd.R_alloc | apply Kd.R_drewN | apply Kd.R_drew)); exact Ob.out) hg (iv_row Oy0.out Z_b_y0.out)); have gb_ := Aside0.mk (Nat.le_trans Gb.out hg.size); clear Ol Gl; clear Oa Ga; clear Ob Gb; clear Oy0 Gy0; have Ol := nl_; have Gl := gl_; clear nl_ gl_; have Oa := na_; have Ga := ga_; clear na_ ga_; have Ob := nb_; have Gb := gb_; clear nb_ gb_; clear HB; have HB := Aside0.mk hb; have Oy1 := m_; have Gy1 := gm_; clear m_ gm_ hb hg) | ((with_reducible refine gate_builtin (b := .append) (xs := #[.tmp 73, .tmp 74]) rfl ?_); (try (refine gate_guard (by rfl) ?_; dsimp only)); at_builtin; refine Kd.R_append_rows k33 (w0 := w) w.heap.size rfl (.tmp 73) (.tmp 74) 29 33 (.agg #[(.int .i64 0), (.int .i64 0), (.int .i64 0)]) 24 rfl Try.underlying29 info33 rfl (by decide) (by omega) vy1 y1 b _ _ _ (Lo by0) (fun _ => False) rfl rfl ?aO14 ?aR14 (fun _ _ h => h) (fun _ h => h.elim) ?aF14 ?aB14 ?aS14 ?aL14 ?_; (case aR14 => repeat (first | exact (R_rd Ob.out).1 | (with_reducible refine Kd.C_alloc ?_ _) | (with_reducible refine Kd.C_drewN ?_ _) | (with_reducible refine Kd.C_drew ?_))); (case aB14 => exact (by repeat (first | (with_reducible first | exact HB.out | apply below_alloc | apply pw_below_drewN | apply below_drew1) | exact HB.out))); (case aF14 => exact (fun k_ hk => Nat.le_trans Gy1.out hk)); (case aO14 => ((with_reducible repeat (first | apply Kd.R_alloc | apply Kd.R_drewN | apply Kd.R_drew)); exact Oy1.out)); (case aS14 => exact (below_size (by repeat (first | (with_reducible first | exact HB.out | apply below_alloc | apply pw_below_drewN | apply below_drew1) | exact HB.out)))); (case aL14 => exact (by have := QL1.out; have := QL2.out; have e_ := congrArg List.length QE1.out; simp only [List.nil_append] at e_; omega)); intro vy2 w14 ho hb hg hat_; clear hat_; rw [← QE2.out] at ho; have m_ := Aside0.mk ho; clear ho; have gm_ := Aside0.mk (Nat.le_trans Gy1.out hg.size); have nl_ := Aside0.mk (Kd.R_grown (by (with_reducible repeat (first | apply Kd.R_alloc | apply Kd.R_drewN | apply Kd.R_drew)); exact Ol.out) hg (iv_row Oy1.out Z_l_y0.out)); have gl_ := Aside0.mk (Nat.le_trans Gl.out hg.size); have na_ := Aside0.mk (Kd.R_grown (by (with_reducible repeat (first | apply Kd.R_alloc | apply Kd.R_drewN | apply Kd.R_drew)); exact Oa.out) hg (iv_row Oy1.out Z_a_y0.out)); have ga_ := Aside0.mk (Nat.le_trans Ga.out hg.size); have nb_ := Aside0.mk (Kd.R_grown (by (with_reducible repeat (first | apply Kd.R_alloc | apply Kd.R_drewN | apply Kd.R_drew)); exact Ob.out) hg (iv_row Oy1.out Z_b_y0.out)); have gb_ := Aside0.mk (Nat.le_trans Gb.out hg.size); clear Ol Gl; clear Oa Ga; clear Ob Gb; clear Oy1 Gy1; have Ol := nl_; have Gl := gl_; clear nl_ gl_; have Oa := na_; have Ga := ga_; clear na_ ga_; have Ob := nb_; have Gb := gb_; clear nb_ gb_; clear HB; have HB := Aside0.mk hb; have Oy2 := m_; have Gy2 := gm_; clear m_ gm_ hb hg))
  obtain ⟨Ay2, cy2, ey2⟩ := Kd.R_slice Oy2.out
  subst ey2
  (with_reducible refine (spec_EqualBags.calls k _ _ y2 _ _ l true _ ?s10a ?s10b ?s11a ?s11b QF10.out).mono ?_)
  case s10a => repeat (first | exact (R_rd Oy2.out).1 | (with_reducible refine Kd.C_alloc ?_ _) | (with_reducible refine Kd.C_drewN ?_ _) | (with_reducible refine Kd.C_drew ?_))
  case s10b => exact (R_rd Oy2.out).2
  case s11a => repeat (first | exact (R_rd Ol.out).1 | (with_reducible refine Kd.C_alloc ?_ _) | (with_reducible refine Kd.C_drewN ?_ _) | (with_reducible refine Kd.C_drew ?_))
  case s11b => exact (R_rd Ol.out).2
  rintro e w15 ⟨rfl, hb⟩
  (try (have hb_ := hb.below; clear hb; have hb := hb_; clear hb_))
  clear Oy2 Gy2
  have nl_ := Aside0.mk (Kd.R_below (by (with_reducible repeat (first | apply Kd.R_alloc | apply Kd.R_drewN | apply Kd.R_drew)); exact Ol.out) hb)
  have gl_ := Aside0.mk (Nat.le_trans Gl.out hb.size)
  have na_ := Aside0.mk (Kd.R_below (by (with_reducible repeat (first | apply Kd.R_alloc | apply Kd.R_drewN | apply Kd.R_drew)); exact Oa.out) hb)
  have ga_ := Aside0.mk (Nat.le_trans Ga.out hb.size)
  have nb_ := Aside0.mk (Kd.R_below (by (with_reducible repeat (first | apply Kd.R_alloc | apply Kd.R_drewN | apply Kd.R_drew)); exact Ob.out) hb)
  have gb_ := Aside0.mk (Nat.le_trans Gb.out hb.size)
  clear Ol Gl
  clear Oa Ga
  clear Ob Gb
  have Ol := nl_
  have Gl := gl_
  clear nl_ gl_
  have Oa := na_
  have Ga := ga_
  clear na_ ga_
  have Ob := nb_
  have Gb := gb_
  clear nb_ gb_
  have nB_ := Aside0.mk (below_step (by repeat (first | (with_reducible first | exact HB.out | apply below_alloc | apply pw_below_drewN | apply below_drew1) | exact HB.out)) hb)
  clear HB
  have HB := nB_
  clear nB_
  clear hb
  clear Ol Gl
  clear Ga Gb
  go_wp2_with fail
  go_loopg [11] (a.length + 1) (fun kq v11 w' => ∃ (x : Int), v11 = .int .i64 x ∧ Aside0 (∃ i : Nat, x = (i : Int) ∧ i ≤ a.length ∧ i + kq = a.length + 1) ∧ Aside0 (Kd.R k33 33 w' w.heap.size (Iv ba w3.heap.size) (.slice Aa a.length ca) a) ∧ Aside0 (Kd.R k33 33 w' w.heap.size (Iv bb w3.heap.size) (.slice Ab b.length cb) b) ∧ Aside0 (Below w.heap.size w w'))
  case atStart => exact ⟨0, rfl, ⟨0, rfl, Nat.zero_le _, Nat.zero_add _⟩, ⟨by (with_reducible repeat (first | apply Kd.R_alloc | apply Kd.R_drewN | apply Kd.R_drew)); exact Oa.out⟩, ⟨by (with_reducible repeat (first | apply Kd.R_alloc | apply Kd.R_drewN | apply Kd.R_drew)); exact Ob.out⟩, ⟨(by repeat (first | (with_reducible first | exact HB.out | apply below_alloc | apply pw_below_drewN | apply below_drew1) | exact HB.out))⟩⟩
  case round =>
    clear Oa Ob HB
    obtain ⟨x, rfl, HX, Oa, Ob, HB⟩ := hrel
    by_cases hx : x < (a.length : Int)
    · have dx : decide (x < (a.length : Int)) = true := decide_eq_true hx
      have p0 : 0 ≤ x := by obtain ⟨i, e, _⟩ := HX.out; omega
      have PX := Aside0.mk (And.intro p0 hx)
      clear p0 hx
      go_wp2_with fail
      go_loopg [12] (b.length + 1) (fun kq v12 w' => ∃ (y : Int), v12 = .int .i64 y ∧ Aside0 (∃ i : Nat, y = (i : Int) ∧ i ≤ b.length ∧ i + kq = b.length + 1) ∧ Aside0 (Kd.R k33 33 w' w.heap.size (Iv ba w3.heap.size) (.slice Aa a.length ca) a) ∧ Aside0 (Kd.R k33 33 w' w.heap.size (Iv bb w3.heap.size) (.slice Ab b.length cb) b) ∧ Aside0 (Below w.heap.size w w'))
      case atStart => exact ⟨0, rfl, ⟨0, rfl, Nat.zero_le _, Nat.zero_add _⟩, ⟨by (with_reducible repeat (first | apply Kd.R_alloc | apply Kd.R_drewN | apply Kd.R_drew)); exact Oa.out⟩, ⟨by (with_reducible repeat (first | apply Kd.R_alloc | apply Kd.R_drewN | apply Kd.R_drew)); exact Ob.out⟩, ⟨(by repeat (first | (with_reducible first | exact HB.out | apply below_alloc | apply pw_below_drewN | apply below_drew1) | exact HB.out))⟩⟩
      case round =>
        clear Oa Ob HB
        obtain ⟨y, rfl, HY, Oa, Ob, HB⟩ := hrel
        by_cases hy : y < (b.length : Int)
        · have dy : decide (y < (b.length : Int)) = true := decide_eq_true hy
          have q0 : 0 ≤ y := by obtain ⟨i, e, _⟩ := HY.out; omega
          have hne : ((rd_T33 a x).f0 == (rd_T33 b y).f0) = false := by obtain ⟨i, ei, _⟩ := HX.out; obtain ⟨j, ej, _⟩ := HY.out; have h1 := PX.out; rw [ei] at h1 ⊢; rw [ej] at hy ⊢; exact QHD.out i j (by omega) (by omega)
          obtain ⟨p0, hx⟩ := PX.out
          obtain ⟨ada, ea, hxa0, hxa1, hxa2⟩ := at_T33 (R_rd Oa.out).1 x p0 hx
          cases ea
          obtain ⟨adb, eb, hxb0, hxb1, hxb2⟩ := at_T33 (R_rd Ob.out).1 y q0 hy
          cases eb
          have c0_ : decide (0 ≤ x) = true := decide_eq_true p0
          have c1_ : decide (0 ≤ y) = true := decide_eq_true q0
          replace p0 := eq_true p0
          replace hx := eq_true hx
          replace q0 := eq_true q0
          replace hy := eq_true hy
          go_wp2
          repeat (go_quiet (fail); try go_wp2)
          go_roundg (b.length - y.toNat)
          case measure => (obtain ⟨i, e, _, h2⟩ := HY.out; have := of_eq_true hy; omega)
          case rel => exact ⟨wrap64 (y + 1), (by first | rfl | (simp; done)), ⟨by obtain ⟨i, e, _, h2⟩ := HY.out; have := of_eq_true hy; have := QL2.out; exact ⟨i + 1, by unfold wrap64; omega, by omega, by omega⟩⟩, ⟨by (with_reducible repeat (first | apply Kd.R_alloc | apply Kd.R_drewN | apply Kd.R_drew)); exact Oa.out⟩, ⟨by (with_reducible repeat (first | apply Kd.R_alloc | apply Kd.R_drewN | apply Kd.R_drew)); exact Ob.out⟩, ⟨(by repeat (first | (with_reducible first | exact HB.out | apply below_alloc | apply pw_below_drewN | apply below_drew1) | exact HB.out))⟩⟩
        · have dy : decide (y < (b.length : Int)) = false := decide_eq_false hy
          clear hy
          go_wp2
          go_roundg (a.length - x.toNat)
          case measure => (obtain ⟨i, e, _, h2⟩ := HX.out; have := PX.out; omega)
          case rel => exact ⟨wrap64 (x + 1), (by first | rfl | (simp; done)), ⟨by obtain ⟨i, e, _, h2⟩ := HX.out; have := PX.out; have := QL1.out; exact ⟨i + 1, by unfold wrap64; omega, by omega, by omega⟩⟩, ⟨by (with_reducible repeat (first | apply Kd.R_alloc | apply Kd.R_drewN | apply Kd.R_drew)); exact Oa.out⟩, ⟨by (with_reducible repeat (first | apply Kd.R_alloc | apply Kd.R_drewN | apply Kd.R_drew)); exact Ob.out⟩, ⟨(by repeat (first | (with_reducible first | exact HB.out | apply below_alloc | apply pw_below_drewN | apply below_drew1) | exact HB.out))⟩⟩
    · have dx : decide (x < (a.length : Int)) = false := decide_eq_false hx
      clear hx
      go_wp2_with fail
      (with_reducible refine (spec_DrawFirstSplittingLevel.calls k _ _ l0 m _ ?s12a ?s12b QF11.out).mono ?_)
      case s12a => repeat (first | exact (Kd.C_below HR0.out (by repeat (first | (with_reducible first | exact HB.out | apply below_alloc | apply pw_below_drewN | apply below_drew1) | exact HB.out))) | (with_reducible refine Kd.C_alloc ?_ _) | (with_reducible refine Kd.C_drewN ?_ _) | (with_reducible refine Kd.C_drew ?_))
      case s12b => exact HC0.out
      rintro e w16 ⟨vm, rfl, hom, hb⟩
      obtain ⟨bm, hlem, mm_⟩ := R_ivx hom (below_size (by repeat (first | (with_reducible first | exact HB.out | apply below_alloc | apply pw_below_drewN | apply below_drew1) | exact HB.out)))
      clear hom
      clear hlem
      have nB_ := Aside0.mk (below_step (by repeat (first | (with_reducible first | exact HB.out | apply below_alloc | apply pw_below_drewN | apply below_drew1) | exact HB.out)) hb)
      clear HB
      have HB := nB_
      clear nB_
      clear hb
      obtain ⟨Am, cm, em⟩ := Kd.R_slice mm_.out
      subst em
      have Om := mm_
      have Gm := Aside0.mk (Nat.le_refl w16.heap.size)
      clear mm_
      go_wp2_with fail
      (with_reducible refine (impl_FirstSplittingLevel.calls k _ _ m lv _ ?s13a ?s13b QF12.out).mono ?_)
      case s13a => repeat (first | exact (R_rd Om.out).1 | (with_reducible refine Kd.C_alloc ?_ _) | (with_reducible refine Kd.C_drewN ?_ _) | (with_reducible refine Kd.C_drew ?_))
      case s13b => exact (R_rd Om.out).2
      rintro e w17 ⟨rfl, hb⟩
      (try (have hb_ := hb.below; clear hb; have hb := hb_; clear hb_))
      have nm_ := Aside0.mk (Kd.R_below (by (with_reducible repeat (first | apply Kd.R_alloc | apply Kd.R_drewN | apply Kd.R_drew)); exact Om.out) hb)
      have gm_ := Aside0.mk (Nat.le_trans Gm.out hb.size)
      clear Om Gm
      have Om := nm_
      have Gm := gm_
      clear nm_ gm_
      have nB_ := Aside0.mk (below_step (by repeat (first | (with_reducible first | exact HB.out | apply below_alloc | apply pw_below_drewN | apply below_drew1) | exact HB.out)) hb)
      clear HB
      have HB := nB_
      clear nB_
      clear hb
      go_wp2_with fail
      (with_reducible refine (spec_FirstSplittingLevel.calls k _ _ m lv _ ?s14a ?s14b QF13.out).mono ?_)
      case s14a => repeat (first | exact (R_rd Om.out).1 | (with_reducible refine Kd.C_alloc ?_ _) | (with_reducible refine Kd.C_drewN ?_ _) | (with_reducible refine Kd.C_drew ?_))
      case s14b => exact (R_rd Om.out).2
      rintro e w18 ⟨rfl, hb⟩
      (try (have hb_ := hb.below; clear hb; have hb := hb_; clear hb_))
      have nm_ := Aside0.mk (Kd.R_below (by (with_reducible repeat (first | apply Kd.R_alloc | apply Kd.R_drewN | apply Kd.R_drew)); exact Om.out) hb)
      have gm_ := Aside0.mk (Nat.le_trans Gm.out hb.size)
      clear Om Gm
      have Om := nm_
      have Gm := gm_
      clear nm_ gm_
      have nB_ := Aside0.mk (below_step (by repeat (first | (with_reducible first | exact HB.out | apply below_alloc | apply pw_below_drewN | apply below_drew1) | exact HB.out)) hb)
      clear HB
      have HB := nB_
      clear nB_
      clear hb
      go_wp2_with fail
      (with_reducible refine (impl_AllSameKey.calls k _ _ m sk _ ?s15a ?s15b QF14.out).mono ?_)
      case s15a => repeat (first | exact (R_rd Om.out).1 | (with_reducible refine Kd.C_alloc ?_ _) | (with_reducible refine Kd.C_drewN ?_ _) | (with_reducible refine Kd.C_drew ?_))
      case s15b => exact (R_rd Om.out).2
      rintro e w19 ⟨rfl, hb⟩
      (try (have hb_ := hb.below; clear hb; have hb := hb_; clear hb_))
      have nm_ := Aside0.mk (Kd.R_below (by (with_reducible repeat (first | apply Kd.R_alloc | apply Kd.R_drewN | apply Kd.R_drew)); exact Om.out) hb)
      have gm_ := Aside0.mk (Nat.le_trans Gm.out hb.size)
      clear Om Gm
      have Om := nm_
      have Gm := gm_
      clear nm_ gm_
      have nB_ := Aside0.mk (below_step (by repeat (first | (with_reducible first | exact HB.out | apply below_alloc | apply pw_below_drewN | apply below_drew1) | exact HB.out)) hb)
      clear HB
      have HB := nB_
      clear nB_
      clear hb
      cases sk <;> cases av
      · go_wp2_with fail
        (with_reducible refine (spec_AllSameKey.calls k _ _ m false _ ?s16a ?s16b QF15.out).mono ?_)
        case s16a => repeat (first | exact (R_rd Om.out).1 | (with_reducible refine Kd.C_alloc ?_ _) | (with_reducible refine Kd.C_drewN ?_ _) | (with_reducible refine Kd.C_drew ?_))
        case s16b => exact (R_rd Om.out).2
        rintro e w20 ⟨rfl, hb⟩
        (try (have hb_ := hb.below; clear hb; have hb := hb_; clear hb_))
        have nm_ := Aside0.mk (Kd.R_below (by (with_reducible repeat (first | apply Kd.R_alloc | apply Kd.R_drewN | apply Kd.R_drew)); exact Om.out) hb)
        have gm_ := Aside0.mk (Nat.le_trans Gm.out hb.size)
        clear Om Gm
        have Om := nm_
        have Gm := gm_
        clear nm_ gm_
        have nB_ := Aside0.mk (below_step (by repeat (first | (with_reducible first | exact HB.out | apply below_alloc | apply pw_below_drewN | apply below_drew1) | exact HB.out)) hb)
        clear HB
        have HB := nB_
        clear nB_
        clear hb
        go_wp2_with fail
        (with_reducible refine (spec_AreValidRows.calls k _ _ m false _ ?s17a ?s17b QF16.out).mono ?_)
        case s17a => repeat (first | exact (R_rd Om.out).1 | (with_reducible refine Kd.C_alloc ?_ _) | (with_reducible refine Kd.C_drewN ?_ _) | (with_reducible refine Kd.C_drew ?_))
        case s17b => exact (R_rd Om.out).2
        rintro e w21 ⟨rfl, hb⟩
        (try (have hb_ := hb.below; clear hb; have hb := hb_; clear hb_))
        have nm_ := Aside0.mk (Kd.R_below (by (with_reducible repeat (first | apply Kd.R_alloc | apply Kd.R_drewN | apply Kd.R_drew)); exact Om.out) hb)
        have gm_ := Aside0.mk (Nat.le_trans Gm.out hb.size)
        clear Om Gm
        have Om := nm_
        have Gm := gm_
        clear nm_ gm_
        have nB_ := Aside0.mk (below_step (by repeat (first | (with_reducible first | exact HB.out | apply below_alloc | apply pw_below_drewN | apply below_drew1) | exact HB.out)) hb)
        clear HB
        have HB := nB_
        clear nB_
        clear hb
        go_wp2
        go_ret
        exact ⟨by first | rfl | simp, (by repeat (first | (with_reducible first | exact HB.out | apply below_alloc | apply pw_below_drewN | apply below_drew1) | exact HB.out))⟩
      · go_wp2_with fail
        (with_reducible refine (spec_AllSameKey.calls k _ _ m false _ ?s18a ?s18b QF15.out).mono ?_)
        case s18a => repeat (first | exact (R_rd Om.out).1 | (with_reducible refine Kd.C_alloc ?_ _) | (with_reducible refine Kd.C_drewN ?_ _) | (with_reducible refine Kd.C_drew ?_))
        case s18b => exact (R_rd Om.out).2
        rintro e w22 ⟨rfl, hb⟩
        (try (have hb_ := hb.below; clear hb; have hb := hb_; clear hb_))
        have nm_ := Aside0.mk (Kd.R_below (by (with_reducible repeat (first | apply Kd.R_alloc | apply Kd.R_drewN | apply Kd.R_drew)); exact Om.out) hb)
        have gm_ := Aside0.mk (Nat.le_trans Gm.out hb.size)
        clear Om Gm
        have Om := nm_
        have Gm := gm_
        clear nm_ gm_
        have nB_ := Aside0.mk (below_step (by repeat (first | (with_reducible first | exact HB.out | apply below_alloc | apply pw_below_drewN | apply below_drew1) | exact HB.out)) hb)
        clear HB
        have HB := nB_
        clear nB_
        clear hb
        go_wp2_with fail
        (with_reducible refine (spec_AreValidRows.calls k _ _ m true _ ?s19a ?s19b QF16.out).mono ?_)
        case s19a => repeat (first | exact (R_rd Om.out).1 | (with_reducible refine Kd.C_alloc ?_ _) | (with_reducible refine Kd.C_drewN ?_ _) | (with_reducible refine Kd.C_drew ?_))
        case s19b => exact (R_rd Om.out).2
        rintro e w23 ⟨rfl, hb⟩
        (try (have hb_ := hb.below; clear hb; have hb := hb_; clear hb_))
        have nm_ := Aside0.mk (Kd.R_below (by (with_reducible repeat (first | apply Kd.R_alloc | apply Kd.R_drewN | apply Kd.R_drew)); exact Om.out) hb)
        have gm_ := Aside0.mk (Nat.le_trans Gm.out hb.size)
        clear Om Gm
        have Om := nm_
        have Gm := gm_
        clear nm_ gm_
        have nB_ := Aside0.mk (below_step (by repeat (first | (with_reducible first | exact HB.out | apply below_alloc | apply pw_below_drewN | apply below_drew1) | exact HB.out)) hb)
        clear HB
        have HB := nB_
        clear nB_
        clear hb
        have n3_ := Qn3.out (by first | exact trivial | rfl)
        have n5_ : (lv == 4) = false := by simpa using n3_
        clear n3_
        go_wp2_with fail
        (with_reducible refine (impl_AllSameKey.calls k _ _ m false _ ?s20a ?s20b QF14.out).mono ?_)
        case s20a => repeat (first | exact (R_rd Om.out).1 | (with_reducible refine Kd.C_alloc ?_ _) | (with_reducible refine Kd.C_drewN ?_ _) | (with_reducible refine Kd.C_drew ?_))
        case s20b => exact (R_rd Om.out).2
        rintro e w24 ⟨rfl, hb⟩
        (try (have hb_ := hb.below; clear hb; have hb := hb_; clear hb_))
        have nm_ := Aside0.mk (Kd.R_below (by (with_reducible repeat (first | apply Kd.R_alloc | apply Kd.R_drewN | apply Kd.R_drew)); exact Om.out) hb)
        have gm_ := Aside0.mk (Nat.le_trans Gm.out hb.size)
        clear Om Gm
        have Om := nm_
        have Gm := gm_
        clear nm_ gm_
        have nB_ := Aside0.mk (below_step (by repeat (first | (with_reducible first | exact HB.out | apply below_alloc | apply pw_below_drewN | apply below_drew1) | exact HB.out)) hb)
        clear HB
        have HB := nB_
        clear nB_
        clear hb
        go_wp2
        go_ret
        exact ⟨by first | rfl | simp, (by repeat (first | (with_reducible first | exact HB.out | apply below_alloc | apply pw_below_drewN | apply below_drew1) | exact HB.out))⟩
      · go_wp2_with fail
        (with_reducible refine (spec_AllSameKey.calls k _ _ m true _ ?s21a ?s21b QF15.out).mono ?_)
        case s21a => repeat (first | exact (R_rd Om.out).1 | (with_reducible refine Kd.C_alloc ?_ _) | (with_reducible refine Kd.C_drewN ?_ _) | (with_reducible refine Kd.C_drew ?_))
        case s21b => exact (R_rd Om.out).2
        rintro e w25 ⟨rfl, hb⟩
        (try (have hb_ := hb.below; clear hb; have hb := hb_; clear hb_))
        have nm_ := Aside0.mk (Kd.R_below (by (with_reducible repeat (first | apply Kd.R_alloc | apply Kd.R_drewN | apply Kd.R_drew)); exact Om.out) hb)
        have gm_ := Aside0.mk (Nat.le_trans Gm.out hb.size)
        clear Om Gm
        have Om := nm_
        have Gm := gm_
        clear nm_ gm_
        have nB_ := Aside0.mk (below_step (by repeat (first | (with_reducible first | exact HB.out | apply below_alloc | apply pw_below_drewN | apply below_drew1) | exact HB.out)) hb)
        clear HB
        have HB := nB_
        clear nB_
        clear hb
        go_wp2_with fail
        (with_reducible refine (spec_AreValidRows.calls k _ _ m false _ ?s22a ?s22b QF16.out).mono ?_)
        case s22a => repeat (first | exact (R_rd Om.out).1 | (with_reducible refine Kd.C_alloc ?_ _) | (with_reducible refine Kd.C_drewN ?_ _) | (with_reducible refine Kd.C_drew ?_))
        case s22b => exact (R_rd Om.out).2
        rintro e w26 ⟨rfl, hb⟩
        (try (have hb_ := hb.below; clear hb; have hb := hb_; clear hb_))
        have nm_ := Aside0.mk (Kd.R_below (by (with_reducible repeat (first | apply Kd.R_alloc | apply Kd.R_drewN | apply Kd.R_drew)); exact Om.out) hb)
        have gm_ := Aside0.mk (Nat.le_trans Gm.out hb.size)
        clear Om Gm
        have Om := nm_
        have Gm := gm_
        clear nm_ gm_
        have nB_ := Aside0.mk (below_step (by repeat (first | (with_reducible first | exact HB.out | apply below_alloc | apply pw_below_drewN | apply below_drew1) | exact HB.out)) hb)
        clear HB
        have HB := nB_
        clear nB_
        clear hb
        go_wp2
        go_ret
        exact ⟨by first | rfl | simp, (by repeat (first | (with_reducible first | exact HB.out | apply below_alloc | apply pw_below_drewN | apply below_drew1) | exact HB.out))⟩
      · go_wp2_with fail
        (with_reducible refine (spec_AllSameKey.calls k _ _ m true _ ?s23a ?s23b QF15.out).mono ?_)
        case s23a => repeat (first | exact (R_rd Om.out).1 | (with_reducible refine Kd.C_alloc ?_ _) | (with_reducible refine Kd.C_drewN ?_ _) | (with_reducible refine Kd.C_drew ?_))
        case s23b => exact (R_rd Om.out).2
        rintro e w27 ⟨rfl, hb⟩
        (try (have hb_ := hb.below; clear hb; have hb := hb_; clear hb_))
        have nm_ := Aside0.mk (Kd.R_below (by (with_reducible repeat (first | apply Kd.R_alloc | apply Kd.R_drewN | apply Kd.R_drew)); exact Om.out) hb)
        have gm_ := Aside0.mk (Nat.le_trans Gm.out hb.size)
        clear Om Gm
        have Om := nm_
        have Gm := gm_
        clear nm_ gm_
        have nB_ := Aside0.mk (below_step (by repeat (first | (with_reducible first | exact HB.out | apply below_alloc | apply pw_below_drewN | apply below_drew1) | exact HB.out)) hb)
        clear HB
        have HB := nB_
        clear nB_
        clear hb
        go_wp2_with fail
        (with_reducible refine (spec_AreValidRows.calls k _ _ m true _ ?s24a ?s24b QF16.out).mono ?_)
        case s24a => repeat (first | exact (R_rd Om.out).1 | (with_reducible refine Kd.C_alloc ?_ _) | (with_reducible refine Kd.C_drewN ?_ _) | (with_reducible refine Kd.C_drew ?_))
        case s24b => exact (R_rd Om.out).2
        rintro e w28 ⟨rfl, hb⟩
        (try (have hb_ := hb.below; clear hb; have hb := hb_; clear hb_))
        have nm_ := Aside0.mk (Kd.R_below (by (with_reducible repeat (first | apply Kd.R_alloc | apply Kd.R_drewN | apply Kd.R_drew)); exact Om.out) hb)
        have gm_ := Aside0.mk (Nat.le_trans Gm.out hb.size)
        clear Om Gm
        have Om := nm_
        have Gm := gm_
        clear nm_ gm_
        have nB_ := Aside0.mk (below_step (by repeat (first | (with_reducible first | exact HB.out | apply below_alloc | apply pw_below_drewN | apply below_drew1) | exact HB.out)) hb)
        clear HB
        have HB := nB_
        clear nB_
        clear hb
        have n3_ := Qn3.out (by first | exact trivial | rfl)
        have n5_ : (lv == 4) = true := by simpa using n3_
        clear n3_
        go_wp2_with fail
        (with_reducible refine (impl_AllSameKey.calls k _ _ m true _ ?s25a ?s25b QF14.out).mono ?_)
        case s25a => repeat (first | exact (R_rd Om.out).1 | (with_reducible refine Kd.C_alloc ?_ _) | (with_reducible refine Kd.C_drewN ?_ _) | (with_reducible refine Kd.C_drew ?_))
        case s25b => exact (R_rd Om.out).2
        rintro e w29 ⟨rfl, hb⟩
        (try (have hb_ := hb.below; clear hb; have hb := hb_; clear hb_))
        have nm_ := Aside0.mk (Kd.R_below (by (with_reducible repeat (first | apply Kd.R_alloc | apply Kd.R_drewN | apply Kd.R_drew)); exact Om.out) hb)
        have gm_ := Aside0.mk (Nat.le_trans Gm.out hb.size)
        clear Om Gm
        have Om := nm_
        have Gm := gm_
        clear nm_ gm_
        have nB_ := Aside0.mk (below_step (by repeat (first | (with_reducible first | exact HB.out | apply below_alloc | apply pw_below_drewN | apply below_drew1) | exact HB.out)) hb)
        clear HB
        have HB := nB_
        clear nB_
        clear hb
        go_wp2
        go_ret
        exact ⟨by first | rfl | simp, (by repeat (first | (with_reducible first | exact HB.out | apply below_alloc | apply pw_below_drewN | apply below_drew1) | exact HB.out))⟩
/-- What the walk asks of the values. -/
def laws_FnHashSplit.OK (k : Nat) (l0 : List Int) : Prop := laws_big.f l0 = some true ∨ ∃ (l a b m : List S33) (n ke lev h lv : Int) (sk av : Bool), laws_big.f l0 = some false ∧ spec_DrawSplitByHashBit.f k l0 = some (l, n) ∧ impl_SplitByHashBit.f k l n = some (a, b) ∧ spec_SplitByHashBit.f k l n = some (a, b) ∧ spec_DrawHashBit.f k l0 = some (ke, lev) ∧
    laws_sameRows.f k a a = some true ∧ laws_sameRows.f k b b = some true ∧ impl_HashBit.f ke lev = some h ∧ spec_HashBit.f ke lev = some h ∧ ¬ h < 0 ∧ ¬ 1 < h ∧ a.length ≤ 1048576 ∧ b.length ≤ 1048576 ∧ spec_EqualBags.f k (a ++ b) l = some true ∧
    (∀ i j : Nat, i < a.length → j < b.length → ((rd_T33 a (i : Int)).f0 == (rd_T33 b (j : Int)).f0) = false) ∧ spec_DrawFirstSplittingLevel.f k l0 = some m ∧ impl_FirstSplittingLevel.f k m = some lv ∧ spec_FirstSplittingLevel.f k m = some lv ∧
    impl_AllSameKey.f k m = some sk ∧ spec_AllSameKey.f k m = some sk ∧ spec_AreValidRows.f k m = some av ∧ (av = true → ((lv == 4) == sk) = true)
theorem laws_FnHashSplit.calls (k : Nat) (A0 : Option Addr) (c0 : Nat) (l0 : List Int) (r : Bool) (w : World) (hr0 : Kd.C (Kd.int .u8) w A0 l0.length l0) (hc0 : l0.length ≤ c0) (h : laws_FnHashSplit.OK k l0) :
    Calls Try.prog 10 #[.slice A0 l0.length c0] w fun e w' => e = .returned (.bool true) ∧ Below w.heap.size w w' := by
  obtain F1 | ⟨l, a, b, m, n, ke, lev, h, lv, sk, av, F1, F2, F3, F4, F5, F6, F7, F8, F9, n1, n2, L1, L2, F10, HD, F11, F12, F13, F14, F15, F16, n3⟩ := h
  · exact laws_FnHashSplit.big A0 c0 l0 w hr0 hc0 F1
  · exact laws_FnHashSplit.lin k A0 c0 l0 l a b m a (a ++ b) n ke lev h lv sk av w hr0 hc0 F1 F2 F3 F4 F5 F6 F7 F8 F9 n1 n2 rfl rfl L1 L2 F10 HD F11 F12 F13 F14 F15 F16 n3
def laws_FnHashSplit.Pure : Prop := ∀ (l0 : List Int), l0.length ≤ maxLen → l0.length * 1 ≤ 140737488351232 → (∀ x ∈ l0, (Lit.int .u8 x).wf = true) → ∃ k, laws_FnHashSplit.OK k l0
theorem laws_FnHashSplit.walk (P : laws_FnHashSplit.Pure) (a0 : Option Addr) (len0 cap0 : Nat) (z0 : List Int) (w : World) (w0 : (a0 = none ∧ len0 = 0 ∧ cap0 = 0 ∧ z0 = []) ∨ ∃ x, a0 = some x ∧ len0 ≤ cap0 ∧ cap0 ≤ maxLen ∧ z0.length = cap0 ∧ (∀ i, i < z0.length → w.cell? (x.add i) = some (.int .u8 (z0.getD i 0))) ∧ ∀ n ∈ z0, (Lit.int .u8 n).wf = true) (y0 : len0 * 1 ≤ 140737488351232) :
    Calls Try.prog 10 #[.slice a0 len0 cap0] w fun e w' => e = .returned (.bool true) ∧ Below w.heap.size w w' := by
  obtain ⟨l0, rfl, hr0, hm0, hw0, hc0⟩ := ReadsInt.ofRowC w0
  obtain ⟨k, h⟩ := P l0 hm0 y0 hw0
  refine (laws_FnHashSplit.calls k _ _ l0 true w (Kd.C_of_reads (d := (0 : Int)) (h1 := fun _ => rfl) hr0) hc0 h).mono ?_
  rintro e w' ⟨rfl, hd⟩
  exact ⟨rfl, hd⟩
end Go.Proofs.Ytkipmmkjbeeemaa.PFnHashSplit
