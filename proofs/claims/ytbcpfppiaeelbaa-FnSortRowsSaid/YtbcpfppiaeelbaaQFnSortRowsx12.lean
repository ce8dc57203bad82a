/- The walk of the law FnSortRows: every test is decided by the premises; nothing is claimed here. -/
import Derived.Test.YtbcpfppiaeelbaaQFnSortRowsx11
import Derived.Test.YtbcpfppiaeelbaaLin
namespace Go.Proofs.Ytbcpfppiaeelbaa.PFnSortRows
open Go.RowKit Go.Proofs.YtbcpfppiaeelbaaW.PrintWords Go.Proofs.YtbcpfppiaeelbaaW.PrintLast Go.Proofs.YtbcpfppiaeelbaaW.PrintMore Go.Proofs.Ytbcpfppiaeelbaa.Lin
attribute [local go_sem] max2_int min2_int max_two min_two max_three min_three max_four min_four
set_option linter.unusedVariables false
set_option linter.unusedSimpArgs false
set_option maxHeartbeats 4000000 in
set_option maxRecDepth 100000 in
theorem laws_FnSortRows.big (A0 : Option Addr) (c0 : Nat) (l0 : List Int) (w : World) (hr0 : Kd.C (Kd.int .u8) w A0 l0.length l0) (hc0 : l0.length ≤ c0) (F1 : laws_big.f l0 = some true) :
  Calls Try.prog 7 #[.slice A0 l0.length c0] w fun e w' => e = .returned (.bool true) ∧ Below w.heap.size w w' := by
 have HR0 := Aside0.mk hr0
 have HC0 := Aside0.mk hc0
 clear hr0 hc0
 have HB := Aside0.mk (Below.refl w.heap.size w)
 have QF1 := Aside0.mk F1
 clear F1
 go_enter Try.func7, Try.ntmps7
 go_wp2_with fail
 (with_reducible refine (laws_big.calls _ _ l0 true _ ?s1a ?s1b QF1.out).mono ?_)
 case s1a => repeat (first | exact (Kd.C_below HR0.out (by repeat (first | (with_reducible first | exact HB.out | apply below_alloc | apply pw_below_drewN | apply below_drew1) | exact HB.out))) | (with_reducible refine Kd.C_alloc ?_ _) | (with_reducible refine Kd.C_drewN ?_ _) | (with_reducible refine Kd.C_drew ?_))
 case s1b => exact HC0.out
 rintro e w1 ⟨rfl, hb⟩
 (try (have hb_ := hb.below; clear hb; have hb := hb_; clear hb_))
 have nB_ := Aside0.mk (below_step (by repeat (first | (with_reducible first | exact HB.out | apply below_alloc | apply pw_below_drewN | apply below_drew1) | exact HB.out)) hb)
 clear HB
 have HB := nB_
 clear nB_
 clear hb
 go_wp2
 go_ret
 exact ⟨by first | rfl | simp, (by repeat (first | (with_reducible first | exact HB.out | apply below_alloc | apply pw_below_drewN | apply below_drew1) | exact HB.out))⟩
set_option maxHeartbeats 16000000 in
set_option maxRecDepth 100000 in
theorem laws_FnSortRows.lin (k : Nat) (A0 : Option Addr) (c0 : Nat) (l0 : List Int) (l s m : List S36) (x0 x1 x2 y0 y1 y2 c d : Int) (mb : Bool) (w : World) (hr0 : Kd.C (Kd.int .u8) w A0 l0.length l0) (hc0 : l0.length ≤ c0)
  (F1 : laws_big.f l0 = some false) (F2 : spec_DrawSortRows.f k l0 = some l) (F3 : impl_SortRows.f k l = some s) (F4 : spec_DrawCompareRows.f k l0 = some (x0, x1, x2, y0, y1, y2)) (F5 : impl_CompareRows.f x0 x1 x2 y0 y1 y2 = some c) (F6 : spec_DrawIsSorted.f k l0 = some m)
  (F7 : spec_SortRows.f k l = some s) (F8 : laws_sameRows.f k s s = some true) (F9 : impl_IsSorted.f k s = some true) (F10 : impl_EqualBags.f k s l = some true) (F11 : impl_SortRows.f k s = some s) (F12 : spec_CompareRows.f k x0 x1 x2 y0 y1 y2 = some c) (F13 : impl_CompareRows.f y0 y1 y2 x0 x1 x2 = some d) (n1 : c = wrap64 (-d))
  (hX : ((c == 0) = true ∧ (x0 == y0) = true ∧ (x1 == y1) = true ∧ (x2 == y2) = true) ∨ ((c == 0) = false ∧ (x0 == y0) = false) ∨ ((c == 0) = false ∧ (x0 == y0) = true ∧ (x1 == y1) = false) ∨ ((c == 0) = false ∧ (x0 == y0) = true ∧ (x1 == y1) = true ∧ (x2 == y2) = false)) (F14 : impl_IsSorted.f k m = some mb) (F15 : spec_IsSorted.f k m = some mb) :
  Calls Try.prog 7 #[.slice A0 l0.length c0] w fun e w' => e = .returned (.bool true) ∧ Below w.heap.size w w' := by
 have HR0 := Aside0.mk hr0
 have HC0 := Aside0.mk hc0
 clear hr0 hc0
 have HB := Aside0.mk (Below.refl w.heap.size w)
 have QF1 := Aside0.mk F1
 clear F1
 have QF2 := Aside0.mk F2
 clear F2
 have QF3 := Aside0.mk F3
 clear F3
 have QF4 := Aside0.mk F4
 clear F4
 have QF5 := Aside0.mk F5
 clear F5
 have QF6 := Aside0.mk F6
 clear F6
 have QF7 := Aside0.mk F7
 clear F7
 have QF8 := Aside0.mk F8
 clear F8
 have QF9 := Aside0.mk F9
 clear F9
 have QF10 := Aside0.mk F10
 clear F10
 have QF11 := Aside0.mk F11
 clear F11
 have QF12 := Aside0.mk F12
 clear F12
 have QF13 := Aside0.mk F13
 clear F13
 have QF14 := Aside0.mk F14
 clear F14
 have QF15 := Aside0.mk F15
 clear F15
 have QhX := Aside0.mk hX
 clear hX
 have dn0 : (c == wrap64 (-d)) = true := beq_iff_eq.mpr n1
 have dn1 : (c != wrap64 (-d)) = false := bne_eq_false_iff_eq.mpr n1
 clear n1
 have hu36 := Try.underlying36
 go_enter Try.func7, Try.ntmps7
 go_wp2_with fail
 (with_reducible refine (laws_big.calls _ _ l0 false _ ?s1a ?s1b QF1.out).mono ?_)
 case s1a => repeat (first | exact (Kd.C_below HR0.out (by repeat (first | (with_reducible first | exact HB.out | apply below_alloc | apply pw_below_drewN | apply below_drew1) | exact HB.out))) | (with_reducible refine Kd.C_alloc ?_ _) | (with_reducible refine Kd.C_drewN ?_ _) | (with_reducible refine Kd.C_drew ?_))
 case s1b => exact HC0.out
 rintro e w1 ⟨rfl, hb⟩
 (try (have hb_ := hb.below; clear hb; have hb := hb_; clear hb_))
 have nB_ := Aside0.mk (below_step (by repeat (first | (with_reducible first | exact HB.out | apply below_alloc | apply pw_below_drewN | apply below_drew1) | exact HB.out)) hb)
 clear HB
 have HB := nB_
 clear nB_
 clear hb
 go_wp2_with fail
 (with_reducible refine (spec_DrawSortRows.calls k _ _ l0 l _ ?s2a ?s2b QF2.out).mono ?_)
 case s2a => repeat (first | exact (Kd.C_below HR0.out (by repeat (first | (with_reducible first | exact HB.out | apply below_alloc | apply pw_below_drewN | apply below_drew1) | exact HB.out))) | (with_reducible refine Kd.C_alloc ?_ _) | (with_reducible refine Kd.C_drewN ?_ _) | (with_reducible refine Kd.C_drew ?_))
 case s2b => exact HC0.out
 rintro e w2 ⟨vl, rfl, hol, hb⟩
 obtain ⟨bl, hlel, ml_⟩ := R_ivx hol (below_size (by repeat (first | (with_reducible first | exact HB.out | apply below_alloc | apply pw_below_drewN | apply below_drew1) | exact HB.out)))
 clear hol
 clear hlel
 have nB_ := Aside0.mk (below_step (by repeat (first | (with_reducible first | exact HB.out | apply below_alloc | apply pw_below_drewN | apply below_drew1) | exact HB.out)) hb)
 clear HB
 have HB := nB_
 clear nB_
 clear hb
 obtain ⟨Al, cl, el⟩ := Kd.R_slice ml_.out
 subst el
 have Ol := ml_
 have Gl := Aside0.mk (Nat.le_refl w2.heap.size)
 clear ml_
 go_wp2_with fail
 (with_reducible refine (impl_SortRows.calls k _ _ l s _ ?s3a ?s3b QF3.out).mono ?_)
 case s3a => repeat (first | exact (R_rd Ol.out).1 | (with_reducible refine Kd.C_alloc ?_ _) | (with_reducible refine Kd.C_drewN ?_ _) | (with_reducible refine Kd.C_drew ?_))
 case s3b => exact (R_rd Ol.out).2
 rintro e w3 ⟨vs, rfl, hos, hb⟩
 obtain ⟨bs, hles, ms_⟩ := R_ivx hos (below_size (by repeat (first | (with_reducible first | exact HB.out | apply below_alloc | apply pw_below_drewN | apply below_drew1) | exact HB.out)))
 clear hos
 have Z_l_s := Aside0.mk (hles _ Gl.out)
 clear hles
 have nl_ := Aside0.mk (Kd.R_below (by (with_reducible repeat (first | apply Kd.R_alloc | apply Kd.R_drewN | apply Kd.R_drew)); exact Ol.out) hb)
 have gl_ := Aside0.mk (Nat.le_trans Gl.out hb.size)
 clear Ol Gl
 have Ol := nl_
 have Gl := gl_
 clear nl_ gl_
 have nB_ := Aside0.mk (below_step (by repeat (first | (with_reducible first | exact HB.out | apply below_alloc | apply pw_below_drewN | apply below_drew1) | exact HB.out)) hb)
 clear HB
 have HB := nB_
 clear nB_
 clear hb
 obtain ⟨As, cs, es⟩ := Kd.R_slice ms_.out
 subst es
 have Os := ms_
 have Gs := Aside0.mk (Nat.le_refl w3.heap.size)
 clear ms_
 go_wp2_with fail
 (with_reducible refine (spec_DrawCompareRows.calls k _ _ l0 x0 x1 x2 y0 y1 y2 _ ?s4a ?s4b QF4.out).mono ?_)
 case s4a => repeat (first | exact (Kd.C_below HR0.out (by repeat (first | (with_reducible first | exact HB.out | apply below_alloc | apply pw_below_drewN | apply below_drew1) | exact HB.out))) | (with_reducible refine Kd.C_alloc ?_ _) | (with_reducible refine Kd.C_drewN ?_ _) | (with_reducible refine Kd.C_drew ?_))
 case s4b => exact HC0.out
 rintro e w4 ⟨rfl, hb⟩
 (try (have hb_ := hb.below; clear hb; have hb := hb_; clear hb_))
 have nl_ := Aside0.mk (Kd.R_below (by (with_reducible repeat (first | apply Kd.R_alloc | apply Kd.R_drewN | apply Kd.R_drew)); exact Ol.out) hb)
 have gl_ := Aside0.mk (Nat.le_trans Gl.out hb.size)
 have ns_ := Aside0.mk (Kd.R_below (by (with_reducible repeat (first | apply Kd.R_alloc | apply Kd.R_drewN | apply Kd.R_drew)); exact Os.out) hb)
 have gs_ := Aside0.mk (Nat.le_trans Gs.out hb.size)
 clear Ol Gl
 clear Os Gs
 have Ol := nl_
 have Gl := gl_
 clear nl_ gl_
 have Os := ns_
 have Gs := gs_
 clear ns_ gs_
 have nB_ := Aside0.mk (below_step (by repeat (first | (with_reducible first | exact HB.out | apply below_alloc | apply pw_below_drewN | apply below_drew1) | exact HB.out)) hb)
 clear HB
 have HB := nB_
 clear nB_
 clear hb
 go_wp2_with (first | ((with_reducible refine gate_dst (N := 5) rfl ?_); refine box_event ?hg5 (N := 5) ?hd5 (cs := #[.int .i64 0, .int .i64 0, .int .i64 0]) (t := 36) ?hr5 ?_; (case hd5 => rfl); (case hg5 => rfl); (case hr5 => first | (go_simp; done) | (go_simp; rfl)); intro gxa hg w5 hbox hb; have Zb_l_xa := Aside0.mk (by rw [hg]; exact Gl.out : w2.heap.size ≤ gxa); have Zb_s_xa := Aside0.mk (by rw [hg]; exact Gs.out : w3.heap.size ≤ gxa); have GExa := Aside0.mk (by rw [hg]; exact below_size (by repeat (first | (with_reducible first | exact HB.out | apply below_alloc | apply pw_below_drewN | apply below_drew1) | exact HB.out)) : w.heap.size ≤ gxa); have nl_ := Aside0.mk (Kd.R_below (by (with_reducible repeat (first | apply Kd.R_alloc | apply Kd.R_drewN | apply Kd.R_drew)); exact Ol.out) hb); have gl_ := Aside0.mk (Nat.le_trans Gl.out hb.size); have ns_ := Aside0.mk (Kd.R_below (by (with_reducible repeat (first | apply Kd.R_alloc | apply Kd.R_drewN | apply Kd.R_drew)); exact Os.out) hb); have gs_ := Aside0.mk (Nat.le_trans Gs.out hb.size); clear Ol Gl; clear Os Gs; have Ol := nl_; have Gl := gl_; clear nl_ gl_; have Os := ns_; have Gs := gs_; clear ns_ gs_; have nB_ := Aside0.mk (below_step (by repeat (first | (with_reducible first | exact HB.out | apply below_alloc | apply pw_below_drewN | apply below_drew1) | exact HB.out)) hb); clear HB; have HB := nB_; clear nB_; have BKxa := Aside0.mk hbox; clear hb hbox hg; have hz_xa_0 : w5.cell? ⟨gxa, 0, none⟩ = some (.int .i64 0) := (blk_cell BKxa.out 0).trans rfl; have hz_xa_1 : w5.cell? ⟨gxa, 1, none⟩ = some (.int .i64 0) := (blk_cell BKxa.out 1).trans rfl; have hz_xa_2 : w5.cell? ⟨gxa, 2, none⟩ = some (.int .i64 0) := (blk_cell BKxa.out 2).trans rfl; have hfz_xa_0 := blk_frozen BKxa.out 0; have hfz_xa_1 := blk_frozen BKxa.out 1; have hfz_xa_2 := blk_frozen BKxa.out 2) | ((with_reducible refine gate_dst (N := 6) rfl ?_); refine box_event ?hg6 (N := 6) ?hd6 (cs := #[.int .i64 0, .int .i64 0, .int .i64 0]) (t := 36) ?hr6 ?_; (case hd6 => rfl); (case hg6 => rfl); (case hr6 => first | (go_simp; done) | (go_simp; rfl)); intro gxb hg w6 hbox hb; have Zb_l_xb := Aside0.mk (by rw [hg]; exact Gl.out : w2.heap.size ≤ gxb); have Zb_s_xb := Aside0.mk (by rw [hg]; exact Gs.out : w3.heap.size ≤ gxb); have NB_xa_xb := Aside0.mk (by rw [hg]; exact Nat.ne_of_lt (blk_lt BKxa.out) : gxa ≠ gxb); have NB_xb_xa := Aside0.mk (fun h_ => NB_xa_xb.out h_.symm : gxb ≠ gxa); have GExb := Aside0.mk (by rw [hg]; exact below_size (by repeat (first | (with_reducible first | exact HB.out | apply below_alloc | apply pw_below_drewN | apply below_drew1) | exact HB.out)) : w.heap.size ≤ gxb); (try clear hz_xa_0); (try clear hfz_xa_0); (try clear hz_xa_1); (try clear hfz_xa_1); (try clear hz_xa_2); (try clear hfz_xa_2); have nl_ := Aside0.mk (Kd.R_below (by (with_reducible repeat (first | apply Kd.R_alloc | apply Kd.R_drewN | apply Kd.R_drew)); exact Ol.out) hb); have gl_ := Aside0.mk (Nat.le_trans Gl.out hb.size); have ns_ := Aside0.mk (Kd.R_below (by (with_reducible repeat (first | apply Kd.R_alloc | apply Kd.R_drewN | apply Kd.R_drew)); exact Os.out) hb); have gs_ := Aside0.mk (Nat.le_trans Gs.out hb.size); clear Ol Gl; clear Os Gs; have Ol := nl_; have Gl := gl_; clear nl_ gl_; have Os := ns_; have Gs := gs_; clear ns_ gs_; have nB_ := Aside0.mk (below_step (by repeat (first | (with_reducible first | exact HB.out | apply below_alloc | apply pw_below_drewN | apply below_drew1) | exact HB.out)) hb); clear HB; have HB := nB_; clear nB_; have nbxa_ := Aside0.mk (blk_below (by (with_reducible repeat (first | refine blk_drewN ?_ _ | refine blk_drew ?_ | refine blk_alloc ?_ _)); exact BKxa.out) hb); clear BKxa; have BKxa := nbxa_; clear nbxa_; have BKxb := Aside0.mk hbox; clear hb hbox hg; have hz_xa_0 : w6.cell? ⟨gxa, 0, none⟩ = some (.int .i64 0) := (blk_cell BKxa.out 0).trans rfl; have hz_xa_1 : w6.cell? ⟨gxa, 1, none⟩ = some (.int .i64 0) := (blk_cell BKxa.out 1).trans rfl; have hz_xa_2 : w6.cell? ⟨gxa, 2, none⟩ = some (.int .i64 0) := (blk_cell BKxa.out 2).trans rfl; have hz_xb_0 : w6.cell? ⟨gxb, 0, none⟩ = some (.int .i64 0) := (blk_cell BKxb.out 0).trans rfl; have hz_xb_1 : w6.cell? ⟨gxb, 1, none⟩ = some (.int .i64 0) := (blk_cell BKxb.out 1).trans rfl; have hz_xb_2 : w6.cell? ⟨gxb, 2, none⟩ = some (.int .i64 0) := (blk_cell BKxb.out 2).trans rfl; have hfz_xa_0 := blk_frozen BKxa.out 0; have hfz_xa_1 := blk_frozen BKxa.out 1; have hfz_xa_2 := blk_frozen BKxa.out 2; have hn_xa_xb := NB_xa_xb.out; have hfz_xb_0 := blk_frozen BKxb.out 0; have hfz_xb_1 := blk_frozen BKxb.out 1; have hfz_xb_2 := blk_frozen BKxb.out 2; have hn_xb_xa := NB_xb_xa.out))
 have nl_ := Aside0.mk (Kd.R_far (p := ⟨gxb, 2, none⟩) (Kd.R_far (p := ⟨gxb, 1, none⟩) (Kd.R_far (p := ⟨gxb, 0, none⟩) (Kd.R_far (p := ⟨gxa, 2, none⟩) (Kd.R_far (p := ⟨gxa, 1, none⟩) (Kd.R_far (p := ⟨gxa, 0, none⟩) Ol.out (iv_far Zb_l_xa.out) (.int .i64 x0)) (iv_far Zb_l_xa.out) (.int .i64 x1)) (iv_far Zb_l_xa.out) (.int .i64 x2)) (iv_far Zb_l_xb.out) (.int .i64 y0)) (iv_far Zb_l_xb.out) (.int .i64 y1)) (iv_far Zb_l_xb.out) (.int .i64 y2))
 have ns_ := Aside0.mk (Kd.R_far (p := ⟨gxb, 2, none⟩) (Kd.R_far (p := ⟨gxb, 1, none⟩) (Kd.R_far (p := ⟨gxb, 0, none⟩) (Kd.R_far (p := ⟨gxa, 2, none⟩) (Kd.R_far (p := ⟨gxa, 1, none⟩) (Kd.R_far (p := ⟨gxa, 0, none⟩) Os.out (iv_far Zb_s_xa.out) (.int .i64 x0)) (iv_far Zb_s_xa.out) (.int .i64 x1)) (iv_far Zb_s_xa.out) (.int .i64 x2)) (iv_far Zb_s_xb.out) (.int .i64 y0)) (iv_far Zb_s_xb.out) (.int .i64 y1)) (iv_far Zb_s_xb.out) (.int .i64 y2))
 have nbxa_ := Aside0.mk (show ((((((w6.setCell ⟨gxa, 0, none⟩ (.int .i64 x0)).setCell ⟨gxa, 1, none⟩ (.int .i64 x1)).setCell ⟨gxa, 2, none⟩ (.int .i64 x2)).setCell ⟨gxb, 0, none⟩ (.int .i64 y0)).setCell ⟨gxb, 1, none⟩ (.int .i64 y1)).setCell ⟨gxb, 2, none⟩ (.int .i64 y2)).heap[gxa]? = some (.cells #[.int .i64 x0, .int .i64 x1, .int .i64 x2] 36 (0, 0)) from (blk_far (blk_far (blk_far (blk_set (blk_set (blk_set BKxa.out 0 (.int .i64 x0)) 1 (.int .i64 x1)) 2 (.int .i64 x2)) (p := ⟨gxb, 0, none⟩) NB_xa_xb.out (.int .i64 y0)) (p := ⟨gxb, 1, none⟩) NB_xa_xb.out (.int .i64 y1)) (p := ⟨gxb, 2, none⟩) NB_xa_xb.out (.int .i64 y2)))
 have nbxb_ := Aside0.mk (show ((((((w6.setCell ⟨gxa, 0, none⟩ (.int .i64 x0)).setCell ⟨gxa, 1, none⟩ (.int .i64 x1)).setCell ⟨gxa, 2, none⟩ (.int .i64 x2)).setCell ⟨gxb, 0, none⟩ (.int .i64 y0)).setCell ⟨gxb, 1, none⟩ (.int .i64 y1)).setCell ⟨gxb, 2, none⟩ (.int .i64 y2)).heap[gxb]? = some (.cells #[.int .i64 y0, .int .i64 y1, .int .i64 y2] 36 (0, 0)) from (blk_set (blk_set (blk_set (blk_far (blk_far (blk_far BKxb.out (p := ⟨gxa, 0, none⟩) NB_xb_xa.out (.int .i64 x0)) (p := ⟨gxa, 1, none⟩) NB_xb_xa.out (.int .i64 x1)) (p := ⟨gxa, 2, none⟩) NB_xb_xa.out (.int .i64 x2)) 0 (.int .i64 y0)) 1 (.int .i64 y1)) 2 (.int .i64 y2)))
 have nB_ := Aside0.mk (show Below w.heap.size w ((((((w6.setCell ⟨gxa, 0, none⟩ (.int .i64 x0)).setCell ⟨gxa, 1, none⟩ (.int .i64 x1)).setCell ⟨gxa, 2, none⟩ (.int .i64 x2)).setCell ⟨gxb, 0, none⟩ (.int .i64 y0)).setCell ⟨gxb, 1, none⟩ (.int .i64 y1)).setCell ⟨gxb, 2, none⟩ (.int .i64 y2)) from (below_set (below_set (below_set (below_set (below_set (below_set HB.out GExa.out) GExa.out) GExa.out) GExb.out) GExb.out) GExb.out))
 have hs_ : ((((((w6.setCell ⟨gxa, 0, none⟩ (.int .i64 x0)).setCell ⟨gxa, 1, none⟩ (.int .i64 x1)).setCell ⟨gxa, 2, none⟩ (.int .i64 x2)).setCell ⟨gxb, 0, none⟩ (.int .i64 y0)).setCell ⟨gxb, 1, none⟩ (.int .i64 y1)).setCell ⟨gxb, 2, none⟩ (.int .i64 y2)).heap.size = w6.heap.size := by simp [World.setCell]
 have gl_ := Aside0.mk (by rw [hs_]; exact Gl.out : w2.heap.size ≤ ((((((w6.setCell ⟨gxa, 0, none⟩ (.int .i64 x0)).setCell ⟨gxa, 1, none⟩ (.int .i64 x1)).setCell ⟨gxa, 2, none⟩ (.int .i64 x2)).setCell ⟨gxb, 0, none⟩ (.int .i64 y0)).setCell ⟨gxb, 1, none⟩ (.int .i64 y1)).setCell ⟨gxb, 2, none⟩ (.int .i64 y2)).heap.size)
 have gs_ := Aside0.mk (by rw [hs_]; exact Gs.out : w3.heap.size ≤ ((((((w6.setCell ⟨gxa, 0, none⟩ (.int .i64 x0)).setCell ⟨gxa, 1, none⟩ (.int .i64 x1)).setCell ⟨gxa, 2, none⟩ (.int .i64 x2)).setCell ⟨gxb, 0, none⟩ (.int .i64 y0)).setCell ⟨gxb, 1, none⟩ (.int .i64 y1)).setCell ⟨gxb, 2, none⟩ (.int .i64 y2)).heap.size)
 (try clear hz_xa_0)
 (try clear hfz_xa_0)
 (try clear hz_xa_1)
 (try clear hfz_xa_1)
 (try clear hz_xa_2)
 (try clear hfz_xa_2)
 (try clear hn_xa_xb)
 (try clear hz_xb_0)
 (try clear hfz_xb_0)
 (try clear hz_xb_1)
 (try clear hfz_xb_1)
 (try clear hz_xb_2)
 (try clear hfz_xb_2)
 (try clear hn_xb_xa)
 clear hs_ HB
 have HB := nB_
 clear nB_
 clear Ol Gl
 have Ol := nl_
 have Gl := gl_
 clear nl_ gl_
 clear Os Gs
 have Os := ns_
 have Gs := gs_
 clear ns_ gs_
 clear BKxa
 have BKxa := nbxa_
 clear nbxa_
 clear BKxb
 have BKxb := nbxb_
 clear nbxb_
 generalize ((((((w6.setCell ⟨gxa, 0, none⟩ (.int .i64 x0)).setCell ⟨gxa, 1, none⟩ (.int .i64 x1)).setCell ⟨gxa, 2, none⟩ (.int .i64 x2)).setCell ⟨gxb, 0, none⟩ (.int .i64 y0)).setCell ⟨gxb, 1, none⟩ (.int .i64 y1)).setCell ⟨gxb, 2, none⟩ (.int .i64 y2)) = w8 at *
 (with_reducible refine (impl_CompareRows.calls x0 x1 x2 y0 y1 y2 c _  QF5.out).mono ?_)
 rintro e w8 ⟨rfl, hb⟩
 (try (have hb_ := hb.below; clear hb; have hb := hb_; clear hb_))
 have nl_ := Aside0.mk (Kd.R_below (by (with_reducible repeat (first | apply Kd.R_alloc | apply Kd.R_drewN | apply Kd.R_drew)); exact Ol.out) hb)
 have gl_ := Aside0.mk (Nat.le_trans Gl.out hb.size)
 have ns_ := Aside0.mk (Kd.R_below (by (with_reducible repeat (first | apply Kd.R_alloc | apply Kd.R_drewN | apply Kd.R_drew)); exact Os.out) hb)
 have gs_ := Aside0.mk (Nat.le_trans Gs.out hb.size)
 clear Ol Gl
 clear Os Gs
 have Ol := nl_
 have Gl := gl_
 clear nl_ gl_
 have Os := ns_
 have Gs := gs_
 clear ns_ gs_
 have nB_ := Aside0.mk (below_step (by repeat (first | (with_reducible first | exact HB.out | apply below_alloc | apply pw_below_drewN | apply below_drew1) | exact HB.out)) hb)
 clear HB
 have HB := nB_
 clear nB_
 have nbxa_ := Aside0.mk (blk_below (by (with_reducible repeat (first | refine blk_drewN ?_ _ | refine blk_drew ?_ | refine blk_alloc ?_ _)); exact BKxa.out) hb)
 have nbxb_ := Aside0.mk (blk_below (by (with_reducible repeat (first | refine blk_drewN ?_ _ | refine blk_drew ?_ | refine blk_alloc ?_ _)); exact BKxb.out) hb)
 clear BKxa
 have BKxa := nbxa_
 clear nbxa_
 clear BKxb
 have BKxb := nbxb_
 clear nbxb_
 clear hb
 go_wp2_with fail
 (with_reducible refine (spec_DrawIsSorted.calls k _ _ l0 m _ ?s5a ?s5b QF6.out).mono ?_)
 case s5a => repeat (first | exact (Kd.C_below HR0.out (by repeat (first | (with_reducible first | exact HB.out | apply below_alloc | apply pw_below_drewN | apply below_drew1) | exact HB.out))) | (with_reducible refine Kd.C_alloc ?_ _) | (with_reducible refine Kd.C_drewN ?_ _) | (with_reducible refine Kd.C_drew ?_))
 case s5b => exact HC0.out
 rintro e w9 ⟨vm, rfl, hom, hb⟩
 obtain ⟨bm, hlem, mm_⟩ := R_ivx hom (below_size (by repeat (first | (with_reducible first | exact HB.out | apply below_alloc | apply pw_below_drewN | apply below_drew1) | exact HB.out)))
 clear hom
 have Z_l_m := Aside0.mk (hlem _ Gl.out)
 have Z_s_m := Aside0.mk (hlem _ Gs.out)
 have Y_xa_m := Aside0.mk (hlem _ (blk_lt BKxa.out))
 have Y_xb_m := Aside0.mk (hlem _ (blk_lt BKxb.out))
 clear hlem
 have nl_ := Aside0.mk (Kd.R_below (by (with_reducible repeat (first | apply Kd.R_alloc | apply Kd.R_drewN | apply Kd.R_drew)); exact Ol.out) hb)
 have gl_ := Aside0.mk (Nat.le_trans Gl.out hb.size)
 have ns_ := Aside0.mk (Kd.R_below (by (with_reducible repeat (first | apply Kd.R_alloc | apply Kd.R_drewN | apply Kd.R_drew)); exact Os.out) hb)
 have gs_ := Aside0.mk (Nat.le_trans Gs.out hb.size)
 clear Ol Gl
 clear Os Gs
 have Ol := nl_
 have Gl := gl_
 clear nl_ gl_
 have Os := ns_
 have Gs := gs_
 clear ns_ gs_
 have nB_ := Aside0.mk (below_step (by repeat (first | (with_reducible first | exact HB.out | apply below_alloc | apply pw_below_drewN | apply below_drew1) | exact HB.out)) hb)
 clear HB
 have HB := nB_
 clear nB_
 have nbxa_ := Aside0.mk (blk_below (by (with_reducible repeat (first | refine blk_drewN ?_ _ | refine blk_drew ?_ | refine blk_alloc ?_ _)); exact BKxa.out) hb)
 have nbxb_ := Aside0.mk (blk_below (by (with_reducible repeat (first | refine blk_drewN ?_ _ | refine blk_drew ?_ | refine blk_alloc ?_ _)); exact BKxb.out) hb)
 clear BKxa
 have BKxa := nbxa_
 clear nbxa_
 clear BKxb
 have BKxb := nbxb_
 clear nbxb_
 clear hb
 obtain ⟨Am, cm, em⟩ := Kd.R_slice mm_.out
 subst em
 have Om := mm_
 have Gm := Aside0.mk (Nat.le_refl w9.heap.size)
 clear mm_
 go_wp2_with fail
 (with_reducible refine (spec_SortRows.calls k _ _ l s _ ?s6a ?s6b QF7.out).mono ?_)
 case s6a => repeat (first | exact (R_rd Ol.out).1 | (with_reducible refine Kd.C_alloc ?_ _) | (with_reducible refine Kd.C_drewN ?_ _) | (with_reducible refine Kd.C_drew ?_))
 case s6b => exact (R_rd Ol.out).2
 rintro e w10 ⟨vs2, rfl, hos2, hb⟩
 obtain ⟨bs2, hles2, ms2_⟩ := R_ivx hos2 (below_size (by repeat (first | (with_reducible first | exact HB.out | apply below_alloc | apply pw_below_drewN | apply below_drew1) | exact HB.out)))
 clear hos2
 have Z_l_s2 := Aside0.mk (hles2 _ Gl.out)
 have Z_s_s2 := Aside0.mk (hles2 _ Gs.out)
 have Z_m_s2 := Aside0.mk (hles2 _ Gm.out)
 have Y_xa_s2 := Aside0.mk (hles2 _ (blk_lt BKxa.out))
 have Y_xb_s2 := Aside0.mk (hles2 _ (blk_lt BKxb.out))
 clear hles2
 have nl_ := Aside0.mk (Kd.R_below (by (with_reducible repeat (first | apply Kd.R_alloc | apply Kd.R_drewN | apply Kd.R_drew)); exact Ol.out) hb)
 have gl_ := Aside0.mk (Nat.le_trans Gl.out hb.size)
 have ns_ := Aside0.mk (Kd.R_below (by (with_reducible repeat (first | apply Kd.R_alloc | apply Kd.R_drewN | apply Kd.R_drew)); exact Os.out) hb)
 have gs_ := Aside0.mk (Nat.le_trans Gs.out hb.size)
 have nm_ := Aside0.mk (Kd.R_below (by (with_reducible repeat (first | apply Kd.R_alloc | apply Kd.R_drewN | apply Kd.R_drew)); exact Om.out) hb)
 have gm_ := Aside0.mk (Nat.le_trans Gm.out hb.size)
 clear Ol Gl
 clear Os Gs
 clear Om Gm
 have Ol := nl_
 have Gl := gl_
 clear nl_ gl_
 have Os := ns_
 have Gs := gs_
 clear ns_ gs_
 have Om := nm_
 have Gm := gm_
 clear nm_ gm_
 have nB_ := Aside0.mk (below_step (by repeat (first | (with_reducible first | exact HB.out | apply below_alloc | apply pw_below_drewN | apply below_drew1) | exact HB.out)) hb)
 clear HB
 have HB := nB_
 clear nB_
 have nbxa_ := Aside0.mk (blk_below (by (with_reducible repeat (first | refine blk_drewN ?_ _ | refine blk_drew ?_ | refine blk_alloc ?_ _)); exact BKxa.out) hb)
 have nbxb_ := Aside0.mk (blk_below (by (with_reducible repeat (first | refine blk_drewN ?_ _ | refine blk_drew ?_ | refine blk_alloc ?_ _)); exact BKxb.out) hb)
 clear BKxa
 have BKxa := nbxa_
 clear nbxa_
 clear BKxb
 have BKxb := nbxb_
 clear nbxb_
 clear hb
 obtain ⟨As2, cs2, es2⟩ := Kd.R_slice ms2_.out
 subst es2
 have Os2 := ms2_
 have Gs2 := Aside0.mk (Nat.le_refl w10.heap.size)
 clear ms2_
 go_wp2_with fail
 (with_reducible refine (laws_sameRows.calls k _ _ s _ _ s true _ ?s7a ?s7b ?s8a ?s8b QF8.out).mono ?_)
 case s7a => repeat (first | exact (R_rd Os.out).1 | (with_reducible refine Kd.C_alloc ?_ _) | (with_reducible refine Kd.C_drewN ?_ _) | (with_reducible refine Kd.C_drew ?_))
 case s7b => exact (R_rd Os.out).2
 case s8a => repeat (first | exact (R_rd Os2.out).1 | (with_reducible refine Kd.C_alloc ?_ _) | (with_reducible refine Kd.C_drewN ?_ _) | (with_reducible refine Kd.C_drew ?_))
 case s8b => exact (R_rd Os2.out).2
 rintro e w11 ⟨rfl, hb⟩
 (try (have hb_ := hb.below; clear hb; have hb := hb_; clear hb_))
 clear Os2 Gs2
 have nl_ := Aside0.mk (Kd.R_below (by (with_reducible repeat (first | apply Kd.R_alloc | apply Kd.R_drewN | apply Kd.R_drew)); exact Ol.out) hb)
 have gl_ := Aside0.mk (Nat.le_trans Gl.out hb.size)
 have ns_ := Aside0.mk (Kd.R_below (by (with_reducible repeat (first | apply Kd.R_alloc | apply Kd.R_drewN | apply Kd.R_drew)); exact Os.out) hb)
 have gs_ := Aside0.mk (Nat.le_trans Gs.out hb.size)
 have nm_ := Aside0.mk (Kd.R_below (by (with_reducible repeat (first | apply Kd.R_alloc | apply Kd.R_drewN | apply Kd.R_drew)); exact Om.out) hb)
 have gm_ := Aside0.mk (Nat.le_trans Gm.out hb.size)
 clear Ol Gl
 clear Os Gs
 clear Om Gm
 have Ol := nl_
 have Gl := gl_
 clear nl_ gl_
 have Os := ns_
 have Gs := gs_
 clear ns_ gs_
 have Om := nm_
 have Gm := gm_
 clear nm_ gm_
 have nB_ := Aside0.mk (below_step (by repeat (first | (with_reducible first | exact HB.out | apply below_alloc | apply pw_below_drewN | apply below_drew1) | exact HB.out)) hb)
 clear HB
 have HB := nB_
 clear nB_
 have nbxa_ := Aside0.mk (blk_below (by (with_reducible repeat (first | refine blk_drewN ?_ _ | refine blk_drew ?_ | refine blk_alloc ?_ _)); exact BKxa.out) hb)
 have nbxb_ := Aside0.mk (blk_below (by (with_reducible repeat (first | refine blk_drewN ?_ _ | refine blk_drew ?_ | refine blk_alloc ?_ _)); exact BKxb.out) hb)
 clear BKxa
 have BKxa := nbxa_
 clear nbxa_
 clear BKxb
 have BKxb := nbxb_
 clear nbxb_
 clear hb
 go_wp2_with fail
 (with_reducible refine (impl_IsSorted.calls k _ _ s true _ ?s9a ?s9b QF9.out).mono ?_)
 case s9a => repeat (first | exact (R_rd Os.out).1 | (with_reducible refine Kd.C_alloc ?_ _) | (with_reducible refine Kd.C_drewN ?_ _) | (with_reducible refine Kd.C_drew ?_))
 case s9b => exact (R_rd Os.out).2
 rintro e w12 ⟨rfl, hb⟩
 (try (have hb_ := hb.below; clear hb; have hb := hb_; clear hb_))
 have nl_ := Aside0.mk (Kd.R_below (by (with_reducible repeat (first | apply Kd.R_alloc | apply Kd.R_drewN | apply Kd.R_drew)); exact Ol.out) hb)
 have gl_ := Aside0.mk (Nat.le_trans Gl.out hb.size)
 have ns_ := Aside0.mk (Kd.R_below (by (with_reducible repeat (first | apply Kd.R_alloc | apply Kd.R_drewN | apply Kd.R_drew)); exact Os.out) hb)
 have gs_ := Aside0.mk (Nat.le_trans Gs.out hb.size)
 have nm_ := Aside0.mk (Kd.R_below (by (with_reducible repeat (first | apply Kd.R_alloc | apply Kd.R_drewN | apply Kd.R_drew)); exact Om.out) hb)
 have gm_ := Aside0.mk (Nat.le_trans Gm.out hb.size)
 clear Ol Gl
 clear Os Gs
 clear Om Gm
 have Ol := nl_
 have Gl := gl_
 clear nl_ gl_
 have Os := ns_
 have Gs := gs_
 clear ns_ gs_
 have Om := nm_
 have Gm := gm_
 clear nm_ gm_
 have nB_ := Aside0.mk (below_step (by repeat (first | (with_reducible first | exact HB.out | apply below_alloc | apply pw_below_drewN | apply below_drew1) | exact HB.out)) hb)
 clear HB
 have HB := nB_
 clear nB_
 have nbxa_ := Aside0.mk (blk_below (by (with_reducible repeat (first | refine blk_drewN ?_ _ | refine blk_drew ?_ | refine blk_alloc ?_ _)); exact BKxa.out) hb)
 have nbxb_ := Aside0.mk (blk_below (by (with_reducible repeat (first | refine blk_drewN ?_ _ | refine blk_drew ?_ | refine blk_alloc ?_ _)); exact BKxb.out) hb)
 clear BKxa
 have BKxa := nbxa_
 clear nbxa_
 clear BKxb
 have BKxb := nbxb_
 clear nbxb_
 clear hb
 go_wp2_with fail
 (with_reducible refine (impl_EqualBags.calls k _ _ s _ _ l true _ ?s10a ?s10b ?s11a ?s11b QF10.out).mono ?_)
 case s10a => repeat (first | exact (R_rd Os.out).1 | (with_reducible refine Kd.C_alloc ?_ _) | (with_reducible refine Kd.C_drewN ?_ _) | (with_reducible refine Kd.C_drew ?_))
 case s10b => exact (R_rd Os.out).2
 case s11a => repeat (first | exact (R_rd Ol.out).1 | (with_reducible refine Kd.C_alloc ?_ _) | (with_reducible refine Kd.C_drewN ?_ _) | (with_reducible refine Kd.C_drew ?_))
 case s11b => exact (R_rd Ol.out).2
 rintro e w13 ⟨rfl, hb⟩
 (try (have hb_ := hb.below; clear hb; have hb := hb_; clear hb_))
 have nl_ := Aside0.mk (Kd.R_below (by (with_reducible repeat (first | apply Kd.R_alloc | apply Kd.R_drewN | apply Kd.R_drew)); exact Ol.out) hb)
 have gl_ := Aside0.mk (Nat.le_trans Gl.out hb.size)
 have ns_ := Aside0.mk (Kd.R_below (by (with_reducible repeat (first | apply Kd.R_alloc | apply Kd.R_drewN | apply Kd.R_drew)); exact Os.out) hb)
 have gs_ := Aside0.mk (Nat.le_trans Gs.out hb.size)
 have nm_ := Aside0.mk (Kd.R_below (by (with_reducible repeat (first | apply Kd.R_alloc | apply Kd.R_drewN | apply Kd.R_drew)); exact Om.out) hb)
 have gm_ := Aside0.mk (Nat.le_trans Gm.out hb.size)
 clear Ol Gl
 clear Os Gs
 clear Om Gm
 have Ol := nl_
 have Gl := gl_
 clear nl_ gl_
 have Os := ns_
 have Gs := gs_
 clear ns_ gs_
 have Om := nm_
 have Gm := gm_
 clear nm_ gm_
 have nB_ := Aside0.mk (below_step (by repeat (first | (with_reducible first | exact HB.out | apply below_alloc | apply pw_below_drewN | apply below_drew1) | exact HB.out)) hb)
 clear HB
 have HB := nB_
 clear nB_
 have nbxa_ := Aside0.mk (blk_below (by (with_reducible repeat (first | refine blk_drewN ?_ _ | refine blk_drew ?_ | refine blk_alloc ?_ _)); exact BKxa.out) hb)
 have nbxb_ := Aside0.mk (blk_below (by (with_reducible repeat (first | refine blk_drewN ?_ _ | refine blk_drew ?_ | refine blk_alloc ?_ _)); exact BKxb.out) hb)
 clear BKxa
 have BKxa := nbxa_
 clear nbxa_
 clear BKxb
 have BKxb := nbxb_
 clear nbxb_
 clear hb
 go_wp2_with fail
 (with_reducible refine (impl_SortRows.calls k _ _ s s _ ?s12a ?s12b QF11.out).mono ?_)
 case s12a => repeat (first | exact (R_rd Os.out).1 | (with_reducible refine Kd.C_alloc ?_ _) | (with_reducible refine Kd.C_drewN ?_ _) | (with_reducible refine Kd.C_drew ?_))
 case s12b => exact (R_rd Os.out).2
 rintro e w14 ⟨vs3, rfl, hos3, hb⟩
 obtain ⟨bs3, hles3, ms3_⟩ := R_ivx hos3 (below_size (by repeat (first | (with_reducible first | exact HB.out | apply below_alloc | apply pw_below_drewN | apply below_drew1) | exact HB.out)))
 clear hos3
 have Z_l_s3 := Aside0.mk (hles3 _ Gl.out)
 have Z_s_s3 := Aside0.mk (hles3 _ Gs.out)
 have Z_m_s3 := Aside0.mk (hles3 _ Gm.out)
 have Y_xa_s3 := Aside0.mk (hles3 _ (blk_lt BKxa.out))
 have Y_xb_s3 := Aside0.mk (hles3 _ (blk_lt BKxb.out))
 clear hles3
 have nl_ := Aside0.mk (Kd.R_below (by (with_reducible repeat (first | apply Kd.R_alloc | apply Kd.R_drewN | apply Kd.R_drew)); exact Ol.out) hb)
 have gl_ := Aside0.mk (Nat.le_trans Gl.out hb.size)
 have ns_ := Aside0.mk (Kd.R_below (by (with_reducible repeat (first | apply Kd.R_alloc | apply Kd.R_drewN | apply Kd.R_drew)); exact Os.out) hb)
 have gs_ := Aside0.mk (Nat.le_trans Gs.out hb.size)
 have nm_ := Aside0.mk (Kd.R_below (by (with_reducible repeat (first | apply Kd.R_alloc | apply Kd.R_drewN | apply Kd.R_drew)); exact Om.out) hb)
 have gm_ := Aside0.mk (Nat.le_trans Gm.out hb.size)
 clear Ol Gl
 clear Os Gs
 clear Om Gm
 have Ol := nl_
 have Gl := gl_
 clear nl_ gl_
 have Os := ns_
 have Gs := gs_
 clear ns_ gs_
 have Om := nm_
 have Gm := gm_
 clear nm_ gm_
 have nB_ := Aside0.mk (below_step (by repeat (first | (with_reducible first | exact HB.out | apply below_alloc | apply pw_below_drewN | apply below_drew1) | exact HB.out)) hb)
 clear HB
 have HB := nB_
 clear nB_
 have nbxa_ := Aside0.mk (blk_below (by (with_reducible repeat (first | refine blk_drewN ?_ _ | refine blk_drew ?_ | refine blk_alloc ?_ _)); exact BKxa.out) hb)
 have nbxb_ := Aside0.mk (blk_below (by (with_reducible repeat (first | refine blk_drewN ?_ _ | refine blk_drew ?_ | refine blk_alloc ?_ _)); exact BKxb.out) hb)
 clear BKxa
 have BKxa := nbxa_
 clear nbxa_
 clear BKxb
 have BKxb := nbxb_
 clear nbxb_
 clear hb
 obtain ⟨As3, cs3, es3⟩ := Kd.R_slice ms3_.out
 subst es3
 have Os3 := ms3_
 have Gs3 := Aside0.mk (Nat.le_refl w14.heap.size)
 clear ms3_
 go_wp2_with fail
 (with_reducible refine (laws_sameRows.calls k _ _ s _ _ s true _ ?s13a ?s13b ?s14a ?s14b QF8.out).mono ?_)
 case s13a => repeat (first | exact (R_rd Os3.out).1 | (with_reducible refine Kd.C_alloc ?_ _) | (with_reducible refine Kd.C_drewN ?_ _) | (with_reducible refine Kd.C_drew ?_))
 case s13b => exact (R_rd Os3.out).2
 case s14a => repeat (first | exact (R_rd Os.out).1 | (with_reducible refine Kd.C_alloc ?_ _) | (with_reducible refine Kd.C_drewN ?_ _) | (with_reducible refine Kd.C_drew ?_))
 case s14b => exact (R_rd Os.out).2
 rintro e w15 ⟨rfl, hb⟩
 (try (have hb_ := hb.below; clear hb; have hb := hb_; clear hb_))
 clear Os3 Gs3
 have nl_ := Aside0.mk (Kd.R_below (by (with_reducible repeat (first | apply Kd.R_alloc | apply Kd.R_drewN | apply Kd.R_drew)); exact Ol.out) hb)
 have gl_ := Aside0.mk (Nat.le_trans Gl.out hb.size)
 have ns_ := Aside0.mk (Kd.R_below (by (with_reducible repeat (first | apply Kd.R_alloc | apply Kd.R_drewN | apply Kd.R_drew)); exact Os.out) hb)
 have gs_ := Aside0.mk (Nat.le_trans Gs.out hb.size)
 have nm_ := Aside0.mk (Kd.R_below (by (with_reducible repeat (first | apply Kd.R_alloc | apply Kd.R_drewN | apply Kd.R_drew)); exact Om.out) hb)
 have gm_ := Aside0.mk (Nat.le_trans Gm.out hb.size)
 clear Ol Gl
 clear Os Gs
 clear Om Gm
 have Ol := nl_
 have Gl := gl_
 clear nl_ gl_
 have Os := ns_
 have Gs := gs_
 clear ns_ gs_
 have Om := nm_
 have Gm := gm_
 clear nm_ gm_
 have nB_ := Aside0.mk (below_step (by repeat (first | (with_reducible first | exact HB.out | apply below_alloc | apply pw_below_drewN | apply below_drew1) | exact HB.out)) hb)
 clear HB
 have HB := nB_
 clear nB_
 have nbxa_ := Aside0.mk (blk_below (by (with_reducible repeat (first | refine blk_drewN ?_ _ | refine blk_drew ?_ | refine blk_alloc ?_ _)); exact BKxa.out) hb)
 have nbxb_ := Aside0.mk (blk_below (by (with_reducible repeat (first | refine blk_drewN ?_ _ | refine blk_drew ?_ | refine blk_alloc ?_ _)); exact BKxb.out) hb)
 clear BKxa
 have BKxa := nbxa_
 clear nbxa_
 clear BKxb
 have BKxb := nbxb_
 clear nbxb_
 clear hb
 have hz_xa_0 : w15.cell? ⟨gxa, 0, none⟩ = some (.int .i64 x0) := (blk_cell BKxa.out 0).trans rfl
 have hz_xa_1 : w15.cell? ⟨gxa, 1, none⟩ = some (.int .i64 x1) := (blk_cell BKxa.out 1).trans rfl
 have hz_xa_2 : w15.cell? ⟨gxa, 2, none⟩ = some (.int .i64 x2) := (blk_cell BKxa.out 2).trans rfl
 have hz_xb_0 : w15.cell? ⟨gxb, 0, none⟩ = some (.int .i64 y0) := (blk_cell BKxb.out 0).trans rfl
 have hz_xb_1 : w15.cell? ⟨gxb, 1, none⟩ = some (.int .i64 y1) := (blk_cell BKxb.out 1).trans rfl
 have hz_xb_2 : w15.cell? ⟨gxb, 2, none⟩ = some (.int .i64 y2) := (blk_cell BKxb.out 2).trans rfl
 go_wp2_with fail
 (with_reducible refine (spec_CompareRows.calls k x0 x1 x2 y0 y1 y2 c _  QF12.out).mono ?_)
 rintro e w16 ⟨rfl, hb⟩
 (try (have hb_ := hb.below; clear hb; have hb := hb_; clear hb_))
 (try clear hz_xa_0)
 (try clear hfz_xa_0)
 (try clear hz_xa_1)
 (try clear hfz_xa_1)
 (try clear hz_xa_2)
 (try clear hfz_xa_2)
 (try clear hn_xa_xb)
 (try clear hz_xb_0)
 (try clear hfz_xb_0)
 (try clear hz_xb_1)
 (try clear hfz_xb_1)
 (try clear hz_xb_2)
 (try clear hfz_xb_2)
 (try clear hn_xb_xa)
 have nl_ := Aside0.mk (Kd.R_below (by (with_reducible repeat (first | apply Kd.R_alloc | apply Kd.R_drewN | apply Kd.R_drew)); exact Ol.out) hb)
 have gl_ := Aside0.mk (Nat.le_trans Gl.out hb.size)
 have ns_ := Aside0.mk (Kd.R_below (by (with_reducible repeat (first | apply Kd.R_alloc | apply Kd.R_drewN | apply Kd.R_drew)); exact Os.out) hb)
 have gs_ := Aside0.mk (Nat.le_trans Gs.out hb.size)
 have nm_ := Aside0.mk (Kd.R_below (by (with_reducible repeat (first | apply Kd.R_alloc | apply Kd.R_drewN | apply Kd.R_drew)); exact Om.out) hb)
 have gm_ := Aside0.mk (Nat.le_trans Gm.out hb.size)
 clear Ol Gl
 clear Os Gs
 clear Om Gm
 have Ol := nl_
 have Gl := gl_
 clear nl_ gl_
 have Os := ns_
 have Gs := gs_
 clear ns_ gs_
 have Om := nm_
 have Gm := gm_
 clear nm_ gm_
 have nB_ := Aside0.mk (below_step (by repeat (first | (with_reducible first | exact HB.out | apply below_alloc | apply pw_below_drewN | apply below_drew1) | exact HB.out)) hb)
 clear HB
 have HB := nB_
 clear nB_
 have nbxa_ := Aside0.mk (blk_below (by (with_reducible repeat (first | refine blk_drewN ?_ _ | refine blk_drew ?_ | refine blk_alloc ?_ _)); exact BKxa.out) hb)
 have nbxb_ := Aside0.mk (blk_below (by (with_reducible repeat (first | refine blk_drewN ?_ _ | refine blk_drew ?_ | refine blk_alloc ?_ _)); exact BKxb.out) hb)
 clear BKxa
 have BKxa := nbxa_
 clear nbxa_
 clear BKxb
 have BKxb := nbxb_
 clear nbxb_
 clear hb
 have hz_xa_0 : w16.cell? ⟨gxa, 0, none⟩ = some (.int .i64 x0) := (blk_cell BKxa.out 0).trans rfl
 have hz_xa_1 : w16.cell? ⟨gxa, 1, none⟩ = some (.int .i64 x1) := (blk_cell BKxa.out 1).trans rfl
 have hz_xa_2 : w16.cell? ⟨gxa, 2, none⟩ = some (.int .i64 x2) := (blk_cell BKxa.out 2).trans rfl
 have hz_xb_0 : w16.cell? ⟨gxb, 0, none⟩ = some (.int .i64 y0) := (blk_cell BKxb.out 0).trans rfl
 have hz_xb_1 : w16.cell? ⟨gxb, 1, none⟩ = some (.int .i64 y1) := (blk_cell BKxb.out 1).trans rfl
 have hz_xb_2 : w16.cell? ⟨gxb, 2, none⟩ = some (.int .i64 y2) := (blk_cell BKxb.out 2).trans rfl
 go_wp2_with fail
 (with_reducible refine (impl_CompareRows.calls y0 y1 y2 x0 x1 x2 d _  QF13.out).mono ?_)
 rintro e w17 ⟨rfl, hb⟩
 (try (have hb_ := hb.below; clear hb; have hb := hb_; clear hb_))
 (try clear hz_xa_0)
 (try clear hfz_xa_0)
 (try clear hz_xa_1)
 (try clear hfz_xa_1)
 (try clear hz_xa_2)
 (try clear hfz_xa_2)
 (try clear hn_xa_xb)
 (try clear hz_xb_0)
 (try clear hfz_xb_0)
 (try clear hz_xb_1)
 (try clear hfz_xb_1)
 (try clear hz_xb_2)
 (try clear hfz_xb_2)
 (try clear hn_xb_xa)
 have nl_ := Aside0.mk (Kd.R_below (by (with_reducible repeat (first | apply Kd.R_alloc | apply Kd.R_drewN | apply Kd.R_drew)); exact Ol.out) hb)
 have gl_ := Aside0.mk (Nat.le_trans Gl.out hb.size)
 have ns_ := Aside0.mk (Kd.R_below (by (with_reducible repeat (first | apply Kd.R_alloc | apply Kd.R_drewN | apply Kd.R_drew)); exact Os.out) hb)
 have gs_ := Aside0.mk (Nat.le_trans Gs.out hb.size)
 have nm_ := Aside0.mk (Kd.R_below (by (with_reducible repeat (first | apply Kd.R_alloc | apply Kd.R_drewN | apply Kd.R_drew)); exact Om.out) hb)
 have gm_ := Aside0.mk (Nat.le_trans Gm.out hb.size)
 clear Ol Gl
 clear Os Gs
 clear Om Gm
 have Ol := nl_
 have Gl := gl_
 clear nl_ gl_
 have Os := ns_
 have Gs := gs_
 clear ns_ gs_
 have Om := nm_
 have Gm := gm_
 clear nm_ gm_
 have nB_ := Aside0.mk (below_step (by repeat (first | (with_reducible first | exact HB.out | apply below_alloc | apply pw_below_drewN | apply below_drew1) | exact HB.out)) hb)
 clear HB
 have HB := nB_
 clear nB_
 have nbxa_ := Aside0.mk (blk_below (by (with_reducible repeat (first | refine blk_drewN ?_ _ | refine blk_drew ?_ | refine blk_alloc ?_ _)); exact BKxa.out) hb)
 have nbxb_ := Aside0.mk (blk_below (by (with_reducible repeat (first | refine blk_drewN ?_ _ | refine blk_drew ?_ | refine blk_alloc ?_ _)); exact BKxb.out) hb)
 clear BKxa
 have BKxa := nbxa_
 clear nbxa_
 clear BKxb
 have BKxb := nbxb_
 clear nbxb_
 clear hb
 have hz_xa_0 : w17.cell? ⟨gxa, 0, none⟩ = some (.int .i64 x0) := (blk_cell BKxa.out 0).trans rfl
 have hz_xa_1 : w17.cell? ⟨gxa, 1, none⟩ = some (.int .i64 x1) := (blk_cell BKxa.out 1).trans rfl
 have hz_xa_2 : w17.cell? ⟨gxa, 2, none⟩ = some (.int .i64 x2) := (blk_cell BKxa.out 2).trans rfl
 have hz_xb_0 : w17.cell? ⟨gxb, 0, none⟩ = some (.int .i64 y0) := (blk_cell BKxb.out 0).trans rfl
 have hz_xb_1 : w17.cell? ⟨gxb, 1, none⟩ = some (.int .i64 y1) := (blk_cell BKxb.out 1).trans rfl
 have hz_xb_2 : w17.cell? ⟨gxb, 2, none⟩ = some (.int .i64 y2) := (blk_cell BKxb.out 2).trans rfl
 obtain ⟨hX⟩ := QhX
 rcases hX with ⟨u1, u2, u3, u4⟩ | ⟨u1, u2⟩ | ⟨u1, u2, u3⟩ | ⟨u1, u2, u3, u4⟩
 all_goals
  go_wp2_with fail
  (with_reducible refine (impl_IsSorted.calls k _ _ m mb _ ?s15a ?s15b QF14.out).mono ?_)
  case s15a => repeat (first | exact (R_rd Om.out).1 | (with_reducible refine Kd.C_alloc ?_ _) | (with_reducible refine Kd.C_drewN ?_ _) | (with_reducible refine Kd.C_drew ?_))
  case s15b => exact (R_rd Om.out).2
  rintro e w18 ⟨rfl, hb⟩
  (try (have hb_ := hb.below; clear hb; have hb := hb_; clear hb_))
  (try clear hz_xa_0)
  (try clear hfz_xa_0)
  (try clear hz_xa_1)
  (try clear hfz_xa_1)
  (try clear hz_xa_2)
  (try clear hfz_xa_2)
  (try clear hn_xa_xb)
  (try clear hz_xb_0)
  (try clear hfz_xb_0)
  (try clear hz_xb_1)
  (try clear hfz_xb_1)
  (try clear hz_xb_2)
  (try clear hfz_xb_2)
  (try clear hn_xb_xa)
  have nl_ := Aside0.mk (Kd.R_below (by (with_reducible repeat (first | apply Kd.R_alloc | apply Kd.R_drewN | apply Kd.R_drew)); exact Ol.out) hb)
  have gl_ := Aside0.mk (Nat.le_trans Gl.out hb.size)
  have ns_ := Aside0.mk (Kd.R_below (by (with_reducible repeat (first | apply Kd.R_alloc | apply Kd.R_drewN | apply Kd.R_drew)); exact Os.out) hb)
  have gs_ := Aside0.mk (Nat.le_trans Gs.out hb.size)
  have nm_ := Aside0.mk (Kd.R_below (by (with_reducible repeat (first | apply Kd.R_alloc | apply Kd.R_drewN | apply Kd.R_drew)); exact Om.out) hb)
  have gm_ := Aside0.mk (Nat.le_trans Gm.out hb.size)
  clear Ol Gl
  clear Os Gs
  clear Om Gm
  have Ol := nl_
  have Gl := gl_
  clear nl_ gl_
  have Os := ns_
  have Gs := gs_
  clear ns_ gs_
  have Om := nm_
  have Gm := gm_
  clear nm_ gm_
  have nB_ := Aside0.mk (below_step (by repeat (first | (with_reducible first | exact HB.out | apply below_alloc | apply pw_below_drewN | apply below_drew1) | exact HB.out)) hb)
  clear HB
  have HB := nB_
  clear nB_
  have nbxa_ := Aside0.mk (blk_below (by (with_reducible repeat (first | refine blk_drewN ?_ _ | refine blk_drew ?_ | refine blk_alloc ?_ _)); exact BKxa.out) hb)
  have nbxb_ := Aside0.mk (blk_below (by (with_reducible repeat (first | refine blk_drewN ?_ _ | refine blk_drew ?_ | refine blk_alloc ?_ _)); exact BKxb.out) hb)
  clear BKxa
  have BKxa := nbxa_
  clear nbxa_
  clear BKxb
  have BKxb := nbxb_
  clear nbxb_
  clear hb
  cases mb
  all_goals
   go_wp2_with fail
   (with_reducible refine (spec_IsSorted.calls k _ _ m _ _ ?s16a ?s16b QF15.out).mono ?_)
   case s16a => repeat (first | exact (R_rd Om.out).1 | (with_reducible refine Kd.C_alloc ?_ _) | (with_reducible refine Kd.C_drewN ?_ _) | (with_reducible refine Kd.C_drew ?_))
   case s16b => exact (R_rd Om.out).2
   rintro e w19 ⟨rfl, hb⟩
   (try (have hb_ := hb.below; clear hb; have hb := hb_; clear hb_))
   have nl_ := Aside0.mk (Kd.R_below (by (with_reducible repeat (first | apply Kd.R_alloc | apply Kd.R_drewN | apply Kd.R_drew)); exact Ol.out) hb)
   have gl_ := Aside0.mk (Nat.le_trans Gl.out hb.size)
   have ns_ := Aside0.mk (Kd.R_below (by (with_reducible repeat (first | apply Kd.R_alloc | apply Kd.R_drewN | apply Kd.R_drew)); exact Os.out) hb)
   have gs_ := Aside0.mk (Nat.le_trans Gs.out hb.size)
   have nm_ := Aside0.mk (Kd.R_below (by (with_reducible repeat (first | apply Kd.R_alloc | apply Kd.R_drewN | apply Kd.R_drew)); exact Om.out) hb)
   have gm_ := Aside0.mk (Nat.le_trans Gm.out hb.size)
   clear Ol Gl
   clear Os Gs
   clear Om Gm
   have Ol := nl_
   have Gl := gl_
   clear nl_ gl_
   have Os := ns_
   have Gs := gs_
   clear ns_ gs_
   have Om := nm_
   have Gm := gm_
   clear nm_ gm_
   have nB_ := Aside0.mk (below_step (by repeat (first | (with_reducible first | exact HB.out | apply below_alloc | apply pw_below_drewN | apply below_drew1) | exact HB.out)) hb)
   clear HB
   have HB := nB_
   clear nB_
   have nbxa_ := Aside0.mk (blk_below (by (with_reducible repeat (first | refine blk_drewN ?_ _ | refine blk_drew ?_ | refine blk_alloc ?_ _)); exact BKxa.out) hb)
   have nbxb_ := Aside0.mk (blk_below (by (with_reducible repeat (first | refine blk_drewN ?_ _ | refine blk_drew ?_ | refine blk_alloc ?_ _)); exact BKxb.out) hb)
   clear BKxa
   have BKxa := nbxa_
   clear nbxa_
   clear BKxb
   have BKxb := nbxb_
   clear nbxb_
   clear hb
   go_wp2
   go_ret
   exact ⟨by first | rfl | simp, (by repeat (first | (with_reducible first | exact HB.out | apply below_alloc | apply pw_below_drewN | apply below_drew1) | exact HB.out))⟩
/-- What the walk asks of the values. -/
def laws_FnSortRows.OK (k : Nat) (l0 : List Int) : Prop := laws_big.f l0 = some true ∨ ∃ (l s m : List S36) (x0 x1 x2 y0 y1 y2 c d : Int) (mb : Bool), laws_big.f l0 = some false ∧ spec_DrawSortRows.f k l0 = some l ∧ impl_SortRows.f k l = some s ∧ spec_DrawCompareRows.f k l0 = some (x0, x1, x2, y0, y1, y2) ∧ impl_CompareRows.f x0 x1 x2 y0 y1 y2 = some c ∧ spec_DrawIsSorted.f k l0 = some m ∧
  spec_SortRows.f k l = some s ∧ laws_sameRows.f k s s = some true ∧ impl_IsSorted.f k s = some true ∧ impl_EqualBags.f k s l = some true ∧ impl_SortRows.f k s = some s ∧ spec_CompareRows.f k x0 x1 x2 y0 y1 y2 = some c ∧ impl_CompareRows.f y0 y1 y2 x0 x1 x2 = some d ∧ c = wrap64 (-d) ∧
  (((c == 0) = true ∧ (x0 == y0) = true ∧ (x1 == y1) = true ∧ (x2 == y2) = true) ∨ ((c == 0) = false ∧ (x0 == y0) = false) ∨ ((c == 0) = false ∧ (x0 == y0) = true ∧ (x1 == y1) = false) ∨ ((c == 0) = false ∧ (x0 == y0) = true ∧ (x1 == y1) = true ∧ (x2 == y2) = false)) ∧ impl_IsSorted.f k m = some mb ∧ spec_IsSorted.f k m = some mb
theorem laws_FnSortRows.calls (k : Nat) (A0 : Option Addr) (c0 : Nat) (l0 : List Int) (r : Bool) (w : World) (hr0 : Kd.C (Kd.int .u8) w A0 l0.length l0) (hc0 : l0.length ≤ c0) (h : laws_FnSortRows.OK k l0) :
  Calls Try.prog 7 #[.slice A0 l0.length c0] w fun e w' => e = .returned (.bool true) ∧ Below w.heap.size w w' := by
 obtain F1 | ⟨l, s, m, x0, x1, x2, y0, y1, y2, c, d, mb, F1, F2, F3, F4, F5, F6, F7, F8, F9, F10, F11, F12, F13, n1, hX, F14, F15⟩ := h
 ·exact laws_FnSortRows.big A0 c0 l0 w hr0 hc0 F1
 ·exact laws_FnSortRows.lin k A0 c0 l0 l s m x0 x1 x2 y0 y1 y2 c d mb w hr0 hc0 F1 F2 F3 F4 F5 F6 F7 F8 F9 F10 F11 F12 F13 n1 hX F14 F15
def laws_FnSortRows.Pure : Prop := ∀ (l0 : List Int), l0.length ≤ maxLen → l0.length * 1 ≤ 140737488351232 → (∀ x ∈ l0, (Lit.int .u8 x).wf = true) → ∃ k, laws_FnSortRows.OK k l0
theorem laws_FnSortRows.walk (P : laws_FnSortRows.Pure) (a0 : Option Addr) (len0 cap0 : Nat) (z0 : List Int) (w : World) (w0 : (a0 = none ∧ len0 = 0 ∧ cap0 = 0 ∧ z0 = []) ∨ ∃ x, a0 = some x ∧ len0 ≤ cap0 ∧ cap0 ≤ maxLen ∧ z0.length = cap0 ∧ (∀ i, i < z0.length → w.cell? (x.add i) = some (.int .u8 (z0.getD i 0))) ∧ ∀ n ∈ z0, (Lit.int .u8 n).wf = true) (y0 : len0 * 1 ≤ 140737488351232) :
  Calls Try.prog 7 #[.slice a0 len0 cap0] w fun e w' => e = .returned (.bool true) ∧ Below w.heap.size w w' := by
 obtain ⟨l0, rfl, hr0, hm0, hw0, hc0⟩ := ReadsInt.ofRowC w0
 obtain ⟨k, h⟩ := P l0 hm0 y0 hw0
 refine (laws_FnSortRows.calls k _ _ l0 true w (Kd.C_of_reads (d := (0 : Int)) (h1 := fun _ => rfl) hr0) hc0 h).mono ?_
 rintro e w' ⟨rfl, hd⟩
 exact ⟨rfl, hd⟩
end Go.Proofs.Ytbcpfppiaeelbaa.PFnSortRows
