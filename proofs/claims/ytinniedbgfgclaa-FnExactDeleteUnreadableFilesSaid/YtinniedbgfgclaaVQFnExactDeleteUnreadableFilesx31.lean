/- The walk of the law FnExactDeleteUnreadableFiles: every test is decided by the premises; nothing is claimed here. -/
import Derived.Test.YtinniedbgfgclaaVQFnExactDeleteUnreadableFilesx30
import Derived.Test.YtinniedbgfgclaaVQFnExactDeleteUnreadableFilesx28
import Derived.Test.YtinniedbgfgclaaVQFnExactDeleteUnreadableFilesx27
import Derived.Test.YtinniedbgfgclaaVQFnExactDeleteUnreadableFilesx12
import Derived.Test.YtinniedbgfgclaaVQFnExactDeleteUnreadableFilesx4
import Derived.Test.YtinniedbgfgclaaVQFnExactDeleteUnreadableFilesx5
import Derived.Test.YtinniedbgfgclaaVLin
import Derived.Test.YtinniedbgfgclaaVPress
namespace Go.Proofs.Ytinniedbgfgclaa.PFnExactDeleteUnreadableFiles
open Go.RowKit Go.Proofs.YtinniedbgfgclaaW.PrintWords Go.Proofs.YtinniedbgfgclaaW.PrintLast Go.Proofs.YtinniedbgfgclaaW.PrintMore Go.Proofs.Ytinniedbgfgclaa.Lin Go.Proofs.Ytinniedbgfgclaa.Press
set_option linter.unusedVariables false
set_option linter.unusedSimpArgs false
theorem heldDisk_n (k : Nat) (nx : Int) (A0 : Option Addr) (n c0 : Nat) (l0 : List S80) (a1 r : Int) (w : World) (hn : l0.length = n) (hr : Kd.C k80 w A0 l0.length l0) (hc : l0.length ≤ c0) (h : laws_heldDisk.f k l0 nx a1 = some r) :
  Calls Try.prog 19 #[.agg #[.slice A0 n c0, .int .i64 nx], .int .i64 a1] w fun e w' => e = .returned (.int .i64 r) ∧ Below w.heap.size w w' := by
 subst hn; exact (laws_heldDisk.calls k A0 c0 l0 nx a1 r w hr hc h).mono fun e w' hh => ⟨hh.1, hh.2⟩
set_option maxHeartbeats 4000000 in
set_option maxRecDepth 100000 in
theorem laws_FnExactDeleteUnreadableFiles.big0 (k : Nat) (A0 : Option Addr) (c0 : Nat) (l0 : List S107) (n0 : Int) (t0 : Int) (w : World) (hr0 : Kd.C k107 w A0 l0.length l0) (hc0 : l0.length ≤ c0) (Z0 : laws_szDisk.f k l0 n0 1048576 = some t0) (m0 : t0 < 0) :
  Calls Try.prog 5 #[.agg #[.slice A0 l0.length c0, .int .i64 n0]] w fun e w' => e = .returned (.bool true) ∧ Below w.heap.size w w' := by
 have HR0 := kp hr0
 have HC0 := kp hc0
 clear hr0 hc0
 have HB := kp (Below.refl w.heap.size w)
 have QZ0 := kp Z0
 clear Z0
 have dm0 : decide (t0 < 0) = true := decide_eq_true m0
 clear m0
 go_enter Try.func5, Try.ntmps5
 go_wp2_with (first | ((with_reducible refine gate_dst (N := 1) rfl ?_); refine bx_ 1 #[.slice A0 l0.length c0, .int .i64 n0] 24 ?_; intro gp0 hg w1 hbox hb; have GEp0 := kp (by rw [hg]; exact below_size bb : w.heap.size ≤ gp0); have nB_ := kp (below_step bb hb); clear HB; have HB := nB_; clear nB_; have BKp0 := kp hbox; clear hb hbox hg; have hz_p0_0 : w1.cell? ⟨gp0, 0, none⟩ = some (.slice A0 l0.length c0) := (blk_cell BKp0.out 0).trans rfl; have hz_p0_1 : w1.cell? ⟨gp0, 1, none⟩ = some (.int .i64 n0) := (blk_cell BKp0.out 1).trans rfl; have hfz_p0_0 := blk_frozen BKp0.out 0; have hfz_p0_1 := blk_frozen BKp0.out 1))
 (with_reducible refine (laws_szDisk.calls k _ _ l0 n0 1048576 t0 _ ?s1a ?s1b QZ0.out).mono ?_)
 case s1a => repeat (first | exact (Kd.C_below HR0.out bb) | (with_reducible refine Kd.C_alloc ?_ _) | (with_reducible refine Kd.C_drewN ?_ _) | (with_reducible refine Kd.C_drew ?_))
 case s1b => exact HC0.out
 rintro e w2 ⟨rfl, hb⟩
 (try (have hb_ := hb.below; clear hb; have hb := hb_; clear hb_))
 (try clear hz_p0_0)
 (try clear hfz_p0_0)
 (try clear hz_p0_1)
 (try clear hfz_p0_1)
 have nB_ := kp (below_step bb hb)
 clear HB
 have HB := nB_
 clear nB_
 have nbp0_ := kp (blk_below (kk BKp0.out) hb)
 clear BKp0
 have BKp0 := nbp0_
 clear nbp0_
 have hz_p0_0 : w2.cell? ⟨gp0, 0, none⟩ = some (.slice A0 l0.length c0) := (blk_cell BKp0.out 0).trans rfl
 have hz_p0_1 : w2.cell? ⟨gp0, 1, none⟩ = some (.int .i64 n0) := (blk_cell BKp0.out 1).trans rfl
 clear hb
 go_wp2
 go_ret
 exact ⟨by first | rfl | simp, bb⟩
set_option maxHeartbeats 4000000 in
set_option maxRecDepth 100000 in
theorem laws_FnExactDeleteUnreadableFiles.walk (k : Nat) (A0 : Option Addr) (c0 : Nat) (l0 : List S107) (n0 : Int) (t0 : Int) (x0 : List S80) (y0 : List S80) (w0 : List S80) (g0 : List S80) (g1 : List S80) (k0 : Int) (m : Int) (s0 : Int) (w : World) (hr0 : Kd.C k107 w A0 l0.length l0) (hc0 : l0.length ≤ c0)
  (Z0 : laws_szDisk.f k l0 n0 1048576 = some t0)
  (T0 : laws_toDisk.f k l0 n0 = some (x0, n0)) (FS : spec_DeleteUnreadableFiles.f k x0 n0 = some (w0, s0)) (FI : impl_DeleteUnreadableFiles.f k x0 n0 = some (g0, s0)) (FE : laws_eqDisk.f k g0 s0 w0 s0 = some true) (E0 : laws_eqDisk.f k x0 n0 x0 n0 = some true) (M0 : laws_markFileS.f k x0 1 = some (k0, y0)) (MG : laws_markFileS.f k g0 1 = some (m, g1)) (HG : laws_heldDisk.f k g1 s0 1 = some m)
  (m0 : ¬ t0 < 0) (nk : ¬ k0 < 0) (nm : ¬ m < 0) :
  Calls Try.prog 5 #[.agg #[.slice A0 l0.length c0, .int .i64 n0]] w fun e w' => e = .returned (.bool true) ∧ Below w.heap.size w w' := by
 have HR0 := kp hr0
 have HC0 := kp hc0
 clear hr0 hc0
 have HB := kp (Below.refl w.heap.size w)
 have QZ0 := kp Z0
 clear Z0
 have QT0 := kp T0
 clear T0
 have QFS := kp FS
 clear FS
 have QFI := kp FI
 clear FI
 have QFE := kp FE
 clear FE
 have QE0 := kp E0
 clear E0
 have QM0 := kp M0
 clear M0
 have QMG := kp MG
 clear MG
 have QHG := kp HG
 clear HG
 have dm0 : decide (t0 < 0) = false := decide_eq_false m0
 clear m0
 have dnk : decide (k0 < 0) = false := decide_eq_false nk
 clear nk
 have dnm : decide (m < 0) = false := decide_eq_false nm
 clear nm
 go_enter Try.func5, Try.ntmps5
 go_wp2_with (first | ((with_reducible refine gate_dst (N := 1) rfl ?_); refine bx_ 1 #[.slice A0 l0.length c0, .int .i64 n0] 24 ?_; intro gp0 hg w1 hbox hb; have GEp0 := kp (by rw [hg]; exact below_size bb : w.heap.size ≤ gp0); have nB_ := kp (below_step bb hb); clear HB; have HB := nB_; clear nB_; have BKp0 := kp hbox; clear hb hbox hg; have hz_p0_0 : w1.cell? ⟨gp0, 0, none⟩ = some (.slice A0 l0.length c0) := (blk_cell BKp0.out 0).trans rfl; have hz_p0_1 : w1.cell? ⟨gp0, 1, none⟩ = some (.int .i64 n0) := (blk_cell BKp0.out 1).trans rfl; have hfz_p0_0 := blk_frozen BKp0.out 0; have hfz_p0_1 := blk_frozen BKp0.out 1))
 (with_reducible refine (laws_szDisk.calls k _ _ l0 n0 1048576 t0 _ ?s1a ?s1b QZ0.out).mono ?_)
 case s1a => repeat (first | exact (Kd.C_below HR0.out bb) | (with_reducible refine Kd.C_alloc ?_ _) | (with_reducible refine Kd.C_drewN ?_ _) | (with_reducible refine Kd.C_drew ?_))
 case s1b => exact HC0.out
 rintro e w2 ⟨rfl, hb⟩
 (try (have hb_ := hb.below; clear hb; have hb := hb_; clear hb_))
 (try clear hz_p0_0)
 (try clear hfz_p0_0)
 (try clear hz_p0_1)
 (try clear hfz_p0_1)
 have nB_ := kp (below_step bb hb)
 clear HB
 have HB := nB_
 clear nB_
 have nbp0_ := kp (blk_below (kk BKp0.out) hb)
 clear BKp0
 have BKp0 := nbp0_
 clear nbp0_
 have hz_p0_0 : w2.cell? ⟨gp0, 0, none⟩ = some (.slice A0 l0.length c0) := (blk_cell BKp0.out 0).trans rfl
 have hz_p0_1 : w2.cell? ⟨gp0, 1, none⟩ = some (.int .i64 n0) := (blk_cell BKp0.out 1).trans rfl
 clear hb
 go_wp2_with fail
 (with_reducible refine (laws_toDisk.callsD k _ _ l0 n0 x0 n0 _ ?s2a ?s2b QT0.out).mono ?_)
 case s2a => repeat (first | exact (Kd.C_below HR0.out bb) | (with_reducible refine Kd.C_alloc ?_ _) | (with_reducible refine Kd.C_drewN ?_ _) | (with_reducible refine Kd.C_drew ?_))
 case s2b => exact HC0.out
 rintro e w3 ⟨vx0, rfl, hox0, hb⟩
 obtain ⟨bx0, hlex0, mx0_⟩ := S_ivx hox0 (below_size bb)
 clear hox0
 have Y_p0_x0 := kp (hlex0 _ (blk_lt BKp0.out))
 clear hlex0
 (try clear hz_p0_0)
 (try clear hfz_p0_0)
 (try clear hz_p0_1)
 (try clear hfz_p0_1)
 have nB_ := kp (below_step bb hb)
 clear HB
 have HB := nB_
 clear nB_
 have nbp0_ := kp (blk_below (kk BKp0.out) hb)
 clear BKp0
 have BKp0 := nbp0_
 clear nbp0_
 have hz_p0_0 : w3.cell? ⟨gp0, 0, none⟩ = some (.slice A0 l0.length c0) := (blk_cell BKp0.out 0).trans rfl
 have hz_p0_1 : w3.cell? ⟨gp0, 1, none⟩ = some (.int .i64 n0) := (blk_cell BKp0.out 1).trans rfl
 clear hb
 obtain ⟨Ax0, cx0, ex0⟩ := Kd.S_slice mx0_.out
 subst ex0
 have Ox0 := mx0_
 have Gx0 := kp (Nat.le_refl w3.heap.size)
 clear mx0_
 go_wp2_with fail
 (with_reducible refine (spec_DeleteUnreadableFiles.calls k _ _ x0 n0 w0 s0 _ ?s3a ?s3b QFS.out).mono ?_)
 case s3a => repeat (first | exact (D_rd Ox0.out).1 | (with_reducible refine Kd.C_alloc ?_ _) | (with_reducible refine Kd.C_drewN ?_ _) | (with_reducible refine Kd.C_drew ?_))
 case s3b => exact (D_rd Ox0.out).2
 rintro e w4 ⟨vw0, rfl, how0, hb⟩
 obtain ⟨bw0, hlew0, mw0_⟩ := N_ivx how0 (below_size bb)
 clear how0
 clear Ox0 Gx0
 have Y_p0_w0 := kp (hlew0 _ (blk_lt BKp0.out))
 clear hlew0
 (try clear hz_p0_0)
 (try clear hfz_p0_0)
 (try clear hz_p0_1)
 (try clear hfz_p0_1)
 have nB_ := kp (below_step bb hb)
 clear HB
 have HB := nB_
 clear nB_
 have nbp0_ := kp (blk_below (kk BKp0.out) hb)
 clear BKp0
 have BKp0 := nbp0_
 clear nbp0_
 have hz_p0_0 : w4.cell? ⟨gp0, 0, none⟩ = some (.slice A0 l0.length c0) := (blk_cell BKp0.out 0).trans rfl
 have hz_p0_1 : w4.cell? ⟨gp0, 1, none⟩ = some (.int .i64 n0) := (blk_cell BKp0.out 1).trans rfl
 clear hb
 obtain ⟨Aw0, cw0, ew0⟩ := Kd.N_slice mw0_.out
 subst ew0
 have Ow0 := mw0_
 have Gw0 := kp (Nat.le_refl w4.heap.size)
 clear mw0_
 go_wp2_with (first | ((with_reducible refine gate_dst (N := 4) rfl ?_); refine bx_ 4 #[.slice none 0 0, .int .i64 0] 28 ?_; intro gw hg w5 hbox hb; have Zb_w0_w := kp (by rw [hg]; exact Gw0.out : w4.heap.size ≤ gw); have NB_p0_w := kp (by rw [hg]; exact Nat.ne_of_lt (blk_lt BKp0.out) : gp0 ≠ gw); have NB_w_p0 := kp (fun h_ => NB_p0_w.out h_.symm : gw ≠ gp0); have GEw := kp (by rw [hg]; exact below_size bb : w.heap.size ≤ gw); (try clear hz_p0_0); (try clear hfz_p0_0); (try clear hz_p0_1); (try clear hfz_p0_1); have nw0_ := kp (Kd.N_below (by (with_reducible repeat (first | apply Kd.N_alloc | apply Kd.N_drewN | apply Kd.N_drew)); exact Ow0.out) hb); have gw0_ := kp (Nat.le_trans Gw0.out hb.size); clear Ow0 Gw0; have Ow0 := nw0_; have Gw0 := gw0_; clear nw0_ gw0_; have nB_ := kp (below_step bb hb); clear HB; have HB := nB_; clear nB_; have nbp0_ := kp (blk_below (kk BKp0.out) hb); clear BKp0; have BKp0 := nbp0_; clear nbp0_; have BKw := kp hbox; clear hb hbox hg; have hz_p0_0 : w5.cell? ⟨gp0, 0, none⟩ = some (.slice A0 l0.length c0) := (blk_cell BKp0.out 0).trans rfl; have hz_p0_1 : w5.cell? ⟨gp0, 1, none⟩ = some (.int .i64 n0) := (blk_cell BKp0.out 1).trans rfl; have hz_w_0 : w5.cell? ⟨gw, 0, none⟩ = some (.slice none 0 0) := (blk_cell BKw.out 0).trans rfl; have hz_w_1 : w5.cell? ⟨gw, 1, none⟩ = some (.int .i64 0) := (blk_cell BKw.out 1).trans rfl; have hfz_p0_0 := blk_frozen BKp0.out 0; have hfz_p0_1 := blk_frozen BKp0.out 1; have hn_p0_w := NB_p0_w.out; have hfz_w_0 := blk_frozen BKw.out 0; have hfz_w_1 := blk_frozen BKw.out 1; have hn_w_p0 := NB_w_p0.out))
 have nw0_ := kp (Kd.N_far (p := ⟨gw, 1, none⟩) (Kd.N_far (p := ⟨gw, 0, none⟩) Ow0.out (iv_far Zb_w0_w.out) (.slice Aw0 w0.length cw0)) (iv_far Zb_w0_w.out) (.int .i64 s0))
 have nbp0_ := kp (show ((w5.setCell ⟨gw, 0, none⟩ (.slice Aw0 w0.length cw0)).setCell ⟨gw, 1, none⟩ (.int .i64 s0)).heap[gp0]? = some (.cells #[.slice A0 l0.length c0, .int .i64 n0] 24 (0, 0)) from (blk_far (blk_far BKp0.out (p := ⟨gw, 0, none⟩) NB_p0_w.out (.slice Aw0 w0.length cw0)) (p := ⟨gw, 1, none⟩) NB_p0_w.out (.int .i64 s0)))
 have nbw_ := kp (show ((w5.setCell ⟨gw, 0, none⟩ (.slice Aw0 w0.length cw0)).setCell ⟨gw, 1, none⟩ (.int .i64 s0)).heap[gw]? = some (.cells #[.slice Aw0 w0.length cw0, .int .i64 s0] 28 (0, 0)) from (blk_set (blk_set BKw.out 0 (.slice Aw0 w0.length cw0)) 1 (.int .i64 s0)))
 have nB_ := kp (show Below w.heap.size w ((w5.setCell ⟨gw, 0, none⟩ (.slice Aw0 w0.length cw0)).setCell ⟨gw, 1, none⟩ (.int .i64 s0)) from (below_set (below_set HB.out GEw.out) GEw.out))
 have hs_ : ((w5.setCell ⟨gw, 0, none⟩ (.slice Aw0 w0.length cw0)).setCell ⟨gw, 1, none⟩ (.int .i64 s0)).heap.size = w5.heap.size := by simp [World.setCell]
 have gw0_ := kp (by rw [hs_]; exact Gw0.out : w4.heap.size ≤ ((w5.setCell ⟨gw, 0, none⟩ (.slice Aw0 w0.length cw0)).setCell ⟨gw, 1, none⟩ (.int .i64 s0)).heap.size)
 (try clear hz_p0_0)
 (try clear hfz_p0_0)
 (try clear hz_p0_1)
 (try clear hfz_p0_1)
 (try clear hn_p0_w)
 (try clear hz_w_0)
 (try clear hfz_w_0)
 (try clear hz_w_1)
 (try clear hfz_w_1)
 (try clear hn_w_p0)
 clear hs_ HB
 have HB := nB_
 clear nB_
 clear Ow0 Gw0
 have Ow0 := nw0_
 have Gw0 := gw0_
 clear nw0_ gw0_
 clear BKp0
 have BKp0 := nbp0_
 clear nbp0_
 clear BKw
 have BKw := nbw_
 clear nbw_
 generalize ((w5.setCell ⟨gw, 0, none⟩ (.slice Aw0 w0.length cw0)).setCell ⟨gw, 1, none⟩ (.int .i64 s0)) = w7 at *
 (with_reducible refine (laws_toDisk.callsD k _ _ l0 n0 x0 n0 _ ?s4a ?s4b QT0.out).mono ?_)
 case s4a => repeat (first | exact (Kd.C_below HR0.out bb) | (with_reducible refine Kd.C_alloc ?_ _) | (with_reducible refine Kd.C_drewN ?_ _) | (with_reducible refine Kd.C_drew ?_))
 case s4b => exact HC0.out
 rintro e w7 ⟨vx0, rfl, hox0, hb⟩
 obtain ⟨bx0, hlex0, mx0_⟩ := S_ivx hox0 (below_size bb)
 clear hox0
 have Z_w0_x0 := kp (hlex0 _ Gw0.out)
 have Y_p0_x0 := kp (hlex0 _ (blk_lt BKp0.out))
 have Y_w_x0 := kp (hlex0 _ (blk_lt BKw.out))
 clear hlex0
 (try clear hz_p0_0)
 (try clear hfz_p0_0)
 (try clear hz_p0_1)
 (try clear hfz_p0_1)
 (try clear hn_p0_w)
 (try clear hz_w_0)
 (try clear hfz_w_0)
 (try clear hz_w_1)
 (try clear hfz_w_1)
 (try clear hn_w_p0)
 have nw0_ := kp (Kd.N_below (by (with_reducible repeat (first | apply Kd.N_alloc | apply Kd.N_drewN | apply Kd.N_drew)); exact Ow0.out) hb)
 have gw0_ := kp (Nat.le_trans Gw0.out hb.size)
 clear Ow0 Gw0
 have Ow0 := nw0_
 have Gw0 := gw0_
 clear nw0_ gw0_
 have nB_ := kp (below_step bb hb)
 clear HB
 have HB := nB_
 clear nB_
 have nbp0_ := kp (blk_below (kk BKp0.out) hb)
 have nbw_ := kp (blk_below (kk BKw.out) hb)
 clear BKp0
 have BKp0 := nbp0_
 clear nbp0_
 clear BKw
 have BKw := nbw_
 clear nbw_
 have hz_p0_0 : w7.cell? ⟨gp0, 0, none⟩ = some (.slice A0 l0.length c0) := (blk_cell BKp0.out 0).trans rfl
 have hz_p0_1 : w7.cell? ⟨gp0, 1, none⟩ = some (.int .i64 n0) := (blk_cell BKp0.out 1).trans rfl
 have hz_w_0 : w7.cell? ⟨gw, 0, none⟩ = some (.slice Aw0 w0.length cw0) := (blk_cell BKw.out 0).trans rfl
 have hz_w_1 : w7.cell? ⟨gw, 1, none⟩ = some (.int .i64 s0) := (blk_cell BKw.out 1).trans rfl
 clear hb
 obtain ⟨Ax0, cx0, ex0⟩ := Kd.S_slice mx0_.out
 subst ex0
 have Ox0 := mx0_
 have Gx0 := kp (Nat.le_refl w7.heap.size)
 clear mx0_
 go_wp2_with (first | ((with_reducible refine gate_dst (N := 5) rfl ?_); refine bx_ 5 #[.slice none 0 0, .int .i64 0] 28 ?_; intro gx0 hg w8 hbox hb; have Zb_w0_x0 := kp (by rw [hg]; exact Gw0.out : w4.heap.size ≤ gx0); have Zb_x0_x0 := kp (by rw [hg]; exact Gx0.out : w7.heap.size ≤ gx0); have NB_p0_x0 := kp (by rw [hg]; exact Nat.ne_of_lt (blk_lt BKp0.out) : gp0 ≠ gx0); have NB_x0_p0 := kp (fun h_ => NB_p0_x0.out h_.symm : gx0 ≠ gp0); have NB_w_x0 := kp (by rw [hg]; exact Nat.ne_of_lt (blk_lt BKw.out) : gw ≠ gx0); have NB_x0_w := kp (fun h_ => NB_w_x0.out h_.symm : gx0 ≠ gw); have GEx0 := kp (by rw [hg]; exact below_size bb : w.heap.size ≤ gx0); (try clear hz_p0_0); (try clear hfz_p0_0); (try clear hz_p0_1); (try clear hfz_p0_1); (try clear hn_p0_w); (try clear hz_w_0); (try clear hfz_w_0); (try clear hz_w_1); (try clear hfz_w_1); (try clear hn_w_p0); have nw0_ := kp (Kd.N_below (by (with_reducible repeat (first | apply Kd.N_alloc | apply Kd.N_drewN | apply Kd.N_drew)); exact Ow0.out) hb); have gw0_ := kp (Nat.le_trans Gw0.out hb.size); have nx0_ := kp (Kd.S_below (by (with_reducible repeat (first | apply Kd.S_alloc | apply Kd.S_drewN | apply Kd.S_drew)); exact Ox0.out) hb); have gx0_ := kp (Nat.le_trans Gx0.out hb.size); clear Ow0 Gw0; clear Ox0 Gx0; have Ow0 := nw0_; have Gw0 := gw0_; clear nw0_ gw0_; have Ox0 := nx0_; have Gx0 := gx0_; clear nx0_ gx0_; have nB_ := kp (below_step bb hb); clear HB; have HB := nB_; clear nB_; have nbp0_ := kp (blk_below (kk BKp0.out) hb); have nbw_ := kp (blk_below (kk BKw.out) hb); clear BKp0; have BKp0 := nbp0_; clear nbp0_; clear BKw; have BKw := nbw_; clear nbw_; have BKx0 := kp hbox; clear hb hbox hg; have hz_p0_0 : w8.cell? ⟨gp0, 0, none⟩ = some (.slice A0 l0.length c0) := (blk_cell BKp0.out 0).trans rfl; have hz_p0_1 : w8.cell? ⟨gp0, 1, none⟩ = some (.int .i64 n0) := (blk_cell BKp0.out 1).trans rfl; have hz_w_0 : w8.cell? ⟨gw, 0, none⟩ = some (.slice Aw0 w0.length cw0) := (blk_cell BKw.out 0).trans rfl; have hz_w_1 : w8.cell? ⟨gw, 1, none⟩ = some (.int .i64 s0) := (blk_cell BKw.out 1).trans rfl; have hz_x0_0 : w8.cell? ⟨gx0, 0, none⟩ = some (.slice none 0 0) := (blk_cell BKx0.out 0).trans rfl; have hz_x0_1 : w8.cell? ⟨gx0, 1, none⟩ = some (.int .i64 0) := (blk_cell BKx0.out 1).trans rfl; have hfz_p0_0 := blk_frozen BKp0.out 0; have hfz_p0_1 := blk_frozen BKp0.out 1; have hn_p0_w := NB_p0_w.out; have hn_p0_x0 := NB_p0_x0.out; have hfz_w_0 := blk_frozen BKw.out 0; have hfz_w_1 := blk_frozen BKw.out 1; have hn_w_p0 := NB_w_p0.out; have hn_w_x0 := NB_w_x0.out; have hfz_x0_0 := blk_frozen BKx0.out 0; have hfz_x0_1 := blk_frozen BKx0.out 1; have hn_x0_p0 := NB_x0_p0.out; have hn_x0_w := NB_x0_w.out))
 have nw0_ := kp (Kd.N_far (p := ⟨gx0, 1, none⟩) (Kd.N_far (p := ⟨gx0, 0, none⟩) Ow0.out (iv_far Zb_w0_x0.out) (.slice Ax0 x0.length cx0)) (iv_far Zb_w0_x0.out) (.int .i64 n0))
 have nx0_ := kp (Kd.S_far (p := ⟨gx0, 1, none⟩) (Kd.S_far (p := ⟨gx0, 0, none⟩) Ox0.out (iv_far Zb_x0_x0.out) (.slice Ax0 x0.length cx0)) (iv_far Zb_x0_x0.out) (.int .i64 n0))
 have nbp0_ := kp (show ((w8.setCell ⟨gx0, 0, none⟩ (.slice Ax0 x0.length cx0)).setCell ⟨gx0, 1, none⟩ (.int .i64 n0)).heap[gp0]? = some (.cells #[.slice A0 l0.length c0, .int .i64 n0] 24 (0, 0)) from (blk_far (blk_far BKp0.out (p := ⟨gx0, 0, none⟩) NB_p0_x0.out (.slice Ax0 x0.length cx0)) (p := ⟨gx0, 1, none⟩) NB_p0_x0.out (.int .i64 n0)))
 have nbw_ := kp (show ((w8.setCell ⟨gx0, 0, none⟩ (.slice Ax0 x0.length cx0)).setCell ⟨gx0, 1, none⟩ (.int .i64 n0)).heap[gw]? = some (.cells #[.slice Aw0 w0.length cw0, .int .i64 s0] 28 (0, 0)) from (blk_far (blk_far BKw.out (p := ⟨gx0, 0, none⟩) NB_w_x0.out (.slice Ax0 x0.length cx0)) (p := ⟨gx0, 1, none⟩) NB_w_x0.out (.int .i64 n0)))
 have nbx0_ := kp (show ((w8.setCell ⟨gx0, 0, none⟩ (.slice Ax0 x0.length cx0)).setCell ⟨gx0, 1, none⟩ (.int .i64 n0)).heap[gx0]? = some (.cells #[.slice Ax0 x0.length cx0, .int .i64 n0] 28 (0, 0)) from (blk_set (blk_set BKx0.out 0 (.slice Ax0 x0.length cx0)) 1 (.int .i64 n0)))
 have nB_ := kp (show Below w.heap.size w ((w8.setCell ⟨gx0, 0, none⟩ (.slice Ax0 x0.length cx0)).setCell ⟨gx0, 1, none⟩ (.int .i64 n0)) from (below_set (below_set HB.out GEx0.out) GEx0.out))
 have hs_ : ((w8.setCell ⟨gx0, 0, none⟩ (.slice Ax0 x0.length cx0)).setCell ⟨gx0, 1, none⟩ (.int .i64 n0)).heap.size = w8.heap.size := by simp [World.setCell]
 have gw0_ := kp (by rw [hs_]; exact Gw0.out : w4.heap.size ≤ ((w8.setCell ⟨gx0, 0, none⟩ (.slice Ax0 x0.length cx0)).setCell ⟨gx0, 1, none⟩ (.int .i64 n0)).heap.size)
 have gx0_ := kp (by rw [hs_]; exact Gx0.out : w7.heap.size ≤ ((w8.setCell ⟨gx0, 0, none⟩ (.slice Ax0 x0.length cx0)).setCell ⟨gx0, 1, none⟩ (.int .i64 n0)).heap.size)
 (try clear hz_p0_0)
 (try clear hfz_p0_0)
 (try clear hz_p0_1)
 (try clear hfz_p0_1)
 (try clear hn_p0_w)
 (try clear hn_p0_x0)
 (try clear hz_w_0)
 (try clear hfz_w_0)
 (try clear hz_w_1)
 (try clear hfz_w_1)
 (try clear hn_w_p0)
 (try clear hn_w_x0)
 (try clear hz_x0_0)
 (try clear hfz_x0_0)
 (try clear hz_x0_1)
 (try clear hfz_x0_1)
 (try clear hn_x0_p0)
 (try clear hn_x0_w)
 clear hs_ HB
 have HB := nB_
 clear nB_
 clear Ow0 Gw0
 have Ow0 := nw0_
 have Gw0 := gw0_
 clear nw0_ gw0_
 clear Ox0 Gx0
 have Ox0 := nx0_
 have Gx0 := gx0_
 clear nx0_ gx0_
 clear BKp0
 have BKp0 := nbp0_
 clear nbp0_
 clear BKw
 have BKw := nbw_
 clear nbw_
 clear BKx0
 have BKx0 := nbx0_
 clear nbx0_
 generalize ((w8.setCell ⟨gx0, 0, none⟩ (.slice Ax0 x0.length cx0)).setCell ⟨gx0, 1, none⟩ (.int .i64 n0)) = w10 at *
 (with_reducible refine (impl_DeleteUnreadableFiles.callsD k _ _ x0 n0 g0 s0 _ ?s5a ?s5b QFI.out).mono ?_)
 case s5a => repeat (first | exact (D_rd Ox0.out).1 | (with_reducible refine Kd.C_alloc ?_ _) | (with_reducible refine Kd.C_drewN ?_ _) | (with_reducible refine Kd.C_drew ?_))
 case s5b => exact (D_rd Ox0.out).2
 rintro e w10 ⟨vg0, rfl, hog0, hb⟩
 obtain ⟨bg0, hleg0, mg0_⟩ := S_ivx hog0 (below_size bb)
 clear hog0
 have Z_w0_g0 := kp (hleg0 _ Gw0.out)
 have Z_x0_g0 := kp (hleg0 _ Gx0.out)
 have Y_p0_g0 := kp (hleg0 _ (blk_lt BKp0.out))
 have Y_w_g0 := kp (hleg0 _ (blk_lt BKw.out))
 have Y_x0_g0 := kp (hleg0 _ (blk_lt BKx0.out))
 clear hleg0
 (try clear hz_p0_0)
 (try clear hfz_p0_0)
 (try clear hz_p0_1)
 (try clear hfz_p0_1)
 (try clear hn_p0_w)
 (try clear hn_p0_x0)
 (try clear hz_w_0)
 (try clear hfz_w_0)
 (try clear hz_w_1)
 (try clear hfz_w_1)
 (try clear hn_w_p0)
 (try clear hn_w_x0)
 (try clear hz_x0_0)
 (try clear hfz_x0_0)
 (try clear hz_x0_1)
 (try clear hfz_x0_1)
 (try clear hn_x0_p0)
 (try clear hn_x0_w)
 have nw0_ := kp (Kd.N_below (by (with_reducible repeat (first | apply Kd.N_alloc | apply Kd.N_drewN | apply Kd.N_drew)); exact Ow0.out) hb)
 have gw0_ := kp (Nat.le_trans Gw0.out hb.size)
 have nx0_ := kp (Kd.S_below (by (with_reducible repeat (first | apply Kd.S_alloc | apply Kd.S_drewN | apply Kd.S_drew)); exact Ox0.out) hb)
 have gx0_ := kp (Nat.le_trans Gx0.out hb.size)
 clear Ow0 Gw0
 clear Ox0 Gx0
 have Ow0 := nw0_
 have Gw0 := gw0_
 clear nw0_ gw0_
 have Ox0 := nx0_
 have Gx0 := gx0_
 clear nx0_ gx0_
 have nB_ := kp (below_step bb hb)
 clear HB
 have HB := nB_
 clear nB_
 have nbp0_ := kp (blk_below (kk BKp0.out) hb)
 have nbw_ := kp (blk_below (kk BKw.out) hb)
 have nbx0_ := kp (blk_below (kk BKx0.out) hb)
 clear BKp0
 have BKp0 := nbp0_
 clear nbp0_
 clear BKw
 have BKw := nbw_
 clear nbw_
 clear BKx0
 have BKx0 := nbx0_
 clear nbx0_
 have hz_p0_0 : w10.cell? ⟨gp0, 0, none⟩ = some (.slice A0 l0.length c0) := (blk_cell BKp0.out 0).trans rfl
 have hz_p0_1 : w10.cell? ⟨gp0, 1, none⟩ = some (.int .i64 n0) := (blk_cell BKp0.out 1).trans rfl
 have hz_w_0 : w10.cell? ⟨gw, 0, none⟩ = some (.slice Aw0 w0.length cw0) := (blk_cell BKw.out 0).trans rfl
 have hz_w_1 : w10.cell? ⟨gw, 1, none⟩ = some (.int .i64 s0) := (blk_cell BKw.out 1).trans rfl
 have hz_x0_0 : w10.cell? ⟨gx0, 0, none⟩ = some (.slice Ax0 x0.length cx0) := (blk_cell BKx0.out 0).trans rfl
 have hz_x0_1 : w10.cell? ⟨gx0, 1, none⟩ = some (.int .i64 n0) := (blk_cell BKx0.out 1).trans rfl
 clear hb
 obtain ⟨Ag0, cg0, eg0⟩ := Kd.S_slice mg0_.out
 subst eg0
 have Og0 := mg0_
 have Gg0 := kp (Nat.le_refl w10.heap.size)
 clear mg0_
 go_wp2_with (first | ((with_reducible refine gate_dst (N := 6) rfl ?_); refine bx_ 6 #[.slice none 0 0, .int .i64 0] 28 ?_; intro gg hg w11 hbox hb; have Zb_w0_g := kp (by rw [hg]; exact Gw0.out : w4.heap.size ≤ gg); have Zb_x0_g := kp (by rw [hg]; exact Gx0.out : w7.heap.size ≤ gg); have Zb_g0_g := kp (by rw [hg]; exact Gg0.out : w10.heap.size ≤ gg); have NB_p0_g := kp (by rw [hg]; exact Nat.ne_of_lt (blk_lt BKp0.out) : gp0 ≠ gg); have NB_g_p0 := kp (fun h_ => NB_p0_g.out h_.symm : gg ≠ gp0); have NB_w_g := kp (by rw [hg]; exact Nat.ne_of_lt (blk_lt BKw.out) : gw ≠ gg); have NB_g_w := kp (fun h_ => NB_w_g.out h_.symm : gg ≠ gw); have NB_x0_g := kp (by rw [hg]; exact Nat.ne_of_lt (blk_lt BKx0.out) : gx0 ≠ gg); have NB_g_x0 := kp (fun h_ => NB_x0_g.out h_.symm : gg ≠ gx0); have GEg := kp (by rw [hg]; exact below_size bb : w.heap.size ≤ gg); (try clear hz_p0_0); (try clear hfz_p0_0); (try clear hz_p0_1); (try clear hfz_p0_1); (try clear hn_p0_w); (try clear hn_p0_x0); (try clear hz_w_0); (try clear hfz_w_0); (try clear hz_w_1); (try clear hfz_w_1); (try clear hn_w_p0); (try clear hn_w_x0); (try clear hz_x0_0); (try clear hfz_x0_0); (try clear hz_x0_1); (try clear hfz_x0_1); (try clear hn_x0_p0); (try clear hn_x0_w); have nw0_ := kp (Kd.N_below (by (with_reducible repeat (first | apply Kd.N_alloc | apply Kd.N_drewN | apply Kd.N_drew)); exact Ow0.out) hb); have gw0_ := kp (Nat.le_trans Gw0.out hb.size); have nx0_ := kp (Kd.S_below (by (with_reducible repeat (first | apply Kd.S_alloc | apply Kd.S_drewN | apply Kd.S_drew)); exact Ox0.out) hb); have gx0_ := kp (Nat.le_trans Gx0.out hb.size); have ng0_ := kp (Kd.S_below (by (with_reducible repeat (first | apply Kd.S_alloc | apply Kd.S_drewN | apply Kd.S_drew)); exact Og0.out) hb); have gg0_ := kp (Nat.le_trans Gg0.out hb.size); clear Ow0 Gw0; clear Ox0 Gx0; clear Og0 Gg0; have Ow0 := nw0_; have Gw0 := gw0_; clear nw0_ gw0_; have Ox0 := nx0_; have Gx0 := gx0_; clear nx0_ gx0_; have Og0 := ng0_; have Gg0 := gg0_; clear ng0_ gg0_; have nB_ := kp (below_step bb hb); clear HB; have HB := nB_; clear nB_; have nbp0_ := kp (blk_below (kk BKp0.out) hb); have nbw_ := kp (blk_below (kk BKw.out) hb); have nbx0_ := kp (blk_below (kk BKx0.out) hb); clear BKp0; have BKp0 := nbp0_; clear nbp0_; clear BKw; have BKw := nbw_; clear nbw_; clear BKx0; have BKx0 := nbx0_; clear nbx0_; have BKg := kp hbox; clear hb hbox hg; have hz_p0_0 : w11.cell? ⟨gp0, 0, none⟩ = some (.slice A0 l0.length c0) := (blk_cell BKp0.out 0).trans rfl; have hz_p0_1 : w11.cell? ⟨gp0, 1, none⟩ = some (.int .i64 n0) := (blk_cell BKp0.out 1).trans rfl; have hz_w_0 : w11.cell? ⟨gw, 0, none⟩ = some (.slice Aw0 w0.length cw0) := (blk_cell BKw.out 0).trans rfl; have hz_w_1 : w11.cell? ⟨gw, 1, none⟩ = some (.int .i64 s0) := (blk_cell BKw.out 1).trans rfl; have hz_x0_0 : w11.cell? ⟨gx0, 0, none⟩ = some (.slice Ax0 x0.length cx0) := (blk_cell BKx0.out 0).trans rfl; have hz_x0_1 : w11.cell? ⟨gx0, 1, none⟩ = some (.int .i64 n0) := (blk_cell BKx0.out 1).trans rfl; have hz_g_0 : w11.cell? ⟨gg, 0, none⟩ = some (.slice none 0 0) := (blk_cell BKg.out 0).trans rfl; have hz_g_1 : w11.cell? ⟨gg, 1, none⟩ = some (.int .i64 0) := (blk_cell BKg.out 1).trans rfl; have hfz_p0_0 := blk_frozen BKp0.out 0; have hfz_p0_1 := blk_frozen BKp0.out 1; have hn_p0_w := NB_p0_w.out; have hn_p0_x0 := NB_p0_x0.out; have hn_p0_g := NB_p0_g.out; have hfz_w_0 := blk_frozen BKw.out 0; have hfz_w_1 := blk_frozen BKw.out 1; have hn_w_p0 := NB_w_p0.out; have hn_w_x0 := NB_w_x0.out; have hn_w_g := NB_w_g.out; have hfz_x0_0 := blk_frozen BKx0.out 0; have hfz_x0_1 := blk_frozen BKx0.out 1; have hn_x0_p0 := NB_x0_p0.out; have hn_x0_w := NB_x0_w.out; have hn_x0_g := NB_x0_g.out; have hfz_g_0 := blk_frozen BKg.out 0; have hfz_g_1 := blk_frozen BKg.out 1; have hn_g_p0 := NB_g_p0.out; have hn_g_w := NB_g_w.out; have hn_g_x0 := NB_g_x0.out))
 have nw0_ := kp (Kd.N_far (p := ⟨gg, 1, none⟩) (Kd.N_far (p := ⟨gg, 0, none⟩) Ow0.out (iv_far Zb_w0_g.out) (.slice Ag0 g0.length cg0)) (iv_far Zb_w0_g.out) (.int .i64 s0))
 have nx0_ := kp (Kd.S_far (p := ⟨gg, 1, none⟩) (Kd.S_far (p := ⟨gg, 0, none⟩) Ox0.out (iv_far Zb_x0_g.out) (.slice Ag0 g0.length cg0)) (iv_far Zb_x0_g.out) (.int .i64 s0))
 have ng0_ := kp (Kd.S_far (p := ⟨gg, 1, none⟩) (Kd.S_far (p := ⟨gg, 0, none⟩) Og0.out (iv_far Zb_g0_g.out) (.slice Ag0 g0.length cg0)) (iv_far Zb_g0_g.out) (.int .i64 s0))
 have nbp0_ := kp (show ((w11.setCell ⟨gg, 0, none⟩ (.slice Ag0 g0.length cg0)).setCell ⟨gg, 1, none⟩ (.int .i64 s0)).heap[gp0]? = some (.cells #[.slice A0 l0.length c0, .int .i64 n0] 24 (0, 0)) from (blk_far (blk_far BKp0.out (p := ⟨gg, 0, none⟩) NB_p0_g.out (.slice Ag0 g0.length cg0)) (p := ⟨gg, 1, none⟩) NB_p0_g.out (.int .i64 s0)))
 have nbw_ := kp (show ((w11.setCell ⟨gg, 0, none⟩ (.slice Ag0 g0.length cg0)).setCell ⟨gg, 1, none⟩ (.int .i64 s0)).heap[gw]? = some (.cells #[.slice Aw0 w0.length cw0, .int .i64 s0] 28 (0, 0)) from (blk_far (blk_far BKw.out (p := ⟨gg, 0, none⟩) NB_w_g.out (.slice Ag0 g0.length cg0)) (p := ⟨gg, 1, none⟩) NB_w_g.out (.int .i64 s0)))
 have nbx0_ := kp (show ((w11.setCell ⟨gg, 0, none⟩ (.slice Ag0 g0.length cg0)).setCell ⟨gg, 1, none⟩ (.int .i64 s0)).heap[gx0]? = some (.cells #[.slice Ax0 x0.length cx0, .int .i64 n0] 28 (0, 0)) from (blk_far (blk_far BKx0.out (p := ⟨gg, 0, none⟩) NB_x0_g.out (.slice Ag0 g0.length cg0)) (p := ⟨gg, 1, none⟩) NB_x0_g.out (.int .i64 s0)))
 have nbg_ := kp (show ((w11.setCell ⟨gg, 0, none⟩ (.slice Ag0 g0.length cg0)).setCell ⟨gg, 1, none⟩ (.int .i64 s0)).heap[gg]? = some (.cells #[.slice Ag0 g0.length cg0, .int .i64 s0] 28 (0, 0)) from (blk_set (blk_set BKg.out 0 (.slice Ag0 g0.length cg0)) 1 (.int .i64 s0)))
 have nB_ := kp (show Below w.heap.size w ((w11.setCell ⟨gg, 0, none⟩ (.slice Ag0 g0.length cg0)).setCell ⟨gg, 1, none⟩ (.int .i64 s0)) from (below_set (below_set HB.out GEg.out) GEg.out))
 have hs_ : ((w11.setCell ⟨gg, 0, none⟩ (.slice Ag0 g0.length cg0)).setCell ⟨gg, 1, none⟩ (.int .i64 s0)).heap.size = w11.heap.size := by simp [World.setCell]
 have gw0_ := kp (by rw [hs_]; exact Gw0.out : w4.heap.size ≤ ((w11.setCell ⟨gg, 0, none⟩ (.slice Ag0 g0.length cg0)).setCell ⟨gg, 1, none⟩ (.int .i64 s0)).heap.size)
 have gx0_ := kp (by rw [hs_]; exact Gx0.out : w7.heap.size ≤ ((w11.setCell ⟨gg, 0, none⟩ (.slice Ag0 g0.length cg0)).setCell ⟨gg, 1, none⟩ (.int .i64 s0)).heap.size)
 have gg0_ := kp (by rw [hs_]; exact Gg0.out : w10.heap.size ≤ ((w11.setCell ⟨gg, 0, none⟩ (.slice Ag0 g0.length cg0)).setCell ⟨gg, 1, none⟩ (.int .i64 s0)).heap.size)
 (try clear hz_p0_0)
 (try clear hfz_p0_0)
 (try clear hz_p0_1)
 (try clear hfz_p0_1)
 (try clear hn_p0_w)
 (try clear hn_p0_x0)
 (try clear hn_p0_g)
 (try clear hz_w_0)
 (try clear hfz_w_0)
 (try clear hz_w_1)
 (try clear hfz_w_1)
 (try clear hn_w_p0)
 (try clear hn_w_x0)
 (try clear hn_w_g)
 (try clear hz_x0_0)
 (try clear hfz_x0_0)
 (try clear hz_x0_1)
 (try clear hfz_x0_1)
 (try clear hn_x0_p0)
 (try clear hn_x0_w)
 (try clear hn_x0_g)
 (try clear hz_g_0)
 (try clear hfz_g_0)
 (try clear hz_g_1)
 (try clear hfz_g_1)
 (try clear hn_g_p0)
 (try clear hn_g_w)
 (try clear hn_g_x0)
 clear hs_ HB
 have HB := nB_
 clear nB_
 clear Ow0 Gw0
 have Ow0 := nw0_
 have Gw0 := gw0_
 clear nw0_ gw0_
 clear Ox0 Gx0
 have Ox0 := nx0_
 have Gx0 := gx0_
 clear nx0_ gx0_
 clear Og0 Gg0
 have Og0 := ng0_
 have Gg0 := gg0_
 clear ng0_ gg0_
 clear BKp0
 have BKp0 := nbp0_
 clear nbp0_
 clear BKw
 have BKw := nbw_
 clear nbw_
 clear BKx0
 have BKx0 := nbx0_
 clear nbx0_
 clear BKg
 have BKg := nbg_
 clear nbg_
 generalize ((w11.setCell ⟨gg, 0, none⟩ (.slice Ag0 g0.length cg0)).setCell ⟨gg, 1, none⟩ (.int .i64 s0)) = w13 at *
 (with_reducible refine (laws_eqDisk.calls k _ _ g0 s0 _ _ w0 s0 true _ ?s6a ?s6b ?s7a ?s7b QFE.out).mono ?_)
 case s6a => repeat (first | exact (D_rd Og0.out).1 | (with_reducible refine Kd.C_alloc ?_ _) | (with_reducible refine Kd.C_drewN ?_ _) | (with_reducible refine Kd.C_drew ?_))
 case s6b => exact (D_rd Og0.out).2
 case s7a => repeat (first | exact (N_rd Ow0.out).1 | (with_reducible refine Kd.C_alloc ?_ _) | (with_reducible refine Kd.C_drewN ?_ _) | (with_reducible refine Kd.C_drew ?_))
 case s7b => exact (N_rd Ow0.out).2
 rintro e w13 ⟨rfl, hb⟩
 (try (have hb_ := hb.below; clear hb; have hb := hb_; clear hb_))
 (try clear hz_p0_0)
 (try clear hfz_p0_0)
 (try clear hz_p0_1)
 (try clear hfz_p0_1)
 (try clear hn_p0_w)
 (try clear hn_p0_x0)
 (try clear hn_p0_g)
 (try clear hz_w_0)
 (try clear hfz_w_0)
 (try clear hz_w_1)
 (try clear hfz_w_1)
 (try clear hn_w_p0)
 (try clear hn_w_x0)
 (try clear hn_w_g)
 (try clear hz_x0_0)
 (try clear hfz_x0_0)
 (try clear hz_x0_1)
 (try clear hfz_x0_1)
 (try clear hn_x0_p0)
 (try clear hn_x0_w)
 (try clear hn_x0_g)
 (try clear hz_g_0)
 (try clear hfz_g_0)
 (try clear hz_g_1)
 (try clear hfz_g_1)
 (try clear hn_g_p0)
 (try clear hn_g_w)
 (try clear hn_g_x0)
 have nw0_ := kp (Kd.N_below (by (with_reducible repeat (first | apply Kd.N_alloc | apply Kd.N_drewN | apply Kd.N_drew)); exact Ow0.out) hb)
 have gw0_ := kp (Nat.le_trans Gw0.out hb.size)
 have nx0_ := kp (Kd.S_below (by (with_reducible repeat (first | apply Kd.S_alloc | apply Kd.S_drewN | apply Kd.S_drew)); exact Ox0.out) hb)
 have gx0_ := kp (Nat.le_trans Gx0.out hb.size)
 have ng0_ := kp (Kd.S_below (by (with_reducible repeat (first | apply Kd.S_alloc | apply Kd.S_drewN | apply Kd.S_drew)); exact Og0.out) hb)
 have gg0_ := kp (Nat.le_trans Gg0.out hb.size)
 clear Ow0 Gw0
 clear Ox0 Gx0
 clear Og0 Gg0
 have Ow0 := nw0_
 have Gw0 := gw0_
 clear nw0_ gw0_
 have Ox0 := nx0_
 have Gx0 := gx0_
 clear nx0_ gx0_
 have Og0 := ng0_
 have Gg0 := gg0_
 clear ng0_ gg0_
 have nB_ := kp (below_step bb hb)
 clear HB
 have HB := nB_
 clear nB_
 have nbp0_ := kp (blk_below (kk BKp0.out) hb)
 have nbw_ := kp (blk_below (kk BKw.out) hb)
 have nbx0_ := kp (blk_below (kk BKx0.out) hb)
 have nbg_ := kp (blk_below (kk BKg.out) hb)
 clear BKp0
 have BKp0 := nbp0_
 clear nbp0_
 clear BKw
 have BKw := nbw_
 clear nbw_
 clear BKx0
 have BKx0 := nbx0_
 clear nbx0_
 clear BKg
 have BKg := nbg_
 clear nbg_
 have hz_p0_0 : w13.cell? ⟨gp0, 0, none⟩ = some (.slice A0 l0.length c0) := (blk_cell BKp0.out 0).trans rfl
 have hz_p0_1 : w13.cell? ⟨gp0, 1, none⟩ = some (.int .i64 n0) := (blk_cell BKp0.out 1).trans rfl
 have hz_w_0 : w13.cell? ⟨gw, 0, none⟩ = some (.slice Aw0 w0.length cw0) := (blk_cell BKw.out 0).trans rfl
 have hz_w_1 : w13.cell? ⟨gw, 1, none⟩ = some (.int .i64 s0) := (blk_cell BKw.out 1).trans rfl
 have hz_x0_0 : w13.cell? ⟨gx0, 0, none⟩ = some (.slice Ax0 x0.length cx0) := (blk_cell BKx0.out 0).trans rfl
 have hz_x0_1 : w13.cell? ⟨gx0, 1, none⟩ = some (.int .i64 n0) := (blk_cell BKx0.out 1).trans rfl
 have hz_g_0 : w13.cell? ⟨gg, 0, none⟩ = some (.slice Ag0 g0.length cg0) := (blk_cell BKg.out 0).trans rfl
 have hz_g_1 : w13.cell? ⟨gg, 1, none⟩ = some (.int .i64 s0) := (blk_cell BKg.out 1).trans rfl
 clear hb
 go_wp2_with fail
 (try clear hz_p0_0)
 (try clear hfz_p0_0)
 (try clear hz_p0_1)
 (try clear hfz_p0_1)
 (try clear hn_p0_w)
 (try clear hn_p0_x0)
 (try clear hn_p0_g)
 (try clear hz_w_0)
 (try clear hfz_w_0)
 (try clear hz_w_1)
 (try clear hfz_w_1)
 (try clear hn_w_p0)
 (try clear hn_w_x0)
 (try clear hn_w_g)
 (try clear hz_x0_0)
 (try clear hfz_x0_0)
 (try clear hz_x0_1)
 (try clear hfz_x0_1)
 (try clear hn_x0_p0)
 (try clear hn_x0_w)
 (try clear hn_x0_g)
 (try clear hz_g_0)
 (try clear hfz_g_0)
 (try clear hz_g_1)
 (try clear hfz_g_1)
 (try clear hn_g_p0)
 (try clear hn_g_w)
 (try clear hn_g_x0)
 have nw0_ := kp (Kd.N_drew Ow0.out)
 have gw0_ := kp (Nat.le_trans Gw0.out (show w13.heap.size ≤ w13.drew.heap.size from Nat.le_refl _))
 have nx0_ := kp (Kd.S_drew Ox0.out)
 have gx0_ := kp (Nat.le_trans Gx0.out (show w13.heap.size ≤ w13.drew.heap.size from Nat.le_refl _))
 have ng0_ := kp (Kd.S_drew Og0.out)
 have gg0_ := kp (Nat.le_trans Gg0.out (show w13.heap.size ≤ w13.drew.heap.size from Nat.le_refl _))
 clear Ow0 Gw0
 clear Ox0 Gx0
 clear Og0 Gg0
 have Ow0 := nw0_
 have Gw0 := gw0_
 clear nw0_ gw0_
 have Ox0 := nx0_
 have Gx0 := gx0_
 clear nx0_ gx0_
 have Og0 := ng0_
 have Gg0 := gg0_
 clear ng0_ gg0_
 have nB_ := kp (below_drew1 HB.out)
 clear HB
 have HB := nB_
 clear nB_
 have nbp0_ := kp (blk_drew BKp0.out)
 have nbw_ := kp (blk_drew BKw.out)
 have nbx0_ := kp (blk_drew BKx0.out)
 have nbg_ := kp (blk_drew BKg.out)
 clear BKp0
 have BKp0 := nbp0_
 clear nbp0_
 clear BKw
 have BKw := nbw_
 clear nbw_
 clear BKx0
 have BKx0 := nbx0_
 clear nbx0_
 clear BKg
 have BKg := nbg_
 clear nbg_
 refine start_ (n := 5) (S := fun w' => w'.cell? ⟨gx0, 0, none⟩ = some (.slice Ax0 x0.length cx0) ∧ w'.cell? ⟨gx0, 1, none⟩ = some (.int .i64 n0) ∧ w'.cell? ⟨gp0, 0, none⟩ = some (.slice A0 l0.length c0) ∧ w'.cell? ⟨gp0, 1, none⟩ = some (.int .i64 n0)) (ds := []) #[false, false, false, false, false] (by kernel_rfl) rfl rfl ⟨(blk_cell BKx0.out 0).trans rfl, (blk_cell BKx0.out 1).trans rfl, (blk_cell BKp0.out 0).trans rfl, (blk_cell BKp0.out 1).trans rfl⟩ (fun hHeld => ?_)
 generalize w13.drew = w14 at *
 refine take_ (i := 0) (N := some 27) (v := ?_) (a' := ?_) #[true, false, false, false, false] rfl rfl (by kernel_rfl) (fun _ _ _ h => h) (Or.inl ⟨by rfl, ?_⟩) hHeld ?_ ?_
 rotate_left
 ·rintro w' ⟨s0, s1, s2, s3⟩
  go_simp
  with_reducible rfl
 rotate_left
 ·simp only [Act.put, List.setIfInBounds_toArray, List.set_cons_zero, List.set_cons_succ, i64_w, i32_w]
  rfl
 refine take_ (i := 1) (N := some 28) (v := ?_) (a' := ?_) #[true, true, false, false, false] rfl rfl (by kernel_rfl) (fun _ _ _ h => h) (Or.inl ⟨by rfl, ?_⟩) hHeld ?_ ?_
 rotate_left
 ·rintro w' ⟨s0, s1, s2, s3⟩
  go_simp
  with_reducible rfl
 rotate_left
 ·simp only [Act.put, List.setIfInBounds_toArray, List.set_cons_zero, List.set_cons_succ, i64_w, i32_w]
  rfl
 refine one_ (i := 2) (N := some 29) #[true, true, true, false, false] rfl rfl (by kernel_rfl) (by decide) (fun K hK => ?_)
 refine gs_ Try.func15 #[.agg #[.slice A0 l0.length c0, .int .i64 n0]] ?_
 (with_reducible refine (laws_toDisk.callsD k _ _ l0 n0 x0 n0 _ ?s8a ?s8b QT0.out).mono ?_)
 case s8a => repeat (first | exact (Kd.C_below HR0.out bb) | (with_reducible refine Kd.C_alloc ?_ _) | (with_reducible refine Kd.C_drewN ?_ _) | (with_reducible refine Kd.C_drew ?_))
 case s8b => exact HC0.out
 rintro e w15 ⟨vy0, rfl, hoy0, hb⟩
 refine ⟨_, rfl, ?_⟩
 obtain ⟨by0, hley0, my0_⟩ := S_ivx hoy0 (below_size bb)
 clear hoy0
 have Z_w0_y0 := kp (hley0 _ Gw0.out)
 have Z_x0_y0 := kp (hley0 _ Gx0.out)
 have Z_g0_y0 := kp (hley0 _ Gg0.out)
 have Y_p0_y0 := kp (hley0 _ (blk_lt BKp0.out))
 have Y_w_y0 := kp (hley0 _ (blk_lt BKw.out))
 have Y_x0_y0 := kp (hley0 _ (blk_lt BKx0.out))
 have Y_g_y0 := kp (hley0 _ (blk_lt BKg.out))
 clear hley0
 (try clear hz_p0_0)
 (try clear hfz_p0_0)
 (try clear hz_p0_1)
 (try clear hfz_p0_1)
 (try clear hn_p0_w)
 (try clear hn_p0_x0)
 (try clear hn_p0_g)
 (try clear hz_w_0)
 (try clear hfz_w_0)
 (try clear hz_w_1)
 (try clear hfz_w_1)
 (try clear hn_w_p0)
 (try clear hn_w_x0)
 (try clear hn_w_g)
 (try clear hz_x0_0)
 (try clear hfz_x0_0)
 (try clear hz_x0_1)
 (try clear hfz_x0_1)
 (try clear hn_x0_p0)
 (try clear hn_x0_w)
 (try clear hn_x0_g)
 (try clear hz_g_0)
 (try clear hfz_g_0)
 (try clear hz_g_1)
 (try clear hfz_g_1)
 (try clear hn_g_p0)
 (try clear hn_g_w)
 (try clear hn_g_x0)
 have nw0_ := kp (Kd.N_below (by (with_reducible repeat (first | apply Kd.N_alloc | apply Kd.N_drewN | apply Kd.N_drew)); exact Ow0.out) hb)
 have gw0_ := kp (Nat.le_trans Gw0.out hb.size)
 have nx0_ := kp (Kd.S_below (by (with_reducible repeat (first | apply Kd.S_alloc | apply Kd.S_drewN | apply Kd.S_drew)); exact Ox0.out) hb)
 have gx0_ := kp (Nat.le_trans Gx0.out hb.size)
 have ng0_ := kp (Kd.S_below (by (with_reducible repeat (first | apply Kd.S_alloc | apply Kd.S_drewN | apply Kd.S_drew)); exact Og0.out) hb)
 have gg0_ := kp (Nat.le_trans Gg0.out hb.size)
 clear Ow0 Gw0
 clear Ox0 Gx0
 clear Og0 Gg0
 have Ow0 := nw0_
 have Gw0 := gw0_
 clear nw0_ gw0_
 have Ox0 := nx0_
 have Gx0 := gx0_
 clear nx0_ gx0_
 have Og0 := ng0_
 have Gg0 := gg0_
 clear ng0_ gg0_
 have nB_ := kp (below_step bb hb)
 clear HB
 have HB := nB_
 clear nB_
 have nbp0_ := kp (blk_below (kk BKp0.out) hb)
 have nbw_ := kp (blk_below (kk BKw.out) hb)
 have nbx0_ := kp (blk_below (kk BKx0.out) hb)
 have nbg_ := kp (blk_below (kk BKg.out) hb)
 clear BKp0
 have BKp0 := nbp0_
 clear nbp0_
 clear BKw
 have BKw := nbw_
 clear nbw_
 clear BKx0
 have BKx0 := nbx0_
 clear nbx0_
 clear BKg
 have BKg := nbg_
 clear nbg_
 have hz_p0_0 : w15.cell? ⟨gp0, 0, none⟩ = some (.slice A0 l0.length c0) := (blk_cell BKp0.out 0).trans rfl
 have hz_p0_1 : w15.cell? ⟨gp0, 1, none⟩ = some (.int .i64 n0) := (blk_cell BKp0.out 1).trans rfl
 have hz_w_0 : w15.cell? ⟨gw, 0, none⟩ = some (.slice Aw0 w0.length cw0) := (blk_cell BKw.out 0).trans rfl
 have hz_w_1 : w15.cell? ⟨gw, 1, none⟩ = some (.int .i64 s0) := (blk_cell BKw.out 1).trans rfl
 have hz_x0_0 : w15.cell? ⟨gx0, 0, none⟩ = some (.slice Ax0 x0.length cx0) := (blk_cell BKx0.out 0).trans rfl
 have hz_x0_1 : w15.cell? ⟨gx0, 1, none⟩ = some (.int .i64 n0) := (blk_cell BKx0.out 1).trans rfl
 have hz_g_0 : w15.cell? ⟨gg, 0, none⟩ = some (.slice Ag0 g0.length cg0) := (blk_cell BKg.out 0).trans rfl
 have hz_g_1 : w15.cell? ⟨gg, 1, none⟩ = some (.int .i64 s0) := (blk_cell BKg.out 1).trans rfl
 clear hb
 obtain ⟨Ay0, cy0, ey0⟩ := Kd.S_slice my0_.out
 subst ey0
 have Oy0 := my0_
 have Gy0 := kp (Nat.le_refl w15.heap.size)
 clear my0_
 refine hK.out _ _ ⟨(blk_cell BKx0.out 0).trans rfl, (blk_cell BKx0.out 1).trans rfl, (blk_cell BKp0.out 0).trans rfl, (blk_cell BKp0.out 1).trans rfl⟩ (fun hHeld => ?_)
 clear hK K
 refine nm_ (some 29) ?_
 refine one_ (i := 3) (N := some 30) #[true, true, true, true, false] rfl rfl (by kernel_rfl) (by decide) (fun K hK => ?_)
 refine gs_ Try.func17 #[.agg #[.slice Ax0 x0.length cx0, .int .i64 n0], .agg #[.slice Ay0 x0.length cy0, .int .i64 n0]] ?_
 (with_reducible refine (laws_eqDisk.calls k _ _ x0 n0 _ _ x0 n0 true _ ?s9a ?s9b ?s10a ?s10b QE0.out).mono ?_)
 case s9a => repeat (first | exact (D_rd Ox0.out).1 | (with_reducible refine Kd.C_alloc ?_ _) | (with_reducible refine Kd.C_drewN ?_ _) | (with_reducible refine Kd.C_drew ?_))
 case s9b => exact (D_rd Ox0.out).2
 case s10a => repeat (first | exact (D_rd Oy0.out).1 | (with_reducible refine Kd.C_alloc ?_ _) | (with_reducible refine Kd.C_drewN ?_ _) | (with_reducible refine Kd.C_drew ?_))
 case s10b => exact (D_rd Oy0.out).2
 rintro e w16 ⟨rfl, hb⟩
 refine ⟨_, rfl, ?_⟩
 (try (have hb_ := hb.below; clear hb; have hb := hb_; clear hb_))
 (try clear hz_p0_0)
 (try clear hfz_p0_0)
 (try clear hz_p0_1)
 (try clear hfz_p0_1)
 (try clear hn_p0_w)
 (try clear hn_p0_x0)
 (try clear hn_p0_g)
 (try clear hz_w_0)
 (try clear hfz_w_0)
 (try clear hz_w_1)
 (try clear hfz_w_1)
 (try clear hn_w_p0)
 (try clear hn_w_x0)
 (try clear hn_w_g)
 (try clear hz_x0_0)
 (try clear hfz_x0_0)
 (try clear hz_x0_1)
 (try clear hfz_x0_1)
 (try clear hn_x0_p0)
 (try clear hn_x0_w)
 (try clear hn_x0_g)
 (try clear hz_g_0)
 (try clear hfz_g_0)
 (try clear hz_g_1)
 (try clear hfz_g_1)
 (try clear hn_g_p0)
 (try clear hn_g_w)
 (try clear hn_g_x0)
 have nw0_ := kp (Kd.N_below (by (with_reducible repeat (first | apply Kd.N_alloc | apply Kd.N_drewN | apply Kd.N_drew)); exact Ow0.out) hb)
 have gw0_ := kp (Nat.le_trans Gw0.out hb.size)
 have nx0_ := kp (Kd.S_below (by (with_reducible repeat (first | apply Kd.S_alloc | apply Kd.S_drewN | apply Kd.S_drew)); exact Ox0.out) hb)
 have gx0_ := kp (Nat.le_trans Gx0.out hb.size)
 have ng0_ := kp (Kd.S_below (by (with_reducible repeat (first | apply Kd.S_alloc | apply Kd.S_drewN | apply Kd.S_drew)); exact Og0.out) hb)
 have gg0_ := kp (Nat.le_trans Gg0.out hb.size)
 have ny0_ := kp (Kd.S_below (by (with_reducible repeat (first | apply Kd.S_alloc | apply Kd.S_drewN | apply Kd.S_drew)); exact Oy0.out) hb)
 have gy0_ := kp (Nat.le_trans Gy0.out hb.size)
 clear Ow0 Gw0
 clear Ox0 Gx0
 clear Og0 Gg0
 clear Oy0 Gy0
 have Ow0 := nw0_
 have Gw0 := gw0_
 clear nw0_ gw0_
 have Ox0 := nx0_
 have Gx0 := gx0_
 clear nx0_ gx0_
 have Og0 := ng0_
 have Gg0 := gg0_
 clear ng0_ gg0_
 have Oy0 := ny0_
 have Gy0 := gy0_
 clear ny0_ gy0_
 have nB_ := kp (below_step bb hb)
 clear HB
 have HB := nB_
 clear nB_
 have nbp0_ := kp (blk_below (kk BKp0.out) hb)
 have nbw_ := kp (blk_below (kk BKw.out) hb)
 have nbx0_ := kp (blk_below (kk BKx0.out) hb)
 have nbg_ := kp (blk_below (kk BKg.out) hb)
 clear BKp0
 have BKp0 := nbp0_
 clear nbp0_
 clear BKw
 have BKw := nbw_
 clear nbw_
 clear BKx0
 have BKx0 := nbx0_
 clear nbx0_
 clear BKg
 have BKg := nbg_
 clear nbg_
 have hz_p0_0 : w16.cell? ⟨gp0, 0, none⟩ = some (.slice A0 l0.length c0) := (blk_cell BKp0.out 0).trans rfl
 have hz_p0_1 : w16.cell? ⟨gp0, 1, none⟩ = some (.int .i64 n0) := (blk_cell BKp0.out 1).trans rfl
 have hz_w_0 : w16.cell? ⟨gw, 0, none⟩ = some (.slice Aw0 w0.length cw0) := (blk_cell BKw.out 0).trans rfl
 have hz_w_1 : w16.cell? ⟨gw, 1, none⟩ = some (.int .i64 s0) := (blk_cell BKw.out 1).trans rfl
 have hz_x0_0 : w16.cell? ⟨gx0, 0, none⟩ = some (.slice Ax0 x0.length cx0) := (blk_cell BKx0.out 0).trans rfl
 have hz_x0_1 : w16.cell? ⟨gx0, 1, none⟩ = some (.int .i64 n0) := (blk_cell BKx0.out 1).trans rfl
 have hz_g_0 : w16.cell? ⟨gg, 0, none⟩ = some (.slice Ag0 g0.length cg0) := (blk_cell BKg.out 0).trans rfl
 have hz_g_1 : w16.cell? ⟨gg, 1, none⟩ = some (.int .i64 s0) := (blk_cell BKg.out 1).trans rfl
 clear hb
 refine hK.out _ _ ⟨(blk_cell BKx0.out 0).trans rfl, (blk_cell BKx0.out 1).trans rfl, (blk_cell BKp0.out 0).trans rfl, (blk_cell BKp0.out 1).trans rfl⟩ (fun hHeld => ?_)
 clear hK K
 refine nm_ (some 30) ?_
 refine pure_ (i := 4) (N := some 31) (v := ?_) (a' := ?_) #[true, true, true, true, true] rfl rfl (by kernel_rfl) (fun _ _ _ h => h) (Or.inl ⟨by rfl, ?_⟩) ?_ ?_
 rotate_left
 ·intro w'
  go_simp
  with_reducible rfl
 rotate_left
 ·simp only [Act.put, List.setIfInBounds_toArray, List.set_cons_zero, List.set_cons_succ, i64_w, i32_w]
  rfl
 refine done_ (by kernel_rfl) ?_
 clear Oy0 Gy0
 go_wp2_with fail
 (with_reducible refine (laws_markDisk.calls k n0 (Iv bx0 w7.heap.size) _ x0 1 k0 y0 w _ ?s11a ?s11b QM0.out).mono ?_)
 case s11a => exact bb
 case s11b => ((with_reducible repeat (first | apply Kd.S_alloc | apply Kd.S_drewN | apply Kd.S_drew)); exact Ox0.out)
 rintro e w17 ⟨rfl, hy, hb, hk⟩
 have mm_ := kp hy
 clear hy
 have gg_ := kp (Nat.le_trans Gx0.out hk.1)
 clear Ox0 Gx0
 (try clear hz_p0_0)
 (try clear hfz_p0_0)
 (try clear hz_p0_1)
 (try clear hfz_p0_1)
 (try clear hn_p0_w)
 (try clear hn_p0_x0)
 (try clear hn_p0_g)
 (try clear hz_w_0)
 (try clear hfz_w_0)
 (try clear hz_w_1)
 (try clear hfz_w_1)
 (try clear hn_w_p0)
 (try clear hn_w_x0)
 (try clear hn_w_g)
 (try clear hz_x0_0)
 (try clear hfz_x0_0)
 (try clear hz_x0_1)
 (try clear hfz_x0_1)
 (try clear hn_x0_p0)
 (try clear hn_x0_w)
 (try clear hn_x0_g)
 (try clear hz_g_0)
 (try clear hfz_g_0)
 (try clear hz_g_1)
 (try clear hfz_g_1)
 (try clear hn_g_p0)
 (try clear hn_g_w)
 (try clear hn_g_x0)
 have nw0_ := kp (Kd.N_kept (by (with_reducible repeat (first | apply Kd.N_alloc | apply Kd.N_drewN | apply Kd.N_drew)); exact Ow0.out) hk (iv_dn Z_w0_x0.out))
 have gw0_ := kp (Nat.le_trans Gw0.out hk.1)
 have ng0_ := kp (Kd.S_kept (by (with_reducible repeat (first | apply Kd.S_alloc | apply Kd.S_drewN | apply Kd.S_drew)); exact Og0.out) hk (iv_up Z_x0_g0.out))
 have gg0_ := kp (Nat.le_trans Gg0.out hk.1)
 clear Ow0 Gw0
 clear Og0 Gg0
 have Ow0 := nw0_
 have Gw0 := gw0_
 clear nw0_ gw0_
 have Og0 := ng0_
 have Gg0 := gg0_
 clear ng0_ gg0_
 have nbp0_ := kp (blk_kept BKp0.out hk (iv_nb2 Y_p0_x0.out))
 have nbw_ := kp (blk_kept BKw.out hk (iv_nb2 Y_w_x0.out))
 have nbx0_ := kp (blk_kept BKx0.out hk (iv_nb Zb_x0_x0.out))
 have nbg_ := kp (blk_kept BKg.out hk (iv_nb Zb_x0_g.out))
 clear BKp0
 have BKp0 := nbp0_
 clear nbp0_
 clear BKw
 have BKw := nbw_
 clear nbw_
 clear BKx0
 have BKx0 := nbx0_
 clear nbx0_
 clear BKg
 have BKg := nbg_
 clear nbg_
 clear HB
 have HB := kp hb
 have Oy0 := mm_
 have Gy0 := gg_
 clear mm_ gg_ hb hk
 have hz_p0_0 : w17.cell? ⟨gp0, 0, none⟩ = some (.slice A0 l0.length c0) := (blk_cell BKp0.out 0).trans rfl
 have hz_p0_1 : w17.cell? ⟨gp0, 1, none⟩ = some (.int .i64 n0) := (blk_cell BKp0.out 1).trans rfl
 have hz_w_0 : w17.cell? ⟨gw, 0, none⟩ = some (.slice Aw0 w0.length cw0) := (blk_cell BKw.out 0).trans rfl
 have hz_w_1 : w17.cell? ⟨gw, 1, none⟩ = some (.int .i64 s0) := (blk_cell BKw.out 1).trans rfl
 have hz_x0_0 : w17.cell? ⟨gx0, 0, none⟩ = some (.slice Ax0 x0.length cx0) := (blk_cell BKx0.out 0).trans rfl
 have hz_x0_1 : w17.cell? ⟨gx0, 1, none⟩ = some (.int .i64 n0) := (blk_cell BKx0.out 1).trans rfl
 have hz_g_0 : w17.cell? ⟨gg, 0, none⟩ = some (.slice Ag0 g0.length cg0) := (blk_cell BKg.out 0).trans rfl
 have hz_g_1 : w17.cell? ⟨gg, 1, none⟩ = some (.int .i64 s0) := (blk_cell BKg.out 1).trans rfl
 (try clear hz_p0_0)
 (try clear hfz_p0_0)
 (try clear hz_p0_1)
 (try clear hfz_p0_1)
 (try clear hn_p0_w)
 (try clear hn_p0_x0)
 (try clear hn_p0_g)
 (try clear hz_w_0)
 (try clear hfz_w_0)
 (try clear hz_w_1)
 (try clear hfz_w_1)
 (try clear hn_w_p0)
 (try clear hn_w_x0)
 (try clear hn_w_g)
 (try clear hz_x0_0)
 (try clear hfz_x0_0)
 (try clear hz_x0_1)
 (try clear hfz_x0_1)
 (try clear hn_x0_p0)
 (try clear hn_x0_w)
 (try clear hn_x0_g)
 (try clear hz_g_0)
 (try clear hfz_g_0)
 (try clear hz_g_1)
 (try clear hfz_g_1)
 (try clear hn_g_p0)
 (try clear hn_g_w)
 (try clear hn_g_x0)
 clear BKx0
 have hz_p0_0 : w17.cell? ⟨gp0, 0, none⟩ = some (.slice A0 l0.length c0) := (blk_cell BKp0.out 0).trans rfl
 have hz_p0_1 : w17.cell? ⟨gp0, 1, none⟩ = some (.int .i64 n0) := (blk_cell BKp0.out 1).trans rfl
 have hz_w_0 : w17.cell? ⟨gw, 0, none⟩ = some (.slice Aw0 w0.length cw0) := (blk_cell BKw.out 0).trans rfl
 have hz_w_1 : w17.cell? ⟨gw, 1, none⟩ = some (.int .i64 s0) := (blk_cell BKw.out 1).trans rfl
 have hz_g_0 : w17.cell? ⟨gg, 0, none⟩ = some (.slice Ag0 g0.length cg0) := (blk_cell BKg.out 0).trans rfl
 have hz_g_1 : w17.cell? ⟨gg, 1, none⟩ = some (.int .i64 s0) := (blk_cell BKg.out 1).trans rfl
 go_wp2_with fail
 (with_reducible refine (laws_eqDisk.calls k _ _ g0 s0 _ _ w0 s0 true _ ?s12a ?s12b ?s13a ?s13b QFE.out).mono ?_)
 case s12a => repeat (first | exact (D_rd Og0.out).1 | (with_reducible refine Kd.C_alloc ?_ _) | (with_reducible refine Kd.C_drewN ?_ _) | (with_reducible refine Kd.C_drew ?_))
 case s12b => exact (D_rd Og0.out).2
 case s13a => repeat (first | exact (N_rd Ow0.out).1 | (with_reducible refine Kd.C_alloc ?_ _) | (with_reducible refine Kd.C_drewN ?_ _) | (with_reducible refine Kd.C_drew ?_))
 case s13b => exact (N_rd Ow0.out).2
 rintro e w18 ⟨rfl, hb⟩
 (try (have hb_ := hb.below; clear hb; have hb := hb_; clear hb_))
 clear Oy0 Gy0
 (try clear hz_p0_0)
 (try clear hfz_p0_0)
 (try clear hz_p0_1)
 (try clear hfz_p0_1)
 (try clear hn_p0_w)
 (try clear hn_p0_g)
 (try clear hz_w_0)
 (try clear hfz_w_0)
 (try clear hz_w_1)
 (try clear hfz_w_1)
 (try clear hn_w_p0)
 (try clear hn_w_g)
 (try clear hz_g_0)
 (try clear hfz_g_0)
 (try clear hz_g_1)
 (try clear hfz_g_1)
 (try clear hn_g_p0)
 (try clear hn_g_w)
 have nw0_ := kp (Kd.N_below (by (with_reducible repeat (first | apply Kd.N_alloc | apply Kd.N_drewN | apply Kd.N_drew)); exact Ow0.out) hb)
 have gw0_ := kp (Nat.le_trans Gw0.out hb.size)
 have ng0_ := kp (Kd.S_below (by (with_reducible repeat (first | apply Kd.S_alloc | apply Kd.S_drewN | apply Kd.S_drew)); exact Og0.out) hb)
 have gg0_ := kp (Nat.le_trans Gg0.out hb.size)
 clear Ow0 Gw0
 clear Og0 Gg0
 have Ow0 := nw0_
 have Gw0 := gw0_
 clear nw0_ gw0_
 have Og0 := ng0_
 have Gg0 := gg0_
 clear ng0_ gg0_
 have nB_ := kp (below_step bb hb)
 clear HB
 have HB := nB_
 clear nB_
 have nbp0_ := kp (blk_below (kk BKp0.out) hb)
 have nbw_ := kp (blk_below (kk BKw.out) hb)
 have nbg_ := kp (blk_below (kk BKg.out) hb)
 clear BKp0
 have BKp0 := nbp0_
 clear nbp0_
 clear BKw
 have BKw := nbw_
 clear nbw_
 clear BKg
 have BKg := nbg_
 clear nbg_
 have hz_p0_0 : w18.cell? ⟨gp0, 0, none⟩ = some (.slice A0 l0.length c0) := (blk_cell BKp0.out 0).trans rfl
 have hz_p0_1 : w18.cell? ⟨gp0, 1, none⟩ = some (.int .i64 n0) := (blk_cell BKp0.out 1).trans rfl
 have hz_w_0 : w18.cell? ⟨gw, 0, none⟩ = some (.slice Aw0 w0.length cw0) := (blk_cell BKw.out 0).trans rfl
 have hz_w_1 : w18.cell? ⟨gw, 1, none⟩ = some (.int .i64 s0) := (blk_cell BKw.out 1).trans rfl
 have hz_g_0 : w18.cell? ⟨gg, 0, none⟩ = some (.slice Ag0 g0.length cg0) := (blk_cell BKg.out 0).trans rfl
 have hz_g_1 : w18.cell? ⟨gg, 1, none⟩ = some (.int .i64 s0) := (blk_cell BKg.out 1).trans rfl
 clear hb
 go_wp2_with fail
 (with_reducible refine (laws_markDisk.calls k s0 (Iv bg0 w10.heap.size) _ g0 1 m g1 w _ ?s14a ?s14b QMG.out).mono ?_)
 case s14a => exact bb
 case s14b => ((with_reducible repeat (first | apply Kd.S_alloc | apply Kd.S_drewN | apply Kd.S_drew)); exact Og0.out)
 rintro e w19 ⟨rfl, hy, hb, hk⟩
 have mm_ := kp hy
 clear hy
 have gg_ := kp (Nat.le_trans Gg0.out hk.1)
 clear Og0 Gg0
 (try clear hz_p0_0)
 (try clear hfz_p0_0)
 (try clear hz_p0_1)
 (try clear hfz_p0_1)
 (try clear hn_p0_w)
 (try clear hn_p0_g)
 (try clear hz_w_0)
 (try clear hfz_w_0)
 (try clear hz_w_1)
 (try clear hfz_w_1)
 (try clear hn_w_p0)
 (try clear hn_w_g)
 (try clear hz_g_0)
 (try clear hfz_g_0)
 (try clear hz_g_1)
 (try clear hfz_g_1)
 (try clear hn_g_p0)
 (try clear hn_g_w)
 have nw0_ := kp (Kd.N_kept (by (with_reducible repeat (first | apply Kd.N_alloc | apply Kd.N_drewN | apply Kd.N_drew)); exact Ow0.out) hk (iv_dn Z_w0_g0.out))
 have gw0_ := kp (Nat.le_trans Gw0.out hk.1)
 clear Ow0 Gw0
 have Ow0 := nw0_
 have Gw0 := gw0_
 clear nw0_ gw0_
 have nbp0_ := kp (blk_kept BKp0.out hk (iv_nb2 Y_p0_g0.out))
 have nbw_ := kp (blk_kept BKw.out hk (iv_nb2 Y_w_g0.out))
 have nbg_ := kp (blk_kept BKg.out hk (iv_nb Zb_g0_g.out))
 clear BKp0
 have BKp0 := nbp0_
 clear nbp0_
 clear BKw
 have BKw := nbw_
 clear nbw_
 clear BKg
 have BKg := nbg_
 clear nbg_
 clear HB
 have HB := kp hb
 have Og1 := mm_
 have Gg1 := gg_
 clear mm_ gg_ hb hk
 have hz_p0_0 : w19.cell? ⟨gp0, 0, none⟩ = some (.slice A0 l0.length c0) := (blk_cell BKp0.out 0).trans rfl
 have hz_p0_1 : w19.cell? ⟨gp0, 1, none⟩ = some (.int .i64 n0) := (blk_cell BKp0.out 1).trans rfl
 have hz_w_0 : w19.cell? ⟨gw, 0, none⟩ = some (.slice Aw0 w0.length cw0) := (blk_cell BKw.out 0).trans rfl
 have hz_w_1 : w19.cell? ⟨gw, 1, none⟩ = some (.int .i64 s0) := (blk_cell BKw.out 1).trans rfl
 have hz_g_0 : w19.cell? ⟨gg, 0, none⟩ = some (.slice Ag0 g0.length cg0) := (blk_cell BKg.out 0).trans rfl
 have hz_g_1 : w19.cell? ⟨gg, 1, none⟩ = some (.int .i64 s0) := (blk_cell BKg.out 1).trans rfl
 go_wp2_with fail
 (with_reducible refine (heldDisk_n k s0 _ _ _ g1 1 m _ ?s15n ?s15a ?s15b QHG.out).mono ?_)
 case s15n => exact (Kd.R_reads' (Kd.S_R Og1.out)).1.symm
 case s15a => repeat (first | exact (D_rd Og1.out).1 | (with_reducible refine Kd.C_alloc ?_ _) | (with_reducible refine Kd.C_drewN ?_ _) | (with_reducible refine Kd.C_drew ?_))
 case s15b => exact (D_rd Og1.out).2
 rintro e w20 ⟨rfl, hb⟩
 (try clear hz_p0_0)
 (try clear hfz_p0_0)
 (try clear hz_p0_1)
 (try clear hfz_p0_1)
 (try clear hn_p0_w)
 (try clear hn_p0_g)
 (try clear hz_w_0)
 (try clear hfz_w_0)
 (try clear hz_w_1)
 (try clear hfz_w_1)
 (try clear hn_w_p0)
 (try clear hn_w_g)
 (try clear hz_g_0)
 (try clear hfz_g_0)
 (try clear hz_g_1)
 (try clear hfz_g_1)
 (try clear hn_g_p0)
 (try clear hn_g_w)
 have nw0_ := kp (Kd.N_below (by (with_reducible repeat (first | apply Kd.N_alloc | apply Kd.N_drewN | apply Kd.N_drew)); exact Ow0.out) hb)
 have gw0_ := kp (Nat.le_trans Gw0.out hb.size)
 have ng1_ := kp (Kd.S_below (by (with_reducible repeat (first | apply Kd.S_alloc | apply Kd.S_drewN | apply Kd.S_drew)); exact Og1.out) hb)
 have gg1_ := kp (Nat.le_trans Gg1.out hb.size)
 clear Ow0 Gw0
 clear Og1 Gg1
 have Ow0 := nw0_
 have Gw0 := gw0_
 clear nw0_ gw0_
 have Og1 := ng1_
 have Gg1 := gg1_
 clear ng1_ gg1_
 have nB_ := kp (below_step bb hb)
 clear HB
 have HB := nB_
 clear nB_
 have nbp0_ := kp (blk_below (kk BKp0.out) hb)
 have nbw_ := kp (blk_below (kk BKw.out) hb)
 have nbg_ := kp (blk_below (kk BKg.out) hb)
 clear BKp0
 have BKp0 := nbp0_
 clear nbp0_
 clear BKw
 have BKw := nbw_
 clear nbw_
 clear BKg
 have BKg := nbg_
 clear nbg_
 have hz_p0_0 : w20.cell? ⟨gp0, 0, none⟩ = some (.slice A0 l0.length c0) := (blk_cell BKp0.out 0).trans rfl
 have hz_p0_1 : w20.cell? ⟨gp0, 1, none⟩ = some (.int .i64 n0) := (blk_cell BKp0.out 1).trans rfl
 have hz_w_0 : w20.cell? ⟨gw, 0, none⟩ = some (.slice Aw0 w0.length cw0) := (blk_cell BKw.out 0).trans rfl
 have hz_w_1 : w20.cell? ⟨gw, 1, none⟩ = some (.int .i64 s0) := (blk_cell BKw.out 1).trans rfl
 have hz_g_0 : w20.cell? ⟨gg, 0, none⟩ = some (.slice Ag0 g0.length cg0) := (blk_cell BKg.out 0).trans rfl
 have hz_g_1 : w20.cell? ⟨gg, 1, none⟩ = some (.int .i64 s0) := (blk_cell BKg.out 1).trans rfl
 clear hb
 go_wp2_with fail
 (with_reducible refine (laws_toDisk.callsD k _ _ l0 n0 x0 n0 _ ?s16a ?s16b QT0.out).mono ?_)
 case s16a => repeat (first | exact (Kd.C_below HR0.out bb) | (with_reducible refine Kd.C_alloc ?_ _) | (with_reducible refine Kd.C_drewN ?_ _) | (with_reducible refine Kd.C_drew ?_))
 case s16b => exact HC0.out
 rintro e w21 ⟨vz0, rfl, hoz0, hb⟩
 obtain ⟨bz0, hlez0, mz0_⟩ := S_ivx hoz0 (below_size bb)
 clear hoz0
 have Z_w0_z0 := kp (hlez0 _ Gw0.out)
 have Z_g1_z0 := kp (hlez0 _ Gg1.out)
 have Y_p0_z0 := kp (hlez0 _ (blk_lt BKp0.out))
 have Y_w_z0 := kp (hlez0 _ (blk_lt BKw.out))
 have Y_g_z0 := kp (hlez0 _ (blk_lt BKg.out))
 clear hlez0
 (try clear hz_p0_0)
 (try clear hfz_p0_0)
 (try clear hz_p0_1)
 (try clear hfz_p0_1)
 (try clear hn_p0_w)
 (try clear hn_p0_g)
 (try clear hz_w_0)
 (try clear hfz_w_0)
 (try clear hz_w_1)
 (try clear hfz_w_1)
 (try clear hn_w_p0)
 (try clear hn_w_g)
 (try clear hz_g_0)
 (try clear hfz_g_0)
 (try clear hz_g_1)
 (try clear hfz_g_1)
 (try clear hn_g_p0)
 (try clear hn_g_w)
 have nw0_ := kp (Kd.N_below (by (with_reducible repeat (first | apply Kd.N_alloc | apply Kd.N_drewN | apply Kd.N_drew)); exact Ow0.out) hb)
 have gw0_ := kp (Nat.le_trans Gw0.out hb.size)
 have ng1_ := kp (Kd.S_below (by (with_reducible repeat (first | apply Kd.S_alloc | apply Kd.S_drewN | apply Kd.S_drew)); exact Og1.out) hb)
 have gg1_ := kp (Nat.le_trans Gg1.out hb.size)
 clear Ow0 Gw0
 clear Og1 Gg1
 have Ow0 := nw0_
 have Gw0 := gw0_
 clear nw0_ gw0_
 have Og1 := ng1_
 have Gg1 := gg1_
 clear ng1_ gg1_
 have nB_ := kp (below_step bb hb)
 clear HB
 have HB := nB_
 clear nB_
 have nbp0_ := kp (blk_below (kk BKp0.out) hb)
 have nbw_ := kp (blk_below (kk BKw.out) hb)
 have nbg_ := kp (blk_below (kk BKg.out) hb)
 clear BKp0
 have BKp0 := nbp0_
 clear nbp0_
 clear BKw
 have BKw := nbw_
 clear nbw_
 clear BKg
 have BKg := nbg_
 clear nbg_
 have hz_p0_0 : w21.cell? ⟨gp0, 0, none⟩ = some (.slice A0 l0.length c0) := (blk_cell BKp0.out 0).trans rfl
 have hz_p0_1 : w21.cell? ⟨gp0, 1, none⟩ = some (.int .i64 n0) := (blk_cell BKp0.out 1).trans rfl
 have hz_w_0 : w21.cell? ⟨gw, 0, none⟩ = some (.slice Aw0 w0.length cw0) := (blk_cell BKw.out 0).trans rfl
 have hz_w_1 : w21.cell? ⟨gw, 1, none⟩ = some (.int .i64 s0) := (blk_cell BKw.out 1).trans rfl
 have hz_g_0 : w21.cell? ⟨gg, 0, none⟩ = some (.slice Ag0 g0.length cg0) := (blk_cell BKg.out 0).trans rfl
 have hz_g_1 : w21.cell? ⟨gg, 1, none⟩ = some (.int .i64 s0) := (blk_cell BKg.out 1).trans rfl
 clear hb
 obtain ⟨Az0, cz0, ez0⟩ := Kd.S_slice mz0_.out
 subst ez0
 have Oz0 := mz0_
 have Gz0 := kp (Nat.le_refl w21.heap.size)
 clear mz0_
 go_wp2_with fail
 (with_reducible refine (impl_DeleteUnreadableFiles.callsD k _ _ x0 n0 g0 s0 _ ?s17a ?s17b QFI.out).mono ?_)
 case s17a => repeat (first | exact (D_rd Oz0.out).1 | (with_reducible refine Kd.C_alloc ?_ _) | (with_reducible refine Kd.C_drewN ?_ _) | (with_reducible refine Kd.C_drew ?_))
 case s17b => exact (D_rd Oz0.out).2
 rintro e w22 ⟨vh0, rfl, hoh0, hb⟩
 obtain ⟨bh0, hleh0, mh0_⟩ := S_ivx hoh0 (below_size bb)
 clear hoh0
 clear Oz0 Gz0
 have Z_w0_h0 := kp (hleh0 _ Gw0.out)
 have Z_g1_h0 := kp (hleh0 _ Gg1.out)
 have Y_p0_h0 := kp (hleh0 _ (blk_lt BKp0.out))
 have Y_w_h0 := kp (hleh0 _ (blk_lt BKw.out))
 have Y_g_h0 := kp (hleh0 _ (blk_lt BKg.out))
 clear hleh0
 (try clear hz_p0_0)
 (try clear hfz_p0_0)
 (try clear hz_p0_1)
 (try clear hfz_p0_1)
 (try clear hn_p0_w)
 (try clear hn_p0_g)
 (try clear hz_w_0)
 (try clear hfz_w_0)
 (try clear hz_w_1)
 (try clear hfz_w_1)
 (try clear hn_w_p0)
 (try clear hn_w_g)
 (try clear hz_g_0)
 (try clear hfz_g_0)
 (try clear hz_g_1)
 (try clear hfz_g_1)
 (try clear hn_g_p0)
 (try clear hn_g_w)
 have nw0_ := kp (Kd.N_below (by (with_reducible repeat (first | apply Kd.N_alloc | apply Kd.N_drewN | apply Kd.N_drew)); exact Ow0.out) hb)
 have gw0_ := kp (Nat.le_trans Gw0.out hb.size)
 have ng1_ := kp (Kd.S_below (by (with_reducible repeat (first | apply Kd.S_alloc | apply Kd.S_drewN | apply Kd.S_drew)); exact Og1.out) hb)
 have gg1_ := kp (Nat.le_trans Gg1.out hb.size)
 clear Ow0 Gw0
 clear Og1 Gg1
 have Ow0 := nw0_
 have Gw0 := gw0_
 clear nw0_ gw0_
 have Og1 := ng1_
 have Gg1 := gg1_
 clear ng1_ gg1_
 have nB_ := kp (below_step bb hb)
 clear HB
 have HB := nB_
 clear nB_
 have nbp0_ := kp (blk_below (kk BKp0.out) hb)
 have nbw_ := kp (blk_below (kk BKw.out) hb)
 have nbg_ := kp (blk_below (kk BKg.out) hb)
 clear BKp0
 have BKp0 := nbp0_
 clear nbp0_
 clear BKw
 have BKw := nbw_
 clear nbw_
 clear BKg
 have BKg := nbg_
 clear nbg_
 have hz_p0_0 : w22.cell? ⟨gp0, 0, none⟩ = some (.slice A0 l0.length c0) := (blk_cell BKp0.out 0).trans rfl
 have hz_p0_1 : w22.cell? ⟨gp0, 1, none⟩ = some (.int .i64 n0) := (blk_cell BKp0.out 1).trans rfl
 have hz_w_0 : w22.cell? ⟨gw, 0, none⟩ = some (.slice Aw0 w0.length cw0) := (blk_cell BKw.out 0).trans rfl
 have hz_w_1 : w22.cell? ⟨gw, 1, none⟩ = some (.int .i64 s0) := (blk_cell BKw.out 1).trans rfl
 have hz_g_0 : w22.cell? ⟨gg, 0, none⟩ = some (.slice Ag0 g0.length cg0) := (blk_cell BKg.out 0).trans rfl
 have hz_g_1 : w22.cell? ⟨gg, 1, none⟩ = some (.int .i64 s0) := (blk_cell BKg.out 1).trans rfl
 clear hb
 obtain ⟨Ah0, ch0, eh0⟩ := Kd.S_slice mh0_.out
 subst eh0
 have Oh0 := mh0_
 have Gh0 := kp (Nat.le_refl w22.heap.size)
 clear mh0_
 go_wp2_with (first | ((with_reducible refine gate_dst (N := 10) rfl ?_); refine bx_ 10 #[.slice none 0 0, .int .i64 0] 28 ?_; intro gh hg w23 hbox hb; have Zb_w0_h := kp (by rw [hg]; exact Gw0.out : w4.heap.size ≤ gh); have Zb_g1_h := kp (by rw [hg]; exact Gg1.out : w10.heap.size ≤ gh); have Zb_h0_h := kp (by rw [hg]; exact Gh0.out : w22.heap.size ≤ gh); have NB_p0_h := kp (by rw [hg]; exact Nat.ne_of_lt (blk_lt BKp0.out) : gp0 ≠ gh); have NB_h_p0 := kp (fun h_ => NB_p0_h.out h_.symm : gh ≠ gp0); have NB_w_h := kp (by rw [hg]; exact Nat.ne_of_lt (blk_lt BKw.out) : gw ≠ gh); have NB_h_w := kp (fun h_ => NB_w_h.out h_.symm : gh ≠ gw); have NB_g_h := kp (by rw [hg]; exact Nat.ne_of_lt (blk_lt BKg.out) : gg ≠ gh); have NB_h_g := kp (fun h_ => NB_g_h.out h_.symm : gh ≠ gg); have GEh := kp (by rw [hg]; exact below_size bb : w.heap.size ≤ gh); (try clear hz_p0_0); (try clear hfz_p0_0); (try clear hz_p0_1); (try clear hfz_p0_1); (try clear hn_p0_w); (try clear hn_p0_g); (try clear hz_w_0); (try clear hfz_w_0); (try clear hz_w_1); (try clear hfz_w_1); (try clear hn_w_p0); (try clear hn_w_g); (try clear hz_g_0); (try clear hfz_g_0); (try clear hz_g_1); (try clear hfz_g_1); (try clear hn_g_p0); (try clear hn_g_w); have nw0_ := kp (Kd.N_below (by (with_reducible repeat (first | apply Kd.N_alloc | apply Kd.N_drewN | apply Kd.N_drew)); exact Ow0.out) hb); have gw0_ := kp (Nat.le_trans Gw0.out hb.size); have ng1_ := kp (Kd.S_below (by (with_reducible repeat (first | apply Kd.S_alloc | apply Kd.S_drewN | apply Kd.S_drew)); exact Og1.out) hb); have gg1_ := kp (Nat.le_trans Gg1.out hb.size); have nh0_ := kp (Kd.S_below (by (with_reducible repeat (first | apply Kd.S_alloc | apply Kd.S_drewN | apply Kd.S_drew)); exact Oh0.out) hb); have gh0_ := kp (Nat.le_trans Gh0.out hb.size); clear Ow0 Gw0; clear Og1 Gg1; clear Oh0 Gh0; have Ow0 := nw0_; have Gw0 := gw0_; clear nw0_ gw0_; have Og1 := ng1_; have Gg1 := gg1_; clear ng1_ gg1_; have Oh0 := nh0_; have Gh0 := gh0_; clear nh0_ gh0_; have nB_ := kp (below_step bb hb); clear HB; have HB := nB_; clear nB_; have nbp0_ := kp (blk_below (kk BKp0.out) hb); have nbw_ := kp (blk_below (kk BKw.out) hb); have nbg_ := kp (blk_below (kk BKg.out) hb); clear BKp0; have BKp0 := nbp0_; clear nbp0_; clear BKw; have BKw := nbw_; clear nbw_; clear BKg; have BKg := nbg_; clear nbg_; have BKh := kp hbox; clear hb hbox hg; have hz_p0_0 : w23.cell? ⟨gp0, 0, none⟩ = some (.slice A0 l0.length c0) := (blk_cell BKp0.out 0).trans rfl; have hz_p0_1 : w23.cell? ⟨gp0, 1, none⟩ = some (.int .i64 n0) := (blk_cell BKp0.out 1).trans rfl; have hz_w_0 : w23.cell? ⟨gw, 0, none⟩ = some (.slice Aw0 w0.length cw0) := (blk_cell BKw.out 0).trans rfl; have hz_w_1 : w23.cell? ⟨gw, 1, none⟩ = some (.int .i64 s0) := (blk_cell BKw.out 1).trans rfl; have hz_g_0 : w23.cell? ⟨gg, 0, none⟩ = some (.slice Ag0 g0.length cg0) := (blk_cell BKg.out 0).trans rfl; have hz_g_1 : w23.cell? ⟨gg, 1, none⟩ = some (.int .i64 s0) := (blk_cell BKg.out 1).trans rfl; have hz_h_0 : w23.cell? ⟨gh, 0, none⟩ = some (.slice none 0 0) := (blk_cell BKh.out 0).trans rfl; have hz_h_1 : w23.cell? ⟨gh, 1, none⟩ = some (.int .i64 0) := (blk_cell BKh.out 1).trans rfl; have hfz_p0_0 := blk_frozen BKp0.out 0; have hfz_p0_1 := blk_frozen BKp0.out 1; have hn_p0_w := NB_p0_w.out; have hn_p0_g := NB_p0_g.out; have hn_p0_h := NB_p0_h.out; have hfz_w_0 := blk_frozen BKw.out 0; have hfz_w_1 := blk_frozen BKw.out 1; have hn_w_p0 := NB_w_p0.out; have hn_w_g := NB_w_g.out; have hn_w_h := NB_w_h.out; have hfz_g_0 := blk_frozen BKg.out 0; have hfz_g_1 := blk_frozen BKg.out 1; have hn_g_p0 := NB_g_p0.out; have hn_g_w := NB_g_w.out; have hn_g_h := NB_g_h.out; have hfz_h_0 := blk_frozen BKh.out 0; have hfz_h_1 := blk_frozen BKh.out 1; have hn_h_p0 := NB_h_p0.out; have hn_h_w := NB_h_w.out; have hn_h_g := NB_h_g.out))
 have nw0_ := kp (Kd.N_far (p := ⟨gh, 1, none⟩) (Kd.N_far (p := ⟨gh, 0, none⟩) Ow0.out (iv_far Zb_w0_h.out) (.slice Ah0 g0.length ch0)) (iv_far Zb_w0_h.out) (.int .i64 s0))
 have ng1_ := kp (Kd.S_far (p := ⟨gh, 1, none⟩) (Kd.S_far (p := ⟨gh, 0, none⟩) Og1.out (iv_far Zb_g1_h.out) (.slice Ah0 g0.length ch0)) (iv_far Zb_g1_h.out) (.int .i64 s0))
 have nh0_ := kp (Kd.S_far (p := ⟨gh, 1, none⟩) (Kd.S_far (p := ⟨gh, 0, none⟩) Oh0.out (iv_far Zb_h0_h.out) (.slice Ah0 g0.length ch0)) (iv_far Zb_h0_h.out) (.int .i64 s0))
 have nbp0_ := kp (show ((w23.setCell ⟨gh, 0, none⟩ (.slice Ah0 g0.length ch0)).setCell ⟨gh, 1, none⟩ (.int .i64 s0)).heap[gp0]? = some (.cells #[.slice A0 l0.length c0, .int .i64 n0] 24 (0, 0)) from (blk_far (blk_far BKp0.out (p := ⟨gh, 0, none⟩) NB_p0_h.out (.slice Ah0 g0.length ch0)) (p := ⟨gh, 1, none⟩) NB_p0_h.out (.int .i64 s0)))
 have nbw_ := kp (show ((w23.setCell ⟨gh, 0, none⟩ (.slice Ah0 g0.length ch0)).setCell ⟨gh, 1, none⟩ (.int .i64 s0)).heap[gw]? = some (.cells #[.slice Aw0 w0.length cw0, .int .i64 s0] 28 (0, 0)) from (blk_far (blk_far BKw.out (p := ⟨gh, 0, none⟩) NB_w_h.out (.slice Ah0 g0.length ch0)) (p := ⟨gh, 1, none⟩) NB_w_h.out (.int .i64 s0)))
 have nbg_ := kp (show ((w23.setCell ⟨gh, 0, none⟩ (.slice Ah0 g0.length ch0)).setCell ⟨gh, 1, none⟩ (.int .i64 s0)).heap[gg]? = some (.cells #[.slice Ag0 g0.length cg0, .int .i64 s0] 28 (0, 0)) from (blk_far (blk_far BKg.out (p := ⟨gh, 0, none⟩) NB_g_h.out (.slice Ah0 g0.length ch0)) (p := ⟨gh, 1, none⟩) NB_g_h.out (.int .i64 s0)))
 have nbh_ := kp (show ((w23.setCell ⟨gh, 0, none⟩ (.slice Ah0 g0.length ch0)).setCell ⟨gh, 1, none⟩ (.int .i64 s0)).heap[gh]? = some (.cells #[.slice Ah0 g0.length ch0, .int .i64 s0] 28 (0, 0)) from (blk_set (blk_set BKh.out 0 (.slice Ah0 g0.length ch0)) 1 (.int .i64 s0)))
 have nB_ := kp (show Below w.heap.size w ((w23.setCell ⟨gh, 0, none⟩ (.slice Ah0 g0.length ch0)).setCell ⟨gh, 1, none⟩ (.int .i64 s0)) from (below_set (below_set HB.out GEh.out) GEh.out))
 have hs_ : ((w23.setCell ⟨gh, 0, none⟩ (.slice Ah0 g0.length ch0)).setCell ⟨gh, 1, none⟩ (.int .i64 s0)).heap.size = w23.heap.size := by simp [World.setCell]
 have gw0_ := kp (by rw [hs_]; exact Gw0.out : w4.heap.size ≤ ((w23.setCell ⟨gh, 0, none⟩ (.slice Ah0 g0.length ch0)).setCell ⟨gh, 1, none⟩ (.int .i64 s0)).heap.size)
 have gg1_ := kp (by rw [hs_]; exact Gg1.out : w10.heap.size ≤ ((w23.setCell ⟨gh, 0, none⟩ (.slice Ah0 g0.length ch0)).setCell ⟨gh, 1, none⟩ (.int .i64 s0)).heap.size)
 have gh0_ := kp (by rw [hs_]; exact Gh0.out : w22.heap.size ≤ ((w23.setCell ⟨gh, 0, none⟩ (.slice Ah0 g0.length ch0)).setCell ⟨gh, 1, none⟩ (.int .i64 s0)).heap.size)
 (try clear hz_p0_0)
 (try clear hfz_p0_0)
 (try clear hz_p0_1)
 (try clear hfz_p0_1)
 (try clear hn_p0_w)
 (try clear hn_p0_g)
 (try clear hn_p0_h)
 (try clear hz_w_0)
 (try clear hfz_w_0)
 (try clear hz_w_1)
 (try clear hfz_w_1)
 (try clear hn_w_p0)
 (try clear hn_w_g)
 (try clear hn_w_h)
 (try clear hz_g_0)
 (try clear hfz_g_0)
 (try clear hz_g_1)
 (try clear hfz_g_1)
 (try clear hn_g_p0)
 (try clear hn_g_w)
 (try clear hn_g_h)
 (try clear hz_h_0)
 (try clear hfz_h_0)
 (try clear hz_h_1)
 (try clear hfz_h_1)
 (try clear hn_h_p0)
 (try clear hn_h_w)
 (try clear hn_h_g)
 clear hs_ HB
 have HB := nB_
 clear nB_
 clear Ow0 Gw0
 have Ow0 := nw0_
 have Gw0 := gw0_
 clear nw0_ gw0_
 clear Og1 Gg1
 have Og1 := ng1_
 have Gg1 := gg1_
 clear ng1_ gg1_
 clear Oh0 Gh0
 have Oh0 := nh0_
 have Gh0 := gh0_
 clear nh0_ gh0_
 clear BKp0
 have BKp0 := nbp0_
 clear nbp0_
 clear BKw
 have BKw := nbw_
 clear nbw_
 clear BKg
 have BKg := nbg_
 clear nbg_
 clear BKh
 have BKh := nbh_
 clear nbh_
 generalize ((w23.setCell ⟨gh, 0, none⟩ (.slice Ah0 g0.length ch0)).setCell ⟨gh, 1, none⟩ (.int .i64 s0)) = w25 at *
 (with_reducible refine (laws_eqDisk.calls k _ _ g0 s0 _ _ w0 s0 true _ ?s18a ?s18b ?s19a ?s19b QFE.out).mono ?_)
 case s18a => repeat (first | exact (D_rd Oh0.out).1 | (with_reducible refine Kd.C_alloc ?_ _) | (with_reducible refine Kd.C_drewN ?_ _) | (with_reducible refine Kd.C_drew ?_))
 case s18b => exact (D_rd Oh0.out).2
 case s19a => repeat (first | exact (N_rd Ow0.out).1 | (with_reducible refine Kd.C_alloc ?_ _) | (with_reducible refine Kd.C_drewN ?_ _) | (with_reducible refine Kd.C_drew ?_))
 case s19b => exact (N_rd Ow0.out).2
 rintro e w25 ⟨rfl, hb⟩
 (try (have hb_ := hb.below; clear hb; have hb := hb_; clear hb_))
 clear Oh0 Gh0
 clear Ow0 Gw0
 (try clear hz_p0_0)
 (try clear hfz_p0_0)
 (try clear hz_p0_1)
 (try clear hfz_p0_1)
 (try clear hn_p0_w)
 (try clear hn_p0_g)
 (try clear hn_p0_h)
 (try clear hz_w_0)
 (try clear hfz_w_0)
 (try clear hz_w_1)
 (try clear hfz_w_1)
 (try clear hn_w_p0)
 (try clear hn_w_g)
 (try clear hn_w_h)
 (try clear hz_g_0)
 (try clear hfz_g_0)
 (try clear hz_g_1)
 (try clear hfz_g_1)
 (try clear hn_g_p0)
 (try clear hn_g_w)
 (try clear hn_g_h)
 (try clear hz_h_0)
 (try clear hfz_h_0)
 (try clear hz_h_1)
 (try clear hfz_h_1)
 (try clear hn_h_p0)
 (try clear hn_h_w)
 (try clear hn_h_g)
 have ng1_ := kp (Kd.S_below (by (with_reducible repeat (first | apply Kd.S_alloc | apply Kd.S_drewN | apply Kd.S_drew)); exact Og1.out) hb)
 have gg1_ := kp (Nat.le_trans Gg1.out hb.size)
 clear Og1 Gg1
 have Og1 := ng1_
 have Gg1 := gg1_
 clear ng1_ gg1_
 have nB_ := kp (below_step bb hb)
 clear HB
 have HB := nB_
 clear nB_
 have nbp0_ := kp (blk_below (kk BKp0.out) hb)
 have nbw_ := kp (blk_below (kk BKw.out) hb)
 have nbg_ := kp (blk_below (kk BKg.out) hb)
 have nbh_ := kp (blk_below (kk BKh.out) hb)
 clear BKp0
 have BKp0 := nbp0_
 clear nbp0_
 clear BKw
 have BKw := nbw_
 clear nbw_
 clear BKg
 have BKg := nbg_
 clear nbg_
 clear BKh
 have BKh := nbh_
 clear nbh_
 have hz_p0_0 : w25.cell? ⟨gp0, 0, none⟩ = some (.slice A0 l0.length c0) := (blk_cell BKp0.out 0).trans rfl
 have hz_p0_1 : w25.cell? ⟨gp0, 1, none⟩ = some (.int .i64 n0) := (blk_cell BKp0.out 1).trans rfl
 have hz_w_0 : w25.cell? ⟨gw, 0, none⟩ = some (.slice Aw0 w0.length cw0) := (blk_cell BKw.out 0).trans rfl
 have hz_w_1 : w25.cell? ⟨gw, 1, none⟩ = some (.int .i64 s0) := (blk_cell BKw.out 1).trans rfl
 have hz_g_0 : w25.cell? ⟨gg, 0, none⟩ = some (.slice Ag0 g0.length cg0) := (blk_cell BKg.out 0).trans rfl
 have hz_g_1 : w25.cell? ⟨gg, 1, none⟩ = some (.int .i64 s0) := (blk_cell BKg.out 1).trans rfl
 have hz_h_0 : w25.cell? ⟨gh, 0, none⟩ = some (.slice Ah0 g0.length ch0) := (blk_cell BKh.out 0).trans rfl
 have hz_h_1 : w25.cell? ⟨gh, 1, none⟩ = some (.int .i64 s0) := (blk_cell BKh.out 1).trans rfl
 clear hb
 go_wp2_with fail
 (with_reducible refine (heldDisk_n k s0 _ _ _ g1 1 m _ ?s20n ?s20a ?s20b QHG.out).mono ?_)
 case s20n => exact (Kd.R_reads' (Kd.S_R Og1.out)).1.symm
 case s20a => repeat (first | exact (D_rd Og1.out).1 | (with_reducible refine Kd.C_alloc ?_ _) | (with_reducible refine Kd.C_drewN ?_ _) | (with_reducible refine Kd.C_drew ?_))
 case s20b => exact (D_rd Og1.out).2
 rintro e w26 ⟨rfl, hb⟩
 (try clear hz_p0_0)
 (try clear hfz_p0_0)
 (try clear hz_p0_1)
 (try clear hfz_p0_1)
 (try clear hn_p0_w)
 (try clear hn_p0_g)
 (try clear hn_p0_h)
 (try clear hz_w_0)
 (try clear hfz_w_0)
 (try clear hz_w_1)
 (try clear hfz_w_1)
 (try clear hn_w_p0)
 (try clear hn_w_g)
 (try clear hn_w_h)
 (try clear hz_g_0)
 (try clear hfz_g_0)
 (try clear hz_g_1)
 (try clear hfz_g_1)
 (try clear hn_g_p0)
 (try clear hn_g_w)
 (try clear hn_g_h)
 (try clear hz_h_0)
 (try clear hfz_h_0)
 (try clear hz_h_1)
 (try clear hfz_h_1)
 (try clear hn_h_p0)
 (try clear hn_h_w)
 (try clear hn_h_g)
 have ng1_ := kp (Kd.S_below (by (with_reducible repeat (first | apply Kd.S_alloc | apply Kd.S_drewN | apply Kd.S_drew)); exact Og1.out) hb)
 have gg1_ := kp (Nat.le_trans Gg1.out hb.size)
 clear Og1 Gg1
 have Og1 := ng1_
 have Gg1 := gg1_
 clear ng1_ gg1_
 have nB_ := kp (below_step bb hb)
 clear HB
 have HB := nB_
 clear nB_
 have nbp0_ := kp (blk_below (kk BKp0.out) hb)
 have nbw_ := kp (blk_below (kk BKw.out) hb)
 have nbg_ := kp (blk_below (kk BKg.out) hb)
 have nbh_ := kp (blk_below (kk BKh.out) hb)
 clear BKp0
 have BKp0 := nbp0_
 clear nbp0_
 clear BKw
 have BKw := nbw_
 clear nbw_
 clear BKg
 have BKg := nbg_
 clear nbg_
 clear BKh
 have BKh := nbh_
 clear nbh_
 have hz_p0_0 : w26.cell? ⟨gp0, 0, none⟩ = some (.slice A0 l0.length c0) := (blk_cell BKp0.out 0).trans rfl
 have hz_p0_1 : w26.cell? ⟨gp0, 1, none⟩ = some (.int .i64 n0) := (blk_cell BKp0.out 1).trans rfl
 have hz_w_0 : w26.cell? ⟨gw, 0, none⟩ = some (.slice Aw0 w0.length cw0) := (blk_cell BKw.out 0).trans rfl
 have hz_w_1 : w26.cell? ⟨gw, 1, none⟩ = some (.int .i64 s0) := (blk_cell BKw.out 1).trans rfl
 have hz_g_0 : w26.cell? ⟨gg, 0, none⟩ = some (.slice Ag0 g0.length cg0) := (blk_cell BKg.out 0).trans rfl
 have hz_g_1 : w26.cell? ⟨gg, 1, none⟩ = some (.int .i64 s0) := (blk_cell BKg.out 1).trans rfl
 have hz_h_0 : w26.cell? ⟨gh, 0, none⟩ = some (.slice Ah0 g0.length ch0) := (blk_cell BKh.out 0).trans rfl
 have hz_h_1 : w26.cell? ⟨gh, 1, none⟩ = some (.int .i64 s0) := (blk_cell BKh.out 1).trans rfl
 clear hb
 go_wp2
 go_ret
 exact ⟨by first | rfl | simp, bb⟩
def laws_FnExactDeleteUnreadableFiles.OK (k : Nat) (l0 : List S107) (n0 : Int) : Prop := (∃ (t0 : Int), laws_szDisk.f k l0 n0 1048576 = some t0 ∧ t0 < 0) ∨ (∃ (t0 : Int) (x0 : List S80) (y0 : List S80) (w0 : List S80) (g0 : List S80) (g1 : List S80) (k0 : Int) (m : Int) (s0 : Int) , laws_szDisk.f k l0 n0 1048576 = some t0 ∧ laws_toDisk.f k l0 n0 = some (x0, n0) ∧ spec_DeleteUnreadableFiles.f k x0 n0 = some (w0, s0) ∧ impl_DeleteUnreadableFiles.f k x0 n0 = some (g0, s0) ∧ laws_eqDisk.f k g0 s0 w0 s0 = some true ∧ laws_eqDisk.f k x0 n0 x0 n0 = some true ∧ laws_markFileS.f k x0 1 = some (k0, y0) ∧ laws_markFileS.f k g0 1 = some (m, g1) ∧ laws_heldDisk.f k g1 s0 1 = some m ∧ ¬ t0 < 0 ∧ ¬ k0 < 0 ∧ ¬ m < 0)
theorem laws_FnExactDeleteUnreadableFiles.calls (k : Nat) (A0 : Option Addr) (c0 : Nat) (l0 : List S107) (n0 : Int) (r : Bool) (w : World) (hr0 : Kd.C k107 w A0 l0.length l0) (hc0 : l0.length ≤ c0) (h : laws_FnExactDeleteUnreadableFiles.OK k l0 n0) :
  Calls Try.prog 5 #[.agg #[.slice A0 l0.length c0, .int .i64 n0]] w fun e w' => e = .returned (.bool true) ∧ Below w.heap.size w w' := by
 obtain ⟨t0, Z0, m0⟩ | ⟨t0, x0, y0, w0, g0, g1, k0, m, s0, Z0, T0, FS, FI, FE, E0, M0, MG, HG, m0, nk, nm⟩ := h
 ·exact laws_FnExactDeleteUnreadableFiles.big0 k A0 c0 l0 n0 t0 w hr0 hc0 Z0 m0
 ·exact laws_FnExactDeleteUnreadableFiles.walk k A0 c0 l0 n0 t0 x0 y0 w0 g0 g1 k0 m s0 w hr0 hc0 Z0 T0 FS FI FE E0 M0 MG HG m0 nk nm
end Go.Proofs.Ytinniedbgfgclaa.PFnExactDeleteUnreadableFiles
