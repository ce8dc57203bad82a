/- The walk of the law FnRowFormat: every test is decided by the premises; nothing is claimed here. -/
import Derived.Test.YtkipmmkjbeeemaaQFnRowFormatx10
import Derived.Test.YtkipmmkjbeeemaaLin
import Derived.Test.YtkipmmkjbeeemaaShort
namespace Go.Proofs.Ytkipmmkjbeeemaa.PFnRowFormat
open Go.RowKit Go.Proofs.YtkipmmkjbeeemaaW.PrintWords Go.Proofs.YtkipmmkjbeeemaaW.PrintLast Go.Proofs.YtkipmmkjbeeemaaW.PrintMore Go.Proofs.Ytkipmmkjbeeemaa.Lin Go.Proofs.Ytkipmmkjbeeemaa.Short
attribute [local go_sem] max2_int min2_int max_two min_two max_three min_three max_four min_four
attribute [local go_sem high] eqA33
set_option linter.unusedVariables false
set_option linter.unusedSimpArgs false
def laws_FnRowFormat.T8 : Bool × List (List Nat × List Nat) := (true, [([], []), ([], []), ([1], [1]), ([0, 2], [0, 2]), ([3, 2], [3]), ([4], [4]), ([4], [4]), ([6, 4, 4], [4, 6]), ([5, 7, 4], [4, 5, 7]), ([4, 8], [4, 8]), ([9, 7], [9]), ([10], [10]), ([11, 10, 10], [10, 11]), ([12], [12]), ([12], [12]), ([13, 14, 12], [12, 13, 14]), ([12, 15, 10], [10, 12, 15]), ([10, 16], [10, 16]), ([17, 12], [17]), ([18], [18]), ([18], [18]), ([19, 20, 18], [18, 19, 20]), ([18, 21], [18, 21]), ([22, 18], [22]), ([23], [23]), ([24, 23, 23], [23, 24]), ([25], [25]), ([26, 25, 25], [25, 26]), ([25], [25]), ([27, 28, 25], [25, 27, 28]), ([25, 29, 23], [23, 25, 29]), ([23, 30], [23, 30]), ([31, 27], [31]), ([32], [32]), ([33, 32, 32], [32, 33]), ([34], [34]), ([35, 34, 34], [34, 35]), ([34], [34]), ([37, 34], [34, 37]), ([38, 34], [34, 38]), ([36, 39, 34], [34, 36, 39]), ([34, 40, 32], [32, 34, 40]), ([32, 41], [32, 41])])
def laws_FnRowFormat.B8 : List Nat := [0, 0, 2, 7, 15, 31, 31, 95, 255, 511, 1023, 2047, 4095, 8191, 8191, 32767, 65535, 131071, 262143, 524287, 524287, 2097151, 4194303, 8388607, 16777215, 33554431, 67108863, 134217727, 67108863, 536870911, 1073741823, 2147483647, 4294967295, 8589934591, 17179869183, 34359738367, 68719476735, 34359738367, 171798691839, 446676598783, 1099511627775, 2199023255551, 4398046511103]
theorem laws_FnRowFormat.tab8 : rtab .any (opsOf Try.f14 8) = laws_FnRowFormat.T8 := by kernel_rfl
theorem laws_FnRowFormat.bits8 : waitsOk laws_FnRowFormat.T8.2 laws_FnRowFormat.B8 = true := by kernel_rfl
set_option maxHeartbeats 4000000 in
set_option maxRecDepth 100000 in
theorem laws_FnRowFormat.big (A0 : Option Addr) (c0 : Nat) (l0 : List Int) (w : World) (hr0 : Kd.C (Kd.int .u8) w A0 l0.length l0) (hc0 : l0.length ≤ c0) (F1 : laws_big.f l0 = some true) :
  Calls Try.prog 14 #[.slice A0 l0.length c0] w fun e w' => e = .returned (.bool true) ∧ Below w.heap.size w w' := by
 have HR0 := kp hr0
 have HC0 := kp hc0
 clear hr0 hc0
 have HB := kp (Below.refl w.heap.size w)
 have QF1 := kp F1
 clear F1
 go_enter Try.func14, Try.ntmps14
 go_wp2_with fail
 (with_reducible refine (laws_big.calls _ _ l0 true _ ?s1a ?s1b QF1.out).mono ?_)
 case s1a => repeat (first | exact (Kd.C_below HR0.out (by with_reducible repeat (first | exact HB.out | apply cA | apply cN | apply cD))) | (with_reducible refine Kd.C_alloc ?_ _) | (with_reducible refine Kd.C_drewN ?_ _) | (with_reducible refine Kd.C_drew ?_))
 case s1b => exact HC0.out
 rintro e w1 ⟨rfl, hb⟩
 (try (have hb_ := hb.below; clear hb; have hb := hb_; clear hb_))
 have nB_ := kp (below_step (by with_reducible repeat (first | exact HB.out | apply cA | apply cN | apply cD)) hb)
 clear HB
 have HB := nB_
 clear nB_
 clear hb
 go_wp2
 go_ret
 exact ⟨by first | rfl | simp, (by with_reducible repeat (first | exact HB.out | apply cA | apply cN | apply cD))⟩
set_option maxHeartbeats 16000000 in
set_option maxRecDepth 100000 in
theorem laws_FnRowFormat.lin (k : Nat) (A0 : Option Addr) (c0 : Nat) (l0 : List Int) (l a b : List S33) (fr s fs t : ByteArray) (r0 r1 r2 x0 x1 x2 y0 y1 y2 tc : Int) (is fn two av : Bool) (w : World) (hr0 : Kd.C (Kd.int .u8) w A0 l0.length l0) (hc0 : l0.length ≤ c0)
  (F1 : laws_big.f l0 = some false) (F2 : spec_DrawFormatRow.f k l0 = some (r0, r1, r2)) (F3 : impl_FormatRow.f k r0 r1 r2 = some fr) (F4 : impl_ParseRow.f k fr = some (x0, x1, x2, is)) (F5 : spec_DrawParseRow.f k l0 = some s) (F6 : impl_ParseRow.f k s = some (y0, y1, y2, fn)) (F7 : spec_ParseRow.f k s = some (y0, y1, y2, fn))
  (F8 : spec_IsValidRow.f r0 r1 r2 = some is) (F9 : impl_IsValidRow.f r0 r1 r2 = some is) (F10 : fn = true → impl_FormatRow.f k y0 y1 y2 = some s) (F11 : is = true → impl_RowCost.f r0 r1 r2 = some (wrap64 (1 + r2))) (hx : is = true → (x0 == r0) = true ∧ (x1 == r1) = true ∧ (x2 == r2) = true)
  (F12 : spec_DrawFormatRows.f k l0 = some l) (F13 : impl_FormatRows.f k l = some fs) (F14 : impl_ParseRows.f k fs = some (a, true)) (F15 : spec_DrawParseRows.f k l0 = some t) (F16 : impl_ParseRows.f k t = some (b, two)) (F17 : spec_ParseRows.f k t = some (b, two))
  (F18 : spec_AreValidRows.f k l = some av) (F19 : av = true → laws_sameRows.f k a l = some true) (F20 : two = true → impl_FormatRows.f k b = some t) (F21 : impl_AreValidRows.f k l = some av) (F22 : impl_TotalCost.f k l = some tc) (F23 : spec_TotalCost.f k l = some tc) :
  Calls Try.prog 14 #[.slice A0 l0.length c0] w fun e w' => e = .returned (.bool true) ∧ Below w.heap.size w w' := by
 have HR0 := kp hr0
 have HC0 := kp hc0
 clear hr0 hc0
 have HB := kp (Below.refl w.heap.size w)
 have QF1 := kp F1
 clear F1
 have QF2 := kp F2
 clear F2
 have QF3 := kp F3
 clear F3
 have QF4 := kp F4
 clear F4
 have QF5 := kp F5
 clear F5
 have QF6 := kp F6
 clear F6
 have QF7 := kp F7
 clear F7
 have QF8 := kp F8
 clear F8
 have QF9 := kp F9
 clear F9
 have QF10 := kp F10
 clear F10
 have QF11 := kp F11
 clear F11
 have QF12 := kp F12
 clear F12
 have QF13 := kp F13
 clear F13
 have QF14 := kp F14
 clear F14
 have QF15 := kp F15
 clear F15
 have QF16 := kp F16
 clear F16
 have QF17 := kp F17
 clear F17
 have QF18 := kp F18
 clear F18
 have QF19 := kp F19
 clear F19
 have QF20 := kp F20
 clear F20
 have QF21 := kp F21
 clear F21
 have QF22 := kp F22
 clear F22
 have QF23 := kp F23
 clear F23
 have Qhx := kp hx
 clear hx
 have hu33 := Try.underlying33
 have en_ : (wrap64 (1 + r2) != wrap64 (1 + r2)) = false := by simp
 have et_ : (tc == tc) = true := beq_self_eq_true tc
 go_enter Try.func14, Try.ntmps14
 go_wp2_with fail
 (with_reducible refine (laws_big.calls _ _ l0 false _ ?s1a ?s1b QF1.out).mono ?_)
 case s1a => repeat (first | exact (Kd.C_below HR0.out (by with_reducible repeat (first | exact HB.out | apply cA | apply cN | apply cD))) | (with_reducible refine Kd.C_alloc ?_ _) | (with_reducible refine Kd.C_drewN ?_ _) | (with_reducible refine Kd.C_drew ?_))
 case s1b => exact HC0.out
 rintro e w1 ⟨rfl, hb⟩
 (try (have hb_ := hb.below; clear hb; have hb := hb_; clear hb_))
 have nB_ := kp (below_step (by with_reducible repeat (first | exact HB.out | apply cA | apply cN | apply cD)) hb)
 clear HB
 have HB := nB_
 clear nB_
 clear hb
 go_wp2_with fail
 (with_reducible refine (spec_DrawFormatRow.calls k _ _ l0 r0 r1 r2 _ ?s2a ?s2b QF2.out).mono ?_)
 case s2a => repeat (first | exact (Kd.C_below HR0.out (by with_reducible repeat (first | exact HB.out | apply cA | apply cN | apply cD))) | (with_reducible refine Kd.C_alloc ?_ _) | (with_reducible refine Kd.C_drewN ?_ _) | (with_reducible refine Kd.C_drew ?_))
 case s2b => exact HC0.out
 rintro e w2 ⟨rfl, hb⟩
 (try (have hb_ := hb.below; clear hb; have hb := hb_; clear hb_))
 have nB_ := kp (below_step (by with_reducible repeat (first | exact HB.out | apply cA | apply cN | apply cD)) hb)
 clear HB
 have HB := nB_
 clear nB_
 clear hb
 go_wp2_with (first | ((with_reducible refine gate_dst (N := 3) rfl ?_); refine box_event ?hg3 (N := 3) ?hd3 (cs := #[.int .i64 0, .int .i64 0, .int .i64 0]) (t := 33) ?hr3 ?_; (case hd3 => rfl); (case hg3 => rfl); (case hr3 => first | (go_simp; done) | (go_simp; rfl)); intro gr hg w3 hbox hb; have GEr := kp (by rw [hg]; exact below_size (by with_reducible repeat (first | exact HB.out | apply cA | apply cN | apply cD)) : w.heap.size ≤ gr); have nB_ := kp (below_step (by with_reducible repeat (first | exact HB.out | apply cA | apply cN | apply cD)) hb); clear HB; have HB := nB_; clear nB_; have BKr := kp hbox; clear hb hbox hg; have hz_r_0 : w3.cell? ⟨gr, 0, none⟩ = some (.int .i64 0) := (blk_cell BKr.out 0).trans rfl; have hz_r_1 : w3.cell? ⟨gr, 1, none⟩ = some (.int .i64 0) := (blk_cell BKr.out 1).trans rfl; have hz_r_2 : w3.cell? ⟨gr, 2, none⟩ = some (.int .i64 0) := (blk_cell BKr.out 2).trans rfl; have hfz_r_0 := blk_frozen BKr.out 0; have hfz_r_1 := blk_frozen BKr.out 1; have hfz_r_2 := blk_frozen BKr.out 2))
 have nbr_ := kp (show (((w3.setCell ⟨gr, 0, none⟩ (.int .i64 r0)).setCell ⟨gr, 1, none⟩ (.int .i64 r1)).setCell ⟨gr, 2, none⟩ (.int .i64 r2)).heap[gr]? = some (.cells #[.int .i64 r0, .int .i64 r1, .int .i64 r2] 33 (0, 0)) from (blk_set (blk_set (blk_set BKr.out 0 (.int .i64 r0)) 1 (.int .i64 r1)) 2 (.int .i64 r2)))
 have nB_ := kp (show Below w.heap.size w (((w3.setCell ⟨gr, 0, none⟩ (.int .i64 r0)).setCell ⟨gr, 1, none⟩ (.int .i64 r1)).setCell ⟨gr, 2, none⟩ (.int .i64 r2)) from (below_set (below_set (below_set HB.out GEr.out) GEr.out) GEr.out))
 have hs_ : (((w3.setCell ⟨gr, 0, none⟩ (.int .i64 r0)).setCell ⟨gr, 1, none⟩ (.int .i64 r1)).setCell ⟨gr, 2, none⟩ (.int .i64 r2)).heap.size = w3.heap.size := by simp [World.setCell]
 (try clear hz_r_0)
 (try clear hfz_r_0)
 (try clear hz_r_1)
 (try clear hfz_r_1)
 (try clear hz_r_2)
 (try clear hfz_r_2)
 clear hs_ HB
 have HB := nB_
 clear nB_
 clear BKr
 have BKr := nbr_
 clear nbr_
 generalize (((w3.setCell ⟨gr, 0, none⟩ (.int .i64 r0)).setCell ⟨gr, 1, none⟩ (.int .i64 r1)).setCell ⟨gr, 2, none⟩ (.int .i64 r2)) = w5 at *
 (with_reducible refine (impl_FormatRow.calls k r0 r1 r2 fr _  QF3.out).mono ?_)
 rintro e w5 ⟨rfl, hb⟩
 (try (have hb_ := hb.below; clear hb; have hb := hb_; clear hb_))
 have nB_ := kp (below_step (by with_reducible repeat (first | exact HB.out | apply cA | apply cN | apply cD)) hb)
 clear HB
 have HB := nB_
 clear nB_
 have nbr_ := kp (blk_below (by (with_reducible repeat (first | apply bN | apply bD | apply bA)); exact BKr.out) hb)
 clear BKr
 have BKr := nbr_
 clear nbr_
 clear hb
 go_wp2_with fail
 (with_reducible refine (impl_ParseRow.calls k fr x0 x1 x2 is _  QF4.out).mono ?_)
 rintro e w6 ⟨rfl, hb⟩
 (try (have hb_ := hb.below; clear hb; have hb := hb_; clear hb_))
 have nB_ := kp (below_step (by with_reducible repeat (first | exact HB.out | apply cA | apply cN | apply cD)) hb)
 clear HB
 have HB := nB_
 clear nB_
 have nbr_ := kp (blk_below (by (with_reducible repeat (first | apply bN | apply bD | apply bA)); exact BKr.out) hb)
 clear BKr
 have BKr := nbr_
 clear nbr_
 clear hb
 go_wp2_with (first | ((with_reducible refine gate_dst (N := 4) rfl ?_); refine box_event ?hg7 (N := 4) ?hd7 (cs := #[.int .i64 0, .int .i64 0, .int .i64 0]) (t := 33) ?hr7 ?_; (case hd7 => rfl); (case hg7 => rfl); (case hr7 => first | (go_simp; done) | (go_simp; rfl)); intro gx hg w7 hbox hb; have NB_r_x := kp (by rw [hg]; exact Nat.ne_of_lt (blk_lt BKr.out) : gr ≠ gx); have NB_x_r := kp (fun h_ => NB_r_x.out h_.symm : gx ≠ gr); have GEx := kp (by rw [hg]; exact below_size (by with_reducible repeat (first | exact HB.out | apply cA | apply cN | apply cD)) : w.heap.size ≤ gx); have nB_ := kp (below_step (by with_reducible repeat (first | exact HB.out | apply cA | apply cN | apply cD)) hb); clear HB; have HB := nB_; clear nB_; have nbr_ := kp (blk_below (by (with_reducible repeat (first | apply bN | apply bD | apply bA)); exact BKr.out) hb); clear BKr; have BKr := nbr_; clear nbr_; have BKx := kp hbox; clear hb hbox hg; have hz_r_0 : w7.cell? ⟨gr, 0, none⟩ = some (.int .i64 r0) := (blk_cell BKr.out 0).trans rfl; have hz_r_1 : w7.cell? ⟨gr, 1, none⟩ = some (.int .i64 r1) := (blk_cell BKr.out 1).trans rfl; have hz_r_2 : w7.cell? ⟨gr, 2, none⟩ = some (.int .i64 r2) := (blk_cell BKr.out 2).trans rfl; have hz_x_0 : w7.cell? ⟨gx, 0, none⟩ = some (.int .i64 0) := (blk_cell BKx.out 0).trans rfl; have hz_x_1 : w7.cell? ⟨gx, 1, none⟩ = some (.int .i64 0) := (blk_cell BKx.out 1).trans rfl; have hz_x_2 : w7.cell? ⟨gx, 2, none⟩ = some (.int .i64 0) := (blk_cell BKx.out 2).trans rfl; have hfz_r_0 := blk_frozen BKr.out 0; have hfz_r_1 := blk_frozen BKr.out 1; have hfz_r_2 := blk_frozen BKr.out 2; have hn_r_x := NB_r_x.out; have hfz_x_0 := blk_frozen BKx.out 0; have hfz_x_1 := blk_frozen BKx.out 1; have hfz_x_2 := blk_frozen BKx.out 2; have hn_x_r := NB_x_r.out))
 have nbr_ := kp (show (((w7.setCell ⟨gx, 0, none⟩ (.int .i64 x0)).setCell ⟨gx, 1, none⟩ (.int .i64 x1)).setCell ⟨gx, 2, none⟩ (.int .i64 x2)).heap[gr]? = some (.cells #[.int .i64 r0, .int .i64 r1, .int .i64 r2] 33 (0, 0)) from (blk_far (blk_far (blk_far BKr.out (p := ⟨gx, 0, none⟩) NB_r_x.out (.int .i64 x0)) (p := ⟨gx, 1, none⟩) NB_r_x.out (.int .i64 x1)) (p := ⟨gx, 2, none⟩) NB_r_x.out (.int .i64 x2)))
 have nbx_ := kp (show (((w7.setCell ⟨gx, 0, none⟩ (.int .i64 x0)).setCell ⟨gx, 1, none⟩ (.int .i64 x1)).setCell ⟨gx, 2, none⟩ (.int .i64 x2)).heap[gx]? = some (.cells #[.int .i64 x0, .int .i64 x1, .int .i64 x2] 33 (0, 0)) from (blk_set (blk_set (blk_set BKx.out 0 (.int .i64 x0)) 1 (.int .i64 x1)) 2 (.int .i64 x2)))
 have nB_ := kp (show Below w.heap.size w (((w7.setCell ⟨gx, 0, none⟩ (.int .i64 x0)).setCell ⟨gx, 1, none⟩ (.int .i64 x1)).setCell ⟨gx, 2, none⟩ (.int .i64 x2)) from (below_set (below_set (below_set HB.out GEx.out) GEx.out) GEx.out))
 have hs_ : (((w7.setCell ⟨gx, 0, none⟩ (.int .i64 x0)).setCell ⟨gx, 1, none⟩ (.int .i64 x1)).setCell ⟨gx, 2, none⟩ (.int .i64 x2)).heap.size = w7.heap.size := by simp [World.setCell]
 (try clear hz_r_0)
 (try clear hfz_r_0)
 (try clear hz_r_1)
 (try clear hfz_r_1)
 (try clear hz_r_2)
 (try clear hfz_r_2)
 (try clear hn_r_x)
 (try clear hz_x_0)
 (try clear hfz_x_0)
 (try clear hz_x_1)
 (try clear hfz_x_1)
 (try clear hz_x_2)
 (try clear hfz_x_2)
 (try clear hn_x_r)
 clear hs_ HB
 have HB := nB_
 clear nB_
 clear BKr
 have BKr := nbr_
 clear nbr_
 clear BKx
 have BKx := nbx_
 clear nbx_
 generalize (((w7.setCell ⟨gx, 0, none⟩ (.int .i64 x0)).setCell ⟨gx, 1, none⟩ (.int .i64 x1)).setCell ⟨gx, 2, none⟩ (.int .i64 x2)) = w9 at *
 (with_reducible refine (spec_DrawParseRow.calls k _ _ l0 s _ ?s3a ?s3b QF5.out).mono ?_)
 case s3a => repeat (first | exact (Kd.C_below HR0.out (by with_reducible repeat (first | exact HB.out | apply cA | apply cN | apply cD))) | (with_reducible refine Kd.C_alloc ?_ _) | (with_reducible refine Kd.C_drewN ?_ _) | (with_reducible refine Kd.C_drew ?_))
 case s3b => exact HC0.out
 rintro e w9 ⟨rfl, hb⟩
 (try (have hb_ := hb.below; clear hb; have hb := hb_; clear hb_))
 have nB_ := kp (below_step (by with_reducible repeat (first | exact HB.out | apply cA | apply cN | apply cD)) hb)
 clear HB
 have HB := nB_
 clear nB_
 have nbr_ := kp (blk_below (by (with_reducible repeat (first | apply bN | apply bD | apply bA)); exact BKr.out) hb)
 have nbx_ := kp (blk_below (by (with_reducible repeat (first | apply bN | apply bD | apply bA)); exact BKx.out) hb)
 clear BKr
 have BKr := nbr_
 clear nbr_
 clear BKx
 have BKx := nbx_
 clear nbx_
 clear hb
 go_wp2_with fail
 (with_reducible refine (impl_ParseRow.calls k s y0 y1 y2 fn _  QF6.out).mono ?_)
 rintro e w10 ⟨rfl, hb⟩
 (try (have hb_ := hb.below; clear hb; have hb := hb_; clear hb_))
 have nB_ := kp (below_step (by with_reducible repeat (first | exact HB.out | apply cA | apply cN | apply cD)) hb)
 clear HB
 have HB := nB_
 clear nB_
 have nbr_ := kp (blk_below (by (with_reducible repeat (first | apply bN | apply bD | apply bA)); exact BKr.out) hb)
 have nbx_ := kp (blk_below (by (with_reducible repeat (first | apply bN | apply bD | apply bA)); exact BKx.out) hb)
 clear BKr
 have BKr := nbr_
 clear nbr_
 clear BKx
 have BKx := nbx_
 clear nbx_
 clear hb
 go_wp2_with (first | ((with_reducible refine gate_dst (N := 7) rfl ?_); refine box_event ?hg11 (N := 7) ?hd11 (cs := #[.int .i64 0, .int .i64 0, .int .i64 0]) (t := 33) ?hr11 ?_; (case hd11 => rfl); (case hg11 => rfl); (case hr11 => first | (go_simp; done) | (go_simp; rfl)); intro gy hg w11 hbox hb; have NB_r_y := kp (by rw [hg]; exact Nat.ne_of_lt (blk_lt BKr.out) : gr ≠ gy); have NB_y_r := kp (fun h_ => NB_r_y.out h_.symm : gy ≠ gr); have NB_x_y := kp (by rw [hg]; exact Nat.ne_of_lt (blk_lt BKx.out) : gx ≠ gy); have NB_y_x := kp (fun h_ => NB_x_y.out h_.symm : gy ≠ gx); have GEy := kp (by rw [hg]; exact below_size (by with_reducible repeat (first | exact HB.out | apply cA | apply cN | apply cD)) : w.heap.size ≤ gy); have nB_ := kp (below_step (by with_reducible repeat (first | exact HB.out | apply cA | apply cN | apply cD)) hb); clear HB; have HB := nB_; clear nB_; have nbr_ := kp (blk_below (by (with_reducible repeat (first | apply bN | apply bD | apply bA)); exact BKr.out) hb); have nbx_ := kp (blk_below (by (with_reducible repeat (first | apply bN | apply bD | apply bA)); exact BKx.out) hb); clear BKr; have BKr := nbr_; clear nbr_; clear BKx; have BKx := nbx_; clear nbx_; have BKy := kp hbox; clear hb hbox hg; have hz_r_0 : w11.cell? ⟨gr, 0, none⟩ = some (.int .i64 r0) := (blk_cell BKr.out 0).trans rfl; have hz_r_1 : w11.cell? ⟨gr, 1, none⟩ = some (.int .i64 r1) := (blk_cell BKr.out 1).trans rfl; have hz_r_2 : w11.cell? ⟨gr, 2, none⟩ = some (.int .i64 r2) := (blk_cell BKr.out 2).trans rfl; have hz_x_0 : w11.cell? ⟨gx, 0, none⟩ = some (.int .i64 x0) := (blk_cell BKx.out 0).trans rfl; have hz_x_1 : w11.cell? ⟨gx, 1, none⟩ = some (.int .i64 x1) := (blk_cell BKx.out 1).trans rfl; have hz_x_2 : w11.cell? ⟨gx, 2, none⟩ = some (.int .i64 x2) := (blk_cell BKx.out 2).trans rfl; have hz_y_0 : w11.cell? ⟨gy, 0, none⟩ = some (.int .i64 0) := (blk_cell BKy.out 0).trans rfl; have hz_y_1 : w11.cell? ⟨gy, 1, none⟩ = some (.int .i64 0) := (blk_cell BKy.out 1).trans rfl; have hz_y_2 : w11.cell? ⟨gy, 2, none⟩ = some (.int .i64 0) := (blk_cell BKy.out 2).trans rfl; have hfz_r_0 := blk_frozen BKr.out 0; have hfz_r_1 := blk_frozen BKr.out 1; have hfz_r_2 := blk_frozen BKr.out 2; have hn_r_x := NB_r_x.out; have hn_r_y := NB_r_y.out; have hfz_x_0 := blk_frozen BKx.out 0; have hfz_x_1 := blk_frozen BKx.out 1; have hfz_x_2 := blk_frozen BKx.out 2; have hn_x_r := NB_x_r.out; have hn_x_y := NB_x_y.out; have hfz_y_0 := blk_frozen BKy.out 0; have hfz_y_1 := blk_frozen BKy.out 1; have hfz_y_2 := blk_frozen BKy.out 2; have hn_y_r := NB_y_r.out; have hn_y_x := NB_y_x.out))
 have nbr_ := kp (show (((w11.setCell ⟨gy, 0, none⟩ (.int .i64 y0)).setCell ⟨gy, 1, none⟩ (.int .i64 y1)).setCell ⟨gy, 2, none⟩ (.int .i64 y2)).heap[gr]? = some (.cells #[.int .i64 r0, .int .i64 r1, .int .i64 r2] 33 (0, 0)) from (blk_far (blk_far (blk_far BKr.out (p := ⟨gy, 0, none⟩) NB_r_y.out (.int .i64 y0)) (p := ⟨gy, 1, none⟩) NB_r_y.out (.int .i64 y1)) (p := ⟨gy, 2, none⟩) NB_r_y.out (.int .i64 y2)))
 have nbx_ := kp (show (((w11.setCell ⟨gy, 0, none⟩ (.int .i64 y0)).setCell ⟨gy, 1, none⟩ (.int .i64 y1)).setCell ⟨gy, 2, none⟩ (.int .i64 y2)).heap[gx]? = some (.cells #[.int .i64 x0, .int .i64 x1, .int .i64 x2] 33 (0, 0)) from (blk_far (blk_far (blk_far BKx.out (p := ⟨gy, 0, none⟩) NB_x_y.out (.int .i64 y0)) (p := ⟨gy, 1, none⟩) NB_x_y.out (.int .i64 y1)) (p := ⟨gy, 2, none⟩) NB_x_y.out (.int .i64 y2)))
 have nby_ := kp (show (((w11.setCell ⟨gy, 0, none⟩ (.int .i64 y0)).setCell ⟨gy, 1, none⟩ (.int .i64 y1)).setCell ⟨gy, 2, none⟩ (.int .i64 y2)).heap[gy]? = some (.cells #[.int .i64 y0, .int .i64 y1, .int .i64 y2] 33 (0, 0)) from (blk_set (blk_set (blk_set BKy.out 0 (.int .i64 y0)) 1 (.int .i64 y1)) 2 (.int .i64 y2)))
 have nB_ := kp (show Below w.heap.size w (((w11.setCell ⟨gy, 0, none⟩ (.int .i64 y0)).setCell ⟨gy, 1, none⟩ (.int .i64 y1)).setCell ⟨gy, 2, none⟩ (.int .i64 y2)) from (below_set (below_set (below_set HB.out GEy.out) GEy.out) GEy.out))
 have hs_ : (((w11.setCell ⟨gy, 0, none⟩ (.int .i64 y0)).setCell ⟨gy, 1, none⟩ (.int .i64 y1)).setCell ⟨gy, 2, none⟩ (.int .i64 y2)).heap.size = w11.heap.size := by simp [World.setCell]
 (try clear hz_r_0)
 (try clear hfz_r_0)
 (try clear hz_r_1)
 (try clear hfz_r_1)
 (try clear hz_r_2)
 (try clear hfz_r_2)
 (try clear hn_r_x)
 (try clear hn_r_y)
 (try clear hz_x_0)
 (try clear hfz_x_0)
 (try clear hz_x_1)
 (try clear hfz_x_1)
 (try clear hz_x_2)
 (try clear hfz_x_2)
 (try clear hn_x_r)
 (try clear hn_x_y)
 (try clear hz_y_0)
 (try clear hfz_y_0)
 (try clear hz_y_1)
 (try clear hfz_y_1)
 (try clear hz_y_2)
 (try clear hfz_y_2)
 (try clear hn_y_r)
 (try clear hn_y_x)
 clear hs_ HB
 have HB := nB_
 clear nB_
 clear BKr
 have BKr := nbr_
 clear nbr_
 clear BKx
 have BKx := nbx_
 clear nbx_
 clear BKy
 have BKy := nby_
 clear nby_
 generalize (((w11.setCell ⟨gy, 0, none⟩ (.int .i64 y0)).setCell ⟨gy, 1, none⟩ (.int .i64 y1)).setCell ⟨gy, 2, none⟩ (.int .i64 y2)) = w13 at *
 (with_reducible refine (spec_ParseRow.calls k s y0 y1 y2 fn _  QF7.out).mono ?_)
 rintro e w13 ⟨rfl, hb⟩
 (try (have hb_ := hb.below; clear hb; have hb := hb_; clear hb_))
 have nB_ := kp (below_step (by with_reducible repeat (first | exact HB.out | apply cA | apply cN | apply cD)) hb)
 clear HB
 have HB := nB_
 clear nB_
 have nbr_ := kp (blk_below (by (with_reducible repeat (first | apply bN | apply bD | apply bA)); exact BKr.out) hb)
 have nbx_ := kp (blk_below (by (with_reducible repeat (first | apply bN | apply bD | apply bA)); exact BKx.out) hb)
 have nby_ := kp (blk_below (by (with_reducible repeat (first | apply bN | apply bD | apply bA)); exact BKy.out) hb)
 clear BKr
 have BKr := nbr_
 clear nbr_
 clear BKx
 have BKx := nbx_
 clear nbx_
 clear BKy
 have BKy := nby_
 clear nby_
 clear hb
 go_wp2_with (first | ((with_reducible refine gate_dst (N := 9) rfl ?_); refine box_event ?hg14 (N := 9) ?hd14 (cs := #[.int .i64 0, .int .i64 0, .int .i64 0]) (t := 33) ?hr14 ?_; (case hd14 => rfl); (case hg14 => rfl); (case hr14 => first | (go_simp; done) | (go_simp; rfl)); intro gz hg w14 hbox hb; have NB_r_z := kp (by rw [hg]; exact Nat.ne_of_lt (blk_lt BKr.out) : gr ≠ gz); have NB_z_r := kp (fun h_ => NB_r_z.out h_.symm : gz ≠ gr); have NB_x_z := kp (by rw [hg]; exact Nat.ne_of_lt (blk_lt BKx.out) : gx ≠ gz); have NB_z_x := kp (fun h_ => NB_x_z.out h_.symm : gz ≠ gx); have NB_y_z := kp (by rw [hg]; exact Nat.ne_of_lt (blk_lt BKy.out) : gy ≠ gz); have NB_z_y := kp (fun h_ => NB_y_z.out h_.symm : gz ≠ gy); have GEz := kp (by rw [hg]; exact below_size (by with_reducible repeat (first | exact HB.out | apply cA | apply cN | apply cD)) : w.heap.size ≤ gz); have nB_ := kp (below_step (by with_reducible repeat (first | exact HB.out | apply cA | apply cN | apply cD)) hb); clear HB; have HB := nB_; clear nB_; have nbr_ := kp (blk_below (by (with_reducible repeat (first | apply bN | apply bD | apply bA)); exact BKr.out) hb); have nbx_ := kp (blk_below (by (with_reducible repeat (first | apply bN | apply bD | apply bA)); exact BKx.out) hb); have nby_ := kp (blk_below (by (with_reducible repeat (first | apply bN | apply bD | apply bA)); exact BKy.out) hb); clear BKr; have BKr := nbr_; clear nbr_; clear BKx; have BKx := nbx_; clear nbx_; clear BKy; have BKy := nby_; clear nby_; have BKz := kp hbox; clear hb hbox hg; have hz_r_0 : w14.cell? ⟨gr, 0, none⟩ = some (.int .i64 r0) := (blk_cell BKr.out 0).trans rfl; have hz_r_1 : w14.cell? ⟨gr, 1, none⟩ = some (.int .i64 r1) := (blk_cell BKr.out 1).trans rfl; have hz_r_2 : w14.cell? ⟨gr, 2, none⟩ = some (.int .i64 r2) := (blk_cell BKr.out 2).trans rfl; have hz_x_0 : w14.cell? ⟨gx, 0, none⟩ = some (.int .i64 x0) := (blk_cell BKx.out 0).trans rfl; have hz_x_1 : w14.cell? ⟨gx, 1, none⟩ = some (.int .i64 x1) := (blk_cell BKx.out 1).trans rfl; have hz_x_2 : w14.cell? ⟨gx, 2, none⟩ = some (.int .i64 x2) := (blk_cell BKx.out 2).trans rfl; have hz_y_0 : w14.cell? ⟨gy, 0, none⟩ = some (.int .i64 y0) := (blk_cell BKy.out 0).trans rfl; have hz_y_1 : w14.cell? ⟨gy, 1, none⟩ = some (.int .i64 y1) := (blk_cell BKy.out 1).trans rfl; have hz_y_2 : w14.cell? ⟨gy, 2, none⟩ = some (.int .i64 y2) := (blk_cell BKy.out 2).trans rfl; have hz_z_0 : w14.cell? ⟨gz, 0, none⟩ = some (.int .i64 0) := (blk_cell BKz.out 0).trans rfl; have hz_z_1 : w14.cell? ⟨gz, 1, none⟩ = some (.int .i64 0) := (blk_cell BKz.out 1).trans rfl; have hz_z_2 : w14.cell? ⟨gz, 2, none⟩ = some (.int .i64 0) := (blk_cell BKz.out 2).trans rfl; have hfz_r_0 := blk_frozen BKr.out 0; have hfz_r_1 := blk_frozen BKr.out 1; have hfz_r_2 := blk_frozen BKr.out 2; have hn_r_x := NB_r_x.out; have hn_r_y := NB_r_y.out; have hn_r_z := NB_r_z.out; have hfz_x_0 := blk_frozen BKx.out 0; have hfz_x_1 := blk_frozen BKx.out 1; have hfz_x_2 := blk_frozen BKx.out 2; have hn_x_r := NB_x_r.out; have hn_x_y := NB_x_y.out; have hn_x_z := NB_x_z.out; have hfz_y_0 := blk_frozen BKy.out 0; have hfz_y_1 := blk_frozen BKy.out 1; have hfz_y_2 := blk_frozen BKy.out 2; have hn_y_r := NB_y_r.out; have hn_y_x := NB_y_x.out; have hn_y_z := NB_y_z.out; have hfz_z_0 := blk_frozen BKz.out 0; have hfz_z_1 := blk_frozen BKz.out 1; have hfz_z_2 := blk_frozen BKz.out 2; have hn_z_r := NB_z_r.out; have hn_z_x := NB_z_x.out; have hn_z_y := NB_z_y.out))
 have nbr_ := kp (show (((w14.setCell ⟨gz, 0, none⟩ (.int .i64 y0)).setCell ⟨gz, 1, none⟩ (.int .i64 y1)).setCell ⟨gz, 2, none⟩ (.int .i64 y2)).heap[gr]? = some (.cells #[.int .i64 r0, .int .i64 r1, .int .i64 r2] 33 (0, 0)) from (blk_far (blk_far (blk_far BKr.out (p := ⟨gz, 0, none⟩) NB_r_z.out (.int .i64 y0)) (p := ⟨gz, 1, none⟩) NB_r_z.out (.int .i64 y1)) (p := ⟨gz, 2, none⟩) NB_r_z.out (.int .i64 y2)))
 have nbx_ := kp (show (((w14.setCell ⟨gz, 0, none⟩ (.int .i64 y0)).setCell ⟨gz, 1, none⟩ (.int .i64 y1)).setCell ⟨gz, 2, none⟩ (.int .i64 y2)).heap[gx]? = some (.cells #[.int .i64 x0, .int .i64 x1, .int .i64 x2] 33 (0, 0)) from (blk_far (blk_far (blk_far BKx.out (p := ⟨gz, 0, none⟩) NB_x_z.out (.int .i64 y0)) (p := ⟨gz, 1, none⟩) NB_x_z.out (.int .i64 y1)) (p := ⟨gz, 2, none⟩) NB_x_z.out (.int .i64 y2)))
 have nby_ := kp (show (((w14.setCell ⟨gz, 0, none⟩ (.int .i64 y0)).setCell ⟨gz, 1, none⟩ (.int .i64 y1)).setCell ⟨gz, 2, none⟩ (.int .i64 y2)).heap[gy]? = some (.cells #[.int .i64 y0, .int .i64 y1, .int .i64 y2] 33 (0, 0)) from (blk_far (blk_far (blk_far BKy.out (p := ⟨gz, 0, none⟩) NB_y_z.out (.int .i64 y0)) (p := ⟨gz, 1, none⟩) NB_y_z.out (.int .i64 y1)) (p := ⟨gz, 2, none⟩) NB_y_z.out (.int .i64 y2)))
 have nbz_ := kp (show (((w14.setCell ⟨gz, 0, none⟩ (.int .i64 y0)).setCell ⟨gz, 1, none⟩ (.int .i64 y1)).setCell ⟨gz, 2, none⟩ (.int .i64 y2)).heap[gz]? = some (.cells #[.int .i64 y0, .int .i64 y1, .int .i64 y2] 33 (0, 0)) from (blk_set (blk_set (blk_set BKz.out 0 (.int .i64 y0)) 1 (.int .i64 y1)) 2 (.int .i64 y2)))
 have nB_ := kp (show Below w.heap.size w (((w14.setCell ⟨gz, 0, none⟩ (.int .i64 y0)).setCell ⟨gz, 1, none⟩ (.int .i64 y1)).setCell ⟨gz, 2, none⟩ (.int .i64 y2)) from (below_set (below_set (below_set HB.out GEz.out) GEz.out) GEz.out))
 have hs_ : (((w14.setCell ⟨gz, 0, none⟩ (.int .i64 y0)).setCell ⟨gz, 1, none⟩ (.int .i64 y1)).setCell ⟨gz, 2, none⟩ (.int .i64 y2)).heap.size = w14.heap.size := by simp [World.setCell]
 (try clear hz_r_0)
 (try clear hfz_r_0)
 (try clear hz_r_1)
 (try clear hfz_r_1)
 (try clear hz_r_2)
 (try clear hfz_r_2)
 (try clear hn_r_x)
 (try clear hn_r_y)
 (try clear hn_r_z)
 (try clear hz_x_0)
 (try clear hfz_x_0)
 (try clear hz_x_1)
 (try clear hfz_x_1)
 (try clear hz_x_2)
 (try clear hfz_x_2)
 (try clear hn_x_r)
 (try clear hn_x_y)
 (try clear hn_x_z)
 (try clear hz_y_0)
 (try clear hfz_y_0)
 (try clear hz_y_1)
 (try clear hfz_y_1)
 (try clear hz_y_2)
 (try clear hfz_y_2)
 (try clear hn_y_r)
 (try clear hn_y_x)
 (try clear hn_y_z)
 (try clear hz_z_0)
 (try clear hfz_z_0)
 (try clear hz_z_1)
 (try clear hfz_z_1)
 (try clear hz_z_2)
 (try clear hfz_z_2)
 (try clear hn_z_r)
 (try clear hn_z_x)
 (try clear hn_z_y)
 clear hs_ HB
 have HB := nB_
 clear nB_
 clear BKr
 have BKr := nbr_
 clear nbr_
 clear BKx
 have BKx := nbx_
 clear nbx_
 clear BKy
 have BKy := nby_
 clear nby_
 clear BKz
 have BKz := nbz_
 clear nbz_
 generalize (((w14.setCell ⟨gz, 0, none⟩ (.int .i64 y0)).setCell ⟨gz, 1, none⟩ (.int .i64 y1)).setCell ⟨gz, 2, none⟩ (.int .i64 y2)) = w15 at *
 clear BKz
 cases is <;> cases fn
 focus
  have QI := kp (trivial)
  clear QI
  have nbr_ := kp (blk_drew BKr.out)
  have nbx_ := kp (blk_drew BKx.out)
  have nby_ := kp (blk_drew BKy.out)
  clear BKr
  have BKr := nbr_
  clear nbr_
  clear BKx
  have BKx := nbx_
  clear nbx_
  clear BKy
  have BKy := nby_
  clear nby_
  have nB_ := kp (below_drew1 HB.out)
  clear HB
  have HB := nB_
  clear nB_
  refine start_ (n := 43) (S := fun w' => w'.cell? ⟨gr, 0, none⟩ = some (.int .i64 r0) ∧ w'.cell? ⟨gr, 1, none⟩ = some (.int .i64 r1) ∧ w'.cell? ⟨gr, 2, none⟩ = some (.int .i64 r2) ∧ w'.cell? ⟨gx, 0, none⟩ = some (.int .i64 x0) ∧ w'.cell? ⟨gx, 1, none⟩ = some (.int .i64 x1) ∧ w'.cell? ⟨gx, 2, none⟩ = some (.int .i64 x2) ∧ w'.cell? ⟨gy, 0, none⟩ = some (.int .i64 y0) ∧ w'.cell? ⟨gy, 1, none⟩ = some (.int .i64 y1) ∧ w'.cell? ⟨gy, 2, none⟩ = some (.int .i64 y2)) (ds := []) #[false, false, false, false, false, false, false, false, false, false, false, false, false, false, false, false, false, false, false, false, false, false, false, false, false, false, false, false, false, false, false, false, false, false, false, false, false, false, false, false, false, false, false] (by kernel_rfl) rfl rfl ⟨(blk_cell BKr.out 0).trans rfl, (blk_cell BKr.out 1).trans rfl, (blk_cell BKr.out 2).trans rfl, (blk_cell BKx.out 0).trans rfl, (blk_cell BKx.out 1).trans rfl, (blk_cell BKx.out 2).trans rfl, (blk_cell BKy.out 0).trans rfl, (blk_cell BKy.out 1).trans rfl, (blk_cell BKy.out 2).trans rfl⟩ (fun hHeld => ?_); refine with_tabW laws_FnRowFormat.tab8 laws_FnRowFormat.bits8 (fun HT_ HW_ => ?_)
  generalize w15.drew = w16 at BKr BKx BKy HB hHeld ⊢
  refine pu_ 0 (some 41) HT_ (h := ?_)
  refine ta_ 1 (some 42) HT_ HW_ hHeld (h := ?_)
  refine one_ (i := 2) (N := some 43) #[true, true, true, false, false, false, false, false, false, false, false, false, false, false, false, false, false, false, false, false, false, false, false, false, false, false, false, false, false, false, false, false, false, false, false, false, false, false, false, false, false, false, false] rfl rfl (one_of HT_.out (by kernel_rfl)) (by decide) (fun K hK => ?_)
  refine goes_ Try.func77 (by kernel_rfl) rfl #[.agg #[.int .i64 r0, .int .i64 r1, .int .i64 r2]] (by rfl) rfl rfl (by (try simp only [List.map_toArray, List.map_cons, List.map_nil]); first | done | rfl) ?_
  with_reducible refine (spec_IsValidRow.calls r0 r1 r2 _ _ QF8.out).mono ?_
  rintro e w17 ⟨rfl, hb⟩
  refine ⟨_, rfl, ?_⟩
  have nB_ := kp (below_step (by with_reducible repeat (first | exact HB.out | apply cA | apply cN | apply cD)) hb)
  clear HB
  have HB := nB_
  clear nB_
  have nbr_ := kp (blk_below (by (with_reducible repeat (first | apply bN | apply bD | apply bA)); exact BKr.out) hb)
  have nbx_ := kp (blk_below (by (with_reducible repeat (first | apply bN | apply bD | apply bA)); exact BKx.out) hb)
  have nby_ := kp (blk_below (by (with_reducible repeat (first | apply bN | apply bD | apply bA)); exact BKy.out) hb)
  clear BKr
  have BKr := nbr_
  clear nbr_
  clear BKx
  have BKx := nbx_
  clear nbx_
  clear BKy
  have BKy := nby_
  clear nby_
  clear hb
  refine hK.out _ _ ⟨(blk_cell BKr.out 0).trans rfl, (blk_cell BKr.out 1).trans rfl, (blk_cell BKr.out 2).trans rfl, (blk_cell BKx.out 0).trans rfl, (blk_cell BKx.out 1).trans rfl, (blk_cell BKx.out 2).trans rfl, (blk_cell BKy.out 0).trans rfl, (blk_cell BKy.out 1).trans rfl, (blk_cell BKy.out 2).trans rfl⟩ (fun hHeld => ?_)
  clear hK K
  refine norm_ (a' := ?_) ?_ ?_
  rotate_left
  ·show Act.put _ (some 43) _ = _
   simp only [Act.put, List.setIfInBounds_toArray, List.set_cons_zero, List.set_cons_succ, i64_w, i32_w]
   rfl
  refine pu_ 3 (some 44) HT_ (h := ?_)
  refine pu_ 4 (some 45) HT_ (h := ?_)
  refine pu_ 5 (some 46) HT_ (h := ?_)
  refine ta_ 6 (some 47) HT_ HW_ hHeld (h := ?_)
  refine one_ (i := 7) (N := some 48) #[true, true, true, true, true, true, true, true, false, false, false, false, false, false, false, false, false, false, false, false, false, false, false, false, false, false, false, false, false, false, false, false, false, false, false, false, false, false, false, false, false, false, false] rfl rfl (one_of HT_.out (by kernel_rfl)) (by decide) (fun K hK => ?_)
  refine goes_ Try.func78 (by kernel_rfl) rfl #[.agg #[.int .i64 r0, .int .i64 r1, .int .i64 r2]] (by rfl) rfl rfl (by (try simp only [List.map_toArray, List.map_cons, List.map_nil]); first | done | rfl) ?_
  with_reducible refine (impl_IsValidRow.calls r0 r1 r2 _ _ QF9.out).mono ?_
  rintro e w18 ⟨rfl, hb⟩
  refine ⟨_, rfl, ?_⟩
  have nB_ := kp (below_step (by with_reducible repeat (first | exact HB.out | apply cA | apply cN | apply cD)) hb)
  clear HB
  have HB := nB_
  clear nB_
  have nbr_ := kp (blk_below (by (with_reducible repeat (first | apply bN | apply bD | apply bA)); exact BKr.out) hb)
  have nbx_ := kp (blk_below (by (with_reducible repeat (first | apply bN | apply bD | apply bA)); exact BKx.out) hb)
  have nby_ := kp (blk_below (by (with_reducible repeat (first | apply bN | apply bD | apply bA)); exact BKy.out) hb)
  clear BKr
  have BKr := nbr_
  clear nbr_
  clear BKx
  have BKx := nbx_
  clear nbx_
  clear BKy
  have BKy := nby_
  clear nby_
  clear hb
  refine hK.out _ _ ⟨(blk_cell BKr.out 0).trans rfl, (blk_cell BKr.out 1).trans rfl, (blk_cell BKr.out 2).trans rfl, (blk_cell BKx.out 0).trans rfl, (blk_cell BKx.out 1).trans rfl, (blk_cell BKx.out 2).trans rfl, (blk_cell BKy.out 0).trans rfl, (blk_cell BKy.out 1).trans rfl, (blk_cell BKy.out 2).trans rfl⟩ (fun hHeld => ?_)
  clear hK K
  refine norm_ (a' := ?_) ?_ ?_
  rotate_left
  ·show Act.put _ (some 48) _ = _
   simp only [Act.put, List.setIfInBounds_toArray, List.set_cons_zero, List.set_cons_succ, i64_w, i32_w]
   rfl
  refine pu_ 8 (some 49) HT_ (h := ?_)
  refine pu_ 9 (some 50) HT_ (h := ?_)
  refine pu_ 10 (some 51) HT_ (h := ?_)
  refine pu_ 11 (some 52) HT_ (h := ?_)
  refine pu_ 12 (some 53) HT_ (h := ?_)
  refine un_ 13 (some 54) HT_ (h := ?_)
  refine un_ 14 (some 55) HT_ (h := ?_)
  refine un_ 15 (some 56) HT_ (h := ?_)
  refine pu_ 16 (some 57) HT_ (h := ?_)
  refine pu_ 17 (some 58) HT_ (h := ?_)
  refine pu_ 18 (some 59) HT_ (h := ?_)
  refine pu_ 19 (some 60) HT_ (h := ?_)
  refine pu_ 20 (some 61) HT_ (h := ?_)
  refine pu_ 21 (some 62) HT_ (h := ?_)
  refine pu_ 22 (some 63) HT_ (h := ?_)
  refine pu_ 23 (some 64) HT_ (h := ?_)
  refine pu_ 24 (some 65) HT_ (h := ?_)
  refine pu_ 25 (some 66) HT_ (h := ?_)
  refine un_ 26 (some 67) HT_ (h := ?_)
  refine un_ 27 (some 68) HT_ (h := ?_)
  refine un_ 28 (some 69) HT_ (h := ?_)
  refine un_ 29 (some 70) HT_ (h := ?_)
  refine pu_ 30 (some 71) HT_ (h := ?_)
  refine pu_ 31 (some 72) HT_ (h := ?_)
  refine pu_ 32 (some 73) HT_ (h := ?_)
  refine pu_ 33 (some 74) HT_ (h := ?_)
  refine pu_ 34 (some 75) HT_ (h := ?_)
  refine un_ 35 (some 76) HT_ (h := ?_)
  refine un_ 36 (some 77) HT_ (h := ?_)
  refine un_ 37 (some 78) HT_ (h := ?_)
  refine un_ 38 (some 79) HT_ (h := ?_)
  refine un_ 39 (some 80) HT_ (h := ?_)
  refine un_ 40 (some 81) HT_ (h := ?_)
  refine pu_ 41 (some 82) HT_ (h := ?_)
  refine pu_ 42 (some 83) HT_ (h := ?_)
  refine done_ (done_of HT_.out (by kernel_rfl)) ?_
 rotate_left 1
 focus
  have QI := kp (trivial)
  clear QI
  have QG := kp (QF10.out rfl)
  have nbr_ := kp (blk_drew BKr.out)
  have nbx_ := kp (blk_drew BKx.out)
  have nby_ := kp (blk_drew BKy.out)
  clear BKr
  have BKr := nbr_
  clear nbr_
  clear BKx
  have BKx := nbx_
  clear nbx_
  clear BKy
  have BKy := nby_
  clear nby_
  have nB_ := kp (below_drew1 HB.out)
  clear HB
  have HB := nB_
  clear nB_
  refine start_ (n := 43) (S := fun w' => w'.cell? ⟨gr, 0, none⟩ = some (.int .i64 r0) ∧ w'.cell? ⟨gr, 1, none⟩ = some (.int .i64 r1) ∧ w'.cell? ⟨gr, 2, none⟩ = some (.int .i64 r2) ∧ w'.cell? ⟨gx, 0, none⟩ = some (.int .i64 x0) ∧ w'.cell? ⟨gx, 1, none⟩ = some (.int .i64 x1) ∧ w'.cell? ⟨gx, 2, none⟩ = some (.int .i64 x2) ∧ w'.cell? ⟨gy, 0, none⟩ = some (.int .i64 y0) ∧ w'.cell? ⟨gy, 1, none⟩ = some (.int .i64 y1) ∧ w'.cell? ⟨gy, 2, none⟩ = some (.int .i64 y2)) (ds := []) #[false, false, false, false, false, false, false, false, false, false, false, false, false, false, false, false, false, false, false, false, false, false, false, false, false, false, false, false, false, false, false, false, false, false, false, false, false, false, false, false, false, false, false] (by kernel_rfl) rfl rfl ⟨(blk_cell BKr.out 0).trans rfl, (blk_cell BKr.out 1).trans rfl, (blk_cell BKr.out 2).trans rfl, (blk_cell BKx.out 0).trans rfl, (blk_cell BKx.out 1).trans rfl, (blk_cell BKx.out 2).trans rfl, (blk_cell BKy.out 0).trans rfl, (blk_cell BKy.out 1).trans rfl, (blk_cell BKy.out 2).trans rfl⟩ (fun hHeld => ?_); refine with_tabW laws_FnRowFormat.tab8 laws_FnRowFormat.bits8 (fun HT_ HW_ => ?_)
  generalize w15.drew = w19 at BKr BKx BKy HB hHeld ⊢
  refine pu_ 0 (some 41) HT_ (h := ?_)
  refine ta_ 1 (some 42) HT_ HW_ hHeld (h := ?_)
  refine one_ (i := 2) (N := some 43) #[true, true, true, false, false, false, false, false, false, false, false, false, false, false, false, false, false, false, false, false, false, false, false, false, false, false, false, false, false, false, false, false, false, false, false, false, false, false, false, false, false, false, false] rfl rfl (one_of HT_.out (by kernel_rfl)) (by decide) (fun K hK => ?_)
  refine goes_ Try.func77 (by kernel_rfl) rfl #[.agg #[.int .i64 r0, .int .i64 r1, .int .i64 r2]] (by rfl) rfl rfl (by (try simp only [List.map_toArray, List.map_cons, List.map_nil]); first | done | rfl) ?_
  with_reducible refine (spec_IsValidRow.calls r0 r1 r2 _ _ QF8.out).mono ?_
  rintro e w20 ⟨rfl, hb⟩
  refine ⟨_, rfl, ?_⟩
  have nB_ := kp (below_step (by with_reducible repeat (first | exact HB.out | apply cA | apply cN | apply cD)) hb)
  clear HB
  have HB := nB_
  clear nB_
  have nbr_ := kp (blk_below (by (with_reducible repeat (first | apply bN | apply bD | apply bA)); exact BKr.out) hb)
  have nbx_ := kp (blk_below (by (with_reducible repeat (first | apply bN | apply bD | apply bA)); exact BKx.out) hb)
  have nby_ := kp (blk_below (by (with_reducible repeat (first | apply bN | apply bD | apply bA)); exact BKy.out) hb)
  clear BKr
  have BKr := nbr_
  clear nbr_
  clear BKx
  have BKx := nbx_
  clear nbx_
  clear BKy
  have BKy := nby_
  clear nby_
  clear hb
  refine hK.out _ _ ⟨(blk_cell BKr.out 0).trans rfl, (blk_cell BKr.out 1).trans rfl, (blk_cell BKr.out 2).trans rfl, (blk_cell BKx.out 0).trans rfl, (blk_cell BKx.out 1).trans rfl, (blk_cell BKx.out 2).trans rfl, (blk_cell BKy.out 0).trans rfl, (blk_cell BKy.out 1).trans rfl, (blk_cell BKy.out 2).trans rfl⟩ (fun hHeld => ?_)
  clear hK K
  refine norm_ (a' := ?_) ?_ ?_
  rotate_left
  ·show Act.put _ (some 43) _ = _
   simp only [Act.put, List.setIfInBounds_toArray, List.set_cons_zero, List.set_cons_succ, i64_w, i32_w]
   rfl
  refine pu_ 3 (some 44) HT_ (h := ?_)
  refine pu_ 4 (some 45) HT_ (h := ?_)
  refine pu_ 5 (some 46) HT_ (h := ?_)
  refine ta_ 6 (some 47) HT_ HW_ hHeld (h := ?_)
  refine one_ (i := 7) (N := some 48) #[true, true, true, true, true, true, true, true, false, false, false, false, false, false, false, false, false, false, false, false, false, false, false, false, false, false, false, false, false, false, false, false, false, false, false, false, false, false, false, false, false, false, false] rfl rfl (one_of HT_.out (by kernel_rfl)) (by decide) (fun K hK => ?_)
  refine goes_ Try.func78 (by kernel_rfl) rfl #[.agg #[.int .i64 r0, .int .i64 r1, .int .i64 r2]] (by rfl) rfl rfl (by (try simp only [List.map_toArray, List.map_cons, List.map_nil]); first | done | rfl) ?_
  with_reducible refine (impl_IsValidRow.calls r0 r1 r2 _ _ QF9.out).mono ?_
  rintro e w21 ⟨rfl, hb⟩
  refine ⟨_, rfl, ?_⟩
  have nB_ := kp (below_step (by with_reducible repeat (first | exact HB.out | apply cA | apply cN | apply cD)) hb)
  clear HB
  have HB := nB_
  clear nB_
  have nbr_ := kp (blk_below (by (with_reducible repeat (first | apply bN | apply bD | apply bA)); exact BKr.out) hb)
  have nbx_ := kp (blk_below (by (with_reducible repeat (first | apply bN | apply bD | apply bA)); exact BKx.out) hb)
  have nby_ := kp (blk_below (by (with_reducible repeat (first | apply bN | apply bD | apply bA)); exact BKy.out) hb)
  clear BKr
  have BKr := nbr_
  clear nbr_
  clear BKx
  have BKx := nbx_
  clear nbx_
  clear BKy
  have BKy := nby_
  clear nby_
  clear hb
  refine hK.out _ _ ⟨(blk_cell BKr.out 0).trans rfl, (blk_cell BKr.out 1).trans rfl, (blk_cell BKr.out 2).trans rfl, (blk_cell BKx.out 0).trans rfl, (blk_cell BKx.out 1).trans rfl, (blk_cell BKx.out 2).trans rfl, (blk_cell BKy.out 0).trans rfl, (blk_cell BKy.out 1).trans rfl, (blk_cell BKy.out 2).trans rfl⟩ (fun hHeld => ?_)
  clear hK K
  refine norm_ (a' := ?_) ?_ ?_
  rotate_left
  ·show Act.put _ (some 48) _ = _
   simp only [Act.put, List.setIfInBounds_toArray, List.set_cons_zero, List.set_cons_succ, i64_w, i32_w]
   rfl
  refine pu_ 8 (some 49) HT_ (h := ?_)
  refine pu_ 9 (some 50) HT_ (h := ?_)
  refine pu_ 10 (some 51) HT_ (h := ?_)
  refine pu_ 11 (some 52) HT_ (h := ?_)
  refine pu_ 12 (some 53) HT_ (h := ?_)
  refine un_ 13 (some 54) HT_ (h := ?_)
  refine un_ 14 (some 55) HT_ (h := ?_)
  refine un_ 15 (some 56) HT_ (h := ?_)
  refine pu_ 16 (some 57) HT_ (h := ?_)
  refine pu_ 17 (some 58) HT_ (h := ?_)
  refine pu_ 18 (some 59) HT_ (h := ?_)
  refine pu_ 19 (some 60) HT_ (h := ?_)
  refine pu_ 20 (some 61) HT_ (h := ?_)
  refine pu_ 21 (some 62) HT_ (h := ?_)
  refine pu_ 22 (some 63) HT_ (h := ?_)
  refine pu_ 23 (some 64) HT_ (h := ?_)
  refine pu_ 24 (some 65) HT_ (h := ?_)
  refine pu_ 25 (some 66) HT_ (h := ?_)
  refine pu_ 28 (some 69) HT_ (h := ?_)
  refine ta_ 26 (some 67) HT_ HW_ hHeld (h := ?_)
  refine one_ (i := 27) (N := some 68) #[true, true, true, true, true, true, true, true, true, true, true, true, true, true, true, true, true, true, true, true, true, true, true, true, true, true, true, true, true, false, false, false, false, false, false, false, false, false, false, false, false, false, false] rfl rfl (one_of HT_.out (by kernel_rfl)) (by decide) (fun K hK => ?_)
  refine goes_ Try.func75 (by kernel_rfl) rfl #[.agg #[.int .i64 y0, .int .i64 y1, .int .i64 y2]] (by rfl) rfl rfl (by (try simp only [List.map_toArray, List.map_cons, List.map_nil]); first | done | rfl) ?_
  with_reducible refine (impl_FormatRow.calls k y0 y1 y2 s _ QG.out).mono ?_
  rintro e w22 ⟨rfl, hb⟩
  refine ⟨_, rfl, ?_⟩
  have nB_ := kp (below_step (by with_reducible repeat (first | exact HB.out | apply cA | apply cN | apply cD)) hb)
  clear HB
  have HB := nB_
  clear nB_
  have nbr_ := kp (blk_below (by (with_reducible repeat (first | apply bN | apply bD | apply bA)); exact BKr.out) hb)
  have nbx_ := kp (blk_below (by (with_reducible repeat (first | apply bN | apply bD | apply bA)); exact BKx.out) hb)
  have nby_ := kp (blk_below (by (with_reducible repeat (first | apply bN | apply bD | apply bA)); exact BKy.out) hb)
  clear BKr
  have BKr := nbr_
  clear nbr_
  clear BKx
  have BKx := nbx_
  clear nbx_
  clear BKy
  have BKy := nby_
  clear nby_
  clear hb
  refine hK.out _ _ ⟨(blk_cell BKr.out 0).trans rfl, (blk_cell BKr.out 1).trans rfl, (blk_cell BKr.out 2).trans rfl, (blk_cell BKx.out 0).trans rfl, (blk_cell BKx.out 1).trans rfl, (blk_cell BKx.out 2).trans rfl, (blk_cell BKy.out 0).trans rfl, (blk_cell BKy.out 1).trans rfl, (blk_cell BKy.out 2).trans rfl⟩ (fun hHeld => ?_)
  clear hK K
  refine norm_ (a' := ?_) ?_ ?_
  rotate_left
  ·show Act.put _ (some 68) _ = _
   simp only [Act.put, List.setIfInBounds_toArray, List.set_cons_zero, List.set_cons_succ, i64_w, i32_w]
   rfl
  refine pu_ 29 (some 70) HT_ (h := ?_)
  refine pu_ 30 (some 71) HT_ (h := ?_)
  refine pu_ 31 (some 72) HT_ (h := ?_)
  refine pu_ 32 (some 73) HT_ (h := ?_)
  refine pu_ 33 (some 74) HT_ (h := ?_)
  refine pu_ 34 (some 75) HT_ (h := ?_)
  refine un_ 35 (some 76) HT_ (h := ?_)
  refine un_ 36 (some 77) HT_ (h := ?_)
  refine un_ 37 (some 78) HT_ (h := ?_)
  refine un_ 38 (some 79) HT_ (h := ?_)
  refine un_ 39 (some 80) HT_ (h := ?_)
  refine un_ 40 (some 81) HT_ (h := ?_)
  refine pu_ 41 (some 82) HT_ (h := ?_)
  refine pu_ 42 (some 83) HT_ (h := ?_)
  refine done_ (done_of HT_.out (by kernel_rfl)) ?_
 rotate_left 1
 focus
  have QI := kp (Qhx.out rfl)
  obtain ⟨q0_, q1_, q2_⟩ := QI.out
  have QR := kp (QF11.out rfl)
  clear QI
  have nbr_ := kp (blk_drew BKr.out)
  have nbx_ := kp (blk_drew BKx.out)
  have nby_ := kp (blk_drew BKy.out)
  clear BKr
  have BKr := nbr_
  clear nbr_
  clear BKx
  have BKx := nbx_
  clear nbx_
  clear BKy
  have BKy := nby_
  clear nby_
  have nB_ := kp (below_drew1 HB.out)
  clear HB
  have HB := nB_
  clear nB_
  refine start_ (n := 43) (S := fun w' => w'.cell? ⟨gr, 0, none⟩ = some (.int .i64 r0) ∧ w'.cell? ⟨gr, 1, none⟩ = some (.int .i64 r1) ∧ w'.cell? ⟨gr, 2, none⟩ = some (.int .i64 r2) ∧ w'.cell? ⟨gx, 0, none⟩ = some (.int .i64 x0) ∧ w'.cell? ⟨gx, 1, none⟩ = some (.int .i64 x1) ∧ w'.cell? ⟨gx, 2, none⟩ = some (.int .i64 x2) ∧ w'.cell? ⟨gy, 0, none⟩ = some (.int .i64 y0) ∧ w'.cell? ⟨gy, 1, none⟩ = some (.int .i64 y1) ∧ w'.cell? ⟨gy, 2, none⟩ = some (.int .i64 y2)) (ds := []) #[false, false, false, false, false, false, false, false, false, false, false, false, false, false, false, false, false, false, false, false, false, false, false, false, false, false, false, false, false, false, false, false, false, false, false, false, false, false, false, false, false, false, false] (by kernel_rfl) rfl rfl ⟨(blk_cell BKr.out 0).trans rfl, (blk_cell BKr.out 1).trans rfl, (blk_cell BKr.out 2).trans rfl, (blk_cell BKx.out 0).trans rfl, (blk_cell BKx.out 1).trans rfl, (blk_cell BKx.out 2).trans rfl, (blk_cell BKy.out 0).trans rfl, (blk_cell BKy.out 1).trans rfl, (blk_cell BKy.out 2).trans rfl⟩ (fun hHeld => ?_); refine with_tabW laws_FnRowFormat.tab8 laws_FnRowFormat.bits8 (fun HT_ HW_ => ?_)
  generalize w15.drew = w23 at BKr BKx BKy HB hHeld ⊢
  refine pu_ 0 (some 41) HT_ (h := ?_)
  refine ta_ 1 (some 42) HT_ HW_ hHeld (h := ?_)
  refine one_ (i := 2) (N := some 43) #[true, true, true, false, false, false, false, false, false, false, false, false, false, false, false, false, false, false, false, false, false, false, false, false, false, false, false, false, false, false, false, false, false, false, false, false, false, false, false, false, false, false, false] rfl rfl (one_of HT_.out (by kernel_rfl)) (by decide) (fun K hK => ?_)
  refine goes_ Try.func77 (by kernel_rfl) rfl #[.agg #[.int .i64 r0, .int .i64 r1, .int .i64 r2]] (by rfl) rfl rfl (by (try simp only [List.map_toArray, List.map_cons, List.map_nil]); first | done | rfl) ?_
  with_reducible refine (spec_IsValidRow.calls r0 r1 r2 _ _ QF8.out).mono ?_
  rintro e w24 ⟨rfl, hb⟩
  refine ⟨_, rfl, ?_⟩
  have nB_ := kp (below_step (by with_reducible repeat (first | exact HB.out | apply cA | apply cN | apply cD)) hb)
  clear HB
  have HB := nB_
  clear nB_
  have nbr_ := kp (blk_below (by (with_reducible repeat (first | apply bN | apply bD | apply bA)); exact BKr.out) hb)
  have nbx_ := kp (blk_below (by (with_reducible repeat (first | apply bN | apply bD | apply bA)); exact BKx.out) hb)
  have nby_ := kp (blk_below (by (with_reducible repeat (first | apply bN | apply bD | apply bA)); exact BKy.out) hb)
  clear BKr
  have BKr := nbr_
  clear nbr_
  clear BKx
  have BKx := nbx_
  clear nbx_
  clear BKy
  have BKy := nby_
  clear nby_
  clear hb
  refine hK.out _ _ ⟨(blk_cell BKr.out 0).trans rfl, (blk_cell BKr.out 1).trans rfl, (blk_cell BKr.out 2).trans rfl, (blk_cell BKx.out 0).trans rfl, (blk_cell BKx.out 1).trans rfl, (blk_cell BKx.out 2).trans rfl, (blk_cell BKy.out 0).trans rfl, (blk_cell BKy.out 1).trans rfl, (blk_cell BKy.out 2).trans rfl⟩ (fun hHeld => ?_)
  clear hK K
  refine norm_ (a' := ?_) ?_ ?_
  rotate_left
  ·show Act.put _ (some 43) _ = _
   simp only [Act.put, List.setIfInBounds_toArray, List.set_cons_zero, List.set_cons_succ, i64_w, i32_w]
   rfl
  refine pu_ 3 (some 44) HT_ (h := ?_)
  refine pu_ 4 (some 45) HT_ (h := ?_)
  refine pu_ 5 (some 46) HT_ (h := ?_)
  refine ta_ 6 (some 47) HT_ HW_ hHeld (h := ?_)
  refine one_ (i := 7) (N := some 48) #[true, true, true, true, true, true, true, true, false, false, false, false, false, false, false, false, false, false, false, false, false, false, false, false, false, false, false, false, false, false, false, false, false, false, false, false, false, false, false, false, false, false, false] rfl rfl (one_of HT_.out (by kernel_rfl)) (by decide) (fun K hK => ?_)
  refine goes_ Try.func78 (by kernel_rfl) rfl #[.agg #[.int .i64 r0, .int .i64 r1, .int .i64 r2]] (by rfl) rfl rfl (by (try simp only [List.map_toArray, List.map_cons, List.map_nil]); first | done | rfl) ?_
  with_reducible refine (impl_IsValidRow.calls r0 r1 r2 _ _ QF9.out).mono ?_
  rintro e w25 ⟨rfl, hb⟩
  refine ⟨_, rfl, ?_⟩
  have nB_ := kp (below_step (by with_reducible repeat (first | exact HB.out | apply cA | apply cN | apply cD)) hb)
  clear HB
  have HB := nB_
  clear nB_
  have nbr_ := kp (blk_below (by (with_reducible repeat (first | apply bN | apply bD | apply bA)); exact BKr.out) hb)
  have nbx_ := kp (blk_below (by (with_reducible repeat (first | apply bN | apply bD | apply bA)); exact BKx.out) hb)
  have nby_ := kp (blk_below (by (with_reducible repeat (first | apply bN | apply bD | apply bA)); exact BKy.out) hb)
  clear BKr
  have BKr := nbr_
  clear nbr_
  clear BKx
  have BKx := nbx_
  clear nbx_
  clear BKy
  have BKy := nby_
  clear nby_
  clear hb
  refine hK.out _ _ ⟨(blk_cell BKr.out 0).trans rfl, (blk_cell BKr.out 1).trans rfl, (blk_cell BKr.out 2).trans rfl, (blk_cell BKx.out 0).trans rfl, (blk_cell BKx.out 1).trans rfl, (blk_cell BKx.out 2).trans rfl, (blk_cell BKy.out 0).trans rfl, (blk_cell BKy.out 1).trans rfl, (blk_cell BKy.out 2).trans rfl⟩ (fun hHeld => ?_)
  clear hK K
  refine norm_ (a' := ?_) ?_ ?_
  rotate_left
  ·show Act.put _ (some 48) _ = _
   simp only [Act.put, List.setIfInBounds_toArray, List.set_cons_zero, List.set_cons_succ, i64_w, i32_w]
   rfl
  refine pu_ 8 (some 49) HT_ (h := ?_)
  refine pu_ 9 (some 50) HT_ (h := ?_)
  refine pu_ 10 (some 51) HT_ (h := ?_)
  refine pu_ 11 (some 52) HT_ (h := ?_)
  refine pu_ 12 (some 53) HT_ (h := ?_)
  refine ta_ 13 (some 54) HT_ HW_ hHeld (h := ?_)
  refine ta_ 14 (some 55) HT_ HW_ hHeld (h := ?_)
  refine pu_ 15 (some 56) HT_ (h := ?_)
  refine pu_ 16 (some 57) HT_ (h := ?_)
  refine pu_ 17 (some 58) HT_ (h := ?_)
  refine pu_ 18 (some 59) HT_ (h := ?_)
  refine pu_ 19 (some 60) HT_ (h := ?_)
  refine pu_ 20 (some 61) HT_ (h := ?_)
  refine pu_ 21 (some 62) HT_ (h := ?_)
  refine pu_ 22 (some 63) HT_ (h := ?_)
  refine pu_ 23 (some 64) HT_ (h := ?_)
  refine pu_ 24 (some 65) HT_ (h := ?_)
  refine pu_ 25 (some 66) HT_ (h := ?_)
  refine un_ 26 (some 67) HT_ (h := ?_)
  refine un_ 27 (some 68) HT_ (h := ?_)
  refine un_ 28 (some 69) HT_ (h := ?_)
  refine un_ 29 (some 70) HT_ (h := ?_)
  refine pu_ 30 (some 71) HT_ (h := ?_)
  refine pu_ 31 (some 72) HT_ (h := ?_)
  refine pu_ 32 (some 73) HT_ (h := ?_)
  refine pu_ 33 (some 74) HT_ (h := ?_)
  refine pu_ 34 (some 75) HT_ (h := ?_)
  refine pu_ 37 (some 78) HT_ (h := ?_)
  refine ta_ 35 (some 76) HT_ HW_ hHeld (h := ?_)
  refine ta_ 38 (some 79) HT_ HW_ hHeld (h := ?_)
  refine pu_ 39 (some 80) HT_ (h := ?_)
  refine one_ (i := 36) (N := some 77) #[true, true, true, true, true, true, true, true, true, true, true, true, true, true, true, true, true, true, true, true, true, true, true, true, true, true, true, true, true, true, true, true, true, true, true, true, true, true, true, true, false, false, false] rfl rfl (one_of HT_.out (by kernel_rfl)) (by decide) (fun K hK => ?_)
  refine goes_ Try.func79 (by kernel_rfl) rfl #[.agg #[.int .i64 r0, .int .i64 r1, .int .i64 r2]] (by rfl) rfl rfl (by (try simp only [List.map_toArray, List.map_cons, List.map_nil]); first | done | rfl) ?_
  with_reducible refine (impl_RowCost.calls r0 r1 r2 _ _ QR.out).mono ?_
  rintro e w26 ⟨rfl, hb⟩
  refine ⟨_, rfl, ?_⟩
  have nB_ := kp (below_step (by with_reducible repeat (first | exact HB.out | apply cA | apply cN | apply cD)) hb)
  clear HB
  have HB := nB_
  clear nB_
  have nbr_ := kp (blk_below (by (with_reducible repeat (first | apply bN | apply bD | apply bA)); exact BKr.out) hb)
  have nbx_ := kp (blk_below (by (with_reducible repeat (first | apply bN | apply bD | apply bA)); exact BKx.out) hb)
  have nby_ := kp (blk_below (by (with_reducible repeat (first | apply bN | apply bD | apply bA)); exact BKy.out) hb)
  clear BKr
  have BKr := nbr_
  clear nbr_
  clear BKx
  have BKx := nbx_
  clear nbx_
  clear BKy
  have BKy := nby_
  clear nby_
  clear hb
  refine hK.out _ _ ⟨(blk_cell BKr.out 0).trans rfl, (blk_cell BKr.out 1).trans rfl, (blk_cell BKr.out 2).trans rfl, (blk_cell BKx.out 0).trans rfl, (blk_cell BKx.out 1).trans rfl, (blk_cell BKx.out 2).trans rfl, (blk_cell BKy.out 0).trans rfl, (blk_cell BKy.out 1).trans rfl, (blk_cell BKy.out 2).trans rfl⟩ (fun hHeld => ?_)
  clear hK K
  refine norm_ (a' := ?_) ?_ ?_
  rotate_left
  ·show Act.put _ (some 77) _ = _
   simp only [Act.put, List.setIfInBounds_toArray, List.set_cons_zero, List.set_cons_succ, i64_w, i32_w]
   rfl
  refine pu_ 40 (some 81) HT_ (h := ?_)
  refine pu_ 41 (some 82) HT_ (h := ?_)
  refine pu_ 42 (some 83) HT_ (h := ?_)
  refine done_ (done_of HT_.out (by kernel_rfl)) ?_
 rotate_left 1
 focus
  have QI := kp (Qhx.out rfl)
  obtain ⟨q0_, q1_, q2_⟩ := QI.out
  have QR := kp (QF11.out rfl)
  clear QI
  have QG := kp (QF10.out rfl)
  have nbr_ := kp (blk_drew BKr.out)
  have nbx_ := kp (blk_drew BKx.out)
  have nby_ := kp (blk_drew BKy.out)
  clear BKr
  have BKr := nbr_
  clear nbr_
  clear BKx
  have BKx := nbx_
  clear nbx_
  clear BKy
  have BKy := nby_
  clear nby_
  have nB_ := kp (below_drew1 HB.out)
  clear HB
  have HB := nB_
  clear nB_
  refine start_ (n := 43) (S := fun w' => w'.cell? ⟨gr, 0, none⟩ = some (.int .i64 r0) ∧ w'.cell? ⟨gr, 1, none⟩ = some (.int .i64 r1) ∧ w'.cell? ⟨gr, 2, none⟩ = some (.int .i64 r2) ∧ w'.cell? ⟨gx, 0, none⟩ = some (.int .i64 x0) ∧ w'.cell? ⟨gx, 1, none⟩ = some (.int .i64 x1) ∧ w'.cell? ⟨gx, 2, none⟩ = some (.int .i64 x2) ∧ w'.cell? ⟨gy, 0, none⟩ = some (.int .i64 y0) ∧ w'.cell? ⟨gy, 1, none⟩ = some (.int .i64 y1) ∧ w'.cell? ⟨gy, 2, none⟩ = some (.int .i64 y2)) (ds := []) #[false, false, false, false, false, false, false, false, false, false, false, false, false, false, false, false, false, false, false, false, false, false, false, false, false, false, false, false, false, false, false, false, false, false, false, false, false, false, false, false, false, false, false] (by kernel_rfl) rfl rfl ⟨(blk_cell BKr.out 0).trans rfl, (blk_cell BKr.out 1).trans rfl, (blk_cell BKr.out 2).trans rfl, (blk_cell BKx.out 0).trans rfl, (blk_cell BKx.out 1).trans rfl, (blk_cell BKx.out 2).trans rfl, (blk_cell BKy.out 0).trans rfl, (blk_cell BKy.out 1).trans rfl, (blk_cell BKy.out 2).trans rfl⟩ (fun hHeld => ?_); refine with_tabW laws_FnRowFormat.tab8 laws_FnRowFormat.bits8 (fun HT_ HW_ => ?_)
  generalize w15.drew = w27 at BKr BKx BKy HB hHeld ⊢
  refine pu_ 0 (some 41) HT_ (h := ?_)
  refine ta_ 1 (some 42) HT_ HW_ hHeld (h := ?_)
  refine one_ (i := 2) (N := some 43) #[true, true, true, false, false, false, false, false, false, false, false, false, false, false, false, false, false, false, false, false, false, false, false, false, false, false, false, false, false, false, false, false, false, false, false, false, false, false, false, false, false, false, false] rfl rfl (one_of HT_.out (by kernel_rfl)) (by decide) (fun K hK => ?_)
  refine goes_ Try.func77 (by kernel_rfl) rfl #[.agg #[.int .i64 r0, .int .i64 r1, .int .i64 r2]] (by rfl) rfl rfl (by (try simp only [List.map_toArray, List.map_cons, List.map_nil]); first | done | rfl) ?_
  with_reducible refine (spec_IsValidRow.calls r0 r1 r2 _ _ QF8.out).mono ?_
  rintro e w28 ⟨rfl, hb⟩
  refine ⟨_, rfl, ?_⟩
  have nB_ := kp (below_step (by with_reducible repeat (first | exact HB.out | apply cA | apply cN | apply cD)) hb)
  clear HB
  have HB := nB_
  clear nB_
  have nbr_ := kp (blk_below (by (with_reducible repeat (first | apply bN | apply bD | apply bA)); exact BKr.out) hb)
  have nbx_ := kp (blk_below (by (with_reducible repeat (first | apply bN | apply bD | apply bA)); exact BKx.out) hb)
  have nby_ := kp (blk_below (by (with_reducible repeat (first | apply bN | apply bD | apply bA)); exact BKy.out) hb)
  clear BKr
  have BKr := nbr_
  clear nbr_
  clear BKx
  have BKx := nbx_
  clear nbx_
  clear BKy
  have BKy := nby_
  clear nby_
  clear hb
  refine hK.out _ _ ⟨(blk_cell BKr.out 0).trans rfl, (blk_cell BKr.out 1).trans rfl, (blk_cell BKr.out 2).trans rfl, (blk_cell BKx.out 0).trans rfl, (blk_cell BKx.out 1).trans rfl, (blk_cell BKx.out 2).trans rfl, (blk_cell BKy.out 0).trans rfl, (blk_cell BKy.out 1).trans rfl, (blk_cell BKy.out 2).trans rfl⟩ (fun hHeld => ?_)
  clear hK K
  refine norm_ (a' := ?_) ?_ ?_
  rotate_left
  ·show Act.put _ (some 43) _ = _
   simp only [Act.put, List.setIfInBounds_toArray, List.set_cons_zero, List.set_cons_succ, i64_w, i32_w]
   rfl
  refine pu_ 3 (some 44) HT_ (h := ?_)
  refine pu_ 4 (some 45) HT_ (h := ?_)
  refine pu_ 5 (some 46) HT_ (h := ?_)
  refine ta_ 6 (some 47) HT_ HW_ hHeld (h := ?_)
  refine one_ (i := 7) (N := some 48) #[true, true, true, true, true, true, true, true, false, false, false, false, false, false, false, false, false, false, false, false, false, false, false, false, false, false, false, false, false, false, false, false, false, false, false, false, false, false, false, false, false, false, false] rfl rfl (one_of HT_.out (by kernel_rfl)) (by decide) (fun K hK => ?_)
  refine goes_ Try.func78 (by kernel_rfl) rfl #[.agg #[.int .i64 r0, .int .i64 r1, .int .i64 r2]] (by rfl) rfl rfl (by (try simp only [List.map_toArray, List.map_cons, List.map_nil]); first | done | rfl) ?_
  with_reducible refine (impl_IsValidRow.calls r0 r1 r2 _ _ QF9.out).mono ?_
  rintro e w29 ⟨rfl, hb⟩
  refine ⟨_, rfl, ?_⟩
  have nB_ := kp (below_step (by with_reducible repeat (first | exact HB.out | apply cA | apply cN | apply cD)) hb)
  clear HB
  have HB := nB_
  clear nB_
  have nbr_ := kp (blk_below (by (with_reducible repeat (first | apply bN | apply bD | apply bA)); exact BKr.out) hb)
  have nbx_ := kp (blk_below (by (with_reducible repeat (first | apply bN | apply bD | apply bA)); exact BKx.out) hb)
  have nby_ := kp (blk_below (by (with_reducible repeat (first | apply bN | apply bD | apply bA)); exact BKy.out) hb)
  clear BKr
  have BKr := nbr_
  clear nbr_
  clear BKx
  have BKx := nbx_
  clear nbx_
  clear BKy
  have BKy := nby_
  clear nby_
  clear hb
  refine hK.out _ _ ⟨(blk_cell BKr.out 0).trans rfl, (blk_cell BKr.out 1).trans rfl, (blk_cell BKr.out 2).trans rfl, (blk_cell BKx.out 0).trans rfl, (blk_cell BKx.out 1).trans rfl, (blk_cell BKx.out 2).trans rfl, (blk_cell BKy.out 0).trans rfl, (blk_cell BKy.out 1).trans rfl, (blk_cell BKy.out 2).trans rfl⟩ (fun hHeld => ?_)
  clear hK K
  refine norm_ (a' := ?_) ?_ ?_
  rotate_left
  ·show Act.put _ (some 48) _ = _
   simp only [Act.put, List.setIfInBounds_toArray, List.set_cons_zero, List.set_cons_succ, i64_w, i32_w]
   rfl
  refine pu_ 8 (some 49) HT_ (h := ?_)
  refine pu_ 9 (some 50) HT_ (h := ?_)
  refine pu_ 10 (some 51) HT_ (h := ?_)
  refine pu_ 11 (some 52) HT_ (h := ?_)
  refine pu_ 12 (some 53) HT_ (h := ?_)
  refine ta_ 13 (some 54) HT_ HW_ hHeld (h := ?_)
  refine ta_ 14 (some 55) HT_ HW_ hHeld (h := ?_)
  refine pu_ 15 (some 56) HT_ (h := ?_)
  refine pu_ 16 (some 57) HT_ (h := ?_)
  refine pu_ 17 (some 58) HT_ (h := ?_)
  refine pu_ 18 (some 59) HT_ (h := ?_)
  refine pu_ 19 (some 60) HT_ (h := ?_)
  refine pu_ 20 (some 61) HT_ (h := ?_)
  refine pu_ 21 (some 62) HT_ (h := ?_)
  refine pu_ 22 (some 63) HT_ (h := ?_)
  refine pu_ 23 (some 64) HT_ (h := ?_)
  refine pu_ 24 (some 65) HT_ (h := ?_)
  refine pu_ 25 (some 66) HT_ (h := ?_)
  refine pu_ 28 (some 69) HT_ (h := ?_)
  refine ta_ 26 (some 67) HT_ HW_ hHeld (h := ?_)
  refine one_ (i := 27) (N := some 68) #[true, true, true, true, true, true, true, true, true, true, true, true, true, true, true, true, true, true, true, true, true, true, true, true, true, true, true, true, true, false, false, false, false, false, false, false, false, false, false, false, false, false, false] rfl rfl (one_of HT_.out (by kernel_rfl)) (by decide) (fun K hK => ?_)
  refine goes_ Try.func75 (by kernel_rfl) rfl #[.agg #[.int .i64 y0, .int .i64 y1, .int .i64 y2]] (by rfl) rfl rfl (by (try simp only [List.map_toArray, List.map_cons, List.map_nil]); first | done | rfl) ?_
  with_reducible refine (impl_FormatRow.calls k y0 y1 y2 s _ QG.out).mono ?_
  rintro e w30 ⟨rfl, hb⟩
  refine ⟨_, rfl, ?_⟩
  have nB_ := kp (below_step (by with_reducible repeat (first | exact HB.out | apply cA | apply cN | apply cD)) hb)
  clear HB
  have HB := nB_
  clear nB_
  have nbr_ := kp (blk_below (by (with_reducible repeat (first | apply bN | apply bD | apply bA)); exact BKr.out) hb)
  have nbx_ := kp (blk_below (by (with_reducible repeat (first | apply bN | apply bD | apply bA)); exact BKx.out) hb)
  have nby_ := kp (blk_below (by (with_reducible repeat (first | apply bN | apply bD | apply bA)); exact BKy.out) hb)
  clear BKr
  have BKr := nbr_
  clear nbr_
  clear BKx
  have BKx := nbx_
  clear nbx_
  clear BKy
  have BKy := nby_
  clear nby_
  clear hb
  refine hK.out _ _ ⟨(blk_cell BKr.out 0).trans rfl, (blk_cell BKr.out 1).trans rfl, (blk_cell BKr.out 2).trans rfl, (blk_cell BKx.out 0).trans rfl, (blk_cell BKx.out 1).trans rfl, (blk_cell BKx.out 2).trans rfl, (blk_cell BKy.out 0).trans rfl, (blk_cell BKy.out 1).trans rfl, (blk_cell BKy.out 2).trans rfl⟩ (fun hHeld => ?_)
  clear hK K
  refine norm_ (a' := ?_) ?_ ?_
  rotate_left
  ·show Act.put _ (some 68) _ = _
   simp only [Act.put, List.setIfInBounds_toArray, List.set_cons_zero, List.set_cons_succ, i64_w, i32_w]
   rfl
  refine pu_ 29 (some 70) HT_ (h := ?_)
  refine pu_ 30 (some 71) HT_ (h := ?_)
  refine pu_ 31 (some 72) HT_ (h := ?_)
  refine pu_ 32 (some 73) HT_ (h := ?_)
  refine pu_ 33 (some 74) HT_ (h := ?_)
  refine pu_ 34 (some 75) HT_ (h := ?_)
  refine pu_ 37 (some 78) HT_ (h := ?_)
  refine ta_ 35 (some 76) HT_ HW_ hHeld (h := ?_)
  refine ta_ 38 (some 79) HT_ HW_ hHeld (h := ?_)
  refine pu_ 39 (some 80) HT_ (h := ?_)
  refine one_ (i := 36) (N := some 77) #[true, true, true, true, true, true, true, true, true, true, true, true, true, true, true, true, true, true, true, true, true, true, true, true, true, true, true, true, true, true, true, true, true, true, true, true, true, true, true, true, false, false, false] rfl rfl (one_of HT_.out (by kernel_rfl)) (by decide) (fun K hK => ?_)
  refine goes_ Try.func79 (by kernel_rfl) rfl #[.agg #[.int .i64 r0, .int .i64 r1, .int .i64 r2]] (by rfl) rfl rfl (by (try simp only [List.map_toArray, List.map_cons, List.map_nil]); first | done | rfl) ?_
  with_reducible refine (impl_RowCost.calls r0 r1 r2 _ _ QR.out).mono ?_
  rintro e w31 ⟨rfl, hb⟩
  refine ⟨_, rfl, ?_⟩
  have nB_ := kp (below_step (by with_reducible repeat (first | exact HB.out | apply cA | apply cN | apply cD)) hb)
  clear HB
  have HB := nB_
  clear nB_
  have nbr_ := kp (blk_below (by (with_reducible repeat (first | apply bN | apply bD | apply bA)); exact BKr.out) hb)
  have nbx_ := kp (blk_below (by (with_reducible repeat (first | apply bN | apply bD | apply bA)); exact BKx.out) hb)
  have nby_ := kp (blk_below (by (with_reducible repeat (first | apply bN | apply bD | apply bA)); exact BKy.out) hb)
  clear BKr
  have BKr := nbr_
  clear nbr_
  clear BKx
  have BKx := nbx_
  clear nbx_
  clear BKy
  have BKy := nby_
  clear nby_
  clear hb
  refine hK.out _ _ ⟨(blk_cell BKr.out 0).trans rfl, (blk_cell BKr.out 1).trans rfl, (blk_cell BKr.out 2).trans rfl, (blk_cell BKx.out 0).trans rfl, (blk_cell BKx.out 1).trans rfl, (blk_cell BKx.out 2).trans rfl, (blk_cell BKy.out 0).trans rfl, (blk_cell BKy.out 1).trans rfl, (blk_cell BKy.out 2).trans rfl⟩ (fun hHeld => ?_)
  clear hK K
  refine norm_ (a' := ?_) ?_ ?_
  rotate_left
  ·show Act.put _ (some 77) _ = _
   simp only [Act.put, List.setIfInBounds_toArray, List.set_cons_zero, List.set_cons_succ, i64_w, i32_w]
   rfl
  refine pu_ 40 (some 81) HT_ (h := ?_)
  refine pu_ 41 (some 82) HT_ (h := ?_)
  refine pu_ 42 (some 83) HT_ (h := ?_)
  refine done_ (done_of HT_.out (by kernel_rfl)) ?_
 rotate_left 1
 all_goals
  clear BKr
  clear BKx
  clear BKy
  go_wp2_with fail
  (with_reducible refine (spec_DrawFormatRows.calls k _ _ l0 l _ ?s4a ?s4b QF12.out).mono ?_)
  case s4a => repeat (first | exact (Kd.C_below HR0.out (by with_reducible repeat (first | exact HB.out | apply cA | apply cN | apply cD))) | (with_reducible refine Kd.C_alloc ?_ _) | (with_reducible refine Kd.C_drewN ?_ _) | (with_reducible refine Kd.C_drew ?_))
  case s4b => exact HC0.out
  rintro e w32 ⟨vl, rfl, hol, hb⟩
  obtain ⟨bl, hlel, ml_⟩ := R_ivx hol (below_size (by with_reducible repeat (first | exact HB.out | apply cA | apply cN | apply cD)))
  clear hol
  clear hlel
  have nB_ := kp (below_step (by with_reducible repeat (first | exact HB.out | apply cA | apply cN | apply cD)) hb)
  clear HB
  have HB := nB_
  clear nB_
  clear hb
  obtain ⟨Al, cl, el⟩ := Kd.R_slice ml_.out
  subst el
  have Ol := ml_
  have Gl := kp (Nat.le_refl w32.heap.size)
  clear ml_
  go_wp2_with fail
  (with_reducible refine (impl_FormatRows.calls k _ _ l fs _ ?s5a ?s5b QF13.out).mono ?_)
  case s5a => repeat (first | exact (R_rd Ol.out).1 | (with_reducible refine Kd.C_alloc ?_ _) | (with_reducible refine Kd.C_drewN ?_ _) | (with_reducible refine Kd.C_drew ?_))
  case s5b => exact (R_rd Ol.out).2
  rintro e w33 ⟨rfl, hb⟩
  (try (have hb_ := hb.below; clear hb; have hb := hb_; clear hb_))
  have nl_ := kp (Kd.R_below (by (with_reducible repeat (first | apply Kd.R_alloc | apply Kd.R_drewN | apply Kd.R_drew)); exact Ol.out) hb)
  have gl_ := kp (Nat.le_trans Gl.out hb.size)
  clear Ol Gl
  have Ol := nl_
  have Gl := gl_
  clear nl_ gl_
  have nB_ := kp (below_step (by with_reducible repeat (first | exact HB.out | apply cA | apply cN | apply cD)) hb)
  clear HB
  have HB := nB_
  clear nB_
  clear hb
  go_wp2_with fail
  (with_reducible refine (impl_ParseRows.calls k fs a true _  QF14.out).mono ?_)
  rintro e w34 ⟨va, rfl, hoa, hb⟩
  obtain ⟨ba, hlea, ma_⟩ := R_ivx hoa (below_size (by with_reducible repeat (first | exact HB.out | apply cA | apply cN | apply cD)))
  clear hoa
  have Z_l_a := kp (hlea _ Gl.out)
  clear hlea
  have nl_ := kp (Kd.R_below (by (with_reducible repeat (first | apply Kd.R_alloc | apply Kd.R_drewN | apply Kd.R_drew)); exact Ol.out) hb)
  have gl_ := kp (Nat.le_trans Gl.out hb.size)
  clear Ol Gl
  have Ol := nl_
  have Gl := gl_
  clear nl_ gl_
  have nB_ := kp (below_step (by with_reducible repeat (first | exact HB.out | apply cA | apply cN | apply cD)) hb)
  clear HB
  have HB := nB_
  clear nB_
  clear hb
  obtain ⟨Aa, ca, ea⟩ := Kd.R_slice ma_.out
  subst ea
  have Oa := ma_
  have Ga := kp (Nat.le_refl w34.heap.size)
  clear ma_
  go_wp2_with fail
  (with_reducible refine (spec_DrawParseRows.calls k _ _ l0 t _ ?s6a ?s6b QF15.out).mono ?_)
  case s6a => repeat (first | exact (Kd.C_below HR0.out (by with_reducible repeat (first | exact HB.out | apply cA | apply cN | apply cD))) | (with_reducible refine Kd.C_alloc ?_ _) | (with_reducible refine Kd.C_drewN ?_ _) | (with_reducible refine Kd.C_drew ?_))
  case s6b => exact HC0.out
  rintro e w35 ⟨rfl, hb⟩
  (try (have hb_ := hb.below; clear hb; have hb := hb_; clear hb_))
  have nl_ := kp (Kd.R_below (by (with_reducible repeat (first | apply Kd.R_alloc | apply Kd.R_drewN | apply Kd.R_drew)); exact Ol.out) hb)
  have gl_ := kp (Nat.le_trans Gl.out hb.size)
  have na_ := kp (Kd.R_below (by (with_reducible repeat (first | apply Kd.R_alloc | apply Kd.R_drewN | apply Kd.R_drew)); exact Oa.out) hb)
  have ga_ := kp (Nat.le_trans Ga.out hb.size)
  clear Ol Gl
  clear Oa Ga
  have Ol := nl_
  have Gl := gl_
  clear nl_ gl_
  have Oa := na_
  have Ga := ga_
  clear na_ ga_
  have nB_ := kp (below_step (by with_reducible repeat (first | exact HB.out | apply cA | apply cN | apply cD)) hb)
  clear HB
  have HB := nB_
  clear nB_
  clear hb
  go_wp2_with fail
  (with_reducible refine (impl_ParseRows.calls k t b two _  QF16.out).mono ?_)
  rintro e w36 ⟨vb, rfl, hob, hb⟩
  obtain ⟨bb, hleb, mb_⟩ := R_ivx hob (below_size (by with_reducible repeat (first | exact HB.out | apply cA | apply cN | apply cD)))
  clear hob
  have Z_l_b := kp (hleb _ Gl.out)
  have Z_a_b := kp (hleb _ Ga.out)
  clear hleb
  have nl_ := kp (Kd.R_below (by (with_reducible repeat (first | apply Kd.R_alloc | apply Kd.R_drewN | apply Kd.R_drew)); exact Ol.out) hb)
  have gl_ := kp (Nat.le_trans Gl.out hb.size)
  have na_ := kp (Kd.R_below (by (with_reducible repeat (first | apply Kd.R_alloc | apply Kd.R_drewN | apply Kd.R_drew)); exact Oa.out) hb)
  have ga_ := kp (Nat.le_trans Ga.out hb.size)
  clear Ol Gl
  clear Oa Ga
  have Ol := nl_
  have Gl := gl_
  clear nl_ gl_
  have Oa := na_
  have Ga := ga_
  clear na_ ga_
  have nB_ := kp (below_step (by with_reducible repeat (first | exact HB.out | apply cA | apply cN | apply cD)) hb)
  clear HB
  have HB := nB_
  clear nB_
  clear hb
  obtain ⟨Ab, cb, eb⟩ := Kd.R_slice mb_.out
  subst eb
  have Ob := mb_
  have Gb := kp (Nat.le_refl w36.heap.size)
  clear mb_
  go_wp2_with fail
  (with_reducible refine (spec_ParseRows.calls k t b two _  QF17.out).mono ?_)
  rintro e w37 ⟨vb2, rfl, hob2, hb⟩
  obtain ⟨bb2, hleb2, mb2_⟩ := R_ivx hob2 (below_size (by with_reducible repeat (first | exact HB.out | apply cA | apply cN | apply cD)))
  clear hob2
  have Z_l_b2 := kp (hleb2 _ Gl.out)
  have Z_a_b2 := kp (hleb2 _ Ga.out)
  have Z_b_b2 := kp (hleb2 _ Gb.out)
  clear hleb2
  have nl_ := kp (Kd.R_below (by (with_reducible repeat (first | apply Kd.R_alloc | apply Kd.R_drewN | apply Kd.R_drew)); exact Ol.out) hb)
  have gl_ := kp (Nat.le_trans Gl.out hb.size)
  have na_ := kp (Kd.R_below (by (with_reducible repeat (first | apply Kd.R_alloc | apply Kd.R_drewN | apply Kd.R_drew)); exact Oa.out) hb)
  have ga_ := kp (Nat.le_trans Ga.out hb.size)
  have nb_ := kp (Kd.R_below (by (with_reducible repeat (first | apply Kd.R_alloc | apply Kd.R_drewN | apply Kd.R_drew)); exact Ob.out) hb)
  have gb_ := kp (Nat.le_trans Gb.out hb.size)
  clear Ol Gl
  clear Oa Ga
  clear Ob Gb
  have Ol := nl_
  have Gl := gl_
  clear nl_ gl_
  have Oa := na_
  have Ga := ga_
  clear na_ ga_
  have Ob := nb_
  have Gb := gb_
  clear nb_ gb_
  have nB_ := kp (below_step (by with_reducible repeat (first | exact HB.out | apply cA | apply cN | apply cD)) hb)
  clear HB
  have HB := nB_
  clear nB_
  clear hb
  obtain ⟨Ab2, cb2, eb2⟩ := Kd.R_slice mb2_.out
  subst eb2
  have Ob2 := mb2_
  have Gb2 := kp (Nat.le_refl w37.heap.size)
  clear mb2_
  clear Ob2 Gb2
  go_wp2_with fail
  (with_reducible refine (spec_AreValidRows.calls k _ _ l av _ ?s7a ?s7b QF18.out).mono ?_)
  case s7a => repeat (first | exact (R_rd Ol.out).1 | (with_reducible refine Kd.C_alloc ?_ _) | (with_reducible refine Kd.C_drewN ?_ _) | (with_reducible refine Kd.C_drew ?_))
  case s7b => exact (R_rd Ol.out).2
  rintro e w38 ⟨rfl, hb⟩
  (try (have hb_ := hb.below; clear hb; have hb := hb_; clear hb_))
  have nl_ := kp (Kd.R_below (by (with_reducible repeat (first | apply Kd.R_alloc | apply Kd.R_drewN | apply Kd.R_drew)); exact Ol.out) hb)
  have gl_ := kp (Nat.le_trans Gl.out hb.size)
  have na_ := kp (Kd.R_below (by (with_reducible repeat (first | apply Kd.R_alloc | apply Kd.R_drewN | apply Kd.R_drew)); exact Oa.out) hb)
  have ga_ := kp (Nat.le_trans Ga.out hb.size)
  have nb_ := kp (Kd.R_below (by (with_reducible repeat (first | apply Kd.R_alloc | apply Kd.R_drewN | apply Kd.R_drew)); exact Ob.out) hb)
  have gb_ := kp (Nat.le_trans Gb.out hb.size)
  clear Ol Gl
  clear Oa Ga
  clear Ob Gb
  have Ol := nl_
  have Gl := gl_
  clear nl_ gl_
  have Oa := na_
  have Ga := ga_
  clear na_ ga_
  have Ob := nb_
  have Gb := gb_
  clear nb_ gb_
  have nB_ := kp (below_step (by with_reducible repeat (first | exact HB.out | apply cA | apply cN | apply cD)) hb)
  clear HB
  have HB := nB_
  clear nB_
  clear hb
  cases av <;> cases two
  rotate_left 1
  focus
   have QT := kp (QF20.out rfl)
   go_wp2_with fail
   (with_reducible refine (impl_FormatRows.calls k _ _ b t _ ?s8a ?s8b QT.out).mono ?_)
   case s8a => repeat (first | exact (R_rd Ob.out).1 | (with_reducible refine Kd.C_alloc ?_ _) | (with_reducible refine Kd.C_drewN ?_ _) | (with_reducible refine Kd.C_drew ?_))
   case s8b => exact (R_rd Ob.out).2
   rintro e w39 ⟨rfl, hb⟩
   (try (have hb_ := hb.below; clear hb; have hb := hb_; clear hb_))
   have nl_ := kp (Kd.R_below (by (with_reducible repeat (first | apply Kd.R_alloc | apply Kd.R_drewN | apply Kd.R_drew)); exact Ol.out) hb)
   have gl_ := kp (Nat.le_trans Gl.out hb.size)
   have na_ := kp (Kd.R_below (by (with_reducible repeat (first | apply Kd.R_alloc | apply Kd.R_drewN | apply Kd.R_drew)); exact Oa.out) hb)
   have ga_ := kp (Nat.le_trans Ga.out hb.size)
   have nb_ := kp (Kd.R_below (by (with_reducible repeat (first | apply Kd.R_alloc | apply Kd.R_drewN | apply Kd.R_drew)); exact Ob.out) hb)
   have gb_ := kp (Nat.le_trans Gb.out hb.size)
   clear Ol Gl
   clear Oa Ga
   clear Ob Gb
   have Ol := nl_
   have Gl := gl_
   clear nl_ gl_
   have Oa := na_
   have Ga := ga_
   clear na_ ga_
   have Ob := nb_
   have Gb := gb_
   clear nb_ gb_
   have nB_ := kp (below_step (by with_reducible repeat (first | exact HB.out | apply cA | apply cN | apply cD)) hb)
   clear HB
   have HB := nB_
   clear nB_
   clear hb
  rotate_left 1
  focus
   have QA := kp (QF19.out rfl)
   go_wp2_with fail
   (with_reducible refine (laws_sameRows.calls k _ _ a _ _ l true _ ?s9a ?s9b ?s10a ?s10b QA.out).mono ?_)
   case s9a => repeat (first | exact (R_rd Oa.out).1 | (with_reducible refine Kd.C_alloc ?_ _) | (with_reducible refine Kd.C_drewN ?_ _) | (with_reducible refine Kd.C_drew ?_))
   case s9b => exact (R_rd Oa.out).2
   case s10a => repeat (first | exact (R_rd Ol.out).1 | (with_reducible refine Kd.C_alloc ?_ _) | (with_reducible refine Kd.C_drewN ?_ _) | (with_reducible refine Kd.C_drew ?_))
   case s10b => exact (R_rd Ol.out).2
   rintro e w40 ⟨rfl, hb⟩
   (try (have hb_ := hb.below; clear hb; have hb := hb_; clear hb_))
   have nl_ := kp (Kd.R_below (by (with_reducible repeat (first | apply Kd.R_alloc | apply Kd.R_drewN | apply Kd.R_drew)); exact Ol.out) hb)
   have gl_ := kp (Nat.le_trans Gl.out hb.size)
   have na_ := kp (Kd.R_below (by (with_reducible repeat (first | apply Kd.R_alloc | apply Kd.R_drewN | apply Kd.R_drew)); exact Oa.out) hb)
   have ga_ := kp (Nat.le_trans Ga.out hb.size)
   have nb_ := kp (Kd.R_below (by (with_reducible repeat (first | apply Kd.R_alloc | apply Kd.R_drewN | apply Kd.R_drew)); exact Ob.out) hb)
   have gb_ := kp (Nat.le_trans Gb.out hb.size)
   clear Ol Gl
   clear Oa Ga
   clear Ob Gb
   have Ol := nl_
   have Gl := gl_
   clear nl_ gl_
   have Oa := na_
   have Ga := ga_
   clear na_ ga_
   have Ob := nb_
   have Gb := gb_
   clear nb_ gb_
   have nB_ := kp (below_step (by with_reducible repeat (first | exact HB.out | apply cA | apply cN | apply cD)) hb)
   clear HB
   have HB := nB_
   clear nB_
   clear hb
  rotate_left 1
  focus
   have QA := kp (QF19.out rfl)
   have QT := kp (QF20.out rfl)
   go_wp2_with fail
   (with_reducible refine (laws_sameRows.calls k _ _ a _ _ l true _ ?s11a ?s11b ?s12a ?s12b QA.out).mono ?_)
   case s11a => repeat (first | exact (R_rd Oa.out).1 | (with_reducible refine Kd.C_alloc ?_ _) | (with_reducible refine Kd.C_drewN ?_ _) | (with_reducible refine Kd.C_drew ?_))
   case s11b => exact (R_rd Oa.out).2
   case s12a => repeat (first | exact (R_rd Ol.out).1 | (with_reducible refine Kd.C_alloc ?_ _) | (with_reducible refine Kd.C_drewN ?_ _) | (with_reducible refine Kd.C_drew ?_))
   case s12b => exact (R_rd Ol.out).2
   rintro e w41 ⟨rfl, hb⟩
   (try (have hb_ := hb.below; clear hb; have hb := hb_; clear hb_))
   have nl_ := kp (Kd.R_below (by (with_reducible repeat (first | apply Kd.R_alloc | apply Kd.R_drewN | apply Kd.R_drew)); exact Ol.out) hb)
   have gl_ := kp (Nat.le_trans Gl.out hb.size)
   have na_ := kp (Kd.R_below (by (with_reducible repeat (first | apply Kd.R_alloc | apply Kd.R_drewN | apply Kd.R_drew)); exact Oa.out) hb)
   have ga_ := kp (Nat.le_trans Ga.out hb.size)
   have nb_ := kp (Kd.R_below (by (with_reducible repeat (first | apply Kd.R_alloc | apply Kd.R_drewN | apply Kd.R_drew)); exact Ob.out) hb)
   have gb_ := kp (Nat.le_trans Gb.out hb.size)
   clear Ol Gl
   clear Oa Ga
   clear Ob Gb
   have Ol := nl_
   have Gl := gl_
   clear nl_ gl_
   have Oa := na_
   have Ga := ga_
   clear na_ ga_
   have Ob := nb_
   have Gb := gb_
   clear nb_ gb_
   have nB_ := kp (below_step (by with_reducible repeat (first | exact HB.out | apply cA | apply cN | apply cD)) hb)
   clear HB
   have HB := nB_
   clear nB_
   clear hb
   go_wp2_with fail
   (with_reducible refine (impl_FormatRows.calls k _ _ b t _ ?s13a ?s13b QT.out).mono ?_)
   case s13a => repeat (first | exact (R_rd Ob.out).1 | (with_reducible refine Kd.C_alloc ?_ _) | (with_reducible refine Kd.C_drewN ?_ _) | (with_reducible refine Kd.C_drew ?_))
   case s13b => exact (R_rd Ob.out).2
   rintro e w42 ⟨rfl, hb⟩
   (try (have hb_ := hb.below; clear hb; have hb := hb_; clear hb_))
   have nl_ := kp (Kd.R_below (by (with_reducible repeat (first | apply Kd.R_alloc | apply Kd.R_drewN | apply Kd.R_drew)); exact Ol.out) hb)
   have gl_ := kp (Nat.le_trans Gl.out hb.size)
   have na_ := kp (Kd.R_below (by (with_reducible repeat (first | apply Kd.R_alloc | apply Kd.R_drewN | apply Kd.R_drew)); exact Oa.out) hb)
   have ga_ := kp (Nat.le_trans Ga.out hb.size)
   have nb_ := kp (Kd.R_below (by (with_reducible repeat (first | apply Kd.R_alloc | apply Kd.R_drewN | apply Kd.R_drew)); exact Ob.out) hb)
   have gb_ := kp (Nat.le_trans Gb.out hb.size)
   clear Ol Gl
   clear Oa Ga
   clear Ob Gb
   have Ol := nl_
   have Gl := gl_
   clear nl_ gl_
   have Oa := na_
   have Ga := ga_
   clear na_ ga_
   have Ob := nb_
   have Gb := gb_
   clear nb_ gb_
   have nB_ := kp (below_step (by with_reducible repeat (first | exact HB.out | apply cA | apply cN | apply cD)) hb)
   clear HB
   have HB := nB_
   clear nB_
   clear hb
  rotate_left 1
  all_goals
   go_wp2_with fail
   (with_reducible refine (impl_AreValidRows.calls k _ _ l _ _ ?s14a ?s14b QF21.out).mono ?_)
   case s14a => repeat (first | exact (R_rd Ol.out).1 | (with_reducible refine Kd.C_alloc ?_ _) | (with_reducible refine Kd.C_drewN ?_ _) | (with_reducible refine Kd.C_drew ?_))
   case s14b => exact (R_rd Ol.out).2
   rintro e w43 ⟨rfl, hb⟩
   (try (have hb_ := hb.below; clear hb; have hb := hb_; clear hb_))
   have nl_ := kp (Kd.R_below (by (with_reducible repeat (first | apply Kd.R_alloc | apply Kd.R_drewN | apply Kd.R_drew)); exact Ol.out) hb)
   have gl_ := kp (Nat.le_trans Gl.out hb.size)
   have na_ := kp (Kd.R_below (by (with_reducible repeat (first | apply Kd.R_alloc | apply Kd.R_drewN | apply Kd.R_drew)); exact Oa.out) hb)
   have ga_ := kp (Nat.le_trans Ga.out hb.size)
   have nb_ := kp (Kd.R_below (by (with_reducible repeat (first | apply Kd.R_alloc | apply Kd.R_drewN | apply Kd.R_drew)); exact Ob.out) hb)
   have gb_ := kp (Nat.le_trans Gb.out hb.size)
   clear Ol Gl
   clear Oa Ga
   clear Ob Gb
   have Ol := nl_
   have Gl := gl_
   clear nl_ gl_
   have Oa := na_
   have Ga := ga_
   clear na_ ga_
   have Ob := nb_
   have Gb := gb_
   clear nb_ gb_
   have nB_ := kp (below_step (by with_reducible repeat (first | exact HB.out | apply cA | apply cN | apply cD)) hb)
   clear HB
   have HB := nB_
   clear nB_
   clear hb
   go_wp2_with fail
   (with_reducible refine (spec_AreValidRows.calls k _ _ l _ _ ?s15a ?s15b QF18.out).mono ?_)
   case s15a => repeat (first | exact (R_rd Ol.out).1 | (with_reducible refine Kd.C_alloc ?_ _) | (with_reducible refine Kd.C_drewN ?_ _) | (with_reducible refine Kd.C_drew ?_))
   case s15b => exact (R_rd Ol.out).2
   rintro e w44 ⟨rfl, hb⟩
   (try (have hb_ := hb.below; clear hb; have hb := hb_; clear hb_))
   have nl_ := kp (Kd.R_below (by (with_reducible repeat (first | apply Kd.R_alloc | apply Kd.R_drewN | apply Kd.R_drew)); exact Ol.out) hb)
   have gl_ := kp (Nat.le_trans Gl.out hb.size)
   have na_ := kp (Kd.R_below (by (with_reducible repeat (first | apply Kd.R_alloc | apply Kd.R_drewN | apply Kd.R_drew)); exact Oa.out) hb)
   have ga_ := kp (Nat.le_trans Ga.out hb.size)
   have nb_ := kp (Kd.R_below (by (with_reducible repeat (first | apply Kd.R_alloc | apply Kd.R_drewN | apply Kd.R_drew)); exact Ob.out) hb)
   have gb_ := kp (Nat.le_trans Gb.out hb.size)
   clear Ol Gl
   clear Oa Ga
   clear Ob Gb
   have Ol := nl_
   have Gl := gl_
   clear nl_ gl_
   have Oa := na_
   have Ga := ga_
   clear na_ ga_
   have Ob := nb_
   have Gb := gb_
   clear nb_ gb_
   have nB_ := kp (below_step (by with_reducible repeat (first | exact HB.out | apply cA | apply cN | apply cD)) hb)
   clear HB
   have HB := nB_
   clear nB_
   clear hb
   go_wp2_with fail
   (with_reducible refine (impl_TotalCost.calls k _ _ l tc _ ?s16a ?s16b QF22.out).mono ?_)
   case s16a => repeat (first | exact (R_rd Ol.out).1 | (with_reducible refine Kd.C_alloc ?_ _) | (with_reducible refine Kd.C_drewN ?_ _) | (with_reducible refine Kd.C_drew ?_))
   case s16b => exact (R_rd Ol.out).2
   rintro e w45 ⟨rfl, hb⟩
   (try (have hb_ := hb.below; clear hb; have hb := hb_; clear hb_))
   have nl_ := kp (Kd.R_below (by (with_reducible repeat (first | apply Kd.R_alloc | apply Kd.R_drewN | apply Kd.R_drew)); exact Ol.out) hb)
   have gl_ := kp (Nat.le_trans Gl.out hb.size)
   have na_ := kp (Kd.R_below (by (with_reducible repeat (first | apply Kd.R_alloc | apply Kd.R_drewN | apply Kd.R_drew)); exact Oa.out) hb)
   have ga_ := kp (Nat.le_trans Ga.out hb.size)
   have nb_ := kp (Kd.R_below (by (with_reducible repeat (first | apply Kd.R_alloc | apply Kd.R_drewN | apply Kd.R_drew)); exact Ob.out) hb)
   have gb_ := kp (Nat.le_trans Gb.out hb.size)
   clear Ol Gl
   clear Oa Ga
   clear Ob Gb
   have Ol := nl_
   have Gl := gl_
   clear nl_ gl_
   have Oa := na_
   have Ga := ga_
   clear na_ ga_
   have Ob := nb_
   have Gb := gb_
   clear nb_ gb_
   have nB_ := kp (below_step (by with_reducible repeat (first | exact HB.out | apply cA | apply cN | apply cD)) hb)
   clear HB
   have HB := nB_
   clear nB_
   clear hb
   go_wp2_with fail
   (with_reducible refine (spec_TotalCost.calls k _ _ l tc _ ?s17a ?s17b QF23.out).mono ?_)
   case s17a => repeat (first | exact (R_rd Ol.out).1 | (with_reducible refine Kd.C_alloc ?_ _) | (with_reducible refine Kd.C_drewN ?_ _) | (with_reducible refine Kd.C_drew ?_))
   case s17b => exact (R_rd Ol.out).2
   rintro e w46 ⟨rfl, hb⟩
   (try (have hb_ := hb.below; clear hb; have hb := hb_; clear hb_))
   have nl_ := kp (Kd.R_below (by (with_reducible repeat (first | apply Kd.R_alloc | apply Kd.R_drewN | apply Kd.R_drew)); exact Ol.out) hb)
   have gl_ := kp (Nat.le_trans Gl.out hb.size)
   have na_ := kp (Kd.R_below (by (with_reducible repeat (first | apply Kd.R_alloc | apply Kd.R_drewN | apply Kd.R_drew)); exact Oa.out) hb)
   have ga_ := kp (Nat.le_trans Ga.out hb.size)
   have nb_ := kp (Kd.R_below (by (with_reducible repeat (first | apply Kd.R_alloc | apply Kd.R_drewN | apply Kd.R_drew)); exact Ob.out) hb)
   have gb_ := kp (Nat.le_trans Gb.out hb.size)
   clear Ol Gl
   clear Oa Ga
   clear Ob Gb
   have Ol := nl_
   have Gl := gl_
   clear nl_ gl_
   have Oa := na_
   have Ga := ga_
   clear na_ ga_
   have Ob := nb_
   have Gb := gb_
   clear nb_ gb_
   have nB_ := kp (below_step (by with_reducible repeat (first | exact HB.out | apply cA | apply cN | apply cD)) hb)
   clear HB
   have HB := nB_
   clear nB_
   clear hb
   go_wp2
   go_ret
   exact ⟨by first | rfl | simp, (by with_reducible repeat (first | exact HB.out | apply cA | apply cN | apply cD))⟩
/-- What the walk asks of the values. -/
def laws_FnRowFormat.OK (k : Nat) (l0 : List Int) : Prop := laws_big.f l0 = some true ∨ ∃ (l a b : List S33) (fr s fs t : ByteArray) (r0 r1 r2 x0 x1 x2 y0 y1 y2 tc : Int) (is fn two av : Bool), laws_big.f l0 = some false ∧ spec_DrawFormatRow.f k l0 = some (r0, r1, r2) ∧ impl_FormatRow.f k r0 r1 r2 = some fr ∧ impl_ParseRow.f k fr = some (x0, x1, x2, is) ∧ spec_DrawParseRow.f k l0 = some s ∧ impl_ParseRow.f k s = some (y0, y1, y2, fn) ∧ spec_ParseRow.f k s = some (y0, y1, y2, fn) ∧ spec_IsValidRow.f r0 r1 r2 = some is ∧ impl_IsValidRow.f r0 r1 r2 = some is ∧ (fn = true → impl_FormatRow.f k y0 y1 y2 = some s) ∧ (is = true → impl_RowCost.f r0 r1 r2 = some (wrap64 (1 + r2))) ∧ (is = true → (x0 == r0) = true ∧ (x1 == r1) = true ∧ (x2 == r2) = true) ∧ spec_DrawFormatRows.f k l0 = some l ∧ impl_FormatRows.f k l = some fs ∧ impl_ParseRows.f k fs = some (a, true) ∧ spec_DrawParseRows.f k l0 = some t ∧ impl_ParseRows.f k t = some (b, two) ∧ spec_ParseRows.f k t = some (b, two) ∧ spec_AreValidRows.f k l = some av ∧ (av = true → laws_sameRows.f k a l = some true) ∧ (two = true → impl_FormatRows.f k b = some t) ∧ impl_AreValidRows.f k l = some av ∧ impl_TotalCost.f k l = some tc ∧ spec_TotalCost.f k l = some tc
theorem laws_FnRowFormat.calls (k : Nat) (A0 : Option Addr) (c0 : Nat) (l0 : List Int) (r : Bool) (w : World) (hr0 : Kd.C (Kd.int .u8) w A0 l0.length l0) (hc0 : l0.length ≤ c0) (h : laws_FnRowFormat.OK k l0) :
  Calls Try.prog 14 #[.slice A0 l0.length c0] w fun e w' => e = .returned (.bool true) ∧ Below w.heap.size w w' := by
 obtain F1 | ⟨l, a, b, fr, s, fs, t, r0, r1, r2, x0, x1, x2, y0, y1, y2, tc, is, fn, two, av, F1, F2, F3, F4, F5, F6, F7, F8, F9, F10, F11, hx, F12, F13, F14, F15, F16, F17, F18, F19, F20, F21, F22, F23⟩ := h
 ·exact laws_FnRowFormat.big A0 c0 l0 w hr0 hc0 F1
 ·exact laws_FnRowFormat.lin k A0 c0 l0 l a b fr s fs t r0 r1 r2 x0 x1 x2 y0 y1 y2 tc is fn two av w hr0 hc0 F1 F2 F3 F4 F5 F6 F7 F8 F9 F10 F11 hx F12 F13 F14 F15 F16 F17 F18 F19 F20 F21 F22 F23
def laws_FnRowFormat.Pure : Prop := ∀ (l0 : List Int), l0.length ≤ maxLen → l0.length * 1 ≤ 140737488351232 → (∀ x ∈ l0, (Lit.int .u8 x).wf = true) → ∃ k, laws_FnRowFormat.OK k l0
theorem laws_FnRowFormat.walk (P : laws_FnRowFormat.Pure) (a0 : Option Addr) (len0 cap0 : Nat) (z0 : List Int) (w : World) (w0 : (a0 = none ∧ len0 = 0 ∧ cap0 = 0 ∧ z0 = []) ∨ ∃ x, a0 = some x ∧ len0 ≤ cap0 ∧ cap0 ≤ maxLen ∧ z0.length = cap0 ∧ (∀ i, i < z0.length → w.cell? (x.add i) = some (.int .u8 (z0.getD i 0))) ∧ ∀ n ∈ z0, (Lit.int .u8 n).wf = true) (y0 : len0 * 1 ≤ 140737488351232) :
  Calls Try.prog 14 #[.slice a0 len0 cap0] w fun e w' => e = .returned (.bool true) ∧ Below w.heap.size w w' := by
 obtain ⟨l0, rfl, hr0, hm0, hw0, hc0⟩ := ReadsInt.ofRowC w0
 obtain ⟨k, h⟩ := P l0 hm0 y0 hw0
 refine (laws_FnRowFormat.calls k _ _ l0 true w (Kd.C_of_reads (d := (0 : Int)) (h1 := fun _ => rfl) hr0) hc0 h).mono ?_
 rintro e w' ⟨rfl, hd⟩
 exact ⟨rfl, hd⟩
end Go.Proofs.Ytkipmmkjbeeemaa.PFnRowFormat
