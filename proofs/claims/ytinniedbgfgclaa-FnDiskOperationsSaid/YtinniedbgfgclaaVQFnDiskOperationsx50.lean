/- The walk of the law FnDiskOperations: every test is decided by the premises; nothing is claimed here. -/
import Derived.Test.YtinniedbgfgclaaVQFnDiskOperationsx41
import Derived.Test.YtinniedbgfgclaaVQFnDiskOperationsx42
import Derived.Test.YtinniedbgfgclaaVQFnDiskOperationsx43
import Derived.Test.YtinniedbgfgclaaVQFnDiskOperationsx20
import Derived.Test.YtinniedbgfgclaaVQFnDiskOperationsx18
import Derived.Test.YtinniedbgfgclaaVQFnDiskOperationsx21
import Derived.Test.YtinniedbgfgclaaVQFnDiskOperationsx22
import Derived.Test.YtinniedbgfgclaaVQFnDiskOperationsx23
import Derived.Test.YtinniedbgfgclaaVQFnDiskOperationsx25
import Derived.Test.YtinniedbgfgclaaVQFnDiskOperationsx26
import Derived.Test.YtinniedbgfgclaaVQFnDiskOperationsx27
import Derived.Test.YtinniedbgfgclaaVQFnDiskOperationsx29
import Derived.Test.YtinniedbgfgclaaVQFnDiskOperationsx30
import Derived.Test.YtinniedbgfgclaaVLin
import Derived.Test.YtinniedbgfgclaaVShort
import Derived.Test.YtinniedbgfgclaaVFold
import Derived.Test.YtinniedbgfgclaaVPress
import Derived.Test.YtinniedbgfgclaaVFoldT
namespace Go.Proofs.Ytinniedbgfgclaa.PFnDiskOperations
open Go.RowKit Go.Proofs.YtinniedbgfgclaaW.PrintWords Go.Proofs.YtinniedbgfgclaaW.PrintLast Go.Proofs.YtinniedbgfgclaaW.PrintMore Go.Proofs.Ytinniedbgfgclaa.Lin Go.Proofs.Ytinniedbgfgclaa.Short Go.Proofs.Ytinniedbgfgclaa.Press Go.Proofs.Ytinniedbgfgclaa.Fold Go.Proofs.Ytinniedbgfgclaa.Press Go.Proofs.Ytinniedbgfgclaa.Fold
attribute [local go_sem] max2_int min2_int max_two min_two max_three min_three max_four min_four
set_option linter.unusedVariables false
set_option linter.unusedSimpArgs false
def laws_FnDiskOperations.T16 : Bool × List (List Nat × List Nat) := (true, [([], []), ([], []), ([0, 1], [0, 1]), ([2], [2]), ([3], [3]), ([3], [3]), ([4, 5, 3, 3], [3, 4, 5]), ([3, 6], [3, 6]), ([7, 6], [7]), ([8], [8]), ([8], [8]), ([9, 10, 8], [8, 9, 10]), ([8, 11], [8, 11]), ([12, 8], [12]), ([13], [13]), ([13], [13]), ([14, 15, 13, 13], [13, 14, 15]), ([13, 16], [13, 16]), ([17, 16], [17]), ([18], [18]), ([18], [18]), ([19, 20, 18], [18, 19, 20]), ([18, 21], [18, 21]), ([22, 18], [22]), ([23], [23]), ([23], [23]), ([24, 25, 23, 23], [23, 24, 25]), ([23, 26], [23, 26]), ([27, 26], [27]), ([28], [28]), ([28], [28]), ([29, 30, 28, 28], [28, 29, 30]), ([28], [28]), ([28], [28]), ([32, 33, 31, 28], [28, 32, 33]), ([31, 34, 28], [28, 31, 34]), ([28, 35], [28, 35]), ([36, 34], [36]), ([37], [37]), ([37], [37]), ([38, 39, 37], [37, 38, 39]), ([37, 40], [37, 40]), ([41, 37], [41]), ([42], [42]), ([42], [42]), ([43, 44, 42, 42], [42, 43, 44]), ([42, 45], [42, 45]), ([46, 45], [46]), ([47], [47]), ([48, 47], [47, 48]), ([49, 47, 47], [47, 49]), ([50], [50]), ([51, 50, 50], [50, 51]), ([50], [50]), ([53, 52, 50], [50, 53]), ([54, 50], [50, 54]), ([52, 55, 50], [50, 52, 55]), ([56, 54, 50], [50, 56]), ([57], [57]), ([58, 57, 57], [57, 58]), ([59, 57], [57, 59]), ([57, 60, 50], [50, 57, 60]), ([61, 59, 50], [50, 61]), ([62], [62]), ([63, 62, 62], [62, 63]), ([62, 64, 50], [50, 62, 64]), ([50, 65, 47], [47, 50, 65]), ([47, 66], [47, 66]), ([67, 64], [67]), ([68], [68]), ([69, 68, 68], [68, 69]), ([68], [68]), ([71, 70, 68], [68, 71]), ([70, 72, 68], [68, 70, 72]), ([68, 73], [68, 73]), ([74, 72, 0, 1, 2, 3, 4, 5, 6, 7, 8, 9, 10, 11, 12, 13, 14, 15, 16, 17, 18, 19, 20, 21, 22, 23, 24, 25, 26, 27, 28, 29, 30, 31, 32, 33, 34, 35, 36, 37, 38, 39, 40, 41, 42, 43, 44, 45, 46, 47, 48, 49, 50, 51, 52, 53, 54, 55, 56, 57, 58, 59, 60, 61, 62, 63, 64, 65, 66, 67, 68, 69, 70, 71, 72, 73, 74], [74])])
def laws_FnDiskOperations.B16 : List Nat := [0, 0, 3, 7, 15, 15, 63, 127, 255, 511, 511, 2047, 4095, 8191, 16383, 16383, 65535, 131071, 262143, 524287, 524287, 2097151, 4194303, 8388607, 16777215, 16777215, 67108863, 134217727, 268435455, 536870911, 536870911, 2147483647, 536870911, 536870911, 17179869183, 34359738367, 68719476735, 137438953471, 274877906943, 274877906943, 1099511627775, 2199023255551, 4398046511103, 8796093022207, 8796093022207, 35184372088831, 70368744177663, 140737488355327, 281474976710655, 562949953421311, 1125899906842623, 2251799813685247, 4503599627370495, 2251799813685247, 18014398509481983, 36028797018963967, 72057594037927935, 144115188075855871, 288230376151711743, 576460752303423487, 1152921504606846975, 2305843009213693951, 4611686018427387903, 9223372036854775807, 18446744073709551615, 36893488147419103231, 73786976294838206463, 147573952589676412927, 295147905179352825855, 590295810358705651711, 1180591620717411303423, 590295810358705651711, 4722366482869645213695, 9444732965739290427391, 18889465931478580854783, 37778931862957161709567]
theorem laws_FnDiskOperations.tab16 : rtab .any (opsOf Try.f4 16) = laws_FnDiskOperations.T16 := by kernel_rfl
theorem laws_FnDiskOperations.bits16 : waitsOk laws_FnDiskOperations.T16.2 laws_FnDiskOperations.B16 = true := by kernel_rfl
set_option maxHeartbeats 4000000 in
set_option maxRecDepth 100000 in
theorem laws_FnDiskOperations.big (A0 : Option Addr) (c0 : Nat) (l0 : List Int) (w : World) (hr0 : Kd.C (Kd.int .u8) w A0 l0.length l0) (hc0 : l0.length ≤ c0) (F1 : laws_big.f l0 = some true) :
  Calls Try.prog 4 #[.slice A0 l0.length c0] w fun e w' => e = .returned (.bool true) ∧ Below w.heap.size w w' := by
 have HR0 := kp hr0; have HC0 := kp hc0; clear hr0 hc0; have HB := kp (Below.refl w.heap.size w); have QF1 := kp F1; clear F1; go_enter Try.func4, Try.ntmps4; go_wp2_with fail; (with_reducible refine (laws_big.calls _ _ l0 true _ ?s1a ?s1b QF1.out).mono ?_); case s1a => repeat (first | exact (Kd.C_below HR0.out bb) | (with_reducible refine Kd.C_alloc ?_ _) | (with_reducible refine Kd.C_drewN ?_ _) | (with_reducible refine Kd.C_drew ?_))
 case s1b => exact HC0.out
 rintro e w1 ⟨rfl, hb⟩; (try (have hb_ := hb.below; clear hb; have hb := hb_; clear hb_)); have nB_ := kp (below_step bb hb); clear HB; have HB := nB_; clear nB_; clear hb; go_wp2; go_ret; exact ⟨by first | rfl | simp, bb⟩
set_option maxHeartbeats 40000000 in
set_option maxRecDepth 100000 in
theorem laws_FnDiskOperations.lin (k : Nat) (A0 : Option Addr) (c0 : Nat) (l0 : List Int) (d x y2 e u v f q z a b2 : List S80) (p l2 r : List S95) (t : ByteArray) (nd nx ny ne nu nv nf nq nz na nb n m j zx zd ck : Int) (one three five is ab : Bool) (w : World) (hr0 : Kd.C (Kd.int .u8) w A0 l0.length l0) (hc0 : l0.length ≤ c0)
  (F1 : laws_big.f l0 = some false) (F2 : spec_DrawAppendPage.f k l0 = some (d, nd, n, p)) (F3 : impl_AppendPage.f k d nd n p = some (x, nx, one)) (F4 : spec_AppendPage.f k d nd n p = some (y2, ny, one)) (F5 : spec_DrawSealFile.f k l0 = some (e, ne, m)) (F6 : impl_SealFile.f k e ne m = some (u, nu, three)) (F7 : spec_SealFile.f k e ne m = some (v, nv, three))
  (F8 : spec_DrawDeleteFile.f k l0 = some (f, nf, j)) (F9 : impl_DeleteFile.f k f nf j = some (q, nq, five)) (F10 : spec_DeleteFile.f k f nf j = some (z, nz, five)) (F11 : spec_DrawEqualDisks.f k l0 = some (a, na, b2, nb)) (F12 : impl_ReadFile.f k e ne m = some (l2, is)) (F13 : spec_ReadFile.f k e ne m = some (r, is)) (F14 : spec_DrawChecksumOf.f k l0 = some t)
  (F15 : spec_EqualDisks.f k x nx y2 ny = some true) (F16 : spec_EqualDisks.f k u nu v nv = some true) (F17 : spec_EqualDisks.f k q nq z nz = some true) (F18 : impl_EqualDisks.f k a na b2 nb = some ab) (F19 : spec_EqualDisks.f k a na b2 nb = some ab) (F20 : laws_sameRows.f k l2 r = some true)
  (F21 : one = true → impl_CountPages.f k x nx = some zx) (F22 : one = true → impl_CountPages.f k d nd = some zd) (F23 : one = true → wrap64 (zd + 1) = zx) (F24 : one = true → zx ≤ 40) (F25 : one = true → impl_IsValidDisk.f k x nx = some true) (F26 : impl_ChecksumOf.f k t = some ck) (F27 : spec_ChecksumOf.f k t = some ck) :
  Calls Try.prog 4 #[.slice A0 l0.length c0] w fun e w' => e = .returned (.bool true) ∧ Below w.heap.size w w' := by
 have HR0 := kp hr0
 have HC0 := kp hc0
 clear hr0 hc0
 have HB := kp (Below.refl w.heap.size w)
 have QF1 := kp F1
 clear F1
 have QF2 := kp F2
 clear F2
 have QF3 := kp F3
 clear F3
 have QF4 := kp F4
 clear F4
 have QF5 := kp F5
 clear F5
 have QF6 := kp F6
 clear F6
 have QF7 := kp F7
 clear F7
 have QF8 := kp F8
 clear F8
 have QF9 := kp F9
 clear F9
 have QF10 := kp F10
 clear F10
 have QF11 := kp F11
 clear F11
 have QF12 := kp F12
 clear F12
 have QF13 := kp F13
 clear F13
 have QF14 := kp F14
 clear F14
 have QF15 := kp F15
 clear F15
 have QF16 := kp F16
 clear F16
 have QF17 := kp F17
 clear F17
 have QF18 := kp F18
 clear F18
 have QF19 := kp F19
 clear F19
 have QF20 := kp F20
 clear F20
 have QF21 := kp F21
 clear F21
 have QF22 := kp F22
 clear F22
 have QF23 := kp F23
 clear F23
 have QF24 := kp F24
 clear F24
 have QF25 := kp F25
 clear F25
 have QF26 := kp F26
 clear F26
 have QF27 := kp F27
 clear F27
 have hu28 := Try.underlying28
 have hu39 := Try.underlying39
 go_enter Try.func4, Try.ntmps4
 go_wp2_with fail
 (with_reducible refine (laws_big.calls _ _ l0 false _ ?s1a ?s1b QF1.out).mono ?_)
 case s1a => repeat (first | exact (Kd.C_below HR0.out bb) | (with_reducible refine Kd.C_alloc ?_ _) | (with_reducible refine Kd.C_drewN ?_ _) | (with_reducible refine Kd.C_drew ?_))
 case s1b => exact HC0.out
 rintro e w1 ⟨rfl, hb⟩
 (try replace hb := hb.below)
 replace HB := hB_ HB hb
 clear hb
 go_wp2_with fail
 (with_reducible refine (spec_DrawAppendPage.calls k _ _ l0 d nd n p _ ?s2a ?s2b QF2.out).mono ?_)
 case s2a => repeat (first | exact (Kd.C_below HR0.out bb) | (with_reducible refine Kd.C_alloc ?_ _) | (with_reducible refine Kd.C_drewN ?_ _) | (with_reducible refine Kd.C_drew ?_))
 case s2b => exact HC0.out
 rintro e w2 ⟨vd, vp, rfl, hod, hop, hb⟩
 replace hod := N_ivm hod (fun _ h_ => by first | exact h_ | exact h_.1)
 obtain ⟨bd, hled, md_⟩ := N_ivx hod (below_size bb)
 clear hod
 obtain ⟨bp, hlep, mp_⟩ := R_ivx hop (below_size bb)
 clear hop
 clear hled
 clear hlep
 replace HB := hB_ HB hb
 clear hb
 obtain ⟨Ad, cd, ed⟩ := Kd.N_slice md_.out
 subst ed
 have Od := md_
 have Gd := kp (Nat.le_refl w2.heap.size)
 clear md_
 obtain ⟨Ap, cp, ep⟩ := Kd.R_slice mp_.out
 subst ep
 have Op := mp_
 have Gp := kp (Nat.le_refl w2.heap.size)
 clear mp_
 go_wp2_with (first | ((with_reducible refine gate_dst (N := 3) rfl ?_); refine bx_ 3 #[.slice none 0 0, .int .i64 0] 28 ?_; intro gd hg w3 hbox hb; have Zb_d_d := gZ_ Gd hg; have Zb_p_d := gZ_ Gp hg; have GEd := kp (bs hg); replace Od := mN_ Od hb; replace Gd := mG_ Gd hb; replace Op := mR_ Op hb; replace Gp := mG_ Gp hb; replace HB := hB_ HB hb; have BKd := kp hbox; clear hb hbox hg; obtain ⟨hz_d_0, hz_d_1⟩ := bq2 BKd.out; have hfz_d_0 := blk_frozen BKd.out 0; have hfz_d_1 := blk_frozen BKd.out 1) | ((with_reducible refine gate_dst (N := 5) rfl ?_); refine bx_ 5 #[.slice none 0 0] 39 ?_; intro gp hg w4 hbox hb; have Zb_d_p := gZ_ Gd hg; have Zb_p_p := gZ_ Gp hg; have NB_d_p := nB_ BKd hg; have NB_p_d := nC_ NB_d_p; have GEp := kp (bs hg); (try clear hz_d_0); (try clear hz_d_1); (try clear hfz_d_0); (try clear hfz_d_1); replace Od := mN_ Od hb; replace Gd := mG_ Gd hb; replace Op := mR_ Op hb; replace Gp := mG_ Gp hb; replace BKd := kB_ BKd hb; replace HB := hB_ HB hb; have BKp := kp hbox; clear hb hbox hg; obtain ⟨hz_d_0, hz_d_1⟩ := bq2 BKd.out; have hz_p_0 := bq1 BKp.out; have hfz_d_0 := blk_frozen BKd.out 0; have hfz_d_1 := blk_frozen BKd.out 1; have hn_d_p := NB_d_p.out; have hfz_p_0 := blk_frozen BKp.out 0; have hn_p_d := NB_p_d.out))
 have nd_ := kp (Kd.N_far (p := ⟨gp, 0, none⟩) (Kd.N_far (p := ⟨gd, 1, none⟩) (Kd.N_far (p := ⟨gd, 0, none⟩) Od.out (iv_far Zb_d_d.out) (.slice Ad d.length cd)) (iv_far Zb_d_d.out) (.int .i64 nd)) (iv_far Zb_d_p.out) (.slice Ap p.length cp))
 have np_ := kp (Kd.R_far (p := ⟨gp, 0, none⟩) (Kd.R_far (p := ⟨gd, 1, none⟩) (Kd.R_far (p := ⟨gd, 0, none⟩) Op.out (iv_far Zb_p_d.out) (.slice Ad d.length cd)) (iv_far Zb_p_d.out) (.int .i64 nd)) (iv_far Zb_p_p.out) (.slice Ap p.length cp))
 have nbd_ := kp (show (((w4.setCell ⟨gd, 0, none⟩ (.slice Ad d.length cd)).setCell ⟨gd, 1, none⟩ (.int .i64 nd)).setCell ⟨gp, 0, none⟩ (.slice Ap p.length cp)).heap[gd]? = some (.cells #[.slice Ad d.length cd, .int .i64 nd] 28 (0, 0)) from (blk_far (blk_set (blk_set BKd.out 0 (.slice Ad d.length cd)) 1 (.int .i64 nd)) (p := ⟨gp, 0, none⟩) NB_d_p.out (.slice Ap p.length cp)))
 have nbp_ := kp (show (((w4.setCell ⟨gd, 0, none⟩ (.slice Ad d.length cd)).setCell ⟨gd, 1, none⟩ (.int .i64 nd)).setCell ⟨gp, 0, none⟩ (.slice Ap p.length cp)).heap[gp]? = some (.cells #[.slice Ap p.length cp] 39 (0, 0)) from (blk_set (blk_far (blk_far BKp.out (p := ⟨gd, 0, none⟩) NB_p_d.out (.slice Ad d.length cd)) (p := ⟨gd, 1, none⟩) NB_p_d.out (.int .i64 nd)) 0 (.slice Ap p.length cp)))
 have nB_ := kp (show Below w.heap.size w (((w4.setCell ⟨gd, 0, none⟩ (.slice Ad d.length cd)).setCell ⟨gd, 1, none⟩ (.int .i64 nd)).setCell ⟨gp, 0, none⟩ (.slice Ap p.length cp)) from (below_set (below_set (below_set HB.out GEd.out) GEd.out) GEp.out))
 have hs_ : (((w4.setCell ⟨gd, 0, none⟩ (.slice Ad d.length cd)).setCell ⟨gd, 1, none⟩ (.int .i64 nd)).setCell ⟨gp, 0, none⟩ (.slice Ap p.length cp)).heap.size = w4.heap.size := by simp [World.setCell]
 have gd_ := kp (by rw [hs_]; exact Gd.out : w2.heap.size ≤ (((w4.setCell ⟨gd, 0, none⟩ (.slice Ad d.length cd)).setCell ⟨gd, 1, none⟩ (.int .i64 nd)).setCell ⟨gp, 0, none⟩ (.slice Ap p.length cp)).heap.size)
 have gp_ := kp (by rw [hs_]; exact Gp.out : w2.heap.size ≤ (((w4.setCell ⟨gd, 0, none⟩ (.slice Ad d.length cd)).setCell ⟨gd, 1, none⟩ (.int .i64 nd)).setCell ⟨gp, 0, none⟩ (.slice Ap p.length cp)).heap.size)
 (try clear hz_d_0)
 (try clear hz_d_1)
 (try clear hz_p_0)
 (try clear hfz_d_0)
 (try clear hfz_d_1)
 (try clear hn_d_p)
 (try clear hfz_p_0)
 (try clear hn_p_d)
 clear hs_ HB
 have HB := nB_
 clear nB_
 clear Od Gd
 have Od := nd_
 have Gd := gd_
 clear nd_ gd_
 clear Op Gp
 have Op := np_
 have Gp := gp_
 clear np_ gp_
 clear BKd
 have BKd := nbd_
 clear nbd_
 clear BKp
 have BKp := nbp_
 clear nbp_
 generalize (((w4.setCell ⟨gd, 0, none⟩ (.slice Ad d.length cd)).setCell ⟨gd, 1, none⟩ (.int .i64 nd)).setCell ⟨gp, 0, none⟩ (.slice Ap p.length cp)) = w6 at *
 (with_reducible refine (impl_AppendPage.callsD k _ _ d nd n _ _ p x nx one _ ?s3a ?s3b ?s4a ?s4b QF3.out).mono ?_)
 case s3a => repeat (first | exact (N_rd Od.out).1 | (with_reducible refine Kd.C_alloc ?_ _) | (with_reducible refine Kd.C_drewN ?_ _) | (with_reducible refine Kd.C_drew ?_))
 case s3b => exact (N_rd Od.out).2
 case s4a => repeat (first | exact (R_rd Op.out).1 | (with_reducible refine Kd.C_alloc ?_ _) | (with_reducible refine Kd.C_drewN ?_ _) | (with_reducible refine Kd.C_drew ?_))
 case s4b => exact (R_rd Op.out).2
 rintro e w6 ⟨vx, rfl, hox, hb⟩
 obtain ⟨bx, hlex, mx_⟩ := S_ivx hox (below_size bb)
 clear hox
 clear hlex
 replace Od := mN_ Od hb
 replace Gd := mG_ Gd hb
 replace Op := mR_ Op hb
 replace Gp := mG_ Gp hb
 replace BKd := kB_ BKd hb
 replace BKp := kB_ BKp hb
 replace HB := hB_ HB hb
 clear hb
 obtain ⟨Ax, cx, ex⟩ := Kd.S_slice mx_.out
 subst ex
 have Ox := mx_
 have Gx := kp (Nat.le_refl w6.heap.size)
 clear mx_
 go_wp2_with (first | ((with_reducible refine gate_dst (N := 6) rfl ?_); refine bx_ 6 #[.slice none 0 0, .int .i64 0] 28 ?_; intro gx hg w7 hbox hb; have Zb_d_x := gZ_ Gd hg; have Zb_p_x := gZ_ Gp hg; have Zb_x_x := gZ_ Gx hg; have NB_d_x := nB_ BKd hg; have NB_x_d := nC_ NB_d_x; have NB_p_x := nB_ BKp hg; have NB_x_p := nC_ NB_p_x; have GEx := kp (bs hg); replace Od := mN_ Od hb; replace Gd := mG_ Gd hb; replace Op := mR_ Op hb; replace Gp := mG_ Gp hb; replace Ox := mS_ Ox hb; replace Gx := mG_ Gx hb; replace BKd := kB_ BKd hb; replace BKp := kB_ BKp hb; replace HB := hB_ HB hb; have BKx := kp hbox; clear hb hbox hg; obtain ⟨hz_d_0, hz_d_1⟩ := bq2 BKd.out; have hz_p_0 := bq1 BKp.out; obtain ⟨hz_x_0, hz_x_1⟩ := bq2 BKx.out; have hfz_d_0 := blk_frozen BKd.out 0; have hfz_d_1 := blk_frozen BKd.out 1; have hn_d_x := NB_d_x.out; have hfz_p_0 := blk_frozen BKp.out 0; have hn_p_x := NB_p_x.out; have hfz_x_0 := blk_frozen BKx.out 0; have hfz_x_1 := blk_frozen BKx.out 1; have hn_x_d := NB_x_d.out; have hn_x_p := NB_x_p.out))
 (try clear hz_d_0)
 (try clear hz_d_1)
 (try clear hz_p_0)
 (try clear hz_x_0)
 (try clear hz_x_1)
 (try clear hfz_d_0)
 (try clear hfz_d_1)
 (try clear hn_d_x)
 (try clear hfz_p_0)
 (try clear hn_p_x)
 (try clear hfz_x_0)
 (try clear hfz_x_1)
 (try clear hn_x_d)
 (try clear hn_x_p)
 generalize hW : World.setCell _ _ _ = w9
 replace Od := fN2 hW Od (iv_far Zb_d_x.out)
 replace Gd := fG2 hW Gd
 replace Op := fR2 hW Op (iv_far Zb_p_x.out)
 replace Gp := fG2 hW Gp
 replace Ox := fS2 hW Ox (iv_far Zb_x_x.out)
 replace Gx := fG2 hW Gx
 replace BKd := kp (fa2 hW BKd.out NB_d_x.out)
 replace BKp := kp (fa2 hW BKp.out NB_p_x.out)
 replace BKx := kp (fp2 hW BKx.out)
 replace HB := fB2 hW HB GEx
 clear hW
 (with_reducible refine (spec_AppendPage.calls k _ _ d nd n _ _ p y2 ny one _ ?s5a ?s5b ?s6a ?s6b QF4.out).mono ?_)
 case s5a => repeat (first | exact (N_rd Od.out).1 | (with_reducible refine Kd.C_alloc ?_ _) | (with_reducible refine Kd.C_drewN ?_ _) | (with_reducible refine Kd.C_drew ?_))
 case s5b => exact (N_rd Od.out).2
 case s6a => repeat (first | exact (R_rd Op.out).1 | (with_reducible refine Kd.C_alloc ?_ _) | (with_reducible refine Kd.C_drewN ?_ _) | (with_reducible refine Kd.C_drew ?_))
 case s6b => exact (R_rd Op.out).2
 rintro e w9 ⟨vy2, rfl, hoy2, hb⟩
 obtain ⟨by2, hley2, my2_⟩ := R_ivx hoy2 (below_size bb)
 clear hoy2
 clear hley2
 replace Od := mN_ Od hb
 replace Gd := mG_ Gd hb
 replace Op := mR_ Op hb
 replace Gp := mG_ Gp hb
 replace Ox := mS_ Ox hb
 replace Gx := mG_ Gx hb
 replace BKd := kB_ BKd hb
 replace BKp := kB_ BKp hb
 replace BKx := kB_ BKx hb
 replace HB := hB_ HB hb
 clear hb
 obtain ⟨Ay2, cy2, ey2⟩ := Kd.R_slice my2_.out
 subst ey2
 have Oy2 := my2_
 have Gy2 := kp (Nat.le_refl w9.heap.size)
 clear my2_
 go_wp2_with (first | ((with_reducible refine gate_dst (N := 8) rfl ?_); refine bx_ 8 #[.slice none 0 0, .int .i64 0] 28 ?_; intro gy2 hg w10 hbox hb; have Zb_d_y2 := gZ_ Gd hg; have Zb_p_y2 := gZ_ Gp hg; have Zb_x_y2 := gZ_ Gx hg; have Zb_y2_y2 := gZ_ Gy2 hg; have NB_d_y2 := nB_ BKd hg; have NB_y2_d := nC_ NB_d_y2; have NB_p_y2 := nB_ BKp hg; have NB_y2_p := nC_ NB_p_y2; have NB_x_y2 := nB_ BKx hg; have NB_y2_x := nC_ NB_x_y2; have GEy2 := kp (bs hg); replace Od := mN_ Od hb; replace Gd := mG_ Gd hb; replace Op := mR_ Op hb; replace Gp := mG_ Gp hb; replace Ox := mS_ Ox hb; replace Gx := mG_ Gx hb; replace Oy2 := mR_ Oy2 hb; replace Gy2 := mG_ Gy2 hb; replace BKd := kB_ BKd hb; replace BKp := kB_ BKp hb; replace BKx := kB_ BKx hb; replace HB := hB_ HB hb; have BKy2 := kp hbox; clear hb hbox hg; obtain ⟨hz_y2_0, hz_y2_1⟩ := bq2 BKy2.out; have hfz_y2_0 := blk_frozen BKy2.out 0; have hfz_y2_1 := blk_frozen BKy2.out 1))
 (try clear hz_y2_0)
 (try clear hz_y2_1)
 (try clear hfz_y2_0)
 (try clear hfz_y2_1)
 generalize hW : World.setCell _ _ _ = w12
 replace Od := fN2 hW Od (iv_far Zb_d_y2.out)
 replace Gd := fG2 hW Gd
 replace Op := fR2 hW Op (iv_far Zb_p_y2.out)
 replace Gp := fG2 hW Gp
 replace Ox := fS2 hW Ox (iv_far Zb_x_y2.out)
 replace Gx := fG2 hW Gx
 replace Oy2 := fR2 hW Oy2 (iv_far Zb_y2_y2.out)
 replace Gy2 := fG2 hW Gy2
 replace BKd := kp (fa2 hW BKd.out NB_d_y2.out)
 replace BKp := kp (fa2 hW BKp.out NB_p_y2.out)
 replace BKx := kp (fa2 hW BKx.out NB_x_y2.out)
 replace BKy2 := kp (fp2 hW BKy2.out)
 replace HB := fB2 hW HB GEy2
 clear hW
 (with_reducible refine (spec_DrawSealFile.calls k _ _ l0 e ne m _ ?s7a ?s7b QF5.out).mono ?_)
 case s7a => repeat (first | exact (Kd.C_below HR0.out bb) | (with_reducible refine Kd.C_alloc ?_ _) | (with_reducible refine Kd.C_drewN ?_ _) | (with_reducible refine Kd.C_drew ?_))
 case s7b => exact HC0.out
 rintro e w12 ⟨ve, rfl, hoe, hb⟩
 replace hoe := N_ivm hoe (fun _ h_ => by first | exact h_ | exact h_.1)
 obtain ⟨be, hlee, me_⟩ := N_ivx hoe (below_size bb)
 clear hoe
 clear hlee
 replace Od := mN_ Od hb
 replace Gd := mG_ Gd hb
 replace Op := mR_ Op hb
 replace Gp := mG_ Gp hb
 replace Ox := mS_ Ox hb
 replace Gx := mG_ Gx hb
 replace Oy2 := mR_ Oy2 hb
 replace Gy2 := mG_ Gy2 hb
 replace BKd := kB_ BKd hb
 replace BKp := kB_ BKp hb
 replace BKx := kB_ BKx hb
 replace BKy2 := kB_ BKy2 hb
 replace HB := hB_ HB hb
 clear hb
 obtain ⟨Ae, ce, ee⟩ := Kd.N_slice me_.out
 subst ee
 have Oe := me_
 have Ge := kp (Nat.le_refl w12.heap.size)
 clear me_
 clear Op Gp
 clear BKp
 go_wp2_with (first | ((with_reducible refine gate_dst (N := 10) rfl ?_); refine bx_ 10 #[.slice none 0 0, .int .i64 0] 28 ?_; intro ge hg w13 hbox hb; have Zb_d_e := gZ_ Gd hg; have Zb_x_e := gZ_ Gx hg; have Zb_y2_e := gZ_ Gy2 hg; have Zb_e_e := gZ_ Ge hg; have NB_d_e := nB_ BKd hg; have NB_e_d := nC_ NB_d_e; have NB_x_e := nB_ BKx hg; have NB_e_x := nC_ NB_x_e; have NB_y2_e := nB_ BKy2 hg; have NB_e_y2 := nC_ NB_y2_e; have GEe := kp (bs hg); replace Od := mN_ Od hb; replace Gd := mG_ Gd hb; replace Ox := mS_ Ox hb; replace Gx := mG_ Gx hb; replace Oy2 := mR_ Oy2 hb; replace Gy2 := mG_ Gy2 hb; replace Oe := mN_ Oe hb; replace Ge := mG_ Ge hb; replace BKd := kB_ BKd hb; replace BKx := kB_ BKx hb; replace BKy2 := kB_ BKy2 hb; replace HB := hB_ HB hb; have BKe := kp hbox; clear hb hbox hg; obtain ⟨hz_e_0, hz_e_1⟩ := bq2 BKe.out; have hfz_e_0 := blk_frozen BKe.out 0; have hfz_e_1 := blk_frozen BKe.out 1))
 (try clear hz_e_0)
 (try clear hz_e_1)
 (try clear hfz_e_0)
 (try clear hfz_e_1)
 generalize hW : World.setCell _ _ _ = w15
 replace Od := fN2 hW Od (iv_far Zb_d_e.out)
 replace Gd := fG2 hW Gd
 replace Ox := fS2 hW Ox (iv_far Zb_x_e.out)
 replace Gx := fG2 hW Gx
 replace Oy2 := fR2 hW Oy2 (iv_far Zb_y2_e.out)
 replace Gy2 := fG2 hW Gy2
 replace Oe := fN2 hW Oe (iv_far Zb_e_e.out)
 replace Ge := fG2 hW Ge
 replace BKd := kp (fa2 hW BKd.out NB_d_e.out)
 replace BKx := kp (fa2 hW BKx.out NB_x_e.out)
 replace BKy2 := kp (fa2 hW BKy2.out NB_y2_e.out)
 replace BKe := kp (fp2 hW BKe.out)
 replace HB := fB2 hW HB GEe
 clear hW
 (with_reducible refine (impl_SealFile.callsD k _ _ e ne m u nu three _ ?s8a ?s8b QF6.out).mono ?_)
 case s8a => repeat (first | exact (N_rd Oe.out).1 | (with_reducible refine Kd.C_alloc ?_ _) | (with_reducible refine Kd.C_drewN ?_ _) | (with_reducible refine Kd.C_drew ?_))
 case s8b => exact (N_rd Oe.out).2
 rintro e w15 ⟨vu, rfl, hou, hb⟩
 obtain ⟨bu, hleu, mu_⟩ := S_ivx hou (below_size bb)
 clear hou
 clear hleu
 replace Od := mN_ Od hb
 replace Gd := mG_ Gd hb
 replace Ox := mS_ Ox hb
 replace Gx := mG_ Gx hb
 replace Oy2 := mR_ Oy2 hb
 replace Gy2 := mG_ Gy2 hb
 replace Oe := mN_ Oe hb
 replace Ge := mG_ Ge hb
 replace BKd := kB_ BKd hb
 replace BKx := kB_ BKx hb
 replace BKy2 := kB_ BKy2 hb
 replace BKe := kB_ BKe hb
 replace HB := hB_ HB hb
 clear hb
 obtain ⟨Au, cu, eu⟩ := Kd.S_slice mu_.out
 subst eu
 have Ou := mu_
 have Gu := kp (Nat.le_refl w15.heap.size)
 clear mu_
 go_wp2_with (first | ((with_reducible refine gate_dst (N := 12) rfl ?_); refine bx_ 12 #[.slice none 0 0, .int .i64 0] 28 ?_; intro gu hg w16 hbox hb; have Zb_d_u := gZ_ Gd hg; have Zb_x_u := gZ_ Gx hg; have Zb_y2_u := gZ_ Gy2 hg; have Zb_e_u := gZ_ Ge hg; have Zb_u_u := gZ_ Gu hg; have NB_d_u := nB_ BKd hg; have NB_u_d := nC_ NB_d_u; have NB_x_u := nB_ BKx hg; have NB_u_x := nC_ NB_x_u; have NB_y2_u := nB_ BKy2 hg; have NB_u_y2 := nC_ NB_y2_u; have NB_e_u := nB_ BKe hg; have NB_u_e := nC_ NB_e_u; have GEu := kp (bs hg); replace Od := mN_ Od hb; replace Gd := mG_ Gd hb; replace Ox := mS_ Ox hb; replace Gx := mG_ Gx hb; replace Oy2 := mR_ Oy2 hb; replace Gy2 := mG_ Gy2 hb; replace Oe := mN_ Oe hb; replace Ge := mG_ Ge hb; replace Ou := mS_ Ou hb; replace Gu := mG_ Gu hb; replace BKd := kB_ BKd hb; replace BKx := kB_ BKx hb; replace BKy2 := kB_ BKy2 hb; replace BKe := kB_ BKe hb; replace HB := hB_ HB hb; have BKu := kp hbox; clear hb hbox hg; obtain ⟨hz_e_0, hz_e_1⟩ := bq2 BKe.out; obtain ⟨hz_u_0, hz_u_1⟩ := bq2 BKu.out; have hfz_e_0 := blk_frozen BKe.out 0; have hfz_e_1 := blk_frozen BKe.out 1; have hn_e_u := NB_e_u.out; have hfz_u_0 := blk_frozen BKu.out 0; have hfz_u_1 := blk_frozen BKu.out 1; have hn_u_e := NB_u_e.out))
 (try clear hz_e_0)
 (try clear hz_e_1)
 (try clear hz_u_0)
 (try clear hz_u_1)
 (try clear hfz_e_0)
 (try clear hfz_e_1)
 (try clear hn_e_u)
 (try clear hfz_u_0)
 (try clear hfz_u_1)
 (try clear hn_u_e)
 generalize hW : World.setCell _ _ _ = w18
 replace Od := fN2 hW Od (iv_far Zb_d_u.out)
 replace Gd := fG2 hW Gd
 replace Ox := fS2 hW Ox (iv_far Zb_x_u.out)
 replace Gx := fG2 hW Gx
 replace Oy2 := fR2 hW Oy2 (iv_far Zb_y2_u.out)
 replace Gy2 := fG2 hW Gy2
 replace Oe := fN2 hW Oe (iv_far Zb_e_u.out)
 replace Ge := fG2 hW Ge
 replace Ou := fS2 hW Ou (iv_far Zb_u_u.out)
 replace Gu := fG2 hW Gu
 replace BKd := kp (fa2 hW BKd.out NB_d_u.out)
 replace BKx := kp (fa2 hW BKx.out NB_x_u.out)
 replace BKy2 := kp (fa2 hW BKy2.out NB_y2_u.out)
 replace BKe := kp (fa2 hW BKe.out NB_e_u.out)
 replace BKu := kp (fp2 hW BKu.out)
 replace HB := fB2 hW HB GEu
 clear hW
 (with_reducible refine (spec_SealFile.calls k _ _ e ne m v nv three _ ?s9a ?s9b QF7.out).mono ?_)
 case s9a => repeat (first | exact (N_rd Oe.out).1 | (with_reducible refine Kd.C_alloc ?_ _) | (with_reducible refine Kd.C_drewN ?_ _) | (with_reducible refine Kd.C_drew ?_))
 case s9b => exact (N_rd Oe.out).2
 rintro e w18 ⟨vv, rfl, hov, hb⟩
 obtain ⟨bv, hlev, mv_⟩ := R_ivx hov (below_size bb)
 clear hov
 clear hlev
 replace Od := mN_ Od hb
 replace Gd := mG_ Gd hb
 replace Ox := mS_ Ox hb
 replace Gx := mG_ Gx hb
 replace Oy2 := mR_ Oy2 hb
 replace Gy2 := mG_ Gy2 hb
 replace Oe := mN_ Oe hb
 replace Ge := mG_ Ge hb
 replace Ou := mS_ Ou hb
 replace Gu := mG_ Gu hb
 replace BKd := kB_ BKd hb
 replace BKx := kB_ BKx hb
 replace BKy2 := kB_ BKy2 hb
 replace BKe := kB_ BKe hb
 replace BKu := kB_ BKu hb
 replace HB := hB_ HB hb
 clear hb
 obtain ⟨Av, cv, ev⟩ := Kd.R_slice mv_.out
 subst ev
 have Ov := mv_
 have Gv := kp (Nat.le_refl w18.heap.size)
 clear mv_
 go_wp2_with (first | ((with_reducible refine gate_dst (N := 14) rfl ?_); refine bx_ 14 #[.slice none 0 0, .int .i64 0] 28 ?_; intro gv hg w19 hbox hb; have Zb_d_v := gZ_ Gd hg; have Zb_x_v := gZ_ Gx hg; have Zb_y2_v := gZ_ Gy2 hg; have Zb_e_v := gZ_ Ge hg; have Zb_u_v := gZ_ Gu hg; have Zb_v_v := gZ_ Gv hg; have NB_d_v := nB_ BKd hg; have NB_v_d := nC_ NB_d_v; have NB_x_v := nB_ BKx hg; have NB_v_x := nC_ NB_x_v; have NB_y2_v := nB_ BKy2 hg; have NB_v_y2 := nC_ NB_y2_v; have NB_e_v := nB_ BKe hg; have NB_v_e := nC_ NB_e_v; have NB_u_v := nB_ BKu hg; have NB_v_u := nC_ NB_u_v; have GEv := kp (bs hg); replace Od := mN_ Od hb; replace Gd := mG_ Gd hb; replace Ox := mS_ Ox hb; replace Gx := mG_ Gx hb; replace Oy2 := mR_ Oy2 hb; replace Gy2 := mG_ Gy2 hb; replace Oe := mN_ Oe hb; replace Ge := mG_ Ge hb; replace Ou := mS_ Ou hb; replace Gu := mG_ Gu hb; replace Ov := mR_ Ov hb; replace Gv := mG_ Gv hb; replace BKd := kB_ BKd hb; replace BKx := kB_ BKx hb; replace BKy2 := kB_ BKy2 hb; replace BKe := kB_ BKe hb; replace BKu := kB_ BKu hb; replace HB := hB_ HB hb; have BKv := kp hbox; clear hb hbox hg; obtain ⟨hz_v_0, hz_v_1⟩ := bq2 BKv.out; have hfz_v_0 := blk_frozen BKv.out 0; have hfz_v_1 := blk_frozen BKv.out 1))
 (try clear hz_v_0)
 (try clear hz_v_1)
 (try clear hfz_v_0)
 (try clear hfz_v_1)
 generalize hW : World.setCell _ _ _ = w21
 replace Od := fN2 hW Od (iv_far Zb_d_v.out)
 replace Gd := fG2 hW Gd
 replace Ox := fS2 hW Ox (iv_far Zb_x_v.out)
 replace Gx := fG2 hW Gx
 replace Oy2 := fR2 hW Oy2 (iv_far Zb_y2_v.out)
 replace Gy2 := fG2 hW Gy2
 replace Oe := fN2 hW Oe (iv_far Zb_e_v.out)
 replace Ge := fG2 hW Ge
 replace Ou := fS2 hW Ou (iv_far Zb_u_v.out)
 replace Gu := fG2 hW Gu
 replace Ov := fR2 hW Ov (iv_far Zb_v_v.out)
 replace Gv := fG2 hW Gv
 replace BKd := kp (fa2 hW BKd.out NB_d_v.out)
 replace BKx := kp (fa2 hW BKx.out NB_x_v.out)
 replace BKy2 := kp (fa2 hW BKy2.out NB_y2_v.out)
 replace BKe := kp (fa2 hW BKe.out NB_e_v.out)
 replace BKu := kp (fa2 hW BKu.out NB_u_v.out)
 replace BKv := kp (fp2 hW BKv.out)
 replace HB := fB2 hW HB GEv
 clear hW
 (with_reducible refine (spec_DrawDeleteFile.calls k _ _ l0 f nf j _ ?s10a ?s10b QF8.out).mono ?_)
 case s10a => repeat (first | exact (Kd.C_below HR0.out bb) | (with_reducible refine Kd.C_alloc ?_ _) | (with_reducible refine Kd.C_drewN ?_ _) | (with_reducible refine Kd.C_drew ?_))
 case s10b => exact HC0.out
 rintro e w21 ⟨vf, rfl, hof, hb⟩
 replace hof := N_ivm hof (fun _ h_ => by first | exact h_ | exact h_.1)
 obtain ⟨bf, hlef, mf_⟩ := N_ivx hof (below_size bb)
 clear hof
 clear hlef
 replace Od := mN_ Od hb
 replace Gd := mG_ Gd hb
 replace Ox := mS_ Ox hb
 replace Gx := mG_ Gx hb
 replace Oy2 := mR_ Oy2 hb
 replace Gy2 := mG_ Gy2 hb
 replace Oe := mN_ Oe hb
 replace Ge := mG_ Ge hb
 replace Ou := mS_ Ou hb
 replace Gu := mG_ Gu hb
 replace Ov := mR_ Ov hb
 replace Gv := mG_ Gv hb
 replace BKd := kB_ BKd hb
 replace BKx := kB_ BKx hb
 replace BKy2 := kB_ BKy2 hb
 replace BKe := kB_ BKe hb
 replace BKu := kB_ BKu hb
 replace BKv := kB_ BKv hb
 replace HB := hB_ HB hb
 clear hb
 obtain ⟨Af, cf, ef⟩ := Kd.N_slice mf_.out
 subst ef
 have Of := mf_
 have Gf := kp (Nat.le_refl w21.heap.size)
 clear mf_
 go_wp2_with (first | ((with_reducible refine gate_dst (N := 16) rfl ?_); refine bx_ 16 #[.slice none 0 0, .int .i64 0] 28 ?_; intro gf hg w22 hbox hb; have Zb_d_f := gZ_ Gd hg; have Zb_x_f := gZ_ Gx hg; have Zb_y2_f := gZ_ Gy2 hg; have Zb_e_f := gZ_ Ge hg; have Zb_u_f := gZ_ Gu hg; have Zb_v_f := gZ_ Gv hg; have Zb_f_f := gZ_ Gf hg; have NB_d_f := nB_ BKd hg; have NB_f_d := nC_ NB_d_f; have NB_x_f := nB_ BKx hg; have NB_f_x := nC_ NB_x_f; have NB_y2_f := nB_ BKy2 hg; have NB_f_y2 := nC_ NB_y2_f; have NB_e_f := nB_ BKe hg; have NB_f_e := nC_ NB_e_f; have NB_u_f := nB_ BKu hg; have NB_f_u := nC_ NB_u_f; have NB_v_f := nB_ BKv hg; have NB_f_v := nC_ NB_v_f; have GEf := kp (bs hg); replace Od := mN_ Od hb; replace Gd := mG_ Gd hb; replace Ox := mS_ Ox hb; replace Gx := mG_ Gx hb; replace Oy2 := mR_ Oy2 hb; replace Gy2 := mG_ Gy2 hb; replace Oe := mN_ Oe hb; replace Ge := mG_ Ge hb; replace Ou := mS_ Ou hb; replace Gu := mG_ Gu hb; replace Ov := mR_ Ov hb; replace Gv := mG_ Gv hb; replace Of := mN_ Of hb; replace Gf := mG_ Gf hb; replace BKd := kB_ BKd hb; replace BKx := kB_ BKx hb; replace BKy2 := kB_ BKy2 hb; replace BKe := kB_ BKe hb; replace BKu := kB_ BKu hb; replace BKv := kB_ BKv hb; replace HB := hB_ HB hb; have BKf := kp hbox; clear hb hbox hg; obtain ⟨hz_f_0, hz_f_1⟩ := bq2 BKf.out; have hfz_f_0 := blk_frozen BKf.out 0; have hfz_f_1 := blk_frozen BKf.out 1))
 (try clear hz_f_0)
 (try clear hz_f_1)
 (try clear hfz_f_0)
 (try clear hfz_f_1)
 generalize hW : World.setCell _ _ _ = w24
 replace Od := fN2 hW Od (iv_far Zb_d_f.out)
 replace Gd := fG2 hW Gd
 replace Ox := fS2 hW Ox (iv_far Zb_x_f.out)
 replace Gx := fG2 hW Gx
 replace Oy2 := fR2 hW Oy2 (iv_far Zb_y2_f.out)
 replace Gy2 := fG2 hW Gy2
 replace Oe := fN2 hW Oe (iv_far Zb_e_f.out)
 replace Ge := fG2 hW Ge
 replace Ou := fS2 hW Ou (iv_far Zb_u_f.out)
 replace Gu := fG2 hW Gu
 replace Ov := fR2 hW Ov (iv_far Zb_v_f.out)
 replace Gv := fG2 hW Gv
 replace Of := fN2 hW Of (iv_far Zb_f_f.out)
 replace Gf := fG2 hW Gf
 replace BKd := kp (fa2 hW BKd.out NB_d_f.out)
 replace BKx := kp (fa2 hW BKx.out NB_x_f.out)
 replace BKy2 := kp (fa2 hW BKy2.out NB_y2_f.out)
 replace BKe := kp (fa2 hW BKe.out NB_e_f.out)
 replace BKu := kp (fa2 hW BKu.out NB_u_f.out)
 replace BKv := kp (fa2 hW BKv.out NB_v_f.out)
 replace BKf := kp (fp2 hW BKf.out)
 replace HB := fB2 hW HB GEf
 clear hW
 (with_reducible refine (impl_DeleteFile.calls k _ _ f nf j q nq five _ ?s11a ?s11b QF9.out).mono ?_)
 case s11a => repeat (first | exact (N_rd Of.out).1 | (with_reducible refine Kd.C_alloc ?_ _) | (with_reducible refine Kd.C_drewN ?_ _) | (with_reducible refine Kd.C_drew ?_))
 case s11b => exact (N_rd Of.out).2
 rintro e w24 ⟨vq, rfl, hoq, hb⟩
 obtain ⟨bq, hleq, mq_⟩ := R_ivx hoq (below_size bb)
 clear hoq
 clear hleq
 replace Od := mN_ Od hb
 replace Gd := mG_ Gd hb
 replace Ox := mS_ Ox hb
 replace Gx := mG_ Gx hb
 replace Oy2 := mR_ Oy2 hb
 replace Gy2 := mG_ Gy2 hb
 replace Oe := mN_ Oe hb
 replace Ge := mG_ Ge hb
 replace Ou := mS_ Ou hb
 replace Gu := mG_ Gu hb
 replace Ov := mR_ Ov hb
 replace Gv := mG_ Gv hb
 replace Of := mN_ Of hb
 replace Gf := mG_ Gf hb
 replace BKd := kB_ BKd hb
 replace BKx := kB_ BKx hb
 replace BKy2 := kB_ BKy2 hb
 replace BKe := kB_ BKe hb
 replace BKu := kB_ BKu hb
 replace BKv := kB_ BKv hb
 replace BKf := kB_ BKf hb
 replace HB := hB_ HB hb
 clear hb
 obtain ⟨Aq, cq, eq⟩ := Kd.R_slice mq_.out
 subst eq
 have Oq := mq_
 have Gq := kp (Nat.le_refl w24.heap.size)
 clear mq_
 go_wp2_with (first | ((with_reducible refine gate_dst (N := 18) rfl ?_); refine bx_ 18 #[.slice none 0 0, .int .i64 0] 28 ?_; intro gq hg w25 hbox hb; have Zb_d_q := gZ_ Gd hg; have Zb_x_q := gZ_ Gx hg; have Zb_y2_q := gZ_ Gy2 hg; have Zb_e_q := gZ_ Ge hg; have Zb_u_q := gZ_ Gu hg; have Zb_v_q := gZ_ Gv hg; have Zb_f_q := gZ_ Gf hg; have Zb_q_q := gZ_ Gq hg; have NB_d_q := nB_ BKd hg; have NB_q_d := nC_ NB_d_q; have NB_x_q := nB_ BKx hg; have NB_q_x := nC_ NB_x_q; have NB_y2_q := nB_ BKy2 hg; have NB_q_y2 := nC_ NB_y2_q; have NB_e_q := nB_ BKe hg; have NB_q_e := nC_ NB_e_q; have NB_u_q := nB_ BKu hg; have NB_q_u := nC_ NB_u_q; have NB_v_q := nB_ BKv hg; have NB_q_v := nC_ NB_v_q; have NB_f_q := nB_ BKf hg; have NB_q_f := nC_ NB_f_q; have GEq := kp (bs hg); replace Od := mN_ Od hb; replace Gd := mG_ Gd hb; replace Ox := mS_ Ox hb; replace Gx := mG_ Gx hb; replace Oy2 := mR_ Oy2 hb; replace Gy2 := mG_ Gy2 hb; replace Oe := mN_ Oe hb; replace Ge := mG_ Ge hb; replace Ou := mS_ Ou hb; replace Gu := mG_ Gu hb; replace Ov := mR_ Ov hb; replace Gv := mG_ Gv hb; replace Of := mN_ Of hb; replace Gf := mG_ Gf hb; replace Oq := mR_ Oq hb; replace Gq := mG_ Gq hb; replace BKd := kB_ BKd hb; replace BKx := kB_ BKx hb; replace BKy2 := kB_ BKy2 hb; replace BKe := kB_ BKe hb; replace BKu := kB_ BKu hb; replace BKv := kB_ BKv hb; replace BKf := kB_ BKf hb; replace HB := hB_ HB hb; have BKq := kp hbox; clear hb hbox hg; obtain ⟨hz_f_0, hz_f_1⟩ := bq2 BKf.out; obtain ⟨hz_q_0, hz_q_1⟩ := bq2 BKq.out; have hfz_f_0 := blk_frozen BKf.out 0; have hfz_f_1 := blk_frozen BKf.out 1; have hn_f_q := NB_f_q.out; have hfz_q_0 := blk_frozen BKq.out 0; have hfz_q_1 := blk_frozen BKq.out 1; have hn_q_f := NB_q_f.out))
 (try clear hz_f_0)
 (try clear hz_f_1)
 (try clear hz_q_0)
 (try clear hz_q_1)
 (try clear hfz_f_0)
 (try clear hfz_f_1)
 (try clear hn_f_q)
 (try clear hfz_q_0)
 (try clear hfz_q_1)
 (try clear hn_q_f)
 generalize hW : World.setCell _ _ _ = w27
 replace Od := fN2 hW Od (iv_far Zb_d_q.out)
 replace Gd := fG2 hW Gd
 replace Ox := fS2 hW Ox (iv_far Zb_x_q.out)
 replace Gx := fG2 hW Gx
 replace Oy2 := fR2 hW Oy2 (iv_far Zb_y2_q.out)
 replace Gy2 := fG2 hW Gy2
 replace Oe := fN2 hW Oe (iv_far Zb_e_q.out)
 replace Ge := fG2 hW Ge
 replace Ou := fS2 hW Ou (iv_far Zb_u_q.out)
 replace Gu := fG2 hW Gu
 replace Ov := fR2 hW Ov (iv_far Zb_v_q.out)
 replace Gv := fG2 hW Gv
 replace Of := fN2 hW Of (iv_far Zb_f_q.out)
 replace Gf := fG2 hW Gf
 replace Oq := fR2 hW Oq (iv_far Zb_q_q.out)
 replace Gq := fG2 hW Gq
 replace BKd := kp (fa2 hW BKd.out NB_d_q.out)
 replace BKx := kp (fa2 hW BKx.out NB_x_q.out)
 replace BKy2 := kp (fa2 hW BKy2.out NB_y2_q.out)
 replace BKe := kp (fa2 hW BKe.out NB_e_q.out)
 replace BKu := kp (fa2 hW BKu.out NB_u_q.out)
 replace BKv := kp (fa2 hW BKv.out NB_v_q.out)
 replace BKf := kp (fa2 hW BKf.out NB_f_q.out)
 replace BKq := kp (fp2 hW BKq.out)
 replace HB := fB2 hW HB GEq
 clear hW
 (with_reducible refine (spec_DeleteFile.calls k _ _ f nf j z nz five _ ?s12a ?s12b QF10.out).mono ?_)
 case s12a => repeat (first | exact (N_rd Of.out).1 | (with_reducible refine Kd.C_alloc ?_ _) | (with_reducible refine Kd.C_drewN ?_ _) | (with_reducible refine Kd.C_drew ?_))
 case s12b => exact (N_rd Of.out).2
 rintro e w27 ⟨vz, rfl, hoz, hb⟩
 replace hoz := N_ivm hoz (fun _ h_ => by first | exact h_ | exact h_.1)
 obtain ⟨bz, hlez, mz_⟩ := N_ivx hoz (below_size bb)
 clear hoz
 clear hlez
 replace Od := mN_ Od hb
 replace Gd := mG_ Gd hb
 replace Ox := mS_ Ox hb
 replace Gx := mG_ Gx hb
 replace Oy2 := mR_ Oy2 hb
 replace Gy2 := mG_ Gy2 hb
 replace Oe := mN_ Oe hb
 replace Ge := mG_ Ge hb
 replace Ou := mS_ Ou hb
 replace Gu := mG_ Gu hb
 replace Ov := mR_ Ov hb
 replace Gv := mG_ Gv hb
 replace Of := mN_ Of hb
 replace Gf := mG_ Gf hb
 replace Oq := mR_ Oq hb
 replace Gq := mG_ Gq hb
 replace BKd := kB_ BKd hb
 replace BKx := kB_ BKx hb
 replace BKy2 := kB_ BKy2 hb
 replace BKe := kB_ BKe hb
 replace BKu := kB_ BKu hb
 replace BKv := kB_ BKv hb
 replace BKf := kB_ BKf hb
 replace BKq := kB_ BKq hb
 replace HB := hB_ HB hb
 clear hb
 obtain ⟨Az, cz, ez⟩ := Kd.N_slice mz_.out
 subst ez
 have Oz := mz_
 have Gz := kp (Nat.le_refl w27.heap.size)
 clear mz_
 go_wp2_with (first | ((with_reducible refine gate_dst (N := 20) rfl ?_); refine bx_ 20 #[.slice none 0 0, .int .i64 0] 28 ?_; intro gz hg w28 hbox hb; have Zb_d_z := gZ_ Gd hg; have Zb_x_z := gZ_ Gx hg; have Zb_y2_z := gZ_ Gy2 hg; have Zb_e_z := gZ_ Ge hg; have Zb_u_z := gZ_ Gu hg; have Zb_v_z := gZ_ Gv hg; have Zb_f_z := gZ_ Gf hg; have Zb_q_z := gZ_ Gq hg; have Zb_z_z := gZ_ Gz hg; have NB_d_z := nB_ BKd hg; have NB_z_d := nC_ NB_d_z; have NB_x_z := nB_ BKx hg; have NB_z_x := nC_ NB_x_z; have NB_y2_z := nB_ BKy2 hg; have NB_z_y2 := nC_ NB_y2_z; have NB_e_z := nB_ BKe hg; have NB_z_e := nC_ NB_e_z; have NB_u_z := nB_ BKu hg; have NB_z_u := nC_ NB_u_z; have NB_v_z := nB_ BKv hg; have NB_z_v := nC_ NB_v_z; have NB_f_z := nB_ BKf hg; have NB_z_f := nC_ NB_f_z; have NB_q_z := nB_ BKq hg; have NB_z_q := nC_ NB_q_z; have GEz := kp (bs hg); replace Od := mN_ Od hb; replace Gd := mG_ Gd hb; replace Ox := mS_ Ox hb; replace Gx := mG_ Gx hb; replace Oy2 := mR_ Oy2 hb; replace Gy2 := mG_ Gy2 hb; replace Oe := mN_ Oe hb; replace Ge := mG_ Ge hb; replace Ou := mS_ Ou hb; replace Gu := mG_ Gu hb; replace Ov := mR_ Ov hb; replace Gv := mG_ Gv hb; replace Of := mN_ Of hb; replace Gf := mG_ Gf hb; replace Oq := mR_ Oq hb; replace Gq := mG_ Gq hb; replace Oz := mN_ Oz hb; replace Gz := mG_ Gz hb; replace BKd := kB_ BKd hb; replace BKx := kB_ BKx hb; replace BKy2 := kB_ BKy2 hb; replace BKe := kB_ BKe hb; replace BKu := kB_ BKu hb; replace BKv := kB_ BKv hb; replace BKf := kB_ BKf hb; replace BKq := kB_ BKq hb; replace HB := hB_ HB hb; have BKz := kp hbox; clear hb hbox hg; obtain ⟨hz_z_0, hz_z_1⟩ := bq2 BKz.out; have hfz_z_0 := blk_frozen BKz.out 0; have hfz_z_1 := blk_frozen BKz.out 1))
 (try clear hz_z_0)
 (try clear hz_z_1)
 (try clear hfz_z_0)
 (try clear hfz_z_1)
 generalize hW : World.setCell _ _ _ = w30
 replace Od := fN2 hW Od (iv_far Zb_d_z.out)
 replace Gd := fG2 hW Gd
 replace Ox := fS2 hW Ox (iv_far Zb_x_z.out)
 replace Gx := fG2 hW Gx
 replace Oy2 := fR2 hW Oy2 (iv_far Zb_y2_z.out)
 replace Gy2 := fG2 hW Gy2
 replace Oe := fN2 hW Oe (iv_far Zb_e_z.out)
 replace Ge := fG2 hW Ge
 replace Ou := fS2 hW Ou (iv_far Zb_u_z.out)
 replace Gu := fG2 hW Gu
 replace Ov := fR2 hW Ov (iv_far Zb_v_z.out)
 replace Gv := fG2 hW Gv
 replace Of := fN2 hW Of (iv_far Zb_f_z.out)
 replace Gf := fG2 hW Gf
 replace Oq := fR2 hW Oq (iv_far Zb_q_z.out)
 replace Gq := fG2 hW Gq
 replace Oz := fN2 hW Oz (iv_far Zb_z_z.out)
 replace Gz := fG2 hW Gz
 replace BKd := kp (fa2 hW BKd.out NB_d_z.out)
 replace BKx := kp (fa2 hW BKx.out NB_x_z.out)
 replace BKy2 := kp (fa2 hW BKy2.out NB_y2_z.out)
 replace BKe := kp (fa2 hW BKe.out NB_e_z.out)
 replace BKu := kp (fa2 hW BKu.out NB_u_z.out)
 replace BKv := kp (fa2 hW BKv.out NB_v_z.out)
 replace BKf := kp (fa2 hW BKf.out NB_f_z.out)
 replace BKq := kp (fa2 hW BKq.out NB_q_z.out)
 replace BKz := kp (fp2 hW BKz.out)
 replace HB := fB2 hW HB GEz
 clear hW
 (with_reducible refine (spec_DrawEqualDisks.calls k _ _ l0 a na b2 nb _ ?s13a ?s13b QF11.out).mono ?_)
 case s13a => repeat (first | exact (Kd.C_below HR0.out bb) | (with_reducible refine Kd.C_alloc ?_ _) | (with_reducible refine Kd.C_drewN ?_ _) | (with_reducible refine Kd.C_drew ?_))
 case s13b => exact HC0.out
 rintro e w30 ⟨va, vb2, rfl, hoa, hob2, hb⟩
 replace hoa := N_ivm hoa (fun _ h_ => by first | exact h_ | exact h_.1)
 replace hob2 := N_ivm hob2 (fun _ h_ => by first | exact h_ | exact h_.1)
 obtain ⟨ba, hlea, ma_⟩ := N_ivx hoa (below_size bb)
 clear hoa
 obtain ⟨bb2, hleb2, mb2_⟩ := N_ivx hob2 (below_size bb)
 clear hob2
 clear hlea
 clear hleb2
 replace Od := mN_ Od hb
 replace Gd := mG_ Gd hb
 replace Ox := mS_ Ox hb
 replace Gx := mG_ Gx hb
 replace Oy2 := mR_ Oy2 hb
 replace Gy2 := mG_ Gy2 hb
 replace Oe := mN_ Oe hb
 replace Ge := mG_ Ge hb
 replace Ou := mS_ Ou hb
 replace Gu := mG_ Gu hb
 replace Ov := mR_ Ov hb
 replace Gv := mG_ Gv hb
 replace Of := mN_ Of hb
 replace Gf := mG_ Gf hb
 replace Oq := mR_ Oq hb
 replace Gq := mG_ Gq hb
 replace Oz := mN_ Oz hb
 replace Gz := mG_ Gz hb
 replace BKd := kB_ BKd hb
 replace BKx := kB_ BKx hb
 replace BKy2 := kB_ BKy2 hb
 replace BKe := kB_ BKe hb
 replace BKu := kB_ BKu hb
 replace BKv := kB_ BKv hb
 replace BKf := kB_ BKf hb
 replace BKq := kB_ BKq hb
 replace BKz := kB_ BKz hb
 replace HB := hB_ HB hb
 clear hb
 obtain ⟨Aa, ca, ea⟩ := Kd.N_slice ma_.out
 subst ea
 have Oa := ma_
 have Ga := kp (Nat.le_refl w30.heap.size)
 clear ma_
 obtain ⟨Ab2, cb2, eb2⟩ := Kd.N_slice mb2_.out
 subst eb2
 have Ob2 := mb2_
 have Gb2 := kp (Nat.le_refl w30.heap.size)
 clear mb2_
 clear Of Gf
 clear BKf
 go_wp2_with (first | ((with_reducible refine gate_dst (N := 22) rfl ?_); refine bx_ 22 #[.slice none 0 0, .int .i64 0] 28 ?_; intro ga hg w31 hbox hb; have Zb_d_a := gZ_ Gd hg; have Zb_x_a := gZ_ Gx hg; have Zb_y2_a := gZ_ Gy2 hg; have Zb_e_a := gZ_ Ge hg; have Zb_u_a := gZ_ Gu hg; have Zb_v_a := gZ_ Gv hg; have Zb_q_a := gZ_ Gq hg; have Zb_z_a := gZ_ Gz hg; have Zb_a_a := gZ_ Ga hg; have Zb_b2_a := gZ_ Gb2 hg; have NB_d_a := nB_ BKd hg; have NB_a_d := nC_ NB_d_a; have NB_x_a := nB_ BKx hg; have NB_a_x := nC_ NB_x_a; have NB_y2_a := nB_ BKy2 hg; have NB_a_y2 := nC_ NB_y2_a; have NB_e_a := nB_ BKe hg; have NB_a_e := nC_ NB_e_a; have NB_u_a := nB_ BKu hg; have NB_a_u := nC_ NB_u_a; have NB_v_a := nB_ BKv hg; have NB_a_v := nC_ NB_v_a; have NB_q_a := nB_ BKq hg; have NB_a_q := nC_ NB_q_a; have NB_z_a := nB_ BKz hg; have NB_a_z := nC_ NB_z_a; have GEa := kp (bs hg); replace Od := mN_ Od hb; replace Gd := mG_ Gd hb; replace Ox := mS_ Ox hb; replace Gx := mG_ Gx hb; replace Oy2 := mR_ Oy2 hb; replace Gy2 := mG_ Gy2 hb; replace Oe := mN_ Oe hb; replace Ge := mG_ Ge hb; replace Ou := mS_ Ou hb; replace Gu := mG_ Gu hb; replace Ov := mR_ Ov hb; replace Gv := mG_ Gv hb; replace Oq := mR_ Oq hb; replace Gq := mG_ Gq hb; replace Oz := mN_ Oz hb; replace Gz := mG_ Gz hb; replace Oa := mN_ Oa hb; replace Ga := mG_ Ga hb; replace Ob2 := mN_ Ob2 hb; replace Gb2 := mG_ Gb2 hb; replace BKd := kB_ BKd hb; replace BKx := kB_ BKx hb; replace BKy2 := kB_ BKy2 hb; replace BKe := kB_ BKe hb; replace BKu := kB_ BKu hb; replace BKv := kB_ BKv hb; replace BKq := kB_ BKq hb; replace BKz := kB_ BKz hb; replace HB := hB_ HB hb; have BKa := kp hbox; clear hb hbox hg; obtain ⟨hz_e_0, hz_e_1⟩ := bq2 BKe.out; obtain ⟨hz_a_0, hz_a_1⟩ := bq2 BKa.out; have hfz_e_0 := blk_frozen BKe.out 0; have hfz_e_1 := blk_frozen BKe.out 1; have hn_e_a := NB_e_a.out; have hfz_a_0 := blk_frozen BKa.out 0; have hfz_a_1 := blk_frozen BKa.out 1; have hn_a_e := NB_a_e.out) | ((with_reducible refine gate_dst (N := 23) rfl ?_); refine bx_ 23 #[.slice none 0 0, .int .i64 0] 28 ?_; intro gb2 hg w32 hbox hb; have Zb_d_b2 := gZ_ Gd hg; have Zb_x_b2 := gZ_ Gx hg; have Zb_y2_b2 := gZ_ Gy2 hg; have Zb_e_b2 := gZ_ Ge hg; have Zb_u_b2 := gZ_ Gu hg; have Zb_v_b2 := gZ_ Gv hg; have Zb_q_b2 := gZ_ Gq hg; have Zb_z_b2 := gZ_ Gz hg; have Zb_a_b2 := gZ_ Ga hg; have Zb_b2_b2 := gZ_ Gb2 hg; have NB_d_b2 := nB_ BKd hg; have NB_b2_d := nC_ NB_d_b2; have NB_x_b2 := nB_ BKx hg; have NB_b2_x := nC_ NB_x_b2; have NB_y2_b2 := nB_ BKy2 hg; have NB_b2_y2 := nC_ NB_y2_b2; have NB_e_b2 := nB_ BKe hg; have NB_b2_e := nC_ NB_e_b2; have NB_u_b2 := nB_ BKu hg; have NB_b2_u := nC_ NB_u_b2; have NB_v_b2 := nB_ BKv hg; have NB_b2_v := nC_ NB_v_b2; have NB_q_b2 := nB_ BKq hg; have NB_b2_q := nC_ NB_q_b2; have NB_z_b2 := nB_ BKz hg; have NB_b2_z := nC_ NB_z_b2; have NB_a_b2 := nB_ BKa hg; have NB_b2_a := nC_ NB_a_b2; have GEb2 := kp (bs hg); (try clear hz_e_0); (try clear hz_e_1); (try clear hz_a_0); (try clear hz_a_1); (try clear hfz_e_0); (try clear hfz_e_1); (try clear hn_e_a); (try clear hfz_a_0); (try clear hfz_a_1); (try clear hn_a_e); replace Od := mN_ Od hb; replace Gd := mG_ Gd hb; replace Ox := mS_ Ox hb; replace Gx := mG_ Gx hb; replace Oy2 := mR_ Oy2 hb; replace Gy2 := mG_ Gy2 hb; replace Oe := mN_ Oe hb; replace Ge := mG_ Ge hb; replace Ou := mS_ Ou hb; replace Gu := mG_ Gu hb; replace Ov := mR_ Ov hb; replace Gv := mG_ Gv hb; replace Oq := mR_ Oq hb; replace Gq := mG_ Gq hb; replace Oz := mN_ Oz hb; replace Gz := mG_ Gz hb; replace Oa := mN_ Oa hb; replace Ga := mG_ Ga hb; replace Ob2 := mN_ Ob2 hb; replace Gb2 := mG_ Gb2 hb; replace BKd := kB_ BKd hb; replace BKx := kB_ BKx hb; replace BKy2 := kB_ BKy2 hb; replace BKe := kB_ BKe hb; replace BKu := kB_ BKu hb; replace BKv := kB_ BKv hb; replace BKq := kB_ BKq hb; replace BKz := kB_ BKz hb; replace BKa := kB_ BKa hb; replace HB := hB_ HB hb; have BKb2 := kp hbox; clear hb hbox hg; obtain ⟨hz_e_0, hz_e_1⟩ := bq2 BKe.out; obtain ⟨hz_a_0, hz_a_1⟩ := bq2 BKa.out; obtain ⟨hz_b2_0, hz_b2_1⟩ := bq2 BKb2.out; have hfz_e_0 := blk_frozen BKe.out 0; have hfz_e_1 := blk_frozen BKe.out 1; have hn_e_b2 := NB_e_b2.out; have hfz_a_0 := blk_frozen BKa.out 0; have hfz_a_1 := blk_frozen BKa.out 1; have hn_a_b2 := NB_a_b2.out; have hfz_b2_0 := blk_frozen BKb2.out 0; have hfz_b2_1 := blk_frozen BKb2.out 1; have hn_b2_e := NB_b2_e.out; have hn_b2_a := NB_b2_a.out; have hn_e_a := NB_e_a.out; have hn_a_e := NB_a_e.out))
 have nd_ := kp (Kd.N_far (p := ⟨gb2, 1, none⟩) (Kd.N_far (p := ⟨gb2, 0, none⟩) (Kd.N_far (p := ⟨ga, 1, none⟩) (Kd.N_far (p := ⟨ga, 0, none⟩) Od.out (iv_far Zb_d_a.out) (.slice Aa a.length ca)) (iv_far Zb_d_a.out) (.int .i64 na)) (iv_far Zb_d_b2.out) (.slice Ab2 b2.length cb2)) (iv_far Zb_d_b2.out) (.int .i64 nb))
 have nx_ := kp (Kd.S_far (p := ⟨gb2, 1, none⟩) (Kd.S_far (p := ⟨gb2, 0, none⟩) (Kd.S_far (p := ⟨ga, 1, none⟩) (Kd.S_far (p := ⟨ga, 0, none⟩) Ox.out (iv_far Zb_x_a.out) (.slice Aa a.length ca)) (iv_far Zb_x_a.out) (.int .i64 na)) (iv_far Zb_x_b2.out) (.slice Ab2 b2.length cb2)) (iv_far Zb_x_b2.out) (.int .i64 nb))
 have ny2_ := kp (Kd.R_far (p := ⟨gb2, 1, none⟩) (Kd.R_far (p := ⟨gb2, 0, none⟩) (Kd.R_far (p := ⟨ga, 1, none⟩) (Kd.R_far (p := ⟨ga, 0, none⟩) Oy2.out (iv_far Zb_y2_a.out) (.slice Aa a.length ca)) (iv_far Zb_y2_a.out) (.int .i64 na)) (iv_far Zb_y2_b2.out) (.slice Ab2 b2.length cb2)) (iv_far Zb_y2_b2.out) (.int .i64 nb))
 have ne_ := kp (Kd.N_far (p := ⟨gb2, 1, none⟩) (Kd.N_far (p := ⟨gb2, 0, none⟩) (Kd.N_far (p := ⟨ga, 1, none⟩) (Kd.N_far (p := ⟨ga, 0, none⟩) Oe.out (iv_far Zb_e_a.out) (.slice Aa a.length ca)) (iv_far Zb_e_a.out) (.int .i64 na)) (iv_far Zb_e_b2.out) (.slice Ab2 b2.length cb2)) (iv_far Zb_e_b2.out) (.int .i64 nb))
 have nu_ := kp (Kd.S_far (p := ⟨gb2, 1, none⟩) (Kd.S_far (p := ⟨gb2, 0, none⟩) (Kd.S_far (p := ⟨ga, 1, none⟩) (Kd.S_far (p := ⟨ga, 0, none⟩) Ou.out (iv_far Zb_u_a.out) (.slice Aa a.length ca)) (iv_far Zb_u_a.out) (.int .i64 na)) (iv_far Zb_u_b2.out) (.slice Ab2 b2.length cb2)) (iv_far Zb_u_b2.out) (.int .i64 nb))
 have nv_ := kp (Kd.R_far (p := ⟨gb2, 1, none⟩) (Kd.R_far (p := ⟨gb2, 0, none⟩) (Kd.R_far (p := ⟨ga, 1, none⟩) (Kd.R_far (p := ⟨ga, 0, none⟩) Ov.out (iv_far Zb_v_a.out) (.slice Aa a.length ca)) (iv_far Zb_v_a.out) (.int .i64 na)) (iv_far Zb_v_b2.out) (.slice Ab2 b2.length cb2)) (iv_far Zb_v_b2.out) (.int .i64 nb))
 have nq_ := kp (Kd.R_far (p := ⟨gb2, 1, none⟩) (Kd.R_far (p := ⟨gb2, 0, none⟩) (Kd.R_far (p := ⟨ga, 1, none⟩) (Kd.R_far (p := ⟨ga, 0, none⟩) Oq.out (iv_far Zb_q_a.out) (.slice Aa a.length ca)) (iv_far Zb_q_a.out) (.int .i64 na)) (iv_far Zb_q_b2.out) (.slice Ab2 b2.length cb2)) (iv_far Zb_q_b2.out) (.int .i64 nb))
 have nz_ := kp (Kd.N_far (p := ⟨gb2, 1, none⟩) (Kd.N_far (p := ⟨gb2, 0, none⟩) (Kd.N_far (p := ⟨ga, 1, none⟩) (Kd.N_far (p := ⟨ga, 0, none⟩) Oz.out (iv_far Zb_z_a.out) (.slice Aa a.length ca)) (iv_far Zb_z_a.out) (.int .i64 na)) (iv_far Zb_z_b2.out) (.slice Ab2 b2.length cb2)) (iv_far Zb_z_b2.out) (.int .i64 nb))
 have na_ := kp (Kd.N_far (p := ⟨gb2, 1, none⟩) (Kd.N_far (p := ⟨gb2, 0, none⟩) (Kd.N_far (p := ⟨ga, 1, none⟩) (Kd.N_far (p := ⟨ga, 0, none⟩) Oa.out (iv_far Zb_a_a.out) (.slice Aa a.length ca)) (iv_far Zb_a_a.out) (.int .i64 na)) (iv_far Zb_a_b2.out) (.slice Ab2 b2.length cb2)) (iv_far Zb_a_b2.out) (.int .i64 nb))
 have nb2_ := kp (Kd.N_far (p := ⟨gb2, 1, none⟩) (Kd.N_far (p := ⟨gb2, 0, none⟩) (Kd.N_far (p := ⟨ga, 1, none⟩) (Kd.N_far (p := ⟨ga, 0, none⟩) Ob2.out (iv_far Zb_b2_a.out) (.slice Aa a.length ca)) (iv_far Zb_b2_a.out) (.int .i64 na)) (iv_far Zb_b2_b2.out) (.slice Ab2 b2.length cb2)) (iv_far Zb_b2_b2.out) (.int .i64 nb))
 have nbd_ := kp (show ((((w32.setCell ⟨ga, 0, none⟩ (.slice Aa a.length ca)).setCell ⟨ga, 1, none⟩ (.int .i64 na)).setCell ⟨gb2, 0, none⟩ (.slice Ab2 b2.length cb2)).setCell ⟨gb2, 1, none⟩ (.int .i64 nb)).heap[gd]? = some (.cells #[.slice Ad d.length cd, .int .i64 nd] 28 (0, 0)) from (blk_far (blk_far (blk_far (blk_far BKd.out (p := ⟨ga, 0, none⟩) NB_d_a.out (.slice Aa a.length ca)) (p := ⟨ga, 1, none⟩) NB_d_a.out (.int .i64 na)) (p := ⟨gb2, 0, none⟩) NB_d_b2.out (.slice Ab2 b2.length cb2)) (p := ⟨gb2, 1, none⟩) NB_d_b2.out (.int .i64 nb)))
 have nbx_ := kp (show ((((w32.setCell ⟨ga, 0, none⟩ (.slice Aa a.length ca)).setCell ⟨ga, 1, none⟩ (.int .i64 na)).setCell ⟨gb2, 0, none⟩ (.slice Ab2 b2.length cb2)).setCell ⟨gb2, 1, none⟩ (.int .i64 nb)).heap[gx]? = some (.cells #[.slice Ax x.length cx, .int .i64 nx] 28 (0, 0)) from (blk_far (blk_far (blk_far (blk_far BKx.out (p := ⟨ga, 0, none⟩) NB_x_a.out (.slice Aa a.length ca)) (p := ⟨ga, 1, none⟩) NB_x_a.out (.int .i64 na)) (p := ⟨gb2, 0, none⟩) NB_x_b2.out (.slice Ab2 b2.length cb2)) (p := ⟨gb2, 1, none⟩) NB_x_b2.out (.int .i64 nb)))
 have nby2_ := kp (show ((((w32.setCell ⟨ga, 0, none⟩ (.slice Aa a.length ca)).setCell ⟨ga, 1, none⟩ (.int .i64 na)).setCell ⟨gb2, 0, none⟩ (.slice Ab2 b2.length cb2)).setCell ⟨gb2, 1, none⟩ (.int .i64 nb)).heap[gy2]? = some (.cells #[.slice Ay2 y2.length cy2, .int .i64 ny] 28 (0, 0)) from (blk_far (blk_far (blk_far (blk_far BKy2.out (p := ⟨ga, 0, none⟩) NB_y2_a.out (.slice Aa a.length ca)) (p := ⟨ga, 1, none⟩) NB_y2_a.out (.int .i64 na)) (p := ⟨gb2, 0, none⟩) NB_y2_b2.out (.slice Ab2 b2.length cb2)) (p := ⟨gb2, 1, none⟩) NB_y2_b2.out (.int .i64 nb)))
 have nbe_ := kp (show ((((w32.setCell ⟨ga, 0, none⟩ (.slice Aa a.length ca)).setCell ⟨ga, 1, none⟩ (.int .i64 na)).setCell ⟨gb2, 0, none⟩ (.slice Ab2 b2.length cb2)).setCell ⟨gb2, 1, none⟩ (.int .i64 nb)).heap[ge]? = some (.cells #[.slice Ae e.length ce, .int .i64 ne] 28 (0, 0)) from (blk_far (blk_far (blk_far (blk_far BKe.out (p := ⟨ga, 0, none⟩) NB_e_a.out (.slice Aa a.length ca)) (p := ⟨ga, 1, none⟩) NB_e_a.out (.int .i64 na)) (p := ⟨gb2, 0, none⟩) NB_e_b2.out (.slice Ab2 b2.length cb2)) (p := ⟨gb2, 1, none⟩) NB_e_b2.out (.int .i64 nb)))
 have nbu_ := kp (show ((((w32.setCell ⟨ga, 0, none⟩ (.slice Aa a.length ca)).setCell ⟨ga, 1, none⟩ (.int .i64 na)).setCell ⟨gb2, 0, none⟩ (.slice Ab2 b2.length cb2)).setCell ⟨gb2, 1, none⟩ (.int .i64 nb)).heap[gu]? = some (.cells #[.slice Au u.length cu, .int .i64 nu] 28 (0, 0)) from (blk_far (blk_far (blk_far (blk_far BKu.out (p := ⟨ga, 0, none⟩) NB_u_a.out (.slice Aa a.length ca)) (p := ⟨ga, 1, none⟩) NB_u_a.out (.int .i64 na)) (p := ⟨gb2, 0, none⟩) NB_u_b2.out (.slice Ab2 b2.length cb2)) (p := ⟨gb2, 1, none⟩) NB_u_b2.out (.int .i64 nb)))
 have nbv_ := kp (show ((((w32.setCell ⟨ga, 0, none⟩ (.slice Aa a.length ca)).setCell ⟨ga, 1, none⟩ (.int .i64 na)).setCell ⟨gb2, 0, none⟩ (.slice Ab2 b2.length cb2)).setCell ⟨gb2, 1, none⟩ (.int .i64 nb)).heap[gv]? = some (.cells #[.slice Av v.length cv, .int .i64 nv] 28 (0, 0)) from (blk_far (blk_far (blk_far (blk_far BKv.out (p := ⟨ga, 0, none⟩) NB_v_a.out (.slice Aa a.length ca)) (p := ⟨ga, 1, none⟩) NB_v_a.out (.int .i64 na)) (p := ⟨gb2, 0, none⟩) NB_v_b2.out (.slice Ab2 b2.length cb2)) (p := ⟨gb2, 1, none⟩) NB_v_b2.out (.int .i64 nb)))
 have nbq_ := kp (show ((((w32.setCell ⟨ga, 0, none⟩ (.slice Aa a.length ca)).setCell ⟨ga, 1, none⟩ (.int .i64 na)).setCell ⟨gb2, 0, none⟩ (.slice Ab2 b2.length cb2)).setCell ⟨gb2, 1, none⟩ (.int .i64 nb)).heap[gq]? = some (.cells #[.slice Aq q.length cq, .int .i64 nq] 28 (0, 0)) from (blk_far (blk_far (blk_far (blk_far BKq.out (p := ⟨ga, 0, none⟩) NB_q_a.out (.slice Aa a.length ca)) (p := ⟨ga, 1, none⟩) NB_q_a.out (.int .i64 na)) (p := ⟨gb2, 0, none⟩) NB_q_b2.out (.slice Ab2 b2.length cb2)) (p := ⟨gb2, 1, none⟩) NB_q_b2.out (.int .i64 nb)))
 have nbz_ := kp (show ((((w32.setCell ⟨ga, 0, none⟩ (.slice Aa a.length ca)).setCell ⟨ga, 1, none⟩ (.int .i64 na)).setCell ⟨gb2, 0, none⟩ (.slice Ab2 b2.length cb2)).setCell ⟨gb2, 1, none⟩ (.int .i64 nb)).heap[gz]? = some (.cells #[.slice Az z.length cz, .int .i64 nz] 28 (0, 0)) from (blk_far (blk_far (blk_far (blk_far BKz.out (p := ⟨ga, 0, none⟩) NB_z_a.out (.slice Aa a.length ca)) (p := ⟨ga, 1, none⟩) NB_z_a.out (.int .i64 na)) (p := ⟨gb2, 0, none⟩) NB_z_b2.out (.slice Ab2 b2.length cb2)) (p := ⟨gb2, 1, none⟩) NB_z_b2.out (.int .i64 nb)))
 have nba_ := kp (show ((((w32.setCell ⟨ga, 0, none⟩ (.slice Aa a.length ca)).setCell ⟨ga, 1, none⟩ (.int .i64 na)).setCell ⟨gb2, 0, none⟩ (.slice Ab2 b2.length cb2)).setCell ⟨gb2, 1, none⟩ (.int .i64 nb)).heap[ga]? = some (.cells #[.slice Aa a.length ca, .int .i64 na] 28 (0, 0)) from (blk_far (blk_far (blk_set (blk_set BKa.out 0 (.slice Aa a.length ca)) 1 (.int .i64 na)) (p := ⟨gb2, 0, none⟩) NB_a_b2.out (.slice Ab2 b2.length cb2)) (p := ⟨gb2, 1, none⟩) NB_a_b2.out (.int .i64 nb)))
 have nbb2_ := kp (show ((((w32.setCell ⟨ga, 0, none⟩ (.slice Aa a.length ca)).setCell ⟨ga, 1, none⟩ (.int .i64 na)).setCell ⟨gb2, 0, none⟩ (.slice Ab2 b2.length cb2)).setCell ⟨gb2, 1, none⟩ (.int .i64 nb)).heap[gb2]? = some (.cells #[.slice Ab2 b2.length cb2, .int .i64 nb] 28 (0, 0)) from (blk_set (blk_set (blk_far (blk_far BKb2.out (p := ⟨ga, 0, none⟩) NB_b2_a.out (.slice Aa a.length ca)) (p := ⟨ga, 1, none⟩) NB_b2_a.out (.int .i64 na)) 0 (.slice Ab2 b2.length cb2)) 1 (.int .i64 nb)))
 have nB_ := kp (show Below w.heap.size w ((((w32.setCell ⟨ga, 0, none⟩ (.slice Aa a.length ca)).setCell ⟨ga, 1, none⟩ (.int .i64 na)).setCell ⟨gb2, 0, none⟩ (.slice Ab2 b2.length cb2)).setCell ⟨gb2, 1, none⟩ (.int .i64 nb)) from (below_set (below_set (below_set (below_set HB.out GEa.out) GEa.out) GEb2.out) GEb2.out))
 have hs_ : ((((w32.setCell ⟨ga, 0, none⟩ (.slice Aa a.length ca)).setCell ⟨ga, 1, none⟩ (.int .i64 na)).setCell ⟨gb2, 0, none⟩ (.slice Ab2 b2.length cb2)).setCell ⟨gb2, 1, none⟩ (.int .i64 nb)).heap.size = w32.heap.size := by simp [World.setCell]
 have gd_ := kp (by rw [hs_]; exact Gd.out : w2.heap.size ≤ ((((w32.setCell ⟨ga, 0, none⟩ (.slice Aa a.length ca)).setCell ⟨ga, 1, none⟩ (.int .i64 na)).setCell ⟨gb2, 0, none⟩ (.slice Ab2 b2.length cb2)).setCell ⟨gb2, 1, none⟩ (.int .i64 nb)).heap.size)
 have gx_ := kp (by rw [hs_]; exact Gx.out : w6.heap.size ≤ ((((w32.setCell ⟨ga, 0, none⟩ (.slice Aa a.length ca)).setCell ⟨ga, 1, none⟩ (.int .i64 na)).setCell ⟨gb2, 0, none⟩ (.slice Ab2 b2.length cb2)).setCell ⟨gb2, 1, none⟩ (.int .i64 nb)).heap.size)
 have gy2_ := kp (by rw [hs_]; exact Gy2.out : w9.heap.size ≤ ((((w32.setCell ⟨ga, 0, none⟩ (.slice Aa a.length ca)).setCell ⟨ga, 1, none⟩ (.int .i64 na)).setCell ⟨gb2, 0, none⟩ (.slice Ab2 b2.length cb2)).setCell ⟨gb2, 1, none⟩ (.int .i64 nb)).heap.size)
 have ge_ := kp (by rw [hs_]; exact Ge.out : w12.heap.size ≤ ((((w32.setCell ⟨ga, 0, none⟩ (.slice Aa a.length ca)).setCell ⟨ga, 1, none⟩ (.int .i64 na)).setCell ⟨gb2, 0, none⟩ (.slice Ab2 b2.length cb2)).setCell ⟨gb2, 1, none⟩ (.int .i64 nb)).heap.size)
 have gu_ := kp (by rw [hs_]; exact Gu.out : w15.heap.size ≤ ((((w32.setCell ⟨ga, 0, none⟩ (.slice Aa a.length ca)).setCell ⟨ga, 1, none⟩ (.int .i64 na)).setCell ⟨gb2, 0, none⟩ (.slice Ab2 b2.length cb2)).setCell ⟨gb2, 1, none⟩ (.int .i64 nb)).heap.size)
 have gv_ := kp (by rw [hs_]; exact Gv.out : w18.heap.size ≤ ((((w32.setCell ⟨ga, 0, none⟩ (.slice Aa a.length ca)).setCell ⟨ga, 1, none⟩ (.int .i64 na)).setCell ⟨gb2, 0, none⟩ (.slice Ab2 b2.length cb2)).setCell ⟨gb2, 1, none⟩ (.int .i64 nb)).heap.size)
 have gq_ := kp (by rw [hs_]; exact Gq.out : w24.heap.size ≤ ((((w32.setCell ⟨ga, 0, none⟩ (.slice Aa a.length ca)).setCell ⟨ga, 1, none⟩ (.int .i64 na)).setCell ⟨gb2, 0, none⟩ (.slice Ab2 b2.length cb2)).setCell ⟨gb2, 1, none⟩ (.int .i64 nb)).heap.size)
 have gz_ := kp (by rw [hs_]; exact Gz.out : w27.heap.size ≤ ((((w32.setCell ⟨ga, 0, none⟩ (.slice Aa a.length ca)).setCell ⟨ga, 1, none⟩ (.int .i64 na)).setCell ⟨gb2, 0, none⟩ (.slice Ab2 b2.length cb2)).setCell ⟨gb2, 1, none⟩ (.int .i64 nb)).heap.size)
 have ga_ := kp (by rw [hs_]; exact Ga.out : w30.heap.size ≤ ((((w32.setCell ⟨ga, 0, none⟩ (.slice Aa a.length ca)).setCell ⟨ga, 1, none⟩ (.int .i64 na)).setCell ⟨gb2, 0, none⟩ (.slice Ab2 b2.length cb2)).setCell ⟨gb2, 1, none⟩ (.int .i64 nb)).heap.size)
 have gb2_ := kp (by rw [hs_]; exact Gb2.out : w30.heap.size ≤ ((((w32.setCell ⟨ga, 0, none⟩ (.slice Aa a.length ca)).setCell ⟨ga, 1, none⟩ (.int .i64 na)).setCell ⟨gb2, 0, none⟩ (.slice Ab2 b2.length cb2)).setCell ⟨gb2, 1, none⟩ (.int .i64 nb)).heap.size)
 (try clear hz_e_0)
 (try clear hz_e_1)
 (try clear hz_a_0)
 (try clear hz_a_1)
 (try clear hz_b2_0)
 (try clear hz_b2_1)
 (try clear hfz_e_0)
 (try clear hfz_e_1)
 (try clear hn_e_b2)
 (try clear hfz_a_0)
 (try clear hfz_a_1)
 (try clear hn_a_b2)
 (try clear hfz_b2_0)
 (try clear hfz_b2_1)
 (try clear hn_b2_e)
 (try clear hn_b2_a)
 clear hs_ HB
 have HB := nB_
 clear nB_
 clear Od Gd
 have Od := nd_
 have Gd := gd_
 clear nd_ gd_
 clear Ox Gx
 have Ox := nx_
 have Gx := gx_
 clear nx_ gx_
 clear Oy2 Gy2
 have Oy2 := ny2_
 have Gy2 := gy2_
 clear ny2_ gy2_
 clear Oe Ge
 have Oe := ne_
 have Ge := ge_
 clear ne_ ge_
 clear Ou Gu
 have Ou := nu_
 have Gu := gu_
 clear nu_ gu_
 clear Ov Gv
 have Ov := nv_
 have Gv := gv_
 clear nv_ gv_
 clear Oq Gq
 have Oq := nq_
 have Gq := gq_
 clear nq_ gq_
 clear Oz Gz
 have Oz := nz_
 have Gz := gz_
 clear nz_ gz_
 clear Oa Ga
 have Oa := na_
 have Ga := ga_
 clear na_ ga_
 clear Ob2 Gb2
 have Ob2 := nb2_
 have Gb2 := gb2_
 clear nb2_ gb2_
 clear BKd
 have BKd := nbd_
 clear nbd_
 clear BKx
 have BKx := nbx_
 clear nbx_
 clear BKy2
 have BKy2 := nby2_
 clear nby2_
 clear BKe
 have BKe := nbe_
 clear nbe_
 clear BKu
 have BKu := nbu_
 clear nbu_
 clear BKv
 have BKv := nbv_
 clear nbv_
 clear BKq
 have BKq := nbq_
 clear nbq_
 clear BKz
 have BKz := nbz_
 clear nbz_
 clear BKa
 have BKa := nba_
 clear nba_
 clear BKb2
 have BKb2 := nbb2_
 clear nbb2_
 generalize ((((w32.setCell ⟨ga, 0, none⟩ (.slice Aa a.length ca)).setCell ⟨ga, 1, none⟩ (.int .i64 na)).setCell ⟨gb2, 0, none⟩ (.slice Ab2 b2.length cb2)).setCell ⟨gb2, 1, none⟩ (.int .i64 nb)) = w34 at *
 (with_reducible refine (impl_ReadFile.calls k _ _ e ne m l2 is _ ?s14a ?s14b QF12.out).mono ?_)
 case s14a => repeat (first | exact (N_rd Oe.out).1 | (with_reducible refine Kd.C_alloc ?_ _) | (with_reducible refine Kd.C_drewN ?_ _) | (with_reducible refine Kd.C_drew ?_))
 case s14b => exact (N_rd Oe.out).2
 rintro e w34 ⟨vl2, rfl, hol2, hb⟩
 obtain ⟨bl2, hlel2, ml2_⟩ := R_ivx hol2 (below_size bb)
 clear hol2
 clear hlel2
 replace Od := mN_ Od hb
 replace Gd := mG_ Gd hb
 replace Ox := mS_ Ox hb
 replace Gx := mG_ Gx hb
 replace Oy2 := mR_ Oy2 hb
 replace Gy2 := mG_ Gy2 hb
 replace Oe := mN_ Oe hb
 replace Ge := mG_ Ge hb
 replace Ou := mS_ Ou hb
 replace Gu := mG_ Gu hb
 replace Ov := mR_ Ov hb
 replace Gv := mG_ Gv hb
 replace Oq := mR_ Oq hb
 replace Gq := mG_ Gq hb
 replace Oz := mN_ Oz hb
 replace Gz := mG_ Gz hb
 replace Oa := mN_ Oa hb
 replace Ga := mG_ Ga hb
 replace Ob2 := mN_ Ob2 hb
 replace Gb2 := mG_ Gb2 hb
 replace BKd := kB_ BKd hb
 replace BKx := kB_ BKx hb
 replace BKy2 := kB_ BKy2 hb
 replace BKe := kB_ BKe hb
 replace BKu := kB_ BKu hb
 replace BKv := kB_ BKv hb
 replace BKq := kB_ BKq hb
 replace BKz := kB_ BKz hb
 replace BKa := kB_ BKa hb
 replace BKb2 := kB_ BKb2 hb
 replace HB := hB_ HB hb
 clear hb
 obtain ⟨Al2, cl2, el2⟩ := Kd.R_slice ml2_.out
 subst el2
 have Ol2 := ml2_
 have Gl2 := kp (Nat.le_refl w34.heap.size)
 clear ml2_
 obtain ⟨hz_e_0, hz_e_1⟩ := bq2 BKe.out
 go_wp2_with fail
 (with_reducible refine (spec_ReadFile.calls k _ _ e ne m r is _ ?s15a ?s15b QF13.out).mono ?_)
 case s15a => repeat (first | exact (N_rd Oe.out).1 | (with_reducible refine Kd.C_alloc ?_ _) | (with_reducible refine Kd.C_drewN ?_ _) | (with_reducible refine Kd.C_drew ?_))
 case s15b => exact (N_rd Oe.out).2
 rintro e w35 ⟨vr, rfl, hor, hb⟩
 obtain ⟨br, hler, mr_⟩ := R_ivx hor (below_size bb)
 clear hor
 clear hler
 (try clear hz_e_0)
 (try clear hz_e_1)
 replace Od := mN_ Od hb
 replace Gd := mG_ Gd hb
 replace Ox := mS_ Ox hb
 replace Gx := mG_ Gx hb
 replace Oy2 := mR_ Oy2 hb
 replace Gy2 := mG_ Gy2 hb
 replace Oe := mN_ Oe hb
 replace Ge := mG_ Ge hb
 replace Ou := mS_ Ou hb
 replace Gu := mG_ Gu hb
 replace Ov := mR_ Ov hb
 replace Gv := mG_ Gv hb
 replace Oq := mR_ Oq hb
 replace Gq := mG_ Gq hb
 replace Oz := mN_ Oz hb
 replace Gz := mG_ Gz hb
 replace Oa := mN_ Oa hb
 replace Ga := mG_ Ga hb
 replace Ob2 := mN_ Ob2 hb
 replace Gb2 := mG_ Gb2 hb
 replace Ol2 := mR_ Ol2 hb
 replace Gl2 := mG_ Gl2 hb
 replace BKd := kB_ BKd hb
 replace BKx := kB_ BKx hb
 replace BKy2 := kB_ BKy2 hb
 replace BKe := kB_ BKe hb
 replace BKu := kB_ BKu hb
 replace BKv := kB_ BKv hb
 replace BKq := kB_ BKq hb
 replace BKz := kB_ BKz hb
 replace BKa := kB_ BKa hb
 replace BKb2 := kB_ BKb2 hb
 replace HB := hB_ HB hb
 clear hb
 obtain ⟨Ar, cr, er⟩ := Kd.R_slice mr_.out
 subst er
 have Or := mr_
 have Gr := kp (Nat.le_refl w35.heap.size)
 clear mr_
 go_wp2_with fail
 (with_reducible refine (spec_DrawChecksumOf.calls k _ _ l0 t _ ?s16a ?s16b QF14.out).mono ?_)
 case s16a => repeat (first | exact (Kd.C_below HR0.out bb) | (with_reducible refine Kd.C_alloc ?_ _) | (with_reducible refine Kd.C_drewN ?_ _) | (with_reducible refine Kd.C_drew ?_))
 case s16b => exact HC0.out
 rintro e w36 ⟨rfl, hb⟩
 (try replace hb := hb.below)
 replace Od := mN_ Od hb
 replace Gd := mG_ Gd hb
 replace Ox := mS_ Ox hb
 replace Gx := mG_ Gx hb
 replace Oy2 := mR_ Oy2 hb
 replace Gy2 := mG_ Gy2 hb
 replace Oe := mN_ Oe hb
 replace Ge := mG_ Ge hb
 replace Ou := mS_ Ou hb
 replace Gu := mG_ Gu hb
 replace Ov := mR_ Ov hb
 replace Gv := mG_ Gv hb
 replace Oq := mR_ Oq hb
 replace Gq := mG_ Gq hb
 replace Oz := mN_ Oz hb
 replace Gz := mG_ Gz hb
 replace Oa := mN_ Oa hb
 replace Ga := mG_ Ga hb
 replace Ob2 := mN_ Ob2 hb
 replace Gb2 := mG_ Gb2 hb
 replace Ol2 := mR_ Ol2 hb
 replace Gl2 := mG_ Gl2 hb
 replace Or := mR_ Or hb
 replace Gr := mG_ Gr hb
 replace BKd := kB_ BKd hb
 replace BKx := kB_ BKx hb
 replace BKy2 := kB_ BKy2 hb
 replace BKe := kB_ BKe hb
 replace BKu := kB_ BKu hb
 replace BKv := kB_ BKv hb
 replace BKq := kB_ BKq hb
 replace BKz := kB_ BKz hb
 replace BKa := kB_ BKa hb
 replace BKb2 := kB_ BKb2 hb
 replace HB := hB_ HB hb
 clear hb
 clear Oe Ge
 clear BKe
 go_wp2_with fail
 replace Od := kp (Kd.N_drew Od.out)
 replace Ox := kp (Kd.S_drew Ox.out)
 replace Oy2 := kp (Kd.R_drew Oy2.out)
 replace Ou := kp (Kd.S_drew Ou.out)
 replace Ov := kp (Kd.R_drew Ov.out)
 replace Oq := kp (Kd.R_drew Oq.out)
 replace Oz := kp (Kd.N_drew Oz.out)
 replace Oa := kp (Kd.N_drew Oa.out)
 replace Ob2 := kp (Kd.N_drew Ob2.out)
 replace Ol2 := kp (Kd.R_drew Ol2.out)
 replace Or := kp (Kd.R_drew Or.out)
 replace HB := kp (below_drew1 HB.out)
 replace BKd := kp (blk_drew BKd.out)
 replace BKx := kp (blk_drew BKx.out)
 replace BKy2 := kp (blk_drew BKy2.out)
 replace BKu := kp (blk_drew BKu.out)
 replace BKv := kp (blk_drew BKv.out)
 replace BKq := kp (blk_drew BKq.out)
 replace BKz := kp (blk_drew BKz.out)
 replace BKa := kp (blk_drew BKa.out)
 replace BKb2 := kp (blk_drew BKb2.out)
 clear Gd
 clear Gx
 clear Gy2
 clear Gu
 clear Gv
 clear Gq
 clear Gz
 clear Ga
 clear Gb2
 clear Gl2
 clear Gr
 refine st_ 76 laws_FnDiskOperations.tab16 laws_FnDiskOperations.bits16 (ha2 BKd (ha2 BKx (ha2 BKy2 (ha2 BKu (ha2 BKv (ha2 BKq (ha2 BKz (ha2 BKa (hz2 BKb2))))))))) (fun hHeld HT_ HW_ => ?_)
 generalize w36.drew = w37 at Od Ox Oy2 Ou Ov Oq Oz Oa Ob2 Ol2 Or BKd BKx BKy2 BKu BKv BKq BKz BKa BKb2 HB hHeld ⊢
 have E1 : one = true → (zx == wrap64 (zd + 1)) = true := fun h_ => by rw [QF23.out h_]; exact beq_self_eq_true _
 have E2 : one = true → decide (zx ≤ 40) = true := fun h_ => decide_eq_true (QF24.out h_)
 cases one
 all_goals
  try replace E1 := E1 rfl
  try replace E2 := E2 rfl
  refine pq 0 104 HT_ ?_
  refine pq 1 105 HT_ ?_
  refine pq 2 106 HT_ ?_
  refine pq 3 107 HT_ ?_
  refine tq 4 108 HT_ HW_ hHeld ?_
  refine tq 5 109 HT_ HW_ hHeld ?_
  refine on_ 6 (some 110) HT_ (fun K hK => ?_)
  refine gs_ Try.func32 #[.agg #[.slice Ax x.length cx, .int .i64 nx], .agg #[.slice Ay2 y2.length cy2, .int .i64 ny]] ?_
  refine (spec_EqualDisks.calls k _ _ x nx _ _ y2 ny true _ (D_rd Ox.out).1 (D_rd Ox.out).2 (R_rd Oy2.out).1 (R_rd Oy2.out).2 QF15.out).mono ?_
  rintro e w38 ⟨rfl, hb⟩
  refine ⟨_, rfl, ?_⟩
  replace Od := kp (Kd.N_below Od.out hb)
  replace Ox := kp (Kd.S_below Ox.out hb)
  replace Oy2 := kp (Kd.R_below Oy2.out hb)
  replace Ou := kp (Kd.S_below Ou.out hb)
  replace Ov := kp (Kd.R_below Ov.out hb)
  replace Oq := kp (Kd.R_below Oq.out hb)
  replace Oz := kp (Kd.N_below Oz.out hb)
  replace Oa := kp (Kd.N_below Oa.out hb)
  replace Ob2 := kp (Kd.N_below Ob2.out hb)
  replace Ol2 := kp (Kd.R_below Ol2.out hb)
  replace Or := kp (Kd.R_below Or.out hb)
  replace BKd := kp (blk_below BKd.out hb)
  replace BKx := kp (blk_below BKx.out hb)
  replace BKy2 := kp (blk_below BKy2.out hb)
  replace BKu := kp (blk_below BKu.out hb)
  replace BKv := kp (blk_below BKv.out hb)
  replace BKq := kp (blk_below BKq.out hb)
  replace BKz := kp (blk_below BKz.out hb)
  replace BKa := kp (blk_below BKa.out hb)
  replace BKb2 := kp (blk_below BKb2.out hb)
  replace HB := kp (below_step HB.out hb)
  clear hb
  refine hk_ 110 hK (fun hHeld => ?_)
  clear hK K
  refine pq 7 111 HT_ ?_
  refine pq 8 112 HT_ ?_
  refine pq 9 113 HT_ ?_
  refine pq 10 114 HT_ ?_
  refine pq 11 115 HT_ ?_
  refine pq 12 116 HT_ ?_
  refine pq 13 117 HT_ ?_
  refine tq 14 118 HT_ HW_ hHeld ?_
  refine tq 15 119 HT_ HW_ hHeld ?_
  refine on_ 16 (some 120) HT_ (fun K hK => ?_)
  refine gs_ Try.func32 #[.agg #[.slice Au u.length cu, .int .i64 nu], .agg #[.slice Av v.length cv, .int .i64 nv]] ?_
  refine (spec_EqualDisks.calls k _ _ u nu _ _ v nv true _ (D_rd Ou.out).1 (D_rd Ou.out).2 (R_rd Ov.out).1 (R_rd Ov.out).2 QF16.out).mono ?_
  rintro e w39 ⟨rfl, hb⟩
  refine ⟨_, rfl, ?_⟩
  replace Od := kp (Kd.N_below Od.out hb)
  replace Ox := kp (Kd.S_below Ox.out hb)
  replace Oy2 := kp (Kd.R_below Oy2.out hb)
  replace Ou := kp (Kd.S_below Ou.out hb)
  replace Ov := kp (Kd.R_below Ov.out hb)
  replace Oq := kp (Kd.R_below Oq.out hb)
  replace Oz := kp (Kd.N_below Oz.out hb)
  replace Oa := kp (Kd.N_below Oa.out hb)
  replace Ob2 := kp (Kd.N_below Ob2.out hb)
  replace Ol2 := kp (Kd.R_below Ol2.out hb)
  replace Or := kp (Kd.R_below Or.out hb)
  replace BKd := kp (blk_below BKd.out hb)
  replace BKx := kp (blk_below BKx.out hb)
  replace BKy2 := kp (blk_below BKy2.out hb)
  replace BKu := kp (blk_below BKu.out hb)
  replace BKv := kp (blk_below BKv.out hb)
  replace BKq := kp (blk_below BKq.out hb)
  replace BKz := kp (blk_below BKz.out hb)
  replace BKa := kp (blk_below BKa.out hb)
  replace BKb2 := kp (blk_below BKb2.out hb)
  replace HB := kp (below_step HB.out hb)
  clear hb
  refine hk_ 120 hK (fun hHeld => ?_)
  clear hK K
  refine pq 17 121 HT_ ?_
  refine pq 18 122 HT_ ?_
  refine pq 19 123 HT_ ?_
  refine pq 20 124 HT_ ?_
  refine pq 21 125 HT_ ?_
  refine pq 22 126 HT_ ?_
  refine pq 23 127 HT_ ?_
  refine tq 24 128 HT_ HW_ hHeld ?_
  refine tq 25 129 HT_ HW_ hHeld ?_
  refine on_ 26 (some 130) HT_ (fun K hK => ?_)
  refine gs_ Try.func32 #[.agg #[.slice Aq q.length cq, .int .i64 nq], .agg #[.slice Az z.length cz, .int .i64 nz]] ?_
  refine (spec_EqualDisks.calls k _ _ q nq _ _ z nz true _ (R_rd Oq.out).1 (R_rd Oq.out).2 (N_rd Oz.out).1 (N_rd Oz.out).2 QF17.out).mono ?_
  rintro e w40 ⟨rfl, hb⟩
  refine ⟨_, rfl, ?_⟩
  replace Od := kp (Kd.N_below Od.out hb)
  replace Ox := kp (Kd.S_below Ox.out hb)
  replace Oy2 := kp (Kd.R_below Oy2.out hb)
  replace Ou := kp (Kd.S_below Ou.out hb)
  replace Ov := kp (Kd.R_below Ov.out hb)
  replace Oq := kp (Kd.R_below Oq.out hb)
  replace Oz := kp (Kd.N_below Oz.out hb)
  replace Oa := kp (Kd.N_below Oa.out hb)
  replace Ob2 := kp (Kd.N_below Ob2.out hb)
  replace Ol2 := kp (Kd.R_below Ol2.out hb)
  replace Or := kp (Kd.R_below Or.out hb)
  replace BKd := kp (blk_below BKd.out hb)
  replace BKx := kp (blk_below BKx.out hb)
  replace BKy2 := kp (blk_below BKy2.out hb)
  replace BKu := kp (blk_below BKu.out hb)
  replace BKv := kp (blk_below BKv.out hb)
  replace BKq := kp (blk_below BKq.out hb)
  replace BKz := kp (blk_below BKz.out hb)
  replace BKa := kp (blk_below BKa.out hb)
  replace BKb2 := kp (blk_below BKb2.out hb)
  replace HB := kp (below_step HB.out hb)
  clear hb
  refine hk_ 130 hK (fun hHeld => ?_)
  clear hK K
  refine pq 27 131 HT_ ?_
  refine pq 28 132 HT_ ?_
  refine tq 29 133 HT_ HW_ hHeld ?_
  refine tq 30 134 HT_ HW_ hHeld ?_
  refine tq 32 136 HT_ HW_ hHeld ?_
  refine tq 33 137 HT_ HW_ hHeld ?_
  refine on_ 31 (some 135) HT_ (fun K hK => ?_)
  refine gs_ Try.func33 #[.agg #[.slice Aa a.length ca, .int .i64 na], .agg #[.slice Ab2 b2.length cb2, .int .i64 nb]] ?_
  refine (impl_EqualDisks.calls k _ _ a na _ _ b2 nb ab _ (N_rd Oa.out).1 (N_rd Oa.out).2 (N_rd Ob2.out).1 (N_rd Ob2.out).2 QF18.out).mono ?_
  rintro e w41 ⟨rfl, hb⟩
  refine ⟨_, rfl, ?_⟩
  replace Od := kp (Kd.N_below Od.out hb)
  replace Ox := kp (Kd.S_below Ox.out hb)
  replace Oy2 := kp (Kd.R_below Oy2.out hb)
  replace Ou := kp (Kd.S_below Ou.out hb)
  replace Ov := kp (Kd.R_below Ov.out hb)
  replace Oq := kp (Kd.R_below Oq.out hb)
  replace Oz := kp (Kd.N_below Oz.out hb)
  replace Oa := kp (Kd.N_below Oa.out hb)
  replace Ob2 := kp (Kd.N_below Ob2.out hb)
  replace Ol2 := kp (Kd.R_below Ol2.out hb)
  replace Or := kp (Kd.R_below Or.out hb)
  replace BKd := kp (blk_below BKd.out hb)
  replace BKx := kp (blk_below BKx.out hb)
  replace BKy2 := kp (blk_below BKy2.out hb)
  replace BKu := kp (blk_below BKu.out hb)
  replace BKv := kp (blk_below BKv.out hb)
  replace BKq := kp (blk_below BKq.out hb)
  replace BKz := kp (blk_below BKz.out hb)
  replace BKa := kp (blk_below BKa.out hb)
  replace BKb2 := kp (blk_below BKb2.out hb)
  replace HB := kp (below_step HB.out hb)
  clear hb
  refine hk_ 135 hK (fun hHeld => ?_)
  clear hK K
  refine on_ 34 (some 138) HT_ (fun K hK => ?_)
  refine gs_ Try.func32 #[.agg #[.slice Aa a.length ca, .int .i64 na], .agg #[.slice Ab2 b2.length cb2, .int .i64 nb]] ?_
  refine (spec_EqualDisks.calls k _ _ a na _ _ b2 nb ab _ (N_rd Oa.out).1 (N_rd Oa.out).2 (N_rd Ob2.out).1 (N_rd Ob2.out).2 QF19.out).mono ?_
  rintro e w42 ⟨rfl, hb⟩
  refine ⟨_, rfl, ?_⟩
  replace Od := kp (Kd.N_below Od.out hb)
  replace Ox := kp (Kd.S_below Ox.out hb)
  replace Oy2 := kp (Kd.R_below Oy2.out hb)
  replace Ou := kp (Kd.S_below Ou.out hb)
  replace Ov := kp (Kd.R_below Ov.out hb)
  replace Oq := kp (Kd.R_below Oq.out hb)
  replace Oz := kp (Kd.N_below Oz.out hb)
  replace Oa := kp (Kd.N_below Oa.out hb)
  replace Ob2 := kp (Kd.N_below Ob2.out hb)
  replace Ol2 := kp (Kd.R_below Ol2.out hb)
  replace Or := kp (Kd.R_below Or.out hb)
  replace BKd := kp (blk_below BKd.out hb)
  replace BKx := kp (blk_below BKx.out hb)
  replace BKy2 := kp (blk_below BKy2.out hb)
  replace BKu := kp (blk_below BKu.out hb)
  replace BKv := kp (blk_below BKv.out hb)
  replace BKq := kp (blk_below BKq.out hb)
  replace BKz := kp (blk_below BKz.out hb)
  replace BKa := kp (blk_below BKa.out hb)
  replace BKb2 := kp (blk_below BKb2.out hb)
  replace HB := kp (below_step HB.out hb)
  clear hb
  refine hk_ 138 hK (fun hHeld => ?_)
  clear hK K
  refine pq 35 139 HT_ ?_
  refine pq 36 140 HT_ ?_
  refine pq 37 141 HT_ ?_
  refine pq 38 142 HT_ ?_
  refine pq 39 143 HT_ ?_
  refine pq 40 144 HT_ ?_
  refine pq 41 145 HT_ ?_
  refine pq 42 146 HT_ ?_
  refine pq 43 147 HT_ ?_
  refine pq 44 148 HT_ ?_
  refine on_ 45 (some 149) HT_ (fun K hK => ?_)
  refine gs_ Try.func34 #[.slice Al2 l2.length cl2, .slice Ar r.length cr] ?_
  refine (laws_sameRows.calls k _ _ l2 _ _ r true _ (R_rd Ol2.out).1 (R_rd Ol2.out).2 (R_rd Or.out).1 (R_rd Or.out).2 QF20.out).mono ?_
  rintro e w43 ⟨rfl, hb⟩
  replace hb := hb.below
  refine ⟨_, rfl, ?_⟩
  replace Od := kp (Kd.N_below Od.out hb)
  replace Ox := kp (Kd.S_below Ox.out hb)
  replace Oy2 := kp (Kd.R_below Oy2.out hb)
  replace Ou := kp (Kd.S_below Ou.out hb)
  replace Ov := kp (Kd.R_below Ov.out hb)
  replace Oq := kp (Kd.R_below Oq.out hb)
  replace Oz := kp (Kd.N_below Oz.out hb)
  replace Oa := kp (Kd.N_below Oa.out hb)
  replace Ob2 := kp (Kd.N_below Ob2.out hb)
  replace Ol2 := kp (Kd.R_below Ol2.out hb)
  replace Or := kp (Kd.R_below Or.out hb)
  replace BKd := kp (blk_below BKd.out hb)
  replace BKx := kp (blk_below BKx.out hb)
  replace BKy2 := kp (blk_below BKy2.out hb)
  replace BKu := kp (blk_below BKu.out hb)
  replace BKv := kp (blk_below BKv.out hb)
  replace BKq := kp (blk_below BKq.out hb)
  replace BKz := kp (blk_below BKz.out hb)
  replace BKa := kp (blk_below BKa.out hb)
  replace BKb2 := kp (blk_below BKb2.out hb)
  replace HB := kp (below_step HB.out hb)
  clear hb
  refine hk_ 149 hK (fun hHeld => ?_)
  clear hK K
  refine pq 46 150 HT_ ?_
  refine pq 47 151 HT_ ?_
  refine pq 48 152 HT_ ?_
  refine pq 49 153 HT_ ?_
  refine pq 50 154 HT_ ?_
  first | refine uq 51 155 HT_ ?_ | refine tq 51 155 HT_ HW_ hHeld ?_
  first | refine uq 53 157 HT_ ?_ | refine tq 53 157 HT_ HW_ hHeld ?_
  first | refine uq 52 156 HT_ ?_ | (refine on_ 52 (some 156) HT_ (fun K hK => ?_); refine gs_ Try.func35 #[.agg #[.slice Ax x.length cx, .int .i64 nx]] ?_; refine (impl_CountPages.calls k _ _ x nx zx _ (D_rd Ox.out).1 (D_rd Ox.out).2 (QF21.out rfl)).mono ?_; rintro e w44 ⟨rfl, hb⟩; refine ⟨_, rfl, ?_⟩; replace Od := kp (Kd.N_below Od.out hb); replace Ox := kp (Kd.S_below Ox.out hb); replace Oy2 := kp (Kd.R_below Oy2.out hb); replace Ou := kp (Kd.S_below Ou.out hb); replace Ov := kp (Kd.R_below Ov.out hb); replace Oq := kp (Kd.R_below Oq.out hb); replace Oz := kp (Kd.N_below Oz.out hb); replace Oa := kp (Kd.N_below Oa.out hb); replace Ob2 := kp (Kd.N_below Ob2.out hb); replace Ol2 := kp (Kd.R_below Ol2.out hb); replace Or := kp (Kd.R_below Or.out hb); replace BKd := kp (blk_below BKd.out hb); replace BKx := kp (blk_below BKx.out hb); replace BKy2 := kp (blk_below BKy2.out hb); replace BKu := kp (blk_below BKu.out hb); replace BKv := kp (blk_below BKv.out hb); replace BKq := kp (blk_below BKq.out hb); replace BKz := kp (blk_below BKz.out hb); replace BKa := kp (blk_below BKa.out hb); replace BKb2 := kp (blk_below BKb2.out hb); replace HB := kp (below_step HB.out hb); clear hb; refine hk_ 156 hK (fun hHeld => ?_); clear hK K)
  first | refine uq 54 158 HT_ ?_ | (refine on_ 54 (some 158) HT_ (fun K hK => ?_); refine gs_ Try.func35 #[.agg #[.slice Ad d.length cd, .int .i64 nd]] ?_; refine (impl_CountPages.calls k _ _ d nd zd _ (N_rd Od.out).1 (N_rd Od.out).2 (QF22.out rfl)).mono ?_; rintro e w45 ⟨rfl, hb⟩; refine ⟨_, rfl, ?_⟩; replace Od := kp (Kd.N_below Od.out hb); replace Ox := kp (Kd.S_below Ox.out hb); replace Oy2 := kp (Kd.R_below Oy2.out hb); replace Ou := kp (Kd.S_below Ou.out hb); replace Ov := kp (Kd.R_below Ov.out hb); replace Oq := kp (Kd.R_below Oq.out hb); replace Oz := kp (Kd.N_below Oz.out hb); replace Oa := kp (Kd.N_below Oa.out hb); replace Ob2 := kp (Kd.N_below Ob2.out hb); replace Ol2 := kp (Kd.R_below Ol2.out hb); replace Or := kp (Kd.R_below Or.out hb); replace BKd := kp (blk_below BKd.out hb); replace BKx := kp (blk_below BKx.out hb); replace BKy2 := kp (blk_below BKy2.out hb); replace BKu := kp (blk_below BKu.out hb); replace BKv := kp (blk_below BKv.out hb); replace BKq := kp (blk_below BKq.out hb); replace BKz := kp (blk_below BKz.out hb); replace BKa := kp (blk_below BKa.out hb); replace BKb2 := kp (blk_below BKb2.out hb); replace HB := kp (below_step HB.out hb); clear hb; refine hk_ 158 hK (fun hHeld => ?_); clear hK K)
  first | refine uq 55 159 HT_ ?_ | refine pq 55 159 HT_ ?_
  first | refine uq 56 160 HT_ ?_ | refine pq 56 160 HT_ ?_
  first | refine uq 57 161 HT_ ?_ | refine pq 57 161 HT_ ?_
  first | refine uq 58 162 HT_ ?_ | refine tq 58 162 HT_ HW_ hHeld ?_
  first | refine uq 59 163 HT_ ?_ | (refine on_ 59 (some 163) HT_ (fun K hK => ?_); refine gs_ Try.func35 #[.agg #[.slice Ax x.length cx, .int .i64 nx]] ?_; refine (impl_CountPages.calls k _ _ x nx zx _ (D_rd Ox.out).1 (D_rd Ox.out).2 (QF21.out rfl)).mono ?_; rintro e w46 ⟨rfl, hb⟩; refine ⟨_, rfl, ?_⟩; replace Od := kp (Kd.N_below Od.out hb); replace Ox := kp (Kd.S_below Ox.out hb); replace Oy2 := kp (Kd.R_below Oy2.out hb); replace Ou := kp (Kd.S_below Ou.out hb); replace Ov := kp (Kd.R_below Ov.out hb); replace Oq := kp (Kd.R_below Oq.out hb); replace Oz := kp (Kd.N_below Oz.out hb); replace Oa := kp (Kd.N_below Oa.out hb); replace Ob2 := kp (Kd.N_below Ob2.out hb); replace Ol2 := kp (Kd.R_below Ol2.out hb); replace Or := kp (Kd.R_below Or.out hb); replace BKd := kp (blk_below BKd.out hb); replace BKx := kp (blk_below BKx.out hb); replace BKy2 := kp (blk_below BKy2.out hb); replace BKu := kp (blk_below BKu.out hb); replace BKv := kp (blk_below BKv.out hb); replace BKq := kp (blk_below BKq.out hb); replace BKz := kp (blk_below BKz.out hb); replace BKa := kp (blk_below BKa.out hb); replace BKb2 := kp (blk_below BKb2.out hb); replace HB := kp (below_step HB.out hb); clear hb; refine hk_ 163 hK (fun hHeld => ?_); clear hK K)
  first | refine uq 60 164 HT_ ?_ | refine pq 60 164 HT_ ?_
  first | refine uq 61 165 HT_ ?_ | refine pq 61 165 HT_ ?_
  first | refine uq 62 166 HT_ ?_ | refine pq 62 166 HT_ ?_
  first | refine uq 63 167 HT_ ?_ | refine tq 63 167 HT_ HW_ hHeld ?_
  first | refine uq 64 168 HT_ ?_ | (refine on_ 64 (some 168) HT_ (fun K hK => ?_); refine gs_ Try.func36 #[.agg #[.slice Ax x.length cx, .int .i64 nx]] ?_; refine (impl_IsValidDisk.calls k _ _ x nx true _ (D_rd Ox.out).1 (D_rd Ox.out).2 (QF25.out rfl)).mono ?_; rintro e w47 ⟨rfl, hb⟩; refine ⟨_, rfl, ?_⟩; replace Od := kp (Kd.N_below Od.out hb); replace Ox := kp (Kd.S_below Ox.out hb); replace Oy2 := kp (Kd.R_below Oy2.out hb); replace Ou := kp (Kd.S_below Ou.out hb); replace Ov := kp (Kd.R_below Ov.out hb); replace Oq := kp (Kd.R_below Oq.out hb); replace Oz := kp (Kd.N_below Oz.out hb); replace Oa := kp (Kd.N_below Oa.out hb); replace Ob2 := kp (Kd.N_below Ob2.out hb); replace Ol2 := kp (Kd.R_below Ol2.out hb); replace Or := kp (Kd.R_below Or.out hb); replace BKd := kp (blk_below BKd.out hb); replace BKx := kp (blk_below BKx.out hb); replace BKy2 := kp (blk_below BKy2.out hb); replace BKu := kp (blk_below BKu.out hb); replace BKv := kp (blk_below BKv.out hb); replace BKq := kp (blk_below BKq.out hb); replace BKz := kp (blk_below BKz.out hb); replace BKa := kp (blk_below BKa.out hb); replace BKb2 := kp (blk_below BKb2.out hb); replace HB := kp (below_step HB.out hb); clear hb; refine hk_ 168 hK (fun hHeld => ?_); clear hK K)
  first | refine uq 65 169 HT_ ?_ | refine pq 65 169 HT_ ?_
  refine pq 66 170 HT_ ?_
  refine pq 67 171 HT_ ?_
  refine pq 68 172 HT_ ?_
  refine pq 69 173 HT_ ?_
  refine pq 71 175 HT_ ?_
  refine on_ 70 (some 174) HT_ (fun K hK => ?_)
  refine gs_ Try.func37 #[.string t] ?_
  refine (impl_ChecksumOf.calls k t ck _  QF26.out).mono ?_
  rintro e w48 ⟨rfl, hb⟩
  replace hb := hb.below
  refine ⟨_, rfl, ?_⟩
  replace Od := kp (Kd.N_below Od.out hb)
  replace Ox := kp (Kd.S_below Ox.out hb)
  replace Oy2 := kp (Kd.R_below Oy2.out hb)
  replace Ou := kp (Kd.S_below Ou.out hb)
  replace Ov := kp (Kd.R_below Ov.out hb)
  replace Oq := kp (Kd.R_below Oq.out hb)
  replace Oz := kp (Kd.N_below Oz.out hb)
  replace Oa := kp (Kd.N_below Oa.out hb)
  replace Ob2 := kp (Kd.N_below Ob2.out hb)
  replace Ol2 := kp (Kd.R_below Ol2.out hb)
  replace Or := kp (Kd.R_below Or.out hb)
  replace BKd := kp (blk_below BKd.out hb)
  replace BKx := kp (blk_below BKx.out hb)
  replace BKy2 := kp (blk_below BKy2.out hb)
  replace BKu := kp (blk_below BKu.out hb)
  replace BKv := kp (blk_below BKv.out hb)
  replace BKq := kp (blk_below BKq.out hb)
  replace BKz := kp (blk_below BKz.out hb)
  replace BKa := kp (blk_below BKa.out hb)
  replace BKb2 := kp (blk_below BKb2.out hb)
  replace HB := kp (below_step HB.out hb)
  clear hb
  refine hk_ 174 hK (fun hHeld => ?_)
  clear hK K
  refine on_ 72 (some 176) HT_ (fun K hK => ?_)
  refine gs_ Try.func38 #[.string t] ?_
  refine (spec_ChecksumOf.calls k t ck _  QF27.out).mono ?_
  rintro e w49 ⟨rfl, hb⟩
  replace hb := hb.below
  refine ⟨_, rfl, ?_⟩
  replace Od := kp (Kd.N_below Od.out hb)
  replace Ox := kp (Kd.S_below Ox.out hb)
  replace Oy2 := kp (Kd.R_below Oy2.out hb)
  replace Ou := kp (Kd.S_below Ou.out hb)
  replace Ov := kp (Kd.R_below Ov.out hb)
  replace Oq := kp (Kd.R_below Oq.out hb)
  replace Oz := kp (Kd.N_below Oz.out hb)
  replace Oa := kp (Kd.N_below Oa.out hb)
  replace Ob2 := kp (Kd.N_below Ob2.out hb)
  replace Ol2 := kp (Kd.R_below Ol2.out hb)
  replace Or := kp (Kd.R_below Or.out hb)
  replace BKd := kp (blk_below BKd.out hb)
  replace BKx := kp (blk_below BKx.out hb)
  replace BKy2 := kp (blk_below BKy2.out hb)
  replace BKu := kp (blk_below BKu.out hb)
  replace BKv := kp (blk_below BKv.out hb)
  replace BKq := kp (blk_below BKq.out hb)
  replace BKz := kp (blk_below BKz.out hb)
  replace BKa := kp (blk_below BKa.out hb)
  replace BKb2 := kp (blk_below BKb2.out hb)
  replace HB := kp (below_step HB.out hb)
  clear hb
  refine hk_ 176 hK (fun hHeld => ?_)
  clear hK K
  refine pq 73 177 HT_ ?_
  refine pq 74 178 HT_ ?_
  refine pq 75 2 HT_ ?_
  refine done_ (done_of HT_.out (by kernel_rfl)) ?_
  go_wp2
  go_ret
  exact ⟨by first | rfl | simp, bb⟩
def laws_FnDiskOperations.OK (k : Nat) (l0 : List Int) : Prop := laws_big.f l0 = some true ∨ ∃ (d x y2 e u v f q z a b2 : List S80) (p l2 r : List S95) (t : ByteArray) (nd nx ny ne nu nv nf nq nz na nb n m j zx zd ck : Int) (one three five is ab : Bool), laws_big.f l0 = some false ∧ spec_DrawAppendPage.f k l0 = some (d, nd, n, p) ∧ impl_AppendPage.f k d nd n p = some (x, nx, one) ∧ spec_AppendPage.f k d nd n p = some (y2, ny, one) ∧ spec_DrawSealFile.f k l0 = some (e, ne, m) ∧ impl_SealFile.f k e ne m = some (u, nu, three) ∧ spec_SealFile.f k e ne m = some (v, nv, three) ∧ spec_DrawDeleteFile.f k l0 = some (f, nf, j) ∧ impl_DeleteFile.f k f nf j = some (q, nq, five) ∧ spec_DeleteFile.f k f nf j = some (z, nz, five) ∧ spec_DrawEqualDisks.f k l0 = some (a, na, b2, nb) ∧ impl_ReadFile.f k e ne m = some (l2, is) ∧ spec_ReadFile.f k e ne m = some (r, is) ∧ spec_DrawChecksumOf.f k l0 = some t ∧ spec_EqualDisks.f k x nx y2 ny = some true ∧ spec_EqualDisks.f k u nu v nv = some true ∧ spec_EqualDisks.f k q nq z nz = some true ∧ impl_EqualDisks.f k a na b2 nb = some ab ∧ spec_EqualDisks.f k a na b2 nb = some ab ∧ laws_sameRows.f k l2 r = some true ∧ (one = true → impl_CountPages.f k x nx = some zx) ∧ (one = true → impl_CountPages.f k d nd = some zd) ∧ (one = true → wrap64 (zd + 1) = zx) ∧ (one = true → zx ≤ 40) ∧ (one = true → impl_IsValidDisk.f k x nx = some true) ∧ impl_ChecksumOf.f k t = some ck ∧ spec_ChecksumOf.f k t = some ck
theorem laws_FnDiskOperations.calls (k : Nat) (A0 : Option Addr) (c0 : Nat) (l0 : List Int) (r : Bool) (w : World) (hr0 : Kd.C (Kd.int .u8) w A0 l0.length l0) (hc0 : l0.length ≤ c0) (h : laws_FnDiskOperations.OK k l0) :
  Calls Try.prog 4 #[.slice A0 l0.length c0] w fun e w' => e = .returned (.bool true) ∧ Below w.heap.size w w' := by
 obtain F1 | ⟨d, x, y2, e, u, v, f, q, z, a, b2, p, l2, r, t, nd, nx, ny, ne, nu, nv, nf, nq, nz, na, nb, n, m, j, zx, zd, ck, one, three, five, is, ab, F1, F2, F3, F4, F5, F6, F7, F8, F9, F10, F11, F12, F13, F14, F15, F16, F17, F18, F19, F20, F21, F22, F23, F24, F25, F26, F27⟩ := h
 ·exact laws_FnDiskOperations.big A0 c0 l0 w hr0 hc0 F1
 ·exact laws_FnDiskOperations.lin k A0 c0 l0 d x y2 e u v f q z a b2 p l2 r t nd nx ny ne nu nv nf nq nz na nb n m j zx zd ck one three five is ab w hr0 hc0 F1 F2 F3 F4 F5 F6 F7 F8 F9 F10 F11 F12 F13 F14 F15 F16 F17 F18 F19 F20 F21 F22 F23 F24 F25 F26 F27
def laws_FnDiskOperations.Pure : Prop := ∀ (l0 : List Int), l0.length ≤ maxLen → l0.length * 1 ≤ 140737488351232 → (∀ x ∈ l0, (Lit.int .u8 x).wf = true) → ∃ k, laws_FnDiskOperations.OK k l0
theorem laws_FnDiskOperations.walk (P : laws_FnDiskOperations.Pure) (a0 : Option Addr) (len0 cap0 : Nat) (z0 : List Int) (w : World) (w0 : (a0 = none ∧ len0 = 0 ∧ cap0 = 0 ∧ z0 = []) ∨ ∃ x, a0 = some x ∧ len0 ≤ cap0 ∧ cap0 ≤ maxLen ∧ z0.length = cap0 ∧ (∀ i, i < z0.length → w.cell? (x.add i) = some (.int .u8 (z0.getD i 0))) ∧ ∀ n ∈ z0, (Lit.int .u8 n).wf = true) (y0 : len0 * 1 ≤ 140737488351232) :
  Calls Try.prog 4 #[.slice a0 len0 cap0] w fun e w' => e = .returned (.bool true) ∧ Below w.heap.size w w' := by
 obtain ⟨l0, rfl, hr0, hm0, hw0, hc0⟩ := ReadsInt.ofRowC w0; obtain ⟨k, h⟩ := P l0 hm0 y0 hw0; refine (laws_FnDiskOperations.calls k _ _ l0 true w (Kd.C_of_reads (d := (0 : Int)) (h1 := fun _ => rfl) hr0) hc0 h).mono ?_; rintro e w' ⟨rfl, hd⟩; exact ⟨rfl, hd⟩
end Go.Proofs.Ytinniedbgfgclaa.PFnDiskOperations
