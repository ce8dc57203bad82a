/- Out of a copy of the print, with function values told: nothing is claimed here. -/
import Derived.Test.YtinniedbgfgclaaVQFnExactAppendPagex0
import Derived.Test.YtinniedbgfgclaaVQFnExactAppendPagex8
import Derived.Test.YtinniedbgfgclaaVQFnExactAppendPagex9
import Derived.Test.YtinniedbgfgclaaVShort
import Derived.Test.YtinniedbgfgclaaVPress
namespace Go.Proofs.Ytinniedbgfgclaa.PFnExactAppendPage
open Go.RowKit Go.Proofs.YtinniedbgfgclaaW.PrintWords Go.Proofs.YtinniedbgfgclaaW.PrintLast Go.Proofs.YtinniedbgfgclaaW.PrintMore Go.Proofs.Ytinniedbgfgclaa.Short Go.Proofs.Ytinniedbgfgclaa.Press
attribute [local go_sem] max2_int min2_int max_two min_two max_three min_three max_four min_four   -- for this text's walks alone
set_option linter.unusedVariables false
set_option linter.unusedSimpArgs false
def spec_IsValidDisk.l0 : Nat → Int → List (S80) → Int → Option (Bool)
 | 0, _, _, _ => none
 | k + 1, x3, x286000, x286001 => if x3 < (x286000.length : Int) then (if 0 ≤ x3 then ((spec_l1In.f ((rd_T80 x286000 x3).f0) 0 (wrap64 (x286001 - 1))).bind fun t289 => (if t289 = true then (if x3 > 0 then (if 0 ≤ (wrap64 (x3 - 1)) then (if (wrap64 (x3 - 1)) < (x286000.length : Int) then (if ((rd_T80 x286000 x3).f0) ≤ ((rd_T80 x286000 (wrap64 (x3 - 1))).f0) then (some false) else ((spec_l4Pages.f k ((rd_T80 x286000 x3).f1)).bind fun t293 => (if t293 = true then (if ((rd_T80 x286000 x3).f3 = true) then (spec_IsValidDisk.l0 k (wrap64 (x3 + 1)) x286000 x286001) else (if ((rd_T80 x286000 x3).f2) = 0 then (spec_IsValidDisk.l0 k (wrap64 (x3 + 1)) x286000 x286001) else (some false))) else (some false)))) else (none)) else (none)) else ((spec_l4Pages.f k ((rd_T80 x286000 x3).f1)).bind fun t297 => (if t297 = true then (if ((rd_T80 x286000 x3).f3 = true) then (spec_IsValidDisk.l0 k (wrap64 (x3 + 1)) x286000 x286001) else (if ((rd_T80 x286000 x3).f2) = 0 then (spec_IsValidDisk.l0 k (wrap64 (x3 + 1)) x286000 x286001) else (some false))) else (some false)))) else (some false))) else (none)) else ((spec_l1In.f x286001 0 1000).bind fun t286 => (if t286 = true then ((spec_CountPages.f k x286000 x286001).bind fun t287 => (some (decide (t287 ≤ 40)))) else (some false)))
def spec_IsValidDisk.f (k : Nat) (l0_0 : List (S80)) (a0_1 : Int) : Option (Bool) := spec_IsValidDisk.l0 k 0 l0_0 a0_1
def spec_IsValidDisk.T4 : Bool × List (List Nat × List Nat) := (true, [([], []), ([0], [0]), ([], []), ([1, 2], [1, 2]), ([3], [3]), ([4], [4]), ([], []), ([6], [6]), ([7], [7]), ([5, 8], [5, 8]), ([9], [9]), ([10, 9], [10]), ([11], [11]), ([12, 11], [11, 12]), ([13, 11, 11], [11, 13]), ([14], [14]), ([15, 14], [14, 15]), ([14], [14]), ([16, 17, 14], [14, 16, 17]), ([18, 14], [14, 18]), ([19, 14], [14, 19]), ([14], [14]), ([21, 14], [14, 21]), ([14], [14]), ([23, 14], [14, 23]), ([22, 24, 14], [14, 22, 24]), ([25, 14], [14, 25]), ([26, 14], [14, 26]), ([20, 27, 14], [14, 20, 27]), ([14, 28, 11], [11, 14, 28]), ([11, 29], [11, 29]), ([30, 14], [30]), ([31], [31]), ([32, 31], [31, 32]), ([31], [31]), ([33, 34, 31], [31, 33, 34]), ([35, 31], [31, 35]), ([36, 31], [31, 36]), ([37, 31, 31], [31, 37]), ([38, 31], [31, 38]), ([31, 39], [31, 39]), ([40, 38], [40]), ([41], [41]), ([42, 41], [41, 42]), ([41], [41]), ([43, 44, 41], [41, 43, 44]), ([45, 41], [41, 45]), ([46, 41], [41, 46]), ([47, 41], [41, 47]), ([48, 41, 41], [41, 48]), ([49], [49]), ([50, 49], [49, 50]), ([49], [49]), ([51, 52, 49], [49, 51, 52]), ([53, 49], [49, 53]), ([54, 49], [49, 54]), ([55, 49], [49, 55]), ([49, 56, 41], [41, 49, 56]), ([41, 57], [41, 57])])
def spec_IsValidDisk.B4 : List Nat := [0, 1, 0, 7, 15, 31, 0, 64, 192, 511, 1023, 2047, 4095, 8191, 16383, 32767, 65535, 32767, 262143, 524287, 1048575, 32767, 2129919, 32767, 8421375, 31490047, 65044479, 132153343, 268435455, 536870911, 1073741823, 2147483647, 4294967295, 8589934591, 4294967295, 34359738367, 68719476735, 137438953471, 274877906943, 549755813887, 1099511627775, 2199023255551, 4398046511103, 8796093022207, 4398046511103, 35184372088831, 70368744177663, 140737488355327, 281474976710655, 562949953421311, 1125899906842623, 2251799813685247, 1125899906842623, 9007199254740991, 18014398509481983, 36028797018963967, 72057594037927935, 144115188075855871, 288230376151711743]
theorem spec_IsValidDisk.tab4 : rtab .any (opsOf Try.f46 4) = spec_IsValidDisk.T4 := by kernel_rfl
theorem spec_IsValidDisk.bits4 : waitsOk spec_IsValidDisk.T4.2 spec_IsValidDisk.B4 = true := by kernel_rfl
set_option maxHeartbeats 8000000 in
set_option maxRecDepth 100000 in
theorem spec_IsValidDisk.calls (k : Nat) (A0_0 : Option Addr) (c0_0 : Nat) (l0_0 : List (S80)) (a0_1 : Int) (r : Bool) (w : World) (hr0_0 : Kd.C k80 w A0_0 l0_0.length l0_0) (hc0_0 : l0_0.length ≤ c0_0) (h : spec_IsValidDisk.f k l0_0 a0_1 = some r) :
  Calls Try.prog 46 #[.agg #[.slice A0_0 l0_0.length c0_0, .int .i64 a0_1]] w fun e w' => e = .returned (.bool r) ∧ Below w.heap.size w w' := by
 have hu28 := Try.underlying28
 have HR0_0 := kp hr0_0
 have HC0_0 := kp hc0_0
 clear hr0_0 hc0_0
 have HB := kp (Below.refl w.heap.size w)
 have H : (spec_IsValidDisk.l0 k 0 l0_0 a0_1) = some r := h
 clear h
 have H' := kp H
 clear H
 go_enter Try.func46, Try.ntmps46
 go_wp2_with (first | ((with_reducible refine gate_dst (N := 1) rfl ?_); refine bx_ 1 #[.slice A0_0 l0_0.length c0_0, .int .i64 a0_1] 28 ?_; intro gb285 hg w2 hbox hb; have n0_ := kp (below_step bb hb); have n1_ := kp (hbox); have n2_ := kp (bs hg); have n3_ := kp (bs hg); clear HB; have HB := n0_; have BK285 := n1_; have GW285 := n2_; have GE285 := n3_; clear n0_ n1_ n2_ n3_; clear hb hbox hg))
 (try simp only [Act.put, List.setIfInBounds_toArray, List.set_cons_zero, List.set_cons_succ])
 go_loopg [3] k (fun kq v3 w' => ∃ (x3_1 : Int), v3 = .int .i64 x3_1 ∧ Aside0 (spec_IsValidDisk.l0 kq x3_1 l0_0 a0_1 = some r) ∧ Aside0 (kq ≤ k) ∧ Aside0 (w'.heap[gb285]? = some (.cells #[(.slice A0_0 l0_0.length c0_0), .int .i64 a0_1] 28 (0, 0))) ∧ Aside0 (Below w.heap.size w w'))
 case atStart => exact ⟨(0), (by first | rfl | (simp; done) | (simp [*]; done)), H', ⟨Nat.le_refl _⟩, ⟨by (with_reducible repeat (first | apply bN | apply bD | apply bA)); exact BK285.out⟩, ⟨bb⟩⟩
 case round =>
  clear H'
  try clear p2
  obtain ⟨x3_1, rfl, HA, HK1, BK285, HB⟩ := hrel
  cases gk with
  | zero => exact absurd HA.out (by simp [spec_IsValidDisk.l0])
  | succ k1 =>
   have H := HA.out; clear HA; simp only [spec_IsValidDisk.l0] at H
   by_cases c3 : x3_1 < (l0_0.length : Int)
   ·rw [if_pos c3] at H; have c3b0 : decide (x3_1 < (l0_0.length : Int)) = true := decide_eq_true c3; clear c3
    by_cases c4 : 0 ≤ x3_1
    ·rw [if_pos c4] at H; have c4b0 : decide (0 ≤ x3_1) = true := decide_eq_true c4; clear c4; replace H := Option.bind_eq_some_iff.mp H; obtain ⟨t289, A50, H⟩ := H; replace H : (if t289 = true then (if x3_1 > 0 then (if 0 ≤ (wrap64 (x3_1 - 1)) then (if (wrap64 (x3_1 - 1)) < (l0_0.length : Int) then (if ((rd_T80 l0_0 x3_1).f0) ≤ ((rd_T80 l0_0 (wrap64 (x3_1 - 1))).f0) then (some false) else ((spec_l4Pages.f k1 ((rd_T80 l0_0 x3_1).f1)).bind fun t293 => (if t293 = true then (if ((rd_T80 l0_0 x3_1).f3 = true) then (spec_IsValidDisk.l0 k1 (wrap64 (x3_1 + 1)) l0_0 a0_1) else (if ((rd_T80 l0_0 x3_1).f2) = 0 then (spec_IsValidDisk.l0 k1 (wrap64 (x3_1 + 1)) l0_0 a0_1) else (some false))) else (some false)))) else (none)) else (none)) else ((spec_l4Pages.f k1 ((rd_T80 l0_0 x3_1).f1)).bind fun t297 => (if t297 = true then (if ((rd_T80 l0_0 x3_1).f3 = true) then (spec_IsValidDisk.l0 k1 (wrap64 (x3_1 + 1)) l0_0 a0_1) else (if ((rd_T80 l0_0 x3_1).f2) = 0 then (spec_IsValidDisk.l0 k1 (wrap64 (x3_1 + 1)) l0_0 a0_1) else (some false))) else (some false)))) else (some false)) = some r := H; have A5 := kp A50; clear A50
     by_cases c6 : t289 = true
     ·subst c6; have H1 : (if x3_1 > 0 then (if 0 ≤ (wrap64 (x3_1 - 1)) then (if (wrap64 (x3_1 - 1)) < (l0_0.length : Int) then (if ((rd_T80 l0_0 x3_1).f0) ≤ ((rd_T80 l0_0 (wrap64 (x3_1 - 1))).f0) then (some false) else ((spec_l4Pages.f k1 ((rd_T80 l0_0 x3_1).f1)).bind fun t293 => (if t293 = true then (if ((rd_T80 l0_0 x3_1).f3 = true) then (spec_IsValidDisk.l0 k1 (wrap64 (x3_1 + 1)) l0_0 a0_1) else (if ((rd_T80 l0_0 x3_1).f2) = 0 then (spec_IsValidDisk.l0 k1 (wrap64 (x3_1 + 1)) l0_0 a0_1) else (some false))) else (some false)))) else (none)) else (none)) else ((spec_l4Pages.f k1 ((rd_T80 l0_0 x3_1).f1)).bind fun t297 => (if t297 = true then (if ((rd_T80 l0_0 x3_1).f3 = true) then (spec_IsValidDisk.l0 k1 (wrap64 (x3_1 + 1)) l0_0 a0_1) else (if ((rd_T80 l0_0 x3_1).f2) = 0 then (spec_IsValidDisk.l0 k1 (wrap64 (x3_1 + 1)) l0_0 a0_1) else (some false))) else (some false)))) = some r := by rw [if_pos rfl] at H; exact H
      clear H; have H := H1; clear H1
      by_cases c7 : x3_1 > 0
      ·rw [if_pos c7] at H; have c7b0 : decide (0 < x3_1) = true := decide_eq_true c7; clear c7; obtain ⟨ji8, hji8⟩ : ∃ j_ : Int, (wrap64 (x3_1 - 1)) = j_ := ⟨_, rfl⟩; replace H : (if 0 ≤ (ji8) then (if (ji8) < (l0_0.length : Int) then (if ((rd_T80 l0_0 x3_1).f0) ≤ ((rd_T80 l0_0 (ji8)).f0) then (some false) else ((spec_l4Pages.f k1 ((rd_T80 l0_0 x3_1).f1)).bind fun t293 => (if t293 = true then (if ((rd_T80 l0_0 x3_1).f3 = true) then (spec_IsValidDisk.l0 k1 (wrap64 (x3_1 + 1)) l0_0 a0_1) else (if ((rd_T80 l0_0 x3_1).f2) = 0 then (spec_IsValidDisk.l0 k1 (wrap64 (x3_1 + 1)) l0_0 a0_1) else (some false))) else (some false)))) else (none)) else (none)) = some r := by first | (rw [hji8] at H; exact H) | (simp only [hji8] at H ⊢; exact H)
       (try rw [hji8] at A5); have hji8w : (IntKind.i64.wrap (x3_1 - 1)) = ji8 := (i64_w _).trans hji8
       by_cases c9 : 0 ≤ (ji8)
       ·rw [if_pos c9] at H; have c9b0 : decide (0 ≤ (ji8)) = true := decide_eq_true c9; clear c9
        by_cases c10 : (ji8) < (l0_0.length : Int)
        ·rw [if_pos c10] at H; have c10b0 : decide ((ji8) < (l0_0.length : Int)) = true := decide_eq_true c10; clear c10
         by_cases c11 : ((rd_T80 l0_0 x3_1).f0) ≤ ((rd_T80 l0_0 (ji8)).f0)
         ·rw [if_pos c11] at H; have c11b0 : decide (((rd_T80 l0_0 x3_1).f0) ≤ ((rd_T80 l0_0 (ji8)).f0)) = true := decide_eq_true c11; clear c11; obtain rfl := Option.some.inj H; have hcz12_0 : wr.cell? ⟨gb285, 0, none⟩ = some (.slice A0_0 l0_0.length c0_0) := (blk_cell BK285.out 0).trans rfl; have hcz12_1 : wr.cell? ⟨gb285, 1, none⟩ = some (.int .i64 a0_1) := (blk_cell BK285.out 1).trans rfl; have hfz12_0 := blk_frozen BK285.out 0; have hfz12_1 := blk_frozen BK285.out 1
          try go_wp2
          have n0_ := kp (blk_drew BK285.out); have n1_ := kp (below_drew1 HB.out); clear BK285; clear HB; have BK285 := n0_; have HB := n1_; clear n0_ n1_; have p288 : 0 ≤ (x3_1 : Int) := dt; have q288 : x3_1 < (l0_0.length : Int) := dt; obtain ⟨ad288, A288_1, c288_1, e288, hx288_0, hx288_1, hx288_2, hx288_3, hl288_1, hi288_1⟩ := at_T80 HR0_0.out x3_1 p288 q288; have hw288_3 := hx288_3; have hw288_2 := hx288_2; have hw288_1 := hx288_1; have hw288_0 := hx288_0; cases e288; replace hx288_0 := kc HB.out hx288_0; replace hx288_1 := kc HB.out hx288_1; replace hx288_2 := kc HB.out hx288_2; replace hx288_3 := kc HB.out hx288_3; have HR288_1 := kp hi288_1; have HC288_1 := kp hl288_1; clear hi288_1 hl288_1; replace p288 := eq_true p288; replace q288 := eq_true q288; have p290 : 0 ≤ (x3_1 : Int) := dt; have q290 : x3_1 < (l0_0.length : Int) := dt; obtain ⟨ad290, A290_1, c290_1, e290, hx290_0, hx290_1, hx290_2, hx290_3, hl290_1, hi290_1⟩ := at_T80 HR0_0.out x3_1 p290 q290; have hw290_3 := hx290_3; have hw290_2 := hx290_2; have hw290_1 := hx290_1; have hw290_0 := hx290_0; obtain rfl : ad288 = ad290 := (by injection e290); replace hx290_0 := kc HB.out hx290_0; replace hx290_1 := kc HB.out hx290_1; replace hx290_2 := kc HB.out hx290_2; replace hx290_3 := kc HB.out hx290_3; have HR290_1 := kp hi290_1; have HC290_1 := kp hl290_1; clear hi290_1 hl290_1; replace p290 := eq_true p290; replace q290 := eq_true q290; have ea_ := Option.some.inj (hx288_1.symm.trans hx290_1)
          injection ea_ with ea_ en_ ec_
          subst ea_; subst ec_; clear en_; have p291 : 0 ≤ ((ji8) : Int) := dt; have q291 : (ji8) < (l0_0.length : Int) := dt; obtain ⟨ad291, A291_1, c291_1, e291, hx291_0, hx291_1, hx291_2, hx291_3, hl291_1, hi291_1⟩ := at_T80 HR0_0.out (ji8) p291 q291; have hw291_3 := hx291_3; have hw291_2 := hx291_2; have hw291_1 := hx291_1; have hw291_0 := hx291_0; obtain rfl : ad288 = ad291 := (by injection e291); replace hx291_0 := kc HB.out hx291_0; replace hx291_1 := kc HB.out hx291_1; replace hx291_2 := kc HB.out hx291_2; replace hx291_3 := kc HB.out hx291_3; have HR291_1 := kp hi291_1; have HC291_1 := kp hl291_1; clear hi291_1 hl291_1; replace p291 := eq_true p291; replace q291 := eq_true q291
          refine start_ (n := 59) (S := fun w' => w'.cell? ⟨gb285, 0, none⟩ = some (.slice (some ad288) l0_0.length c0_0) ∧ w'.cell? ⟨gb285, 1, none⟩ = some (.int .i64 a0_1) ∧ w'.cell? (ad288.add ((x3_1).toNat * 4)) = some (.int .i64 ((rd_T80 l0_0 x3_1).f0)) ∧ w'.cell? ⟨(ad288.add ((x3_1).toNat * 4)).block, (ad288.add ((x3_1).toNat * 4)).off + 1, none⟩ = some (.slice A288_1 ((rd_T80 l0_0 x3_1).f1).length c288_1) ∧ w'.cell? ⟨(ad288.add ((x3_1).toNat * 4)).block, (ad288.add ((x3_1).toNat * 4)).off + 2, none⟩ = some (.int .i64 ((rd_T80 l0_0 x3_1).f2)) ∧ w'.cell? ⟨(ad288.add ((x3_1).toNat * 4)).block, (ad288.add ((x3_1).toNat * 4)).off + 3, none⟩ = some (.bool ((rd_T80 l0_0 x3_1).f3)) ∧ w'.cell? (ad288.add (((ji8)).toNat * 4)) = some (.int .i64 ((rd_T80 l0_0 (ji8)).f0)) ∧ w'.cell? ⟨(ad288.add (((ji8)).toNat * 4)).block, (ad288.add (((ji8)).toNat * 4)).off + 1, none⟩ = some (.slice A291_1 ((rd_T80 l0_0 (ji8)).f1).length c291_1) ∧ w'.cell? ⟨(ad288.add (((ji8)).toNat * 4)).block, (ad288.add (((ji8)).toNat * 4)).off + 2, none⟩ = some (.int .i64 ((rd_T80 l0_0 (ji8)).f2)) ∧ w'.cell? ⟨(ad288.add (((ji8)).toNat * 4)).block, (ad288.add (((ji8)).toNat * 4)).off + 3, none⟩ = some (.bool ((rd_T80 l0_0 (ji8)).f3))) (ds := []) #[false, false, false, false, false, false, false, false, false, false, false, false, false, false, false, false, false, false, false, false, false, false, false, false, false, false, false, false, false, false, false, false, false, false, false, false, false, false, false, false, false, false, false, false, false, false, false, false, false, false, false, false, false, false, false, false, false, false, false] (by kernel_rfl) rfl rfl ⟨(blk_cell BK285.out 0).trans rfl, (blk_cell BK285.out 1).trans rfl, (kc HB.out hw288_0), (kc HB.out hw288_1), (kc HB.out hw288_2), (kc HB.out hw288_3), (kc HB.out hw291_0), (kc HB.out hw291_1), (kc HB.out hw291_2), (kc HB.out hw291_3)⟩ (fun hHeld => ?_); refine with_tabW spec_IsValidDisk.tab4 spec_IsValidDisk.bits4 (fun HT_ HW_ => ?_)
          generalize wr.drew = w13 at BK285 HB HR288_1 HR290_1 HR291_1 hx288_0 hx288_1 hx288_2 hx288_3 hx290_0 hx290_1 hx290_2 hx290_3 hx291_0 hx291_1 hx291_2 hx291_3 hHeld ⊢
          refine pq 0 11 HT_ ?_
          refine pq 2 13 HT_ ?_
          refine pq 6 17 HT_ ?_
          refine tq 1 12 HT_ HW_ hHeld ?_
          refine pq 3 14 HT_ ?_
          refine pq 4 15 HT_ ?_
          refine tq 5 16 HT_ HW_ hHeld ?_
          refine tq 7 18 HT_ HW_ hHeld ?_
          refine pq 8 19 HT_ ?_
          refine on_ 9 (some 20) HT_ (fun K hK => ?_); refine gs_ Try.func88 #[.int .i64 ((rd_T80 l0_0 x3_1).f0), .int .i64 0, .int .i64 (wrap64 (a0_1 - 1))] ?_; with_reducible refine (spec_l1In.calls ((rd_T80 l0_0 x3_1).f0) 0 (wrap64 (a0_1 - 1)) true _ A5.out).mono ?_
          rintro e w' ⟨rfl, ⟨nd, rfl⟩⟩; refine ⟨_, rfl, ?_⟩; refine hK.out _ _ ⟨(blk_cell BK285.out 0).trans rfl, (blk_cell BK285.out 1).trans rfl, (kc HB.out hw288_0), (kc HB.out hw288_1), (kc HB.out hw288_2), (kc HB.out hw288_3), (kc HB.out hw291_0), (kc HB.out hw291_1), (kc HB.out hw291_2), (kc HB.out hw291_3)⟩ (fun hHeld => ?_); clear hK K; refine nm_ (some 20) ?_
          refine pq 10 21 HT_ ?_
          refine pq 11 22 HT_ ?_
          refine pq 12 23 HT_ ?_
          refine pq 13 24 HT_ ?_
          refine pq 14 25 HT_ ?_
          refine pq 15 26 HT_ ?_
          refine pq 17 28 HT_ ?_
          refine pq 21 32 HT_ ?_
          refine pq 23 34 HT_ ?_
          refine pq 24 35 HT_ ?_
          refine tq 16 27 HT_ HW_ hHeld ?_
          refine pq 18 29 HT_ ?_
          refine pq 19 30 HT_ ?_
          refine tq 20 31 HT_ HW_ hHeld ?_
          refine tq 22 33 HT_ HW_ hHeld ?_
          refine pq 25 36 HT_ ?_
          refine pq 26 37 HT_ ?_
          refine tq 27 38 HT_ HW_ hHeld ?_
          refine pq 28 39 HT_ ?_
          refine pq 29 40 HT_ ?_
          refine pq 30 41 HT_ ?_
          refine pq 31 42 HT_ ?_
          refine uq 32 43 HT_ ?_
          refine uq 33 44 HT_ ?_
          refine uq 34 45 HT_ ?_
          refine uq 35 46 HT_ ?_
          refine uq 36 47 HT_ ?_
          refine uq 37 48 HT_ ?_
          refine uq 38 49 HT_ ?_
          refine uq 39 50 HT_ ?_
          refine pq 40 51 HT_ ?_
          refine pq 41 52 HT_ ?_
          refine uq 42 53 HT_ ?_
          refine uq 43 54 HT_ ?_
          refine uq 44 55 HT_ ?_
          refine uq 45 56 HT_ ?_
          refine uq 46 57 HT_ ?_
          refine uq 47 58 HT_ ?_
          refine uq 48 59 HT_ ?_
          refine uq 49 60 HT_ ?_
          refine uq 50 61 HT_ ?_
          refine uq 51 62 HT_ ?_
          refine uq 52 63 HT_ ?_
          refine uq 53 64 HT_ ?_
          refine uq 54 65 HT_ ?_
          refine uq 55 66 HT_ ?_
          refine uq 56 67 HT_ ?_
          refine uq 57 68 HT_ ?_
          refine pq 58 69 HT_ ?_
          refine done_ (done_of HT_.out (by kernel_rfl)) ?_
          try go_wp2
          go_ret; exact ⟨by first | rfl | (simp [errW_none, errW_some] <;> rfl) | (simp only [← hji8]; first | rfl | (simp [errW_none, errW_some] <;> rfl)) | (simp [*, errW_none, errW_some] <;> rfl), bb⟩
         ·rw [if_neg c11] at H; have c11b0 : decide (((rd_T80 l0_0 x3_1).f0) ≤ ((rd_T80 l0_0 (ji8)).f0)) = false := decide_eq_false c11; clear c11; replace H := Option.bind_eq_some_iff.mp H; obtain ⟨t293, A140, H⟩ := H; replace H : (if t293 = true then (if ((rd_T80 l0_0 x3_1).f3 = true) then (spec_IsValidDisk.l0 k1 (wrap64 (x3_1 + 1)) l0_0 a0_1) else (if ((rd_T80 l0_0 x3_1).f2) = 0 then (spec_IsValidDisk.l0 k1 (wrap64 (x3_1 + 1)) l0_0 a0_1) else (some false))) else (some false)) = some r := H; have A14 := kp A140; clear A140
          by_cases c15 : t293 = true
          ·subst c15; have H1 : (if ((rd_T80 l0_0 x3_1).f3 = true) then (spec_IsValidDisk.l0 k1 (wrap64 (x3_1 + 1)) l0_0 a0_1) else (if ((rd_T80 l0_0 x3_1).f2) = 0 then (spec_IsValidDisk.l0 k1 (wrap64 (x3_1 + 1)) l0_0 a0_1) else (some false))) = some r := by rw [if_pos rfl] at H; exact H
           clear H; have H := H1; clear H1; obtain ⟨bq16, hbq16⟩ : ∃ b_ : Bool, b_ = ((rd_T80 l0_0 x3_1).f3) := ⟨_, rfl⟩; replace H : (if (bq16 = true) then (spec_IsValidDisk.l0 k1 (wrap64 (x3_1 + 1)) l0_0 a0_1) else (if ((rd_T80 l0_0 x3_1).f2) = 0 then (spec_IsValidDisk.l0 k1 (wrap64 (x3_1 + 1)) l0_0 a0_1) else (some false))) = some r := by rw [← hbq16] at H; exact H
           have Nbq16 := kp hbq16; clear hbq16
           by_cases c17 : (bq16 = true)
           ·subst c17; have H1 : (spec_IsValidDisk.l0 k1 (wrap64 (x3_1 + 1)) l0_0 a0_1) = some r := by rw [if_pos rfl] at H; exact H
            clear H; have H := H1; clear H1; have H' := kp H; clear H; have hcz18_0 : wr.cell? ⟨gb285, 0, none⟩ = some (.slice A0_0 l0_0.length c0_0) := (blk_cell BK285.out 0).trans rfl; have hcz18_1 : wr.cell? ⟨gb285, 1, none⟩ = some (.int .i64 a0_1) := (blk_cell BK285.out 1).trans rfl; have hfz18_0 := blk_frozen BK285.out 0; have hfz18_1 := blk_frozen BK285.out 1
            try go_wp2
            have n0_ := kp (blk_drew BK285.out); have n1_ := kp (below_drew1 HB.out); clear BK285; clear HB; have BK285 := n0_; have HB := n1_; clear n0_ n1_; have p288 : 0 ≤ (x3_1 : Int) := dt; have q288 : x3_1 < (l0_0.length : Int) := dt; obtain ⟨ad288, A288_1, c288_1, e288, hx288_0, hx288_1, hx288_2, hx288_3, hl288_1, hi288_1⟩ := at_T80 HR0_0.out x3_1 p288 q288; have hw288_3 := hx288_3; have hw288_2 := hx288_2; have hw288_1 := hx288_1; have hw288_0 := hx288_0; (try rw [← Nbq16.out] at hx288_3); (try rw [← Nbq16.out] at hw288_3); cases e288; replace hx288_0 := kc HB.out hx288_0; replace hx288_1 := kc HB.out hx288_1; replace hx288_2 := kc HB.out hx288_2; replace hx288_3 := kc HB.out hx288_3; have HR288_1 := kp hi288_1; have HC288_1 := kp hl288_1; clear hi288_1 hl288_1; replace p288 := eq_true p288; replace q288 := eq_true q288; have p290 : 0 ≤ (x3_1 : Int) := dt; have q290 : x3_1 < (l0_0.length : Int) := dt; obtain ⟨ad290, A290_1, c290_1, e290, hx290_0, hx290_1, hx290_2, hx290_3, hl290_1, hi290_1⟩ := at_T80 HR0_0.out x3_1 p290 q290; have hw290_3 := hx290_3; have hw290_2 := hx290_2; have hw290_1 := hx290_1; have hw290_0 := hx290_0; (try rw [← Nbq16.out] at hx290_3); (try rw [← Nbq16.out] at hw290_3); obtain rfl : ad288 = ad290 := (by injection e290); replace hx290_0 := kc HB.out hx290_0; replace hx290_1 := kc HB.out hx290_1; replace hx290_2 := kc HB.out hx290_2; replace hx290_3 := kc HB.out hx290_3; have HR290_1 := kp hi290_1; have HC290_1 := kp hl290_1
            clear hi290_1 hl290_1; replace p290 := eq_true p290; replace q290 := eq_true q290; have ea_ := Option.some.inj (hx288_1.symm.trans hx290_1)
            injection ea_ with ea_ en_ ec_
            subst ea_; subst ec_; clear en_; have p291 : 0 ≤ ((ji8) : Int) := dt; have q291 : (ji8) < (l0_0.length : Int) := dt; obtain ⟨ad291, A291_1, c291_1, e291, hx291_0, hx291_1, hx291_2, hx291_3, hl291_1, hi291_1⟩ := at_T80 HR0_0.out (ji8) p291 q291; have hw291_3 := hx291_3; have hw291_2 := hx291_2; have hw291_1 := hx291_1; have hw291_0 := hx291_0; (try rw [← Nbq16.out] at hx291_3); (try rw [← Nbq16.out] at hw291_3); obtain rfl : ad288 = ad291 := (by injection e291); replace hx291_0 := kc HB.out hx291_0; replace hx291_1 := kc HB.out hx291_1; replace hx291_2 := kc HB.out hx291_2; replace hx291_3 := kc HB.out hx291_3; have HR291_1 := kp hi291_1; have HC291_1 := kp hl291_1; clear hi291_1 hl291_1; replace p291 := eq_true p291; replace q291 := eq_true q291; have p292 : 0 ≤ (x3_1 : Int) := dt; have q292 : x3_1 < (l0_0.length : Int) := dt; obtain ⟨ad292, A292_1, c292_1, e292, hx292_0, hx292_1, hx292_2, hx292_3, hl292_1, hi292_1⟩ := at_T80 HR0_0.out x3_1 p292 q292; have hw292_3 := hx292_3; have hw292_2 := hx292_2; have hw292_1 := hx292_1; have hw292_0 := hx292_0; (try rw [← Nbq16.out] at hx292_3); (try rw [← Nbq16.out] at hw292_3); obtain rfl : ad288 = ad292 := (by injection e292); replace hx292_0 := kc HB.out hx292_0; replace hx292_1 := kc HB.out hx292_1; replace hx292_2 := kc HB.out hx292_2; replace hx292_3 := kc HB.out hx292_3; have HR292_1 := kp hi292_1; have HC292_1 := kp hl292_1; clear hi292_1 hl292_1; replace p292 := eq_true p292; replace q292 := eq_true q292
            have ea_ := Option.some.inj (hx288_1.symm.trans hx292_1)
            injection ea_ with ea_ en_ ec_
            subst ea_; subst ec_; clear en_; have p294 : 0 ≤ (x3_1 : Int) := dt; have q294 : x3_1 < (l0_0.length : Int) := dt; obtain ⟨ad294, A294_1, c294_1, e294, hx294_0, hx294_1, hx294_2, hx294_3, hl294_1, hi294_1⟩ := at_T80 HR0_0.out x3_1 p294 q294; have hw294_3 := hx294_3; have hw294_2 := hx294_2; have hw294_1 := hx294_1; have hw294_0 := hx294_0; (try rw [← Nbq16.out] at hx294_3); (try rw [← Nbq16.out] at hw294_3); obtain rfl : ad288 = ad294 := (by injection e294); replace hx294_0 := kc HB.out hx294_0; replace hx294_1 := kc HB.out hx294_1; replace hx294_2 := kc HB.out hx294_2; replace hx294_3 := kc HB.out hx294_3; have HR294_1 := kp hi294_1; have HC294_1 := kp hl294_1; clear hi294_1 hl294_1; replace p294 := eq_true p294; replace q294 := eq_true q294
            refine start_ (n := 59) (S := fun w' => w'.cell? ⟨gb285, 0, none⟩ = some (.slice (some ad288) l0_0.length c0_0) ∧ w'.cell? ⟨gb285, 1, none⟩ = some (.int .i64 a0_1) ∧ w'.cell? (ad288.add ((x3_1).toNat * 4)) = some (.int .i64 ((rd_T80 l0_0 x3_1).f0)) ∧ w'.cell? ⟨(ad288.add ((x3_1).toNat * 4)).block, (ad288.add ((x3_1).toNat * 4)).off + 1, none⟩ = some (.slice A288_1 ((rd_T80 l0_0 x3_1).f1).length c288_1) ∧ w'.cell? ⟨(ad288.add ((x3_1).toNat * 4)).block, (ad288.add ((x3_1).toNat * 4)).off + 2, none⟩ = some (.int .i64 ((rd_T80 l0_0 x3_1).f2)) ∧ w'.cell? ⟨(ad288.add ((x3_1).toNat * 4)).block, (ad288.add ((x3_1).toNat * 4)).off + 3, none⟩ = some (.bool true) ∧ w'.cell? (ad288.add (((ji8)).toNat * 4)) = some (.int .i64 ((rd_T80 l0_0 (ji8)).f0)) ∧ w'.cell? ⟨(ad288.add (((ji8)).toNat * 4)).block, (ad288.add (((ji8)).toNat * 4)).off + 1, none⟩ = some (.slice A291_1 ((rd_T80 l0_0 (ji8)).f1).length c291_1) ∧ w'.cell? ⟨(ad288.add (((ji8)).toNat * 4)).block, (ad288.add (((ji8)).toNat * 4)).off + 2, none⟩ = some (.int .i64 ((rd_T80 l0_0 (ji8)).f2)) ∧ w'.cell? ⟨(ad288.add (((ji8)).toNat * 4)).block, (ad288.add (((ji8)).toNat * 4)).off + 3, none⟩ = some (.bool ((rd_T80 l0_0 (ji8)).f3)) ∧ w'.cell? ⟨(ad288.add ((x3_1).toNat * 4)).block, (ad288.add ((x3_1).toNat * 4)).off + 1, none⟩ = some (.slice A294_1 ((rd_T80 l0_0 x3_1).f1).length c294_1)) (ds := []) #[false, false, false, false, false, false, false, false, false, false, false, false, false, false, false, false, false, false, false, false, false, false, false, false, false, false, false, false, false, false, false, false, false, false, false, false, false, false, false, false, false, false, false, false, false, false, false, false, false, false, false, false, false, false, false, false, false, false, false] (by kernel_rfl) rfl rfl ⟨(blk_cell BK285.out 0).trans rfl, (blk_cell BK285.out 1).trans rfl, (kc HB.out hw288_0), (kc HB.out hw288_1), (kc HB.out hw288_2), (kc HB.out hw288_3), (kc HB.out hw291_0), (kc HB.out hw291_1), (kc HB.out hw291_2), (kc HB.out hw291_3), (kc HB.out hw294_1)⟩ (fun hHeld => ?_); refine with_tabW spec_IsValidDisk.tab4 spec_IsValidDisk.bits4 (fun HT_ HW_ => ?_)
            generalize wr.drew = w19 at BK285 HB HR288_1 HR290_1 HR291_1 HR292_1 HR294_1 hx288_0 hx288_1 hx288_2 hx288_3 hx290_0 hx290_1 hx290_2 hx290_3 hx291_0 hx291_1 hx291_2 hx291_3 hx292_0 hx292_1 hx292_2 hx292_3 hx294_0 hx294_1 hx294_2 hx294_3 hHeld ⊢
            refine pq 0 11 HT_ ?_
            refine pq 2 13 HT_ ?_
            refine pq 6 17 HT_ ?_
            refine tq 1 12 HT_ HW_ hHeld ?_
            refine pq 3 14 HT_ ?_
            refine pq 4 15 HT_ ?_
            refine tq 5 16 HT_ HW_ hHeld ?_
            refine tq 7 18 HT_ HW_ hHeld ?_
            refine pq 8 19 HT_ ?_
            refine on_ 9 (some 20) HT_ (fun K hK => ?_); refine gs_ Try.func88 #[.int .i64 ((rd_T80 l0_0 x3_1).f0), .int .i64 0, .int .i64 (wrap64 (a0_1 - 1))] ?_; with_reducible refine (spec_l1In.calls ((rd_T80 l0_0 x3_1).f0) 0 (wrap64 (a0_1 - 1)) true _ A5.out).mono ?_
            rintro e w' ⟨rfl, ⟨nd, rfl⟩⟩; refine ⟨_, rfl, ?_⟩; refine hK.out _ _ ⟨(blk_cell BK285.out 0).trans rfl, (blk_cell BK285.out 1).trans rfl, (kc HB.out hw288_0), (kc HB.out hw288_1), (kc HB.out hw288_2), (kc HB.out hw288_3), (kc HB.out hw291_0), (kc HB.out hw291_1), (kc HB.out hw291_2), (kc HB.out hw291_3), (kc HB.out hw294_1)⟩ (fun hHeld => ?_); clear hK K; refine nm_ (some 20) ?_
            refine pq 10 21 HT_ ?_
            refine pq 11 22 HT_ ?_
            refine pq 12 23 HT_ ?_
            refine pq 13 24 HT_ ?_
            refine pq 14 25 HT_ ?_
            refine pq 15 26 HT_ ?_
            refine pq 17 28 HT_ ?_
            refine pq 21 32 HT_ ?_
            refine pq 23 34 HT_ ?_
            refine pq 24 35 HT_ ?_
            refine tq 16 27 HT_ HW_ hHeld ?_
            refine pq 18 29 HT_ ?_
            refine pq 19 30 HT_ ?_
            refine tq 20 31 HT_ HW_ hHeld ?_
            refine tq 22 33 HT_ HW_ hHeld ?_
            refine pq 25 36 HT_ ?_
            refine pq 26 37 HT_ ?_
            refine tq 27 38 HT_ HW_ hHeld ?_
            refine pq 28 39 HT_ ?_
            refine pq 29 40 HT_ ?_
            refine pq 30 41 HT_ ?_
            refine pq 31 42 HT_ ?_
            refine pq 32 43 HT_ ?_
            refine pq 34 45 HT_ ?_
            refine tq 33 44 HT_ HW_ hHeld ?_
            refine pq 35 46 HT_ ?_
            refine pq 36 47 HT_ ?_
            refine tq 37 48 HT_ HW_ hHeld ?_
            refine on_ 38 (some 49) HT_ (fun K hK => ?_); refine gs_ Try.func85 #[.slice A288_1 ((rd_T80 l0_0 x3_1).f1).length c288_1] ?_; with_reducible refine (spec_l4Pages.calls k1 _ _ ((rd_T80 l0_0 x3_1).f1) true _ ?side1 ?side2 A14.out).mono ?_
            (case side1 => repeat (first | exact (Kd.C_below HR292_1.out bb) | (with_reducible refine Kd.C_alloc ?_ _) | (with_reducible refine Kd.C_drewN ?_ _) | (with_reducible refine Kd.C_drew ?_))); (case side2 => exact HC292_1.out); rintro e w20 ⟨rfl, hb⟩; refine ⟨_, rfl, ?_⟩; have n0_ := kp (kb BK285.out hb); have n1_ := kp (below_step bb hb); clear BK285; clear HB; have BK285 := n0_; have HB := n1_; clear n0_ n1_; (try clear hb); (try clear hk); refine hK.out _ _ ⟨(blk_cell BK285.out 0).trans rfl, (blk_cell BK285.out 1).trans rfl, (kc HB.out hw288_0), (kc HB.out hw288_1), (kc HB.out hw288_2), (kc HB.out hw288_3), (kc HB.out hw291_0), (kc HB.out hw291_1), (kc HB.out hw291_2), (kc HB.out hw291_3), (kc HB.out hw294_1)⟩ (fun hHeld => ?_); clear hK K; refine nm_ (some 49) ?_
            refine pq 39 50 HT_ ?_
            refine pq 40 51 HT_ ?_
            refine pq 41 52 HT_ ?_
            refine pq 42 53 HT_ ?_
            refine pq 44 55 HT_ ?_
            refine tq 43 54 HT_ HW_ hHeld ?_
            refine pq 45 56 HT_ ?_
            refine pq 46 57 HT_ ?_
            refine tq 47 58 HT_ HW_ hHeld ?_
            refine pq 48 59 HT_ ?_
            refine pq 49 60 HT_ ?_
            refine uq 50 61 HT_ ?_
            refine uq 51 62 HT_ ?_
            refine uq 52 63 HT_ ?_
            refine uq 53 64 HT_ ?_
            refine uq 54 65 HT_ ?_
            refine uq 55 66 HT_ ?_
            refine uq 56 67 HT_ ?_
            refine pq 57 68 HT_ ?_
            refine pq 58 69 HT_ ?_
            refine done_ (done_of HT_.out (by kernel_rfl)) ?_
            try go_wp2
            go_roundg k1
            case measure => have := HK1.out; omega
            case rel => exact ⟨(wrap64 (x3_1 + 1)), (by first | rfl | (simp; done) | (simp [*]; done)), H', ⟨by have := HK1.out; omega⟩, ⟨by (with_reducible repeat (first | apply bN | apply bD | apply bA)); exact BK285.out⟩, ⟨bb⟩⟩
           ·replace c17 := Bool.eq_false_iff.mpr c17; subst c17; have H1 : (if ((rd_T80 l0_0 x3_1).f2) = 0 then (spec_IsValidDisk.l0 k1 (wrap64 (x3_1 + 1)) l0_0 a0_1) else (some false)) = some r := by rw [if_neg (show ¬ (false = true) by decide)] at H; exact H
            clear H; have H := H1; clear H1
            by_cases c21 : ((rd_T80 l0_0 x3_1).f2) = 0
            ·rw [if_pos c21] at H; have c21b0 : (((rd_T80 l0_0 x3_1).f2) == 0) = true := beq_iff_eq.mpr c21; have c21b1 : (((rd_T80 l0_0 x3_1).f2) != 0) = false := bne_eq_false_iff_eq.mpr c21; clear c21; have H' := kp H; clear H; have hcz22_0 : wr.cell? ⟨gb285, 0, none⟩ = some (.slice A0_0 l0_0.length c0_0) := (blk_cell BK285.out 0).trans rfl; have hcz22_1 : wr.cell? ⟨gb285, 1, none⟩ = some (.int .i64 a0_1) := (blk_cell BK285.out 1).trans rfl; have hfz22_0 := blk_frozen BK285.out 0; have hfz22_1 := blk_frozen BK285.out 1
             try go_wp2
             have n0_ := kp (blk_drew BK285.out); have n1_ := kp (below_drew1 HB.out); clear BK285; clear HB; have BK285 := n0_; have HB := n1_; clear n0_ n1_; have p288 : 0 ≤ (x3_1 : Int) := dt; have q288 : x3_1 < (l0_0.length : Int) := dt; obtain ⟨ad288, A288_1, c288_1, e288, hx288_0, hx288_1, hx288_2, hx288_3, hl288_1, hi288_1⟩ := at_T80 HR0_0.out x3_1 p288 q288; have hw288_3 := hx288_3; have hw288_2 := hx288_2; have hw288_1 := hx288_1; have hw288_0 := hx288_0; (try rw [← Nbq16.out] at hx288_3); (try rw [← Nbq16.out] at hw288_3); cases e288; replace hx288_0 := kc HB.out hx288_0; replace hx288_1 := kc HB.out hx288_1; replace hx288_2 := kc HB.out hx288_2; replace hx288_3 := kc HB.out hx288_3; have HR288_1 := kp hi288_1; have HC288_1 := kp hl288_1; clear hi288_1 hl288_1; replace p288 := eq_true p288; replace q288 := eq_true q288; have p290 : 0 ≤ (x3_1 : Int) := dt; have q290 : x3_1 < (l0_0.length : Int) := dt; obtain ⟨ad290, A290_1, c290_1, e290, hx290_0, hx290_1, hx290_2, hx290_3, hl290_1, hi290_1⟩ := at_T80 HR0_0.out x3_1 p290 q290; have hw290_3 := hx290_3; have hw290_2 := hx290_2; have hw290_1 := hx290_1; have hw290_0 := hx290_0; (try rw [← Nbq16.out] at hx290_3); (try rw [← Nbq16.out] at hw290_3); obtain rfl : ad288 = ad290 := (by injection e290); replace hx290_0 := kc HB.out hx290_0; replace hx290_1 := kc HB.out hx290_1; replace hx290_2 := kc HB.out hx290_2; replace hx290_3 := kc HB.out hx290_3; have HR290_1 := kp hi290_1; have HC290_1 := kp hl290_1
             clear hi290_1 hl290_1; replace p290 := eq_true p290; replace q290 := eq_true q290; have ea_ := Option.some.inj (hx288_1.symm.trans hx290_1)
             injection ea_ with ea_ en_ ec_
             subst ea_; subst ec_; clear en_; have p291 : 0 ≤ ((ji8) : Int) := dt; have q291 : (ji8) < (l0_0.length : Int) := dt; obtain ⟨ad291, A291_1, c291_1, e291, hx291_0, hx291_1, hx291_2, hx291_3, hl291_1, hi291_1⟩ := at_T80 HR0_0.out (ji8) p291 q291; have hw291_3 := hx291_3; have hw291_2 := hx291_2; have hw291_1 := hx291_1; have hw291_0 := hx291_0; (try rw [← Nbq16.out] at hx291_3); (try rw [← Nbq16.out] at hw291_3); obtain rfl : ad288 = ad291 := (by injection e291); replace hx291_0 := kc HB.out hx291_0; replace hx291_1 := kc HB.out hx291_1; replace hx291_2 := kc HB.out hx291_2; replace hx291_3 := kc HB.out hx291_3; have HR291_1 := kp hi291_1; have HC291_1 := kp hl291_1; clear hi291_1 hl291_1; replace p291 := eq_true p291; replace q291 := eq_true q291; have p292 : 0 ≤ (x3_1 : Int) := dt; have q292 : x3_1 < (l0_0.length : Int) := dt; obtain ⟨ad292, A292_1, c292_1, e292, hx292_0, hx292_1, hx292_2, hx292_3, hl292_1, hi292_1⟩ := at_T80 HR0_0.out x3_1 p292 q292; have hw292_3 := hx292_3; have hw292_2 := hx292_2; have hw292_1 := hx292_1; have hw292_0 := hx292_0; (try rw [← Nbq16.out] at hx292_3); (try rw [← Nbq16.out] at hw292_3); obtain rfl : ad288 = ad292 := (by injection e292); replace hx292_0 := kc HB.out hx292_0; replace hx292_1 := kc HB.out hx292_1; replace hx292_2 := kc HB.out hx292_2; replace hx292_3 := kc HB.out hx292_3; have HR292_1 := kp hi292_1; have HC292_1 := kp hl292_1; clear hi292_1 hl292_1; replace p292 := eq_true p292
             replace q292 := eq_true q292; have ea_ := Option.some.inj (hx288_1.symm.trans hx292_1)
             injection ea_ with ea_ en_ ec_
             subst ea_; subst ec_; clear en_; have p294 : 0 ≤ (x3_1 : Int) := dt; have q294 : x3_1 < (l0_0.length : Int) := dt; obtain ⟨ad294, A294_1, c294_1, e294, hx294_0, hx294_1, hx294_2, hx294_3, hl294_1, hi294_1⟩ := at_T80 HR0_0.out x3_1 p294 q294; have hw294_3 := hx294_3; have hw294_2 := hx294_2; have hw294_1 := hx294_1; have hw294_0 := hx294_0; (try rw [← Nbq16.out] at hx294_3); (try rw [← Nbq16.out] at hw294_3); obtain rfl : ad288 = ad294 := (by injection e294); replace hx294_0 := kc HB.out hx294_0; replace hx294_1 := kc HB.out hx294_1; replace hx294_2 := kc HB.out hx294_2; replace hx294_3 := kc HB.out hx294_3; have HR294_1 := kp hi294_1; have HC294_1 := kp hl294_1; clear hi294_1 hl294_1; replace p294 := eq_true p294; replace q294 := eq_true q294; have p295 : 0 ≤ (x3_1 : Int) := dt; have q295 : x3_1 < (l0_0.length : Int) := dt; obtain ⟨ad295, A295_1, c295_1, e295, hx295_0, hx295_1, hx295_2, hx295_3, hl295_1, hi295_1⟩ := at_T80 HR0_0.out x3_1 p295 q295; have hw295_3 := hx295_3; have hw295_2 := hx295_2; have hw295_1 := hx295_1; have hw295_0 := hx295_0; (try rw [← Nbq16.out] at hx295_3); (try rw [← Nbq16.out] at hw295_3); obtain rfl : ad288 = ad295 := (by injection e295); replace hx295_0 := kc HB.out hx295_0; replace hx295_1 := kc HB.out hx295_1; replace hx295_2 := kc HB.out hx295_2; replace hx295_3 := kc HB.out hx295_3; have HR295_1 := kp hi295_1; have HC295_1 := kp hl295_1; clear hi295_1 hl295_1; replace p295 := eq_true p295; replace q295 := eq_true q295
             have ea_ := Option.some.inj (hx294_1.symm.trans hx295_1)
             injection ea_ with ea_ en_ ec_
             subst ea_; subst ec_; clear en_
             refine start_ (n := 59) (S := fun w' => w'.cell? ⟨gb285, 0, none⟩ = some (.slice (some ad288) l0_0.length c0_0) ∧ w'.cell? ⟨gb285, 1, none⟩ = some (.int .i64 a0_1) ∧ w'.cell? (ad288.add ((x3_1).toNat * 4)) = some (.int .i64 ((rd_T80 l0_0 x3_1).f0)) ∧ w'.cell? ⟨(ad288.add ((x3_1).toNat * 4)).block, (ad288.add ((x3_1).toNat * 4)).off + 1, none⟩ = some (.slice A288_1 ((rd_T80 l0_0 x3_1).f1).length c288_1) ∧ w'.cell? ⟨(ad288.add ((x3_1).toNat * 4)).block, (ad288.add ((x3_1).toNat * 4)).off + 2, none⟩ = some (.int .i64 ((rd_T80 l0_0 x3_1).f2)) ∧ w'.cell? ⟨(ad288.add ((x3_1).toNat * 4)).block, (ad288.add ((x3_1).toNat * 4)).off + 3, none⟩ = some (.bool false) ∧ w'.cell? (ad288.add (((ji8)).toNat * 4)) = some (.int .i64 ((rd_T80 l0_0 (ji8)).f0)) ∧ w'.cell? ⟨(ad288.add (((ji8)).toNat * 4)).block, (ad288.add (((ji8)).toNat * 4)).off + 1, none⟩ = some (.slice A291_1 ((rd_T80 l0_0 (ji8)).f1).length c291_1) ∧ w'.cell? ⟨(ad288.add (((ji8)).toNat * 4)).block, (ad288.add (((ji8)).toNat * 4)).off + 2, none⟩ = some (.int .i64 ((rd_T80 l0_0 (ji8)).f2)) ∧ w'.cell? ⟨(ad288.add (((ji8)).toNat * 4)).block, (ad288.add (((ji8)).toNat * 4)).off + 3, none⟩ = some (.bool ((rd_T80 l0_0 (ji8)).f3)) ∧ w'.cell? ⟨(ad288.add ((x3_1).toNat * 4)).block, (ad288.add ((x3_1).toNat * 4)).off + 1, none⟩ = some (.slice A294_1 ((rd_T80 l0_0 x3_1).f1).length c294_1) ∧ w'.cell? ⟨(ad288.add ((x3_1).toNat * 4)).block, (ad288.add ((x3_1).toNat * 4)).off + 3, none⟩ = some (.bool (false))) (ds := []) #[false, false, false, false, false, false, false, false, false, false, false, false, false, false, false, false, false, false, false, false, false, false, false, false, false, false, false, false, false, false, false, false, false, false, false, false, false, false, false, false, false, false, false, false, false, false, false, false, false, false, false, false, false, false, false, false, false, false, false] (by kernel_rfl) rfl rfl ⟨(blk_cell BK285.out 0).trans rfl, (blk_cell BK285.out 1).trans rfl, (kc HB.out hw288_0), (kc HB.out hw288_1), (kc HB.out hw288_2), (kc HB.out hw288_3), (kc HB.out hw291_0), (kc HB.out hw291_1), (kc HB.out hw291_2), (kc HB.out hw291_3), (kc HB.out hw294_1), (kc HB.out hw295_3)⟩ (fun hHeld => ?_); refine with_tabW spec_IsValidDisk.tab4 spec_IsValidDisk.bits4 (fun HT_ HW_ => ?_)
             generalize wr.drew = w23 at BK285 HB HR288_1 HR290_1 HR291_1 HR292_1 HR294_1 HR295_1 hx288_0 hx288_1 hx288_2 hx288_3 hx290_0 hx290_1 hx290_2 hx290_3 hx291_0 hx291_1 hx291_2 hx291_3 hx292_0 hx292_1 hx292_2 hx292_3 hx294_0 hx294_1 hx294_2 hx294_3 hx295_0 hx295_1 hx295_2 hx295_3 hHeld ⊢
             refine pq 0 11 HT_ ?_
             refine pq 2 13 HT_ ?_
             refine pq 6 17 HT_ ?_
             refine tq 1 12 HT_ HW_ hHeld ?_
             refine pq 3 14 HT_ ?_
             refine pq 4 15 HT_ ?_
             refine tq 5 16 HT_ HW_ hHeld ?_
             refine tq 7 18 HT_ HW_ hHeld ?_
             refine pq 8 19 HT_ ?_
             refine on_ 9 (some 20) HT_ (fun K hK => ?_); refine gs_ Try.func88 #[.int .i64 ((rd_T80 l0_0 x3_1).f0), .int .i64 0, .int .i64 (wrap64 (a0_1 - 1))] ?_; with_reducible refine (spec_l1In.calls ((rd_T80 l0_0 x3_1).f0) 0 (wrap64 (a0_1 - 1)) true _ A5.out).mono ?_
             rintro e w' ⟨rfl, ⟨nd, rfl⟩⟩; refine ⟨_, rfl, ?_⟩; refine hK.out _ _ ⟨(blk_cell BK285.out 0).trans rfl, (blk_cell BK285.out 1).trans rfl, (kc HB.out hw288_0), (kc HB.out hw288_1), (kc HB.out hw288_2), (kc HB.out hw288_3), (kc HB.out hw291_0), (kc HB.out hw291_1), (kc HB.out hw291_2), (kc HB.out hw291_3), (kc HB.out hw294_1), (kc HB.out hw295_3)⟩ (fun hHeld => ?_); clear hK K; refine nm_ (some 20) ?_
             refine pq 10 21 HT_ ?_
             refine pq 11 22 HT_ ?_
             refine pq 12 23 HT_ ?_
             refine pq 13 24 HT_ ?_
             refine pq 14 25 HT_ ?_
             refine pq 15 26 HT_ ?_
             refine pq 17 28 HT_ ?_
             refine pq 21 32 HT_ ?_
             refine pq 23 34 HT_ ?_
             refine pq 24 35 HT_ ?_
             refine tq 16 27 HT_ HW_ hHeld ?_
             refine pq 18 29 HT_ ?_
             refine pq 19 30 HT_ ?_
             refine tq 20 31 HT_ HW_ hHeld ?_
             refine tq 22 33 HT_ HW_ hHeld ?_
             refine pq 25 36 HT_ ?_
             refine pq 26 37 HT_ ?_
             refine tq 27 38 HT_ HW_ hHeld ?_
             refine pq 28 39 HT_ ?_
             refine pq 29 40 HT_ ?_
             refine pq 30 41 HT_ ?_
             refine pq 31 42 HT_ ?_
             refine pq 32 43 HT_ ?_
             refine pq 34 45 HT_ ?_
             refine tq 33 44 HT_ HW_ hHeld ?_
             refine pq 35 46 HT_ ?_
             refine pq 36 47 HT_ ?_
             refine tq 37 48 HT_ HW_ hHeld ?_
             refine on_ 38 (some 49) HT_ (fun K hK => ?_); refine gs_ Try.func85 #[.slice A288_1 ((rd_T80 l0_0 x3_1).f1).length c288_1] ?_; with_reducible refine (spec_l4Pages.calls k1 _ _ ((rd_T80 l0_0 x3_1).f1) true _ ?side1 ?side2 A14.out).mono ?_
             (case side1 => repeat (first | exact (Kd.C_below HR292_1.out bb) | (with_reducible refine Kd.C_alloc ?_ _) | (with_reducible refine Kd.C_drewN ?_ _) | (with_reducible refine Kd.C_drew ?_))); (case side2 => exact HC292_1.out); rintro e w24 ⟨rfl, hb⟩; refine ⟨_, rfl, ?_⟩; have n0_ := kp (kb BK285.out hb); have n1_ := kp (below_step bb hb); clear BK285; clear HB; have BK285 := n0_; have HB := n1_; clear n0_ n1_; (try clear hb); (try clear hk); refine hK.out _ _ ⟨(blk_cell BK285.out 0).trans rfl, (blk_cell BK285.out 1).trans rfl, (kc HB.out hw288_0), (kc HB.out hw288_1), (kc HB.out hw288_2), (kc HB.out hw288_3), (kc HB.out hw291_0), (kc HB.out hw291_1), (kc HB.out hw291_2), (kc HB.out hw291_3), (kc HB.out hw294_1), (kc HB.out hw295_3)⟩ (fun hHeld => ?_); clear hK K; refine nm_ (some 49) ?_
             refine pq 39 50 HT_ ?_
             refine pq 40 51 HT_ ?_
             refine pq 41 52 HT_ ?_
             refine pq 42 53 HT_ ?_
             refine pq 44 55 HT_ ?_
             refine tq 43 54 HT_ HW_ hHeld ?_
             refine pq 45 56 HT_ ?_
             refine pq 46 57 HT_ ?_
             refine tq 47 58 HT_ HW_ hHeld ?_
             refine pq 48 59 HT_ ?_
             refine pq 49 60 HT_ ?_
             refine pq 50 61 HT_ ?_
             refine pq 52 63 HT_ ?_
             refine tq 51 62 HT_ HW_ hHeld ?_
             refine pq 53 64 HT_ ?_
             refine pq 54 65 HT_ ?_
             refine tq 55 66 HT_ HW_ hHeld ?_
             refine pq 56 67 HT_ ?_
             refine pq 57 68 HT_ ?_
             refine pq 58 69 HT_ ?_
             refine done_ (done_of HT_.out (by kernel_rfl)) ?_
             try go_wp2
             go_roundg k1
             case measure => have := HK1.out; omega
             case rel => exact ⟨(wrap64 (x3_1 + 1)), (by first | rfl | (simp; done) | (simp [*]; done)), H', ⟨by have := HK1.out; omega⟩, ⟨by (with_reducible repeat (first | apply bN | apply bD | apply bA)); exact BK285.out⟩, ⟨bb⟩⟩
            ·rw [if_neg c21] at H; have c21b0 : (((rd_T80 l0_0 x3_1).f2) == 0) = false := beq_eq_false_iff_ne.mpr c21; have c21b1 : (((rd_T80 l0_0 x3_1).f2) != 0) = true := bne_iff_ne.mpr c21; obtain rfl := Option.some.inj H; have hcz25_0 : wr.cell? ⟨gb285, 0, none⟩ = some (.slice A0_0 l0_0.length c0_0) := (blk_cell BK285.out 0).trans rfl; have hcz25_1 : wr.cell? ⟨gb285, 1, none⟩ = some (.int .i64 a0_1) := (blk_cell BK285.out 1).trans rfl; have hfz25_0 := blk_frozen BK285.out 0; have hfz25_1 := blk_frozen BK285.out 1
             try go_wp2
             have n0_ := kp (blk_drew BK285.out); have n1_ := kp (below_drew1 HB.out); clear BK285; clear HB; have BK285 := n0_; have HB := n1_; clear n0_ n1_; have p288 : 0 ≤ (x3_1 : Int) := dt; have q288 : x3_1 < (l0_0.length : Int) := dt; obtain ⟨ad288, A288_1, c288_1, e288, hx288_0, hx288_1, hx288_2, hx288_3, hl288_1, hi288_1⟩ := at_T80 HR0_0.out x3_1 p288 q288; have hw288_3 := hx288_3; have hw288_2 := hx288_2; have hw288_1 := hx288_1; have hw288_0 := hx288_0; (try rw [← Nbq16.out] at hx288_3); (try rw [← Nbq16.out] at hw288_3); cases e288; replace hx288_0 := kc HB.out hx288_0; replace hx288_1 := kc HB.out hx288_1; replace hx288_2 := kc HB.out hx288_2; replace hx288_3 := kc HB.out hx288_3; have HR288_1 := kp hi288_1; have HC288_1 := kp hl288_1; clear hi288_1 hl288_1; replace p288 := eq_true p288; replace q288 := eq_true q288; have p290 : 0 ≤ (x3_1 : Int) := dt; have q290 : x3_1 < (l0_0.length : Int) := dt; obtain ⟨ad290, A290_1, c290_1, e290, hx290_0, hx290_1, hx290_2, hx290_3, hl290_1, hi290_1⟩ := at_T80 HR0_0.out x3_1 p290 q290; have hw290_3 := hx290_3; have hw290_2 := hx290_2; have hw290_1 := hx290_1; have hw290_0 := hx290_0; (try rw [← Nbq16.out] at hx290_3); (try rw [← Nbq16.out] at hw290_3); obtain rfl : ad288 = ad290 := (by injection e290); replace hx290_0 := kc HB.out hx290_0; replace hx290_1 := kc HB.out hx290_1; replace hx290_2 := kc HB.out hx290_2; replace hx290_3 := kc HB.out hx290_3; have HR290_1 := kp hi290_1; have HC290_1 := kp hl290_1
             clear hi290_1 hl290_1; replace p290 := eq_true p290; replace q290 := eq_true q290; have ea_ := Option.some.inj (hx288_1.symm.trans hx290_1)
             injection ea_ with ea_ en_ ec_
             subst ea_; subst ec_; clear en_; have p291 : 0 ≤ ((ji8) : Int) := dt; have q291 : (ji8) < (l0_0.length : Int) := dt; obtain ⟨ad291, A291_1, c291_1, e291, hx291_0, hx291_1, hx291_2, hx291_3, hl291_1, hi291_1⟩ := at_T80 HR0_0.out (ji8) p291 q291; have hw291_3 := hx291_3; have hw291_2 := hx291_2; have hw291_1 := hx291_1; have hw291_0 := hx291_0; (try rw [← Nbq16.out] at hx291_3); (try rw [← Nbq16.out] at hw291_3); obtain rfl : ad288 = ad291 := (by injection e291); replace hx291_0 := kc HB.out hx291_0; replace hx291_1 := kc HB.out hx291_1; replace hx291_2 := kc HB.out hx291_2; replace hx291_3 := kc HB.out hx291_3; have HR291_1 := kp hi291_1; have HC291_1 := kp hl291_1; clear hi291_1 hl291_1; replace p291 := eq_true p291; replace q291 := eq_true q291; have p292 : 0 ≤ (x3_1 : Int) := dt; have q292 : x3_1 < (l0_0.length : Int) := dt; obtain ⟨ad292, A292_1, c292_1, e292, hx292_0, hx292_1, hx292_2, hx292_3, hl292_1, hi292_1⟩ := at_T80 HR0_0.out x3_1 p292 q292; have hw292_3 := hx292_3; have hw292_2 := hx292_2; have hw292_1 := hx292_1; have hw292_0 := hx292_0; (try rw [← Nbq16.out] at hx292_3); (try rw [← Nbq16.out] at hw292_3); obtain rfl : ad288 = ad292 := (by injection e292); replace hx292_0 := kc HB.out hx292_0; replace hx292_1 := kc HB.out hx292_1; replace hx292_2 := kc HB.out hx292_2; replace hx292_3 := kc HB.out hx292_3; have HR292_1 := kp hi292_1; have HC292_1 := kp hl292_1; clear hi292_1 hl292_1; replace p292 := eq_true p292
             replace q292 := eq_true q292; have ea_ := Option.some.inj (hx288_1.symm.trans hx292_1)
             injection ea_ with ea_ en_ ec_
             subst ea_; subst ec_; clear en_; have p294 : 0 ≤ (x3_1 : Int) := dt; have q294 : x3_1 < (l0_0.length : Int) := dt; obtain ⟨ad294, A294_1, c294_1, e294, hx294_0, hx294_1, hx294_2, hx294_3, hl294_1, hi294_1⟩ := at_T80 HR0_0.out x3_1 p294 q294; have hw294_3 := hx294_3; have hw294_2 := hx294_2; have hw294_1 := hx294_1; have hw294_0 := hx294_0; (try rw [← Nbq16.out] at hx294_3); (try rw [← Nbq16.out] at hw294_3); obtain rfl : ad288 = ad294 := (by injection e294); replace hx294_0 := kc HB.out hx294_0; replace hx294_1 := kc HB.out hx294_1; replace hx294_2 := kc HB.out hx294_2; replace hx294_3 := kc HB.out hx294_3; have HR294_1 := kp hi294_1; have HC294_1 := kp hl294_1; clear hi294_1 hl294_1; replace p294 := eq_true p294; replace q294 := eq_true q294; have p295 : 0 ≤ (x3_1 : Int) := dt; have q295 : x3_1 < (l0_0.length : Int) := dt; obtain ⟨ad295, A295_1, c295_1, e295, hx295_0, hx295_1, hx295_2, hx295_3, hl295_1, hi295_1⟩ := at_T80 HR0_0.out x3_1 p295 q295; have hw295_3 := hx295_3; have hw295_2 := hx295_2; have hw295_1 := hx295_1; have hw295_0 := hx295_0; (try rw [← Nbq16.out] at hx295_3); (try rw [← Nbq16.out] at hw295_3); obtain rfl : ad288 = ad295 := (by injection e295); replace hx295_0 := kc HB.out hx295_0; replace hx295_1 := kc HB.out hx295_1; replace hx295_2 := kc HB.out hx295_2; replace hx295_3 := kc HB.out hx295_3; have HR295_1 := kp hi295_1; have HC295_1 := kp hl295_1; clear hi295_1 hl295_1; replace p295 := eq_true p295; replace q295 := eq_true q295
             have ea_ := Option.some.inj (hx294_1.symm.trans hx295_1)
             injection ea_ with ea_ en_ ec_
             subst ea_; subst ec_; clear en_
             refine start_ (n := 59) (S := fun w' => w'.cell? ⟨gb285, 0, none⟩ = some (.slice (some ad288) l0_0.length c0_0) ∧ w'.cell? ⟨gb285, 1, none⟩ = some (.int .i64 a0_1) ∧ w'.cell? (ad288.add ((x3_1).toNat * 4)) = some (.int .i64 ((rd_T80 l0_0 x3_1).f0)) ∧ w'.cell? ⟨(ad288.add ((x3_1).toNat * 4)).block, (ad288.add ((x3_1).toNat * 4)).off + 1, none⟩ = some (.slice A288_1 ((rd_T80 l0_0 x3_1).f1).length c288_1) ∧ w'.cell? ⟨(ad288.add ((x3_1).toNat * 4)).block, (ad288.add ((x3_1).toNat * 4)).off + 2, none⟩ = some (.int .i64 ((rd_T80 l0_0 x3_1).f2)) ∧ w'.cell? ⟨(ad288.add ((x3_1).toNat * 4)).block, (ad288.add ((x3_1).toNat * 4)).off + 3, none⟩ = some (.bool false) ∧ w'.cell? (ad288.add (((ji8)).toNat * 4)) = some (.int .i64 ((rd_T80 l0_0 (ji8)).f0)) ∧ w'.cell? ⟨(ad288.add (((ji8)).toNat * 4)).block, (ad288.add (((ji8)).toNat * 4)).off + 1, none⟩ = some (.slice A291_1 ((rd_T80 l0_0 (ji8)).f1).length c291_1) ∧ w'.cell? ⟨(ad288.add (((ji8)).toNat * 4)).block, (ad288.add (((ji8)).toNat * 4)).off + 2, none⟩ = some (.int .i64 ((rd_T80 l0_0 (ji8)).f2)) ∧ w'.cell? ⟨(ad288.add (((ji8)).toNat * 4)).block, (ad288.add (((ji8)).toNat * 4)).off + 3, none⟩ = some (.bool ((rd_T80 l0_0 (ji8)).f3)) ∧ w'.cell? ⟨(ad288.add ((x3_1).toNat * 4)).block, (ad288.add ((x3_1).toNat * 4)).off + 1, none⟩ = some (.slice A294_1 ((rd_T80 l0_0 x3_1).f1).length c294_1) ∧ w'.cell? ⟨(ad288.add ((x3_1).toNat * 4)).block, (ad288.add ((x3_1).toNat * 4)).off + 3, none⟩ = some (.bool (false))) (ds := []) #[false, false, false, false, false, false, false, false, false, false, false, false, false, false, false, false, false, false, false, false, false, false, false, false, false, false, false, false, false, false, false, false, false, false, false, false, false, false, false, false, false, false, false, false, false, false, false, false, false, false, false, false, false, false, false, false, false, false, false] (by kernel_rfl) rfl rfl ⟨(blk_cell BK285.out 0).trans rfl, (blk_cell BK285.out 1).trans rfl, (kc HB.out hw288_0), (kc HB.out hw288_1), (kc HB.out hw288_2), (kc HB.out hw288_3), (kc HB.out hw291_0), (kc HB.out hw291_1), (kc HB.out hw291_2), (kc HB.out hw291_3), (kc HB.out hw294_1), (kc HB.out hw295_3)⟩ (fun hHeld => ?_); refine with_tabW spec_IsValidDisk.tab4 spec_IsValidDisk.bits4 (fun HT_ HW_ => ?_)
             generalize wr.drew = w26 at BK285 HB HR288_1 HR290_1 HR291_1 HR292_1 HR294_1 HR295_1 hx288_0 hx288_1 hx288_2 hx288_3 hx290_0 hx290_1 hx290_2 hx290_3 hx291_0 hx291_1 hx291_2 hx291_3 hx292_0 hx292_1 hx292_2 hx292_3 hx294_0 hx294_1 hx294_2 hx294_3 hx295_0 hx295_1 hx295_2 hx295_3 hHeld ⊢
             refine pq 0 11 HT_ ?_
             refine pq 2 13 HT_ ?_
             refine pq 6 17 HT_ ?_
             refine tq 1 12 HT_ HW_ hHeld ?_
             refine pq 3 14 HT_ ?_
             refine pq 4 15 HT_ ?_
             refine tq 5 16 HT_ HW_ hHeld ?_
             refine tq 7 18 HT_ HW_ hHeld ?_
             refine pq 8 19 HT_ ?_
             refine on_ 9 (some 20) HT_ (fun K hK => ?_); refine gs_ Try.func88 #[.int .i64 ((rd_T80 l0_0 x3_1).f0), .int .i64 0, .int .i64 (wrap64 (a0_1 - 1))] ?_; with_reducible refine (spec_l1In.calls ((rd_T80 l0_0 x3_1).f0) 0 (wrap64 (a0_1 - 1)) true _ A5.out).mono ?_
             rintro e w' ⟨rfl, ⟨nd, rfl⟩⟩; refine ⟨_, rfl, ?_⟩; refine hK.out _ _ ⟨(blk_cell BK285.out 0).trans rfl, (blk_cell BK285.out 1).trans rfl, (kc HB.out hw288_0), (kc HB.out hw288_1), (kc HB.out hw288_2), (kc HB.out hw288_3), (kc HB.out hw291_0), (kc HB.out hw291_1), (kc HB.out hw291_2), (kc HB.out hw291_3), (kc HB.out hw294_1), (kc HB.out hw295_3)⟩ (fun hHeld => ?_); clear hK K; refine nm_ (some 20) ?_
             refine pq 10 21 HT_ ?_
             refine pq 11 22 HT_ ?_
             refine pq 12 23 HT_ ?_
             refine pq 13 24 HT_ ?_
             refine pq 14 25 HT_ ?_
             refine pq 15 26 HT_ ?_
             refine pq 17 28 HT_ ?_
             refine pq 21 32 HT_ ?_
             refine pq 23 34 HT_ ?_
             refine pq 24 35 HT_ ?_
             refine tq 16 27 HT_ HW_ hHeld ?_
             refine pq 18 29 HT_ ?_
             refine pq 19 30 HT_ ?_
             refine tq 20 31 HT_ HW_ hHeld ?_
             refine tq 22 33 HT_ HW_ hHeld ?_
             refine pq 25 36 HT_ ?_
             refine pq 26 37 HT_ ?_
             refine tq 27 38 HT_ HW_ hHeld ?_
             refine pq 28 39 HT_ ?_
             refine pq 29 40 HT_ ?_
             refine pq 30 41 HT_ ?_
             refine pq 31 42 HT_ ?_
             refine pq 32 43 HT_ ?_
             refine pq 34 45 HT_ ?_
             refine tq 33 44 HT_ HW_ hHeld ?_
             refine pq 35 46 HT_ ?_
             refine pq 36 47 HT_ ?_
             refine tq 37 48 HT_ HW_ hHeld ?_
             refine on_ 38 (some 49) HT_ (fun K hK => ?_); refine gs_ Try.func85 #[.slice A288_1 ((rd_T80 l0_0 x3_1).f1).length c288_1] ?_; with_reducible refine (spec_l4Pages.calls k1 _ _ ((rd_T80 l0_0 x3_1).f1) true _ ?side1 ?side2 A14.out).mono ?_
             (case side1 => repeat (first | exact (Kd.C_below HR292_1.out bb) | (with_reducible refine Kd.C_alloc ?_ _) | (with_reducible refine Kd.C_drewN ?_ _) | (with_reducible refine Kd.C_drew ?_))); (case side2 => exact HC292_1.out); rintro e w27 ⟨rfl, hb⟩; refine ⟨_, rfl, ?_⟩; have n0_ := kp (kb BK285.out hb); have n1_ := kp (below_step bb hb); clear BK285; clear HB; have BK285 := n0_; have HB := n1_; clear n0_ n1_; (try clear hb); (try clear hk); refine hK.out _ _ ⟨(blk_cell BK285.out 0).trans rfl, (blk_cell BK285.out 1).trans rfl, (kc HB.out hw288_0), (kc HB.out hw288_1), (kc HB.out hw288_2), (kc HB.out hw288_3), (kc HB.out hw291_0), (kc HB.out hw291_1), (kc HB.out hw291_2), (kc HB.out hw291_3), (kc HB.out hw294_1), (kc HB.out hw295_3)⟩ (fun hHeld => ?_); clear hK K; refine nm_ (some 49) ?_
             refine pq 39 50 HT_ ?_
             refine pq 40 51 HT_ ?_
             refine pq 41 52 HT_ ?_
             refine pq 42 53 HT_ ?_
             refine pq 44 55 HT_ ?_
             refine tq 43 54 HT_ HW_ hHeld ?_
             refine pq 45 56 HT_ ?_
             refine pq 46 57 HT_ ?_
             refine tq 47 58 HT_ HW_ hHeld ?_
             refine pq 48 59 HT_ ?_
             refine pq 49 60 HT_ ?_
             refine pq 50 61 HT_ ?_
             refine pq 52 63 HT_ ?_
             refine tq 51 62 HT_ HW_ hHeld ?_
             refine pq 53 64 HT_ ?_
             refine pq 54 65 HT_ ?_
             refine tq 55 66 HT_ HW_ hHeld ?_
             refine pq 56 67 HT_ ?_
             refine pq 57 68 HT_ ?_
             refine pq 58 69 HT_ ?_
             refine done_ (done_of HT_.out (by kernel_rfl)) ?_
             try go_wp2
             go_ret; exact ⟨by first | rfl | (simp [errW_none, errW_some] <;> rfl) | (simp only [← hji8]; first | rfl | (simp [errW_none, errW_some] <;> rfl)) | (simp [*, errW_none, errW_some] <;> rfl), bb⟩
          ·replace c15 := Bool.eq_false_iff.mpr c15; subst c15; have H1 : (some false) = some r := by rw [if_neg (show ¬ (false = true) by decide)] at H; exact H
           clear H; have H := H1; clear H1; obtain rfl := Option.some.inj H; have hcz28_0 : wr.cell? ⟨gb285, 0, none⟩ = some (.slice A0_0 l0_0.length c0_0) := (blk_cell BK285.out 0).trans rfl; have hcz28_1 : wr.cell? ⟨gb285, 1, none⟩ = some (.int .i64 a0_1) := (blk_cell BK285.out 1).trans rfl; have hfz28_0 := blk_frozen BK285.out 0; have hfz28_1 := blk_frozen BK285.out 1
           try go_wp2
           have n0_ := kp (blk_drew BK285.out); have n1_ := kp (below_drew1 HB.out); clear BK285; clear HB; have BK285 := n0_; have HB := n1_; clear n0_ n1_; have p288 : 0 ≤ (x3_1 : Int) := dt; have q288 : x3_1 < (l0_0.length : Int) := dt; obtain ⟨ad288, A288_1, c288_1, e288, hx288_0, hx288_1, hx288_2, hx288_3, hl288_1, hi288_1⟩ := at_T80 HR0_0.out x3_1 p288 q288; have hw288_3 := hx288_3; have hw288_2 := hx288_2; have hw288_1 := hx288_1; have hw288_0 := hx288_0; cases e288; replace hx288_0 := kc HB.out hx288_0; replace hx288_1 := kc HB.out hx288_1; replace hx288_2 := kc HB.out hx288_2; replace hx288_3 := kc HB.out hx288_3; have HR288_1 := kp hi288_1; have HC288_1 := kp hl288_1; clear hi288_1 hl288_1; replace p288 := eq_true p288; replace q288 := eq_true q288; have p290 : 0 ≤ (x3_1 : Int) := dt; have q290 : x3_1 < (l0_0.length : Int) := dt; obtain ⟨ad290, A290_1, c290_1, e290, hx290_0, hx290_1, hx290_2, hx290_3, hl290_1, hi290_1⟩ := at_T80 HR0_0.out x3_1 p290 q290; have hw290_3 := hx290_3; have hw290_2 := hx290_2; have hw290_1 := hx290_1; have hw290_0 := hx290_0; obtain rfl : ad288 = ad290 := (by injection e290); replace hx290_0 := kc HB.out hx290_0; replace hx290_1 := kc HB.out hx290_1; replace hx290_2 := kc HB.out hx290_2; replace hx290_3 := kc HB.out hx290_3; have HR290_1 := kp hi290_1; have HC290_1 := kp hl290_1; clear hi290_1 hl290_1; replace p290 := eq_true p290; replace q290 := eq_true q290; have ea_ := Option.some.inj (hx288_1.symm.trans hx290_1)
           injection ea_ with ea_ en_ ec_
           subst ea_; subst ec_; clear en_; have p291 : 0 ≤ ((ji8) : Int) := dt; have q291 : (ji8) < (l0_0.length : Int) := dt; obtain ⟨ad291, A291_1, c291_1, e291, hx291_0, hx291_1, hx291_2, hx291_3, hl291_1, hi291_1⟩ := at_T80 HR0_0.out (ji8) p291 q291; have hw291_3 := hx291_3; have hw291_2 := hx291_2; have hw291_1 := hx291_1; have hw291_0 := hx291_0; obtain rfl : ad288 = ad291 := (by injection e291); replace hx291_0 := kc HB.out hx291_0; replace hx291_1 := kc HB.out hx291_1; replace hx291_2 := kc HB.out hx291_2; replace hx291_3 := kc HB.out hx291_3; have HR291_1 := kp hi291_1; have HC291_1 := kp hl291_1; clear hi291_1 hl291_1; replace p291 := eq_true p291; replace q291 := eq_true q291; have p292 : 0 ≤ (x3_1 : Int) := dt; have q292 : x3_1 < (l0_0.length : Int) := dt; obtain ⟨ad292, A292_1, c292_1, e292, hx292_0, hx292_1, hx292_2, hx292_3, hl292_1, hi292_1⟩ := at_T80 HR0_0.out x3_1 p292 q292; have hw292_3 := hx292_3; have hw292_2 := hx292_2; have hw292_1 := hx292_1; have hw292_0 := hx292_0; obtain rfl : ad288 = ad292 := (by injection e292); replace hx292_0 := kc HB.out hx292_0; replace hx292_1 := kc HB.out hx292_1; replace hx292_2 := kc HB.out hx292_2; replace hx292_3 := kc HB.out hx292_3; have HR292_1 := kp hi292_1; have HC292_1 := kp hl292_1; clear hi292_1 hl292_1; replace p292 := eq_true p292; replace q292 := eq_true q292; have ea_ := Option.some.inj (hx288_1.symm.trans hx292_1)
           injection ea_ with ea_ en_ ec_
           subst ea_; subst ec_; clear en_
           refine start_ (n := 59) (S := fun w' => w'.cell? ⟨gb285, 0, none⟩ = some (.slice (some ad288) l0_0.length c0_0) ∧ w'.cell? ⟨gb285, 1, none⟩ = some (.int .i64 a0_1) ∧ w'.cell? (ad288.add ((x3_1).toNat * 4)) = some (.int .i64 ((rd_T80 l0_0 x3_1).f0)) ∧ w'.cell? ⟨(ad288.add ((x3_1).toNat * 4)).block, (ad288.add ((x3_1).toNat * 4)).off + 1, none⟩ = some (.slice A288_1 ((rd_T80 l0_0 x3_1).f1).length c288_1) ∧ w'.cell? ⟨(ad288.add ((x3_1).toNat * 4)).block, (ad288.add ((x3_1).toNat * 4)).off + 2, none⟩ = some (.int .i64 ((rd_T80 l0_0 x3_1).f2)) ∧ w'.cell? ⟨(ad288.add ((x3_1).toNat * 4)).block, (ad288.add ((x3_1).toNat * 4)).off + 3, none⟩ = some (.bool ((rd_T80 l0_0 x3_1).f3)) ∧ w'.cell? (ad288.add (((ji8)).toNat * 4)) = some (.int .i64 ((rd_T80 l0_0 (ji8)).f0)) ∧ w'.cell? ⟨(ad288.add (((ji8)).toNat * 4)).block, (ad288.add (((ji8)).toNat * 4)).off + 1, none⟩ = some (.slice A291_1 ((rd_T80 l0_0 (ji8)).f1).length c291_1) ∧ w'.cell? ⟨(ad288.add (((ji8)).toNat * 4)).block, (ad288.add (((ji8)).toNat * 4)).off + 2, none⟩ = some (.int .i64 ((rd_T80 l0_0 (ji8)).f2)) ∧ w'.cell? ⟨(ad288.add (((ji8)).toNat * 4)).block, (ad288.add (((ji8)).toNat * 4)).off + 3, none⟩ = some (.bool ((rd_T80 l0_0 (ji8)).f3))) (ds := []) #[false, false, false, false, false, false, false, false, false, false, false, false, false, false, false, false, false, false, false, false, false, false, false, false, false, false, false, false, false, false, false, false, false, false, false, false, false, false, false, false, false, false, false, false, false, false, false, false, false, false, false, false, false, false, false, false, false, false, false] (by kernel_rfl) rfl rfl ⟨(blk_cell BK285.out 0).trans rfl, (blk_cell BK285.out 1).trans rfl, (kc HB.out hw288_0), (kc HB.out hw288_1), (kc HB.out hw288_2), (kc HB.out hw288_3), (kc HB.out hw291_0), (kc HB.out hw291_1), (kc HB.out hw291_2), (kc HB.out hw291_3)⟩ (fun hHeld => ?_); refine with_tabW spec_IsValidDisk.tab4 spec_IsValidDisk.bits4 (fun HT_ HW_ => ?_)
           generalize wr.drew = w29 at BK285 HB HR288_1 HR290_1 HR291_1 HR292_1 hx288_0 hx288_1 hx288_2 hx288_3 hx290_0 hx290_1 hx290_2 hx290_3 hx291_0 hx291_1 hx291_2 hx291_3 hx292_0 hx292_1 hx292_2 hx292_3 hHeld ⊢
           refine pq 0 11 HT_ ?_
           refine pq 2 13 HT_ ?_
           refine pq 6 17 HT_ ?_
           refine tq 1 12 HT_ HW_ hHeld ?_
           refine pq 3 14 HT_ ?_
           refine pq 4 15 HT_ ?_
           refine tq 5 16 HT_ HW_ hHeld ?_
           refine tq 7 18 HT_ HW_ hHeld ?_
           refine pq 8 19 HT_ ?_
           refine on_ 9 (some 20) HT_ (fun K hK => ?_); refine gs_ Try.func88 #[.int .i64 ((rd_T80 l0_0 x3_1).f0), .int .i64 0, .int .i64 (wrap64 (a0_1 - 1))] ?_; with_reducible refine (spec_l1In.calls ((rd_T80 l0_0 x3_1).f0) 0 (wrap64 (a0_1 - 1)) true _ A5.out).mono ?_
           rintro e w' ⟨rfl, ⟨nd, rfl⟩⟩; refine ⟨_, rfl, ?_⟩; refine hK.out _ _ ⟨(blk_cell BK285.out 0).trans rfl, (blk_cell BK285.out 1).trans rfl, (kc HB.out hw288_0), (kc HB.out hw288_1), (kc HB.out hw288_2), (kc HB.out hw288_3), (kc HB.out hw291_0), (kc HB.out hw291_1), (kc HB.out hw291_2), (kc HB.out hw291_3)⟩ (fun hHeld => ?_); clear hK K; refine nm_ (some 20) ?_
           refine pq 10 21 HT_ ?_
           refine pq 11 22 HT_ ?_
           refine pq 12 23 HT_ ?_
           refine pq 13 24 HT_ ?_
           refine pq 14 25 HT_ ?_
           refine pq 15 26 HT_ ?_
           refine pq 17 28 HT_ ?_
           refine pq 21 32 HT_ ?_
           refine pq 23 34 HT_ ?_
           refine pq 24 35 HT_ ?_
           refine tq 16 27 HT_ HW_ hHeld ?_
           refine pq 18 29 HT_ ?_
           refine pq 19 30 HT_ ?_
           refine tq 20 31 HT_ HW_ hHeld ?_
           refine tq 22 33 HT_ HW_ hHeld ?_
           refine pq 25 36 HT_ ?_
           refine pq 26 37 HT_ ?_
           refine tq 27 38 HT_ HW_ hHeld ?_
           refine pq 28 39 HT_ ?_
           refine pq 29 40 HT_ ?_
           refine pq 30 41 HT_ ?_
           refine pq 31 42 HT_ ?_
           refine pq 32 43 HT_ ?_
           refine pq 34 45 HT_ ?_
           refine tq 33 44 HT_ HW_ hHeld ?_
           refine pq 35 46 HT_ ?_
           refine pq 36 47 HT_ ?_
           refine tq 37 48 HT_ HW_ hHeld ?_
           refine on_ 38 (some 49) HT_ (fun K hK => ?_); refine gs_ Try.func85 #[.slice A288_1 ((rd_T80 l0_0 x3_1).f1).length c288_1] ?_; with_reducible refine (spec_l4Pages.calls k1 _ _ ((rd_T80 l0_0 x3_1).f1) false _ ?side1 ?side2 A14.out).mono ?_
           (case side1 => repeat (first | exact (Kd.C_below HR292_1.out bb) | (with_reducible refine Kd.C_alloc ?_ _) | (with_reducible refine Kd.C_drewN ?_ _) | (with_reducible refine Kd.C_drew ?_))); (case side2 => exact HC292_1.out); rintro e w30 ⟨rfl, hb⟩; refine ⟨_, rfl, ?_⟩; have n0_ := kp (kb BK285.out hb); have n1_ := kp (below_step bb hb); clear BK285; clear HB; have BK285 := n0_; have HB := n1_; clear n0_ n1_; (try clear hb); (try clear hk); refine hK.out _ _ ⟨(blk_cell BK285.out 0).trans rfl, (blk_cell BK285.out 1).trans rfl, (kc HB.out hw288_0), (kc HB.out hw288_1), (kc HB.out hw288_2), (kc HB.out hw288_3), (kc HB.out hw291_0), (kc HB.out hw291_1), (kc HB.out hw291_2), (kc HB.out hw291_3)⟩ (fun hHeld => ?_); clear hK K; refine nm_ (some 49) ?_
           refine pq 39 50 HT_ ?_
           refine pq 40 51 HT_ ?_
           refine pq 41 52 HT_ ?_
           refine uq 42 53 HT_ ?_
           refine uq 43 54 HT_ ?_
           refine uq 44 55 HT_ ?_
           refine uq 45 56 HT_ ?_
           refine uq 46 57 HT_ ?_
           refine uq 47 58 HT_ ?_
           refine uq 48 59 HT_ ?_
           refine uq 49 60 HT_ ?_
           refine uq 50 61 HT_ ?_
           refine uq 51 62 HT_ ?_
           refine uq 52 63 HT_ ?_
           refine uq 53 64 HT_ ?_
           refine uq 54 65 HT_ ?_
           refine uq 55 66 HT_ ?_
           refine uq 56 67 HT_ ?_
           refine uq 57 68 HT_ ?_
           refine pq 58 69 HT_ ?_
           refine done_ (done_of HT_.out (by kernel_rfl)) ?_
           try go_wp2
           go_ret; exact ⟨by first | rfl | (simp [errW_none, errW_some] <;> rfl) | (simp only [← hji8]; first | rfl | (simp [errW_none, errW_some] <;> rfl)) | (simp [*, errW_none, errW_some] <;> rfl), bb⟩
        ·rw [if_neg c10] at H; exact absurd H (by simp)
       ·rw [if_neg c9] at H; exact absurd H (by simp)
      ·rw [if_neg c7] at H; have c7b0 : decide (0 < x3_1) = false := decide_eq_false c7; clear c7; replace H := Option.bind_eq_some_iff.mp H; obtain ⟨t297, A310, H⟩ := H; replace H : (if t297 = true then (if ((rd_T80 l0_0 x3_1).f3 = true) then (spec_IsValidDisk.l0 k1 (wrap64 (x3_1 + 1)) l0_0 a0_1) else (if ((rd_T80 l0_0 x3_1).f2) = 0 then (spec_IsValidDisk.l0 k1 (wrap64 (x3_1 + 1)) l0_0 a0_1) else (some false))) else (some false)) = some r := H; have A31 := kp A310; clear A310
       by_cases c32 : t297 = true
       ·subst c32; have H1 : (if ((rd_T80 l0_0 x3_1).f3 = true) then (spec_IsValidDisk.l0 k1 (wrap64 (x3_1 + 1)) l0_0 a0_1) else (if ((rd_T80 l0_0 x3_1).f2) = 0 then (spec_IsValidDisk.l0 k1 (wrap64 (x3_1 + 1)) l0_0 a0_1) else (some false))) = some r := by rw [if_pos rfl] at H; exact H
        clear H; have H := H1; clear H1; obtain ⟨bq33, hbq33⟩ : ∃ b_ : Bool, b_ = ((rd_T80 l0_0 x3_1).f3) := ⟨_, rfl⟩; replace H : (if (bq33 = true) then (spec_IsValidDisk.l0 k1 (wrap64 (x3_1 + 1)) l0_0 a0_1) else (if ((rd_T80 l0_0 x3_1).f2) = 0 then (spec_IsValidDisk.l0 k1 (wrap64 (x3_1 + 1)) l0_0 a0_1) else (some false))) = some r := by rw [← hbq33] at H; exact H
        have Nbq33 := kp hbq33; clear hbq33
        by_cases c34 : (bq33 = true)
        ·subst c34; have H1 : (spec_IsValidDisk.l0 k1 (wrap64 (x3_1 + 1)) l0_0 a0_1) = some r := by rw [if_pos rfl] at H; exact H
         clear H; have H := H1; clear H1; have H' := kp H; clear H; have hcz35_0 : wr.cell? ⟨gb285, 0, none⟩ = some (.slice A0_0 l0_0.length c0_0) := (blk_cell BK285.out 0).trans rfl; have hcz35_1 : wr.cell? ⟨gb285, 1, none⟩ = some (.int .i64 a0_1) := (blk_cell BK285.out 1).trans rfl; have hfz35_0 := blk_frozen BK285.out 0; have hfz35_1 := blk_frozen BK285.out 1
         try go_wp2
         have n0_ := kp (blk_drew BK285.out); have n1_ := kp (below_drew1 HB.out); clear BK285; clear HB; have BK285 := n0_; have HB := n1_; clear n0_ n1_; have p288 : 0 ≤ (x3_1 : Int) := dt; have q288 : x3_1 < (l0_0.length : Int) := dt; obtain ⟨ad288, A288_1, c288_1, e288, hx288_0, hx288_1, hx288_2, hx288_3, hl288_1, hi288_1⟩ := at_T80 HR0_0.out x3_1 p288 q288; have hw288_3 := hx288_3; have hw288_2 := hx288_2; have hw288_1 := hx288_1; have hw288_0 := hx288_0; (try rw [← Nbq33.out] at hx288_3); (try rw [← Nbq33.out] at hw288_3); cases e288; replace hx288_0 := kc HB.out hx288_0; replace hx288_1 := kc HB.out hx288_1; replace hx288_2 := kc HB.out hx288_2; replace hx288_3 := kc HB.out hx288_3; have HR288_1 := kp hi288_1; have HC288_1 := kp hl288_1; clear hi288_1 hl288_1; replace p288 := eq_true p288; replace q288 := eq_true q288; have p296 : 0 ≤ (x3_1 : Int) := dt; have q296 : x3_1 < (l0_0.length : Int) := dt; obtain ⟨ad296, A296_1, c296_1, e296, hx296_0, hx296_1, hx296_2, hx296_3, hl296_1, hi296_1⟩ := at_T80 HR0_0.out x3_1 p296 q296; have hw296_3 := hx296_3; have hw296_2 := hx296_2; have hw296_1 := hx296_1; have hw296_0 := hx296_0; (try rw [← Nbq33.out] at hx296_3); (try rw [← Nbq33.out] at hw296_3); obtain rfl : ad288 = ad296 := (by injection e296); replace hx296_0 := kc HB.out hx296_0; replace hx296_1 := kc HB.out hx296_1; replace hx296_2 := kc HB.out hx296_2; replace hx296_3 := kc HB.out hx296_3; have HR296_1 := kp hi296_1; have HC296_1 := kp hl296_1
         clear hi296_1 hl296_1; replace p296 := eq_true p296; replace q296 := eq_true q296; have ea_ := Option.some.inj (hx288_1.symm.trans hx296_1)
         injection ea_ with ea_ en_ ec_
         subst ea_; subst ec_; clear en_; have p298 : 0 ≤ (x3_1 : Int) := dt; have q298 : x3_1 < (l0_0.length : Int) := dt; obtain ⟨ad298, A298_1, c298_1, e298, hx298_0, hx298_1, hx298_2, hx298_3, hl298_1, hi298_1⟩ := at_T80 HR0_0.out x3_1 p298 q298; have hw298_3 := hx298_3; have hw298_2 := hx298_2; have hw298_1 := hx298_1; have hw298_0 := hx298_0; (try rw [← Nbq33.out] at hx298_3); (try rw [← Nbq33.out] at hw298_3); obtain rfl : ad288 = ad298 := (by injection e298); replace hx298_0 := kc HB.out hx298_0; replace hx298_1 := kc HB.out hx298_1; replace hx298_2 := kc HB.out hx298_2; replace hx298_3 := kc HB.out hx298_3; have HR298_1 := kp hi298_1; have HC298_1 := kp hl298_1; clear hi298_1 hl298_1; replace p298 := eq_true p298; replace q298 := eq_true q298
         refine start_ (n := 59) (S := fun w' => w'.cell? ⟨gb285, 0, none⟩ = some (.slice (some ad288) l0_0.length c0_0) ∧ w'.cell? ⟨gb285, 1, none⟩ = some (.int .i64 a0_1) ∧ w'.cell? (ad288.add ((x3_1).toNat * 4)) = some (.int .i64 ((rd_T80 l0_0 x3_1).f0)) ∧ w'.cell? ⟨(ad288.add ((x3_1).toNat * 4)).block, (ad288.add ((x3_1).toNat * 4)).off + 1, none⟩ = some (.slice A288_1 ((rd_T80 l0_0 x3_1).f1).length c288_1) ∧ w'.cell? ⟨(ad288.add ((x3_1).toNat * 4)).block, (ad288.add ((x3_1).toNat * 4)).off + 2, none⟩ = some (.int .i64 ((rd_T80 l0_0 x3_1).f2)) ∧ w'.cell? ⟨(ad288.add ((x3_1).toNat * 4)).block, (ad288.add ((x3_1).toNat * 4)).off + 3, none⟩ = some (.bool true) ∧ w'.cell? ⟨(ad288.add ((x3_1).toNat * 4)).block, (ad288.add ((x3_1).toNat * 4)).off + 1, none⟩ = some (.slice A298_1 ((rd_T80 l0_0 x3_1).f1).length c298_1)) (ds := []) #[false, false, false, false, false, false, false, false, false, false, false, false, false, false, false, false, false, false, false, false, false, false, false, false, false, false, false, false, false, false, false, false, false, false, false, false, false, false, false, false, false, false, false, false, false, false, false, false, false, false, false, false, false, false, false, false, false, false, false] (by kernel_rfl) rfl rfl ⟨(blk_cell BK285.out 0).trans rfl, (blk_cell BK285.out 1).trans rfl, (kc HB.out hw288_0), (kc HB.out hw288_1), (kc HB.out hw288_2), (kc HB.out hw288_3), (kc HB.out hw298_1)⟩ (fun hHeld => ?_); refine with_tabW spec_IsValidDisk.tab4 spec_IsValidDisk.bits4 (fun HT_ HW_ => ?_)
         generalize wr.drew = w36 at BK285 HB HR288_1 HR296_1 HR298_1 hx288_0 hx288_1 hx288_2 hx288_3 hx296_0 hx296_1 hx296_2 hx296_3 hx298_0 hx298_1 hx298_2 hx298_3 hHeld ⊢
         refine pq 0 11 HT_ ?_
         refine pq 2 13 HT_ ?_
         refine pq 6 17 HT_ ?_
         refine tq 1 12 HT_ HW_ hHeld ?_
         refine pq 3 14 HT_ ?_
         refine pq 4 15 HT_ ?_
         refine tq 5 16 HT_ HW_ hHeld ?_
         refine tq 7 18 HT_ HW_ hHeld ?_
         refine pq 8 19 HT_ ?_
         refine on_ 9 (some 20) HT_ (fun K hK => ?_); refine gs_ Try.func88 #[.int .i64 ((rd_T80 l0_0 x3_1).f0), .int .i64 0, .int .i64 (wrap64 (a0_1 - 1))] ?_; with_reducible refine (spec_l1In.calls ((rd_T80 l0_0 x3_1).f0) 0 (wrap64 (a0_1 - 1)) true _ A5.out).mono ?_
         rintro e w' ⟨rfl, ⟨nd, rfl⟩⟩; refine ⟨_, rfl, ?_⟩; refine hK.out _ _ ⟨(blk_cell BK285.out 0).trans rfl, (blk_cell BK285.out 1).trans rfl, (kc HB.out hw288_0), (kc HB.out hw288_1), (kc HB.out hw288_2), (kc HB.out hw288_3), (kc HB.out hw298_1)⟩ (fun hHeld => ?_); clear hK K; refine nm_ (some 20) ?_
         refine pq 10 21 HT_ ?_
         refine pq 11 22 HT_ ?_
         refine pq 12 23 HT_ ?_
         refine pq 13 24 HT_ ?_
         refine pq 14 25 HT_ ?_
         refine uq 15 26 HT_ ?_
         refine uq 16 27 HT_ ?_
         refine uq 17 28 HT_ ?_
         refine uq 18 29 HT_ ?_
         refine uq 19 30 HT_ ?_
         refine uq 20 31 HT_ ?_
         refine uq 21 32 HT_ ?_
         refine uq 22 33 HT_ ?_
         refine uq 23 34 HT_ ?_
         refine uq 24 35 HT_ ?_
         refine uq 25 36 HT_ ?_
         refine uq 26 37 HT_ ?_
         refine uq 27 38 HT_ ?_
         refine uq 28 39 HT_ ?_
         refine pq 29 40 HT_ ?_
         refine pq 30 41 HT_ ?_
         refine pq 31 42 HT_ ?_
         refine pq 32 43 HT_ ?_
         refine pq 34 45 HT_ ?_
         refine tq 33 44 HT_ HW_ hHeld ?_
         refine pq 35 46 HT_ ?_
         refine pq 36 47 HT_ ?_
         refine tq 37 48 HT_ HW_ hHeld ?_
         refine on_ 38 (some 49) HT_ (fun K hK => ?_); refine gs_ Try.func85 #[.slice A288_1 ((rd_T80 l0_0 x3_1).f1).length c288_1] ?_; with_reducible refine (spec_l4Pages.calls k1 _ _ ((rd_T80 l0_0 x3_1).f1) true _ ?side1 ?side2 A31.out).mono ?_
         (case side1 => repeat (first | exact (Kd.C_below HR296_1.out bb) | (with_reducible refine Kd.C_alloc ?_ _) | (with_reducible refine Kd.C_drewN ?_ _) | (with_reducible refine Kd.C_drew ?_))); (case side2 => exact HC296_1.out); rintro e w37 ⟨rfl, hb⟩; refine ⟨_, rfl, ?_⟩; have n0_ := kp (kb BK285.out hb); have n1_ := kp (below_step bb hb); clear BK285; clear HB; have BK285 := n0_; have HB := n1_; clear n0_ n1_; (try clear hb); (try clear hk); refine hK.out _ _ ⟨(blk_cell BK285.out 0).trans rfl, (blk_cell BK285.out 1).trans rfl, (kc HB.out hw288_0), (kc HB.out hw288_1), (kc HB.out hw288_2), (kc HB.out hw288_3), (kc HB.out hw298_1)⟩ (fun hHeld => ?_); clear hK K; refine nm_ (some 49) ?_
         refine pq 39 50 HT_ ?_
         refine pq 40 51 HT_ ?_
         refine pq 41 52 HT_ ?_
         refine pq 42 53 HT_ ?_
         refine pq 44 55 HT_ ?_
         refine tq 43 54 HT_ HW_ hHeld ?_
         refine pq 45 56 HT_ ?_
         refine pq 46 57 HT_ ?_
         refine tq 47 58 HT_ HW_ hHeld ?_
         refine pq 48 59 HT_ ?_
         refine pq 49 60 HT_ ?_
         refine uq 50 61 HT_ ?_
         refine uq 51 62 HT_ ?_
         refine uq 52 63 HT_ ?_
         refine uq 53 64 HT_ ?_
         refine uq 54 65 HT_ ?_
         refine uq 55 66 HT_ ?_
         refine uq 56 67 HT_ ?_
         refine pq 57 68 HT_ ?_
         refine pq 58 69 HT_ ?_
         refine done_ (done_of HT_.out (by kernel_rfl)) ?_
         try go_wp2
         go_roundg k1
         case measure => have := HK1.out; omega
         case rel => exact ⟨(wrap64 (x3_1 + 1)), (by first | rfl | (simp; done) | (simp [*]; done)), H', ⟨by have := HK1.out; omega⟩, ⟨by (with_reducible repeat (first | apply bN | apply bD | apply bA)); exact BK285.out⟩, ⟨bb⟩⟩
        ·replace c34 := Bool.eq_false_iff.mpr c34; subst c34; have H1 : (if ((rd_T80 l0_0 x3_1).f2) = 0 then (spec_IsValidDisk.l0 k1 (wrap64 (x3_1 + 1)) l0_0 a0_1) else (some false)) = some r := by rw [if_neg (show ¬ (false = true) by decide)] at H; exact H
         clear H; have H := H1; clear H1
         by_cases c38 : ((rd_T80 l0_0 x3_1).f2) = 0
         ·rw [if_pos c38] at H; have c38b0 : (((rd_T80 l0_0 x3_1).f2) == 0) = true := beq_iff_eq.mpr c38; have c38b1 : (((rd_T80 l0_0 x3_1).f2) != 0) = false := bne_eq_false_iff_eq.mpr c38; clear c38; have H' := kp H; clear H; have hcz39_0 : wr.cell? ⟨gb285, 0, none⟩ = some (.slice A0_0 l0_0.length c0_0) := (blk_cell BK285.out 0).trans rfl; have hcz39_1 : wr.cell? ⟨gb285, 1, none⟩ = some (.int .i64 a0_1) := (blk_cell BK285.out 1).trans rfl; have hfz39_0 := blk_frozen BK285.out 0; have hfz39_1 := blk_frozen BK285.out 1
          try go_wp2
          have n0_ := kp (blk_drew BK285.out); have n1_ := kp (below_drew1 HB.out); clear BK285; clear HB; have BK285 := n0_; have HB := n1_; clear n0_ n1_; have p288 : 0 ≤ (x3_1 : Int) := dt; have q288 : x3_1 < (l0_0.length : Int) := dt; obtain ⟨ad288, A288_1, c288_1, e288, hx288_0, hx288_1, hx288_2, hx288_3, hl288_1, hi288_1⟩ := at_T80 HR0_0.out x3_1 p288 q288; have hw288_3 := hx288_3; have hw288_2 := hx288_2; have hw288_1 := hx288_1; have hw288_0 := hx288_0; (try rw [← Nbq33.out] at hx288_3); (try rw [← Nbq33.out] at hw288_3); cases e288; replace hx288_0 := kc HB.out hx288_0; replace hx288_1 := kc HB.out hx288_1; replace hx288_2 := kc HB.out hx288_2; replace hx288_3 := kc HB.out hx288_3; have HR288_1 := kp hi288_1; have HC288_1 := kp hl288_1; clear hi288_1 hl288_1; replace p288 := eq_true p288; replace q288 := eq_true q288; have p296 : 0 ≤ (x3_1 : Int) := dt; have q296 : x3_1 < (l0_0.length : Int) := dt; obtain ⟨ad296, A296_1, c296_1, e296, hx296_0, hx296_1, hx296_2, hx296_3, hl296_1, hi296_1⟩ := at_T80 HR0_0.out x3_1 p296 q296; have hw296_3 := hx296_3; have hw296_2 := hx296_2; have hw296_1 := hx296_1; have hw296_0 := hx296_0; (try rw [← Nbq33.out] at hx296_3); (try rw [← Nbq33.out] at hw296_3); obtain rfl : ad288 = ad296 := (by injection e296); replace hx296_0 := kc HB.out hx296_0; replace hx296_1 := kc HB.out hx296_1; replace hx296_2 := kc HB.out hx296_2; replace hx296_3 := kc HB.out hx296_3; have HR296_1 := kp hi296_1; have HC296_1 := kp hl296_1
          clear hi296_1 hl296_1; replace p296 := eq_true p296; replace q296 := eq_true q296; have ea_ := Option.some.inj (hx288_1.symm.trans hx296_1)
          injection ea_ with ea_ en_ ec_
          subst ea_; subst ec_; clear en_; have p298 : 0 ≤ (x3_1 : Int) := dt; have q298 : x3_1 < (l0_0.length : Int) := dt; obtain ⟨ad298, A298_1, c298_1, e298, hx298_0, hx298_1, hx298_2, hx298_3, hl298_1, hi298_1⟩ := at_T80 HR0_0.out x3_1 p298 q298; have hw298_3 := hx298_3; have hw298_2 := hx298_2; have hw298_1 := hx298_1; have hw298_0 := hx298_0; (try rw [← Nbq33.out] at hx298_3); (try rw [← Nbq33.out] at hw298_3); obtain rfl : ad288 = ad298 := (by injection e298); replace hx298_0 := kc HB.out hx298_0; replace hx298_1 := kc HB.out hx298_1; replace hx298_2 := kc HB.out hx298_2; replace hx298_3 := kc HB.out hx298_3; have HR298_1 := kp hi298_1; have HC298_1 := kp hl298_1; clear hi298_1 hl298_1; replace p298 := eq_true p298; replace q298 := eq_true q298; have p299 : 0 ≤ (x3_1 : Int) := dt; have q299 : x3_1 < (l0_0.length : Int) := dt; obtain ⟨ad299, A299_1, c299_1, e299, hx299_0, hx299_1, hx299_2, hx299_3, hl299_1, hi299_1⟩ := at_T80 HR0_0.out x3_1 p299 q299; have hw299_3 := hx299_3; have hw299_2 := hx299_2; have hw299_1 := hx299_1; have hw299_0 := hx299_0; (try rw [← Nbq33.out] at hx299_3); (try rw [← Nbq33.out] at hw299_3); obtain rfl : ad288 = ad299 := (by injection e299); replace hx299_0 := kc HB.out hx299_0; replace hx299_1 := kc HB.out hx299_1; replace hx299_2 := kc HB.out hx299_2; replace hx299_3 := kc HB.out hx299_3; have HR299_1 := kp hi299_1; have HC299_1 := kp hl299_1; clear hi299_1 hl299_1; replace p299 := eq_true p299; replace q299 := eq_true q299
          have ea_ := Option.some.inj (hx298_1.symm.trans hx299_1)
          injection ea_ with ea_ en_ ec_
          subst ea_; subst ec_; clear en_
          refine start_ (n := 59) (S := fun w' => w'.cell? ⟨gb285, 0, none⟩ = some (.slice (some ad288) l0_0.length c0_0) ∧ w'.cell? ⟨gb285, 1, none⟩ = some (.int .i64 a0_1) ∧ w'.cell? (ad288.add ((x3_1).toNat * 4)) = some (.int .i64 ((rd_T80 l0_0 x3_1).f0)) ∧ w'.cell? ⟨(ad288.add ((x3_1).toNat * 4)).block, (ad288.add ((x3_1).toNat * 4)).off + 1, none⟩ = some (.slice A288_1 ((rd_T80 l0_0 x3_1).f1).length c288_1) ∧ w'.cell? ⟨(ad288.add ((x3_1).toNat * 4)).block, (ad288.add ((x3_1).toNat * 4)).off + 2, none⟩ = some (.int .i64 ((rd_T80 l0_0 x3_1).f2)) ∧ w'.cell? ⟨(ad288.add ((x3_1).toNat * 4)).block, (ad288.add ((x3_1).toNat * 4)).off + 3, none⟩ = some (.bool false) ∧ w'.cell? ⟨(ad288.add ((x3_1).toNat * 4)).block, (ad288.add ((x3_1).toNat * 4)).off + 1, none⟩ = some (.slice A298_1 ((rd_T80 l0_0 x3_1).f1).length c298_1) ∧ w'.cell? ⟨(ad288.add ((x3_1).toNat * 4)).block, (ad288.add ((x3_1).toNat * 4)).off + 3, none⟩ = some (.bool (false))) (ds := []) #[false, false, false, false, false, false, false, false, false, false, false, false, false, false, false, false, false, false, false, false, false, false, false, false, false, false, false, false, false, false, false, false, false, false, false, false, false, false, false, false, false, false, false, false, false, false, false, false, false, false, false, false, false, false, false, false, false, false, false] (by kernel_rfl) rfl rfl ⟨(blk_cell BK285.out 0).trans rfl, (blk_cell BK285.out 1).trans rfl, (kc HB.out hw288_0), (kc HB.out hw288_1), (kc HB.out hw288_2), (kc HB.out hw288_3), (kc HB.out hw298_1), (kc HB.out hw299_3)⟩ (fun hHeld => ?_); refine with_tabW spec_IsValidDisk.tab4 spec_IsValidDisk.bits4 (fun HT_ HW_ => ?_)
          generalize wr.drew = w40 at BK285 HB HR288_1 HR296_1 HR298_1 HR299_1 hx288_0 hx288_1 hx288_2 hx288_3 hx296_0 hx296_1 hx296_2 hx296_3 hx298_0 hx298_1 hx298_2 hx298_3 hx299_0 hx299_1 hx299_2 hx299_3 hHeld ⊢
          refine pq 0 11 HT_ ?_
          refine pq 2 13 HT_ ?_
          refine pq 6 17 HT_ ?_
          refine tq 1 12 HT_ HW_ hHeld ?_
          refine pq 3 14 HT_ ?_
          refine pq 4 15 HT_ ?_
          refine tq 5 16 HT_ HW_ hHeld ?_
          refine tq 7 18 HT_ HW_ hHeld ?_
          refine pq 8 19 HT_ ?_
          refine on_ 9 (some 20) HT_ (fun K hK => ?_); refine gs_ Try.func88 #[.int .i64 ((rd_T80 l0_0 x3_1).f0), .int .i64 0, .int .i64 (wrap64 (a0_1 - 1))] ?_; with_reducible refine (spec_l1In.calls ((rd_T80 l0_0 x3_1).f0) 0 (wrap64 (a0_1 - 1)) true _ A5.out).mono ?_
          rintro e w' ⟨rfl, ⟨nd, rfl⟩⟩; refine ⟨_, rfl, ?_⟩; refine hK.out _ _ ⟨(blk_cell BK285.out 0).trans rfl, (blk_cell BK285.out 1).trans rfl, (kc HB.out hw288_0), (kc HB.out hw288_1), (kc HB.out hw288_2), (kc HB.out hw288_3), (kc HB.out hw298_1), (kc HB.out hw299_3)⟩ (fun hHeld => ?_); clear hK K; refine nm_ (some 20) ?_
          refine pq 10 21 HT_ ?_
          refine pq 11 22 HT_ ?_
          refine pq 12 23 HT_ ?_
          refine pq 13 24 HT_ ?_
          refine pq 14 25 HT_ ?_
          refine uq 15 26 HT_ ?_
          refine uq 16 27 HT_ ?_
          refine uq 17 28 HT_ ?_
          refine uq 18 29 HT_ ?_
          refine uq 19 30 HT_ ?_
          refine uq 20 31 HT_ ?_
          refine uq 21 32 HT_ ?_
          refine uq 22 33 HT_ ?_
          refine uq 23 34 HT_ ?_
          refine uq 24 35 HT_ ?_
          refine uq 25 36 HT_ ?_
          refine uq 26 37 HT_ ?_
          refine uq 27 38 HT_ ?_
          refine uq 28 39 HT_ ?_
          refine pq 29 40 HT_ ?_
          refine pq 30 41 HT_ ?_
          refine pq 31 42 HT_ ?_
          refine pq 32 43 HT_ ?_
          refine pq 34 45 HT_ ?_
          refine tq 33 44 HT_ HW_ hHeld ?_
          refine pq 35 46 HT_ ?_
          refine pq 36 47 HT_ ?_
          refine tq 37 48 HT_ HW_ hHeld ?_
          refine on_ 38 (some 49) HT_ (fun K hK => ?_); refine gs_ Try.func85 #[.slice A288_1 ((rd_T80 l0_0 x3_1).f1).length c288_1] ?_; with_reducible refine (spec_l4Pages.calls k1 _ _ ((rd_T80 l0_0 x3_1).f1) true _ ?side1 ?side2 A31.out).mono ?_
          (case side1 => repeat (first | exact (Kd.C_below HR296_1.out bb) | (with_reducible refine Kd.C_alloc ?_ _) | (with_reducible refine Kd.C_drewN ?_ _) | (with_reducible refine Kd.C_drew ?_))); (case side2 => exact HC296_1.out); rintro e w41 ⟨rfl, hb⟩; refine ⟨_, rfl, ?_⟩; have n0_ := kp (kb BK285.out hb); have n1_ := kp (below_step bb hb); clear BK285; clear HB; have BK285 := n0_; have HB := n1_; clear n0_ n1_; (try clear hb); (try clear hk); refine hK.out _ _ ⟨(blk_cell BK285.out 0).trans rfl, (blk_cell BK285.out 1).trans rfl, (kc HB.out hw288_0), (kc HB.out hw288_1), (kc HB.out hw288_2), (kc HB.out hw288_3), (kc HB.out hw298_1), (kc HB.out hw299_3)⟩ (fun hHeld => ?_); clear hK K; refine nm_ (some 49) ?_
          refine pq 39 50 HT_ ?_
          refine pq 40 51 HT_ ?_
          refine pq 41 52 HT_ ?_
          refine pq 42 53 HT_ ?_
          refine pq 44 55 HT_ ?_
          refine tq 43 54 HT_ HW_ hHeld ?_
          refine pq 45 56 HT_ ?_
          refine pq 46 57 HT_ ?_
          refine tq 47 58 HT_ HW_ hHeld ?_
          refine pq 48 59 HT_ ?_
          refine pq 49 60 HT_ ?_
          refine pq 50 61 HT_ ?_
          refine pq 52 63 HT_ ?_
          refine tq 51 62 HT_ HW_ hHeld ?_
          refine pq 53 64 HT_ ?_
          refine pq 54 65 HT_ ?_
          refine tq 55 66 HT_ HW_ hHeld ?_
          refine pq 56 67 HT_ ?_
          refine pq 57 68 HT_ ?_
          refine pq 58 69 HT_ ?_
          refine done_ (done_of HT_.out (by kernel_rfl)) ?_
          try go_wp2
          go_roundg k1
          case measure => have := HK1.out; omega
          case rel => exact ⟨(wrap64 (x3_1 + 1)), (by first | rfl | (simp; done) | (simp [*]; done)), H', ⟨by have := HK1.out; omega⟩, ⟨by (with_reducible repeat (first | apply bN | apply bD | apply bA)); exact BK285.out⟩, ⟨bb⟩⟩
         ·rw [if_neg c38] at H; have c38b0 : (((rd_T80 l0_0 x3_1).f2) == 0) = false := beq_eq_false_iff_ne.mpr c38; have c38b1 : (((rd_T80 l0_0 x3_1).f2) != 0) = true := bne_iff_ne.mpr c38; obtain rfl := Option.some.inj H; have hcz42_0 : wr.cell? ⟨gb285, 0, none⟩ = some (.slice A0_0 l0_0.length c0_0) := (blk_cell BK285.out 0).trans rfl; have hcz42_1 : wr.cell? ⟨gb285, 1, none⟩ = some (.int .i64 a0_1) := (blk_cell BK285.out 1).trans rfl; have hfz42_0 := blk_frozen BK285.out 0; have hfz42_1 := blk_frozen BK285.out 1
          try go_wp2
          have n0_ := kp (blk_drew BK285.out); have n1_ := kp (below_drew1 HB.out); clear BK285; clear HB; have BK285 := n0_; have HB := n1_; clear n0_ n1_; have p288 : 0 ≤ (x3_1 : Int) := dt; have q288 : x3_1 < (l0_0.length : Int) := dt; obtain ⟨ad288, A288_1, c288_1, e288, hx288_0, hx288_1, hx288_2, hx288_3, hl288_1, hi288_1⟩ := at_T80 HR0_0.out x3_1 p288 q288; have hw288_3 := hx288_3; have hw288_2 := hx288_2; have hw288_1 := hx288_1; have hw288_0 := hx288_0; (try rw [← Nbq33.out] at hx288_3); (try rw [← Nbq33.out] at hw288_3); cases e288; replace hx288_0 := kc HB.out hx288_0; replace hx288_1 := kc HB.out hx288_1; replace hx288_2 := kc HB.out hx288_2; replace hx288_3 := kc HB.out hx288_3; have HR288_1 := kp hi288_1; have HC288_1 := kp hl288_1; clear hi288_1 hl288_1; replace p288 := eq_true p288; replace q288 := eq_true q288; have p296 : 0 ≤ (x3_1 : Int) := dt; have q296 : x3_1 < (l0_0.length : Int) := dt; obtain ⟨ad296, A296_1, c296_1, e296, hx296_0, hx296_1, hx296_2, hx296_3, hl296_1, hi296_1⟩ := at_T80 HR0_0.out x3_1 p296 q296; have hw296_3 := hx296_3; have hw296_2 := hx296_2; have hw296_1 := hx296_1; have hw296_0 := hx296_0; (try rw [← Nbq33.out] at hx296_3); (try rw [← Nbq33.out] at hw296_3); obtain rfl : ad288 = ad296 := (by injection e296); replace hx296_0 := kc HB.out hx296_0; replace hx296_1 := kc HB.out hx296_1; replace hx296_2 := kc HB.out hx296_2; replace hx296_3 := kc HB.out hx296_3; have HR296_1 := kp hi296_1; have HC296_1 := kp hl296_1
          clear hi296_1 hl296_1; replace p296 := eq_true p296; replace q296 := eq_true q296; have ea_ := Option.some.inj (hx288_1.symm.trans hx296_1)
          injection ea_ with ea_ en_ ec_
          subst ea_; subst ec_; clear en_; have p298 : 0 ≤ (x3_1 : Int) := dt; have q298 : x3_1 < (l0_0.length : Int) := dt; obtain ⟨ad298, A298_1, c298_1, e298, hx298_0, hx298_1, hx298_2, hx298_3, hl298_1, hi298_1⟩ := at_T80 HR0_0.out x3_1 p298 q298; have hw298_3 := hx298_3; have hw298_2 := hx298_2; have hw298_1 := hx298_1; have hw298_0 := hx298_0; (try rw [← Nbq33.out] at hx298_3); (try rw [← Nbq33.out] at hw298_3); obtain rfl : ad288 = ad298 := (by injection e298); replace hx298_0 := kc HB.out hx298_0; replace hx298_1 := kc HB.out hx298_1; replace hx298_2 := kc HB.out hx298_2; replace hx298_3 := kc HB.out hx298_3; have HR298_1 := kp hi298_1; have HC298_1 := kp hl298_1; clear hi298_1 hl298_1; replace p298 := eq_true p298; replace q298 := eq_true q298; have p299 : 0 ≤ (x3_1 : Int) := dt; have q299 : x3_1 < (l0_0.length : Int) := dt; obtain ⟨ad299, A299_1, c299_1, e299, hx299_0, hx299_1, hx299_2, hx299_3, hl299_1, hi299_1⟩ := at_T80 HR0_0.out x3_1 p299 q299; have hw299_3 := hx299_3; have hw299_2 := hx299_2; have hw299_1 := hx299_1; have hw299_0 := hx299_0; (try rw [← Nbq33.out] at hx299_3); (try rw [← Nbq33.out] at hw299_3); obtain rfl : ad288 = ad299 := (by injection e299); replace hx299_0 := kc HB.out hx299_0; replace hx299_1 := kc HB.out hx299_1; replace hx299_2 := kc HB.out hx299_2; replace hx299_3 := kc HB.out hx299_3; have HR299_1 := kp hi299_1; have HC299_1 := kp hl299_1; clear hi299_1 hl299_1; replace p299 := eq_true p299; replace q299 := eq_true q299
          have ea_ := Option.some.inj (hx298_1.symm.trans hx299_1)
          injection ea_ with ea_ en_ ec_
          subst ea_; subst ec_; clear en_
          refine start_ (n := 59) (S := fun w' => w'.cell? ⟨gb285, 0, none⟩ = some (.slice (some ad288) l0_0.length c0_0) ∧ w'.cell? ⟨gb285, 1, none⟩ = some (.int .i64 a0_1) ∧ w'.cell? (ad288.add ((x3_1).toNat * 4)) = some (.int .i64 ((rd_T80 l0_0 x3_1).f0)) ∧ w'.cell? ⟨(ad288.add ((x3_1).toNat * 4)).block, (ad288.add ((x3_1).toNat * 4)).off + 1, none⟩ = some (.slice A288_1 ((rd_T80 l0_0 x3_1).f1).length c288_1) ∧ w'.cell? ⟨(ad288.add ((x3_1).toNat * 4)).block, (ad288.add ((x3_1).toNat * 4)).off + 2, none⟩ = some (.int .i64 ((rd_T80 l0_0 x3_1).f2)) ∧ w'.cell? ⟨(ad288.add ((x3_1).toNat * 4)).block, (ad288.add ((x3_1).toNat * 4)).off + 3, none⟩ = some (.bool false) ∧ w'.cell? ⟨(ad288.add ((x3_1).toNat * 4)).block, (ad288.add ((x3_1).toNat * 4)).off + 1, none⟩ = some (.slice A298_1 ((rd_T80 l0_0 x3_1).f1).length c298_1) ∧ w'.cell? ⟨(ad288.add ((x3_1).toNat * 4)).block, (ad288.add ((x3_1).toNat * 4)).off + 3, none⟩ = some (.bool (false))) (ds := []) #[false, false, false, false, false, false, false, false, false, false, false, false, false, false, false, false, false, false, false, false, false, false, false, false, false, false, false, false, false, false, false, false, false, false, false, false, false, false, false, false, false, false, false, false, false, false, false, false, false, false, false, false, false, false, false, false, false, false, false] (by kernel_rfl) rfl rfl ⟨(blk_cell BK285.out 0).trans rfl, (blk_cell BK285.out 1).trans rfl, (kc HB.out hw288_0), (kc HB.out hw288_1), (kc HB.out hw288_2), (kc HB.out hw288_3), (kc HB.out hw298_1), (kc HB.out hw299_3)⟩ (fun hHeld => ?_); refine with_tabW spec_IsValidDisk.tab4 spec_IsValidDisk.bits4 (fun HT_ HW_ => ?_)
          generalize wr.drew = w43 at BK285 HB HR288_1 HR296_1 HR298_1 HR299_1 hx288_0 hx288_1 hx288_2 hx288_3 hx296_0 hx296_1 hx296_2 hx296_3 hx298_0 hx298_1 hx298_2 hx298_3 hx299_0 hx299_1 hx299_2 hx299_3 hHeld ⊢
          refine pq 0 11 HT_ ?_
          refine pq 2 13 HT_ ?_
          refine pq 6 17 HT_ ?_
          refine tq 1 12 HT_ HW_ hHeld ?_
          refine pq 3 14 HT_ ?_
          refine pq 4 15 HT_ ?_
          refine tq 5 16 HT_ HW_ hHeld ?_
          refine tq 7 18 HT_ HW_ hHeld ?_
          refine pq 8 19 HT_ ?_
          refine on_ 9 (some 20) HT_ (fun K hK => ?_); refine gs_ Try.func88 #[.int .i64 ((rd_T80 l0_0 x3_1).f0), .int .i64 0, .int .i64 (wrap64 (a0_1 - 1))] ?_; with_reducible refine (spec_l1In.calls ((rd_T80 l0_0 x3_1).f0) 0 (wrap64 (a0_1 - 1)) true _ A5.out).mono ?_
          rintro e w' ⟨rfl, ⟨nd, rfl⟩⟩; refine ⟨_, rfl, ?_⟩; refine hK.out _ _ ⟨(blk_cell BK285.out 0).trans rfl, (blk_cell BK285.out 1).trans rfl, (kc HB.out hw288_0), (kc HB.out hw288_1), (kc HB.out hw288_2), (kc HB.out hw288_3), (kc HB.out hw298_1), (kc HB.out hw299_3)⟩ (fun hHeld => ?_); clear hK K; refine nm_ (some 20) ?_
          refine pq 10 21 HT_ ?_
          refine pq 11 22 HT_ ?_
          refine pq 12 23 HT_ ?_
          refine pq 13 24 HT_ ?_
          refine pq 14 25 HT_ ?_
          refine uq 15 26 HT_ ?_
          refine uq 16 27 HT_ ?_
          refine uq 17 28 HT_ ?_
          refine uq 18 29 HT_ ?_
          refine uq 19 30 HT_ ?_
          refine uq 20 31 HT_ ?_
          refine uq 21 32 HT_ ?_
          refine uq 22 33 HT_ ?_
          refine uq 23 34 HT_ ?_
          refine uq 24 35 HT_ ?_
          refine uq 25 36 HT_ ?_
          refine uq 26 37 HT_ ?_
          refine uq 27 38 HT_ ?_
          refine uq 28 39 HT_ ?_
          refine pq 29 40 HT_ ?_
          refine pq 30 41 HT_ ?_
          refine pq 31 42 HT_ ?_
          refine pq 32 43 HT_ ?_
          refine pq 34 45 HT_ ?_
          refine tq 33 44 HT_ HW_ hHeld ?_
          refine pq 35 46 HT_ ?_
          refine pq 36 47 HT_ ?_
          refine tq 37 48 HT_ HW_ hHeld ?_
          refine on_ 38 (some 49) HT_ (fun K hK => ?_); refine gs_ Try.func85 #[.slice A288_1 ((rd_T80 l0_0 x3_1).f1).length c288_1] ?_; with_reducible refine (spec_l4Pages.calls k1 _ _ ((rd_T80 l0_0 x3_1).f1) true _ ?side1 ?side2 A31.out).mono ?_
          (case side1 => repeat (first | exact (Kd.C_below HR296_1.out bb) | (with_reducible refine Kd.C_alloc ?_ _) | (with_reducible refine Kd.C_drewN ?_ _) | (with_reducible refine Kd.C_drew ?_))); (case side2 => exact HC296_1.out); rintro e w44 ⟨rfl, hb⟩; refine ⟨_, rfl, ?_⟩; have n0_ := kp (kb BK285.out hb); have n1_ := kp (below_step bb hb); clear BK285; clear HB; have BK285 := n0_; have HB := n1_; clear n0_ n1_; (try clear hb); (try clear hk); refine hK.out _ _ ⟨(blk_cell BK285.out 0).trans rfl, (blk_cell BK285.out 1).trans rfl, (kc HB.out hw288_0), (kc HB.out hw288_1), (kc HB.out hw288_2), (kc HB.out hw288_3), (kc HB.out hw298_1), (kc HB.out hw299_3)⟩ (fun hHeld => ?_); clear hK K; refine nm_ (some 49) ?_
          refine pq 39 50 HT_ ?_
          refine pq 40 51 HT_ ?_
          refine pq 41 52 HT_ ?_
          refine pq 42 53 HT_ ?_
          refine pq 44 55 HT_ ?_
          refine tq 43 54 HT_ HW_ hHeld ?_
          refine pq 45 56 HT_ ?_
          refine pq 46 57 HT_ ?_
          refine tq 47 58 HT_ HW_ hHeld ?_
          refine pq 48 59 HT_ ?_
          refine pq 49 60 HT_ ?_
          refine pq 50 61 HT_ ?_
          refine pq 52 63 HT_ ?_
          refine tq 51 62 HT_ HW_ hHeld ?_
          refine pq 53 64 HT_ ?_
          refine pq 54 65 HT_ ?_
          refine tq 55 66 HT_ HW_ hHeld ?_
          refine pq 56 67 HT_ ?_
          refine pq 57 68 HT_ ?_
          refine pq 58 69 HT_ ?_
          refine done_ (done_of HT_.out (by kernel_rfl)) ?_
          try go_wp2
          go_ret; exact ⟨er, bb⟩
       ·replace c32 := Bool.eq_false_iff.mpr c32; subst c32; have H1 : (some false) = some r := by rw [if_neg (show ¬ (false = true) by decide)] at H; exact H
        clear H; have H := H1; clear H1; obtain rfl := Option.some.inj H; have hcz45_0 : wr.cell? ⟨gb285, 0, none⟩ = some (.slice A0_0 l0_0.length c0_0) := (blk_cell BK285.out 0).trans rfl; have hcz45_1 : wr.cell? ⟨gb285, 1, none⟩ = some (.int .i64 a0_1) := (blk_cell BK285.out 1).trans rfl; have hfz45_0 := blk_frozen BK285.out 0; have hfz45_1 := blk_frozen BK285.out 1
        try go_wp2
        have n0_ := kp (blk_drew BK285.out); have n1_ := kp (below_drew1 HB.out); clear BK285; clear HB; have BK285 := n0_; have HB := n1_; clear n0_ n1_; have p288 : 0 ≤ (x3_1 : Int) := dt; have q288 : x3_1 < (l0_0.length : Int) := dt; obtain ⟨ad288, A288_1, c288_1, e288, hx288_0, hx288_1, hx288_2, hx288_3, hl288_1, hi288_1⟩ := at_T80 HR0_0.out x3_1 p288 q288; have hw288_3 := hx288_3; have hw288_2 := hx288_2; have hw288_1 := hx288_1; have hw288_0 := hx288_0; cases e288; replace hx288_0 := kc HB.out hx288_0; replace hx288_1 := kc HB.out hx288_1; replace hx288_2 := kc HB.out hx288_2; replace hx288_3 := kc HB.out hx288_3; have HR288_1 := kp hi288_1; have HC288_1 := kp hl288_1; clear hi288_1 hl288_1; replace p288 := eq_true p288; replace q288 := eq_true q288; have p296 : 0 ≤ (x3_1 : Int) := dt; have q296 : x3_1 < (l0_0.length : Int) := dt; obtain ⟨ad296, A296_1, c296_1, e296, hx296_0, hx296_1, hx296_2, hx296_3, hl296_1, hi296_1⟩ := at_T80 HR0_0.out x3_1 p296 q296; have hw296_3 := hx296_3; have hw296_2 := hx296_2; have hw296_1 := hx296_1; have hw296_0 := hx296_0; obtain rfl : ad288 = ad296 := (by injection e296); replace hx296_0 := kc HB.out hx296_0; replace hx296_1 := kc HB.out hx296_1; replace hx296_2 := kc HB.out hx296_2; replace hx296_3 := kc HB.out hx296_3; have HR296_1 := kp hi296_1; have HC296_1 := kp hl296_1; clear hi296_1 hl296_1; replace p296 := eq_true p296; replace q296 := eq_true q296; have ea_ := Option.some.inj (hx288_1.symm.trans hx296_1)
        injection ea_ with ea_ en_ ec_
        subst ea_; subst ec_; clear en_
        refine start_ (n := 59) (S := fun w' => w'.cell? ⟨gb285, 0, none⟩ = some (.slice (some ad288) l0_0.length c0_0) ∧ w'.cell? ⟨gb285, 1, none⟩ = some (.int .i64 a0_1) ∧ w'.cell? (ad288.add ((x3_1).toNat * 4)) = some (.int .i64 ((rd_T80 l0_0 x3_1).f0)) ∧ w'.cell? ⟨(ad288.add ((x3_1).toNat * 4)).block, (ad288.add ((x3_1).toNat * 4)).off + 1, none⟩ = some (.slice A288_1 ((rd_T80 l0_0 x3_1).f1).length c288_1) ∧ w'.cell? ⟨(ad288.add ((x3_1).toNat * 4)).block, (ad288.add ((x3_1).toNat * 4)).off + 2, none⟩ = some (.int .i64 ((rd_T80 l0_0 x3_1).f2)) ∧ w'.cell? ⟨(ad288.add ((x3_1).toNat * 4)).block, (ad288.add ((x3_1).toNat * 4)).off + 3, none⟩ = some (.bool ((rd_T80 l0_0 x3_1).f3))) (ds := []) #[false, false, false, false, false, false, false, false, false, false, false, false, false, false, false, false, false, false, false, false, false, false, false, false, false, false, false, false, false, false, false, false, false, false, false, false, false, false, false, false, false, false, false, false, false, false, false, false, false, false, false, false, false, false, false, false, false, false, false] (by kernel_rfl) rfl rfl ⟨(blk_cell BK285.out 0).trans rfl, (blk_cell BK285.out 1).trans rfl, (kc HB.out hw288_0), (kc HB.out hw288_1), (kc HB.out hw288_2), (kc HB.out hw288_3)⟩ (fun hHeld => ?_); refine with_tabW spec_IsValidDisk.tab4 spec_IsValidDisk.bits4 (fun HT_ HW_ => ?_)
        generalize wr.drew = w46 at BK285 HB HR288_1 HR296_1 hx288_0 hx288_1 hx288_2 hx288_3 hx296_0 hx296_1 hx296_2 hx296_3 hHeld ⊢
        refine pq 0 11 HT_ ?_
        refine pq 2 13 HT_ ?_
        refine pq 6 17 HT_ ?_
        refine tq 1 12 HT_ HW_ hHeld ?_
        refine pq 3 14 HT_ ?_
        refine pq 4 15 HT_ ?_
        refine tq 5 16 HT_ HW_ hHeld ?_
        refine tq 7 18 HT_ HW_ hHeld ?_
        refine pq 8 19 HT_ ?_
        refine on_ 9 (some 20) HT_ (fun K hK => ?_); refine gs_ Try.func88 #[.int .i64 ((rd_T80 l0_0 x3_1).f0), .int .i64 0, .int .i64 (wrap64 (a0_1 - 1))] ?_; with_reducible refine (spec_l1In.calls ((rd_T80 l0_0 x3_1).f0) 0 (wrap64 (a0_1 - 1)) true _ A5.out).mono ?_
        rintro e w' ⟨rfl, ⟨nd, rfl⟩⟩; refine ⟨_, rfl, ?_⟩; refine hK.out _ _ ⟨(blk_cell BK285.out 0).trans rfl, (blk_cell BK285.out 1).trans rfl, (kc HB.out hw288_0), (kc HB.out hw288_1), (kc HB.out hw288_2), (kc HB.out hw288_3)⟩ (fun hHeld => ?_); clear hK K; refine nm_ (some 20) ?_
        refine pq 10 21 HT_ ?_
        refine pq 11 22 HT_ ?_
        refine pq 12 23 HT_ ?_
        refine pq 13 24 HT_ ?_
        refine pq 14 25 HT_ ?_
        refine uq 15 26 HT_ ?_
        refine uq 16 27 HT_ ?_
        refine uq 17 28 HT_ ?_
        refine uq 18 29 HT_ ?_
        refine uq 19 30 HT_ ?_
        refine uq 20 31 HT_ ?_
        refine uq 21 32 HT_ ?_
        refine uq 22 33 HT_ ?_
        refine uq 23 34 HT_ ?_
        refine uq 24 35 HT_ ?_
        refine uq 25 36 HT_ ?_
        refine uq 26 37 HT_ ?_
        refine uq 27 38 HT_ ?_
        refine uq 28 39 HT_ ?_
        refine pq 29 40 HT_ ?_
        refine pq 30 41 HT_ ?_
        refine pq 31 42 HT_ ?_
        refine pq 32 43 HT_ ?_
        refine pq 34 45 HT_ ?_
        refine tq 33 44 HT_ HW_ hHeld ?_
        refine pq 35 46 HT_ ?_
        refine pq 36 47 HT_ ?_
        refine tq 37 48 HT_ HW_ hHeld ?_
        refine on_ 38 (some 49) HT_ (fun K hK => ?_); refine gs_ Try.func85 #[.slice A288_1 ((rd_T80 l0_0 x3_1).f1).length c288_1] ?_; with_reducible refine (spec_l4Pages.calls k1 _ _ ((rd_T80 l0_0 x3_1).f1) false _ ?side1 ?side2 A31.out).mono ?_
        (case side1 => repeat (first | exact (Kd.C_below HR296_1.out bb) | (with_reducible refine Kd.C_alloc ?_ _) | (with_reducible refine Kd.C_drewN ?_ _) | (with_reducible refine Kd.C_drew ?_))); (case side2 => exact HC296_1.out); rintro e w47 ⟨rfl, hb⟩; refine ⟨_, rfl, ?_⟩; have n0_ := kp (kb BK285.out hb); have n1_ := kp (below_step bb hb); clear BK285; clear HB; have BK285 := n0_; have HB := n1_; clear n0_ n1_; (try clear hb); (try clear hk); refine hK.out _ _ ⟨(blk_cell BK285.out 0).trans rfl, (blk_cell BK285.out 1).trans rfl, (kc HB.out hw288_0), (kc HB.out hw288_1), (kc HB.out hw288_2), (kc HB.out hw288_3)⟩ (fun hHeld => ?_); clear hK K; refine nm_ (some 49) ?_
        refine pq 39 50 HT_ ?_
        refine pq 40 51 HT_ ?_
        refine pq 41 52 HT_ ?_
        refine uq 42 53 HT_ ?_
        refine uq 43 54 HT_ ?_
        refine uq 44 55 HT_ ?_
        refine uq 45 56 HT_ ?_
        refine uq 46 57 HT_ ?_
        refine uq 47 58 HT_ ?_
        refine uq 48 59 HT_ ?_
        refine uq 49 60 HT_ ?_
        refine uq 50 61 HT_ ?_
        refine uq 51 62 HT_ ?_
        refine uq 52 63 HT_ ?_
        refine uq 53 64 HT_ ?_
        refine uq 54 65 HT_ ?_
        refine uq 55 66 HT_ ?_
        refine uq 56 67 HT_ ?_
        refine uq 57 68 HT_ ?_
        refine pq 58 69 HT_ ?_
        refine done_ (done_of HT_.out (by kernel_rfl)) ?_
        try go_wp2
        go_ret; exact ⟨er, bb⟩
     ·replace c6 := Bool.eq_false_iff.mpr c6; subst c6; have H1 : (some false) = some r := by rw [if_neg (show ¬ (false = true) by decide)] at H; exact H
      clear H; have H := H1; clear H1; obtain rfl := Option.some.inj H; have hcz48_0 : wr.cell? ⟨gb285, 0, none⟩ = some (.slice A0_0 l0_0.length c0_0) := (blk_cell BK285.out 0).trans rfl; have hcz48_1 : wr.cell? ⟨gb285, 1, none⟩ = some (.int .i64 a0_1) := (blk_cell BK285.out 1).trans rfl; have hfz48_0 := blk_frozen BK285.out 0; have hfz48_1 := blk_frozen BK285.out 1
      try go_wp2
      have n0_ := kp (blk_drew BK285.out); have n1_ := kp (below_drew1 HB.out); clear BK285; clear HB; have BK285 := n0_; have HB := n1_; clear n0_ n1_; have p288 : 0 ≤ (x3_1 : Int) := dt; have q288 : x3_1 < (l0_0.length : Int) := dt; obtain ⟨ad288, A288_1, c288_1, e288, hx288_0, hx288_1, hx288_2, hx288_3, hl288_1, hi288_1⟩ := at_T80 HR0_0.out x3_1 p288 q288; have hw288_3 := hx288_3; have hw288_2 := hx288_2; have hw288_1 := hx288_1; have hw288_0 := hx288_0; cases e288; replace hx288_0 := kc HB.out hx288_0; replace hx288_1 := kc HB.out hx288_1; replace hx288_2 := kc HB.out hx288_2; replace hx288_3 := kc HB.out hx288_3; have HR288_1 := kp hi288_1; have HC288_1 := kp hl288_1; clear hi288_1 hl288_1; replace p288 := eq_true p288; replace q288 := eq_true q288
      refine start_ (n := 59) (S := fun w' => w'.cell? ⟨gb285, 0, none⟩ = some (.slice (some ad288) l0_0.length c0_0) ∧ w'.cell? ⟨gb285, 1, none⟩ = some (.int .i64 a0_1) ∧ w'.cell? (ad288.add ((x3_1).toNat * 4)) = some (.int .i64 ((rd_T80 l0_0 x3_1).f0)) ∧ w'.cell? ⟨(ad288.add ((x3_1).toNat * 4)).block, (ad288.add ((x3_1).toNat * 4)).off + 1, none⟩ = some (.slice A288_1 ((rd_T80 l0_0 x3_1).f1).length c288_1) ∧ w'.cell? ⟨(ad288.add ((x3_1).toNat * 4)).block, (ad288.add ((x3_1).toNat * 4)).off + 2, none⟩ = some (.int .i64 ((rd_T80 l0_0 x3_1).f2)) ∧ w'.cell? ⟨(ad288.add ((x3_1).toNat * 4)).block, (ad288.add ((x3_1).toNat * 4)).off + 3, none⟩ = some (.bool ((rd_T80 l0_0 x3_1).f3))) (ds := []) #[false, false, false, false, false, false, false, false, false, false, false, false, false, false, false, false, false, false, false, false, false, false, false, false, false, false, false, false, false, false, false, false, false, false, false, false, false, false, false, false, false, false, false, false, false, false, false, false, false, false, false, false, false, false, false, false, false, false, false] (by kernel_rfl) rfl rfl ⟨(blk_cell BK285.out 0).trans rfl, (blk_cell BK285.out 1).trans rfl, (kc HB.out hw288_0), (kc HB.out hw288_1), (kc HB.out hw288_2), (kc HB.out hw288_3)⟩ (fun hHeld => ?_); refine with_tabW spec_IsValidDisk.tab4 spec_IsValidDisk.bits4 (fun HT_ HW_ => ?_)
      generalize wr.drew = w49 at BK285 HB HR288_1 hx288_0 hx288_1 hx288_2 hx288_3 hHeld ⊢
      refine pq 0 11 HT_ ?_
      refine pq 2 13 HT_ ?_
      refine pq 6 17 HT_ ?_
      refine tq 1 12 HT_ HW_ hHeld ?_
      refine pq 3 14 HT_ ?_
      refine pq 4 15 HT_ ?_
      refine tq 5 16 HT_ HW_ hHeld ?_
      refine tq 7 18 HT_ HW_ hHeld ?_
      refine pq 8 19 HT_ ?_
      refine on_ 9 (some 20) HT_ (fun K hK => ?_); refine gs_ Try.func88 #[.int .i64 ((rd_T80 l0_0 x3_1).f0), .int .i64 0, .int .i64 (wrap64 (a0_1 - 1))] ?_; with_reducible refine (spec_l1In.calls ((rd_T80 l0_0 x3_1).f0) 0 (wrap64 (a0_1 - 1)) false _ A5.out).mono ?_
      rintro e w' ⟨rfl, ⟨nd, rfl⟩⟩; refine ⟨_, rfl, ?_⟩; refine hK.out _ _ ⟨(blk_cell BK285.out 0).trans rfl, (blk_cell BK285.out 1).trans rfl, (kc HB.out hw288_0), (kc HB.out hw288_1), (kc HB.out hw288_2), (kc HB.out hw288_3)⟩ (fun hHeld => ?_); clear hK K; refine nm_ (some 20) ?_
      refine pq 10 21 HT_ ?_
      refine pq 11 22 HT_ ?_
      refine uq 12 23 HT_ ?_
      refine uq 13 24 HT_ ?_
      refine uq 14 25 HT_ ?_
      refine uq 15 26 HT_ ?_
      refine uq 16 27 HT_ ?_
      refine uq 17 28 HT_ ?_
      refine uq 18 29 HT_ ?_
      refine uq 19 30 HT_ ?_
      refine uq 20 31 HT_ ?_
      refine uq 21 32 HT_ ?_
      refine uq 22 33 HT_ ?_
      refine uq 23 34 HT_ ?_
      refine uq 24 35 HT_ ?_
      refine uq 25 36 HT_ ?_
      refine uq 26 37 HT_ ?_
      refine uq 27 38 HT_ ?_
      refine uq 28 39 HT_ ?_
      refine uq 29 40 HT_ ?_
      refine pq 30 41 HT_ ?_
      refine pq 31 42 HT_ ?_
      refine uq 32 43 HT_ ?_
      refine uq 33 44 HT_ ?_
      refine uq 34 45 HT_ ?_
      refine uq 35 46 HT_ ?_
      refine uq 36 47 HT_ ?_
      refine uq 37 48 HT_ ?_
      refine uq 38 49 HT_ ?_
      refine uq 39 50 HT_ ?_
      refine pq 40 51 HT_ ?_
      refine pq 41 52 HT_ ?_
      refine uq 42 53 HT_ ?_
      refine uq 43 54 HT_ ?_
      refine uq 44 55 HT_ ?_
      refine uq 45 56 HT_ ?_
      refine uq 46 57 HT_ ?_
      refine uq 47 58 HT_ ?_
      refine uq 48 59 HT_ ?_
      refine uq 49 60 HT_ ?_
      refine uq 50 61 HT_ ?_
      refine uq 51 62 HT_ ?_
      refine uq 52 63 HT_ ?_
      refine uq 53 64 HT_ ?_
      refine uq 54 65 HT_ ?_
      refine uq 55 66 HT_ ?_
      refine uq 56 67 HT_ ?_
      refine uq 57 68 HT_ ?_
      refine pq 58 69 HT_ ?_
      refine done_ (done_of HT_.out (by kernel_rfl)) ?_
      try go_wp2
      go_ret; exact ⟨er, bb⟩
    ·rw [if_neg c4] at H; exact absurd H (by simp)
   ·rw [if_neg c3] at H; have c3b0 : decide (x3_1 < (l0_0.length : Int)) = false := decide_eq_false c3; clear c3; replace H := Option.bind_eq_some_iff.mp H; obtain ⟨t286, A500, H⟩ := H; replace H : (if t286 = true then ((spec_CountPages.f k1 l0_0 a0_1).bind fun t287 => (some (decide (t287 ≤ 40)))) else (some false)) = some r := H; have A50 := kp A500; clear A500
    by_cases c51 : t286 = true
    ·subst c51; have H1 : ((spec_CountPages.f k1 l0_0 a0_1).bind fun t287 => (some (decide (t287 ≤ 40)))) = some r := by rw [if_pos rfl] at H; exact H
     clear H; have H := H1; clear H1; replace H := Option.bind_eq_some_iff.mp H; obtain ⟨t287, A520, H⟩ := H; replace H : (some (decide (t287 ≤ 40))) = some r := H; have A52 := kp A520; clear A520; obtain rfl := Option.some.inj H; have hcz53_0 : wr.cell? ⟨gb285, 0, none⟩ = some (.slice A0_0 l0_0.length c0_0) := (blk_cell BK285.out 0).trans rfl; have hcz53_1 : wr.cell? ⟨gb285, 1, none⟩ = some (.int .i64 a0_1) := (blk_cell BK285.out 1).trans rfl; have hfz53_0 := blk_frozen BK285.out 0; have hfz53_1 := blk_frozen BK285.out 1
     go_wp2_with (first | ((with_reducible refine gate_callee (f := 88) rfl ?_); refine gl_ 72 Try.func88 #[.int .i64 a0_1, .int .i64 0, .int .i64 1000] ?_; (with_reducible refine (spec_l1In.calls a0_1 0 1000 true _ A50.out).mono ?_); rintro e w' ⟨rfl, ⟨nd, rfl⟩⟩; refine ⟨_, rfl, ?_⟩) | (go_at_call 76; (with_reducible refine (spec_CountPages.calls k1 _ _ l0_0 a0_1 t287 _ ?side1 ?side2 A52.out).mono ?_); (case side1 => repeat (first | exact (Kd.C_below HR0_0.out bb) | (with_reducible refine Kd.C_alloc ?_ _) | (with_reducible refine Kd.C_drewN ?_ _) | (with_reducible refine Kd.C_drew ?_))); (case side2 => exact HC0_0.out); rintro e w54 ⟨rfl, hb⟩; have n0_ := kp (kb BK285.out hb); have n1_ := kp (below_step bb hb); clear BK285; clear HB; have BK285 := n0_; have HB := n1_; clear n0_ n1_; (try clear hb)))
     go_ret; exact ⟨er, bb⟩
    ·replace c51 := Bool.eq_false_iff.mpr c51; subst c51; have H1 : (some false) = some r := by rw [if_neg (show ¬ (false = true) by decide)] at H; exact H
     clear H; have H := H1; clear H1; obtain rfl := Option.some.inj H; have hcz55_0 : wr.cell? ⟨gb285, 0, none⟩ = some (.slice A0_0 l0_0.length c0_0) := (blk_cell BK285.out 0).trans rfl; have hcz55_1 : wr.cell? ⟨gb285, 1, none⟩ = some (.int .i64 a0_1) := (blk_cell BK285.out 1).trans rfl; have hfz55_0 := blk_frozen BK285.out 0; have hfz55_1 := blk_frozen BK285.out 1
     go_wp2_with (first | ((with_reducible refine gate_callee (f := 88) rfl ?_); refine gl_ 72 Try.func88 #[.int .i64 a0_1, .int .i64 0, .int .i64 1000] ?_; (with_reducible refine (spec_l1In.calls a0_1 0 1000 false _ A50.out).mono ?_); rintro e w' ⟨rfl, ⟨nd, rfl⟩⟩; refine ⟨_, rfl, ?_⟩))
     go_ret; exact ⟨er, bb⟩
end Go.Proofs.Ytinniedbgfgclaa.PFnExactAppendPage
