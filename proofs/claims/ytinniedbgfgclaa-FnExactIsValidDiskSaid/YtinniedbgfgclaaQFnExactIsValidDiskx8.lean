/- Out of the print of this law's functions, with the contracts of some of them proved otherwise; nothing is claimed here. -/
/- Out of the print of this law's functions, its regions' steps said shorter; nothing is claimed here. -/
import Derived.Test.YtinniedbgfgclaaQFnExactIsValidDiskx0
import Derived.Test.YtinniedbgfgclaaQFnExactIsValidDiskx7
import Derived.Test.YtinniedbgfgclaaShort
namespace Go.Proofs.Ytinniedbgfgclaa.PFnExactIsValidDisk
open Go.RowKit Go.Proofs.YtinniedbgfgclaaW.PrintWords Go.Proofs.YtinniedbgfgclaaW.PrintLast Go.Proofs.YtinniedbgfgclaaW.PrintMore Go.Proofs.Ytinniedbgfgclaa.Short
attribute [local go_sem] max2_int min2_int max_two min_two max_three min_three max_four min_four   -- for this text's walks alone
set_option linter.unusedVariables false
set_option linter.unusedSimpArgs false

/-! ### spec_IsValidDisk: function 46 -/
def spec_IsValidDisk.l0 : Nat → Int → List (S80) → Int → Option (Bool)
 | 0, _, _, _ => none
 | k + 1, x3, x230000, x230001 => if x3 < (x230000.length : Int) then (if 0 ≤ x3 then ((spec_l1In.f ((rd_T80 x230000 x3).f0) 0 (wrap64 (x230001 - 1))).bind fun t233 => (if t233 = true then (if x3 > 0 then (if 0 ≤ (wrap64 (x3 - 1)) then (if (wrap64 (x3 - 1)) < (x230000.length : Int) then (if ((rd_T80 x230000 x3).f0) ≤ ((rd_T80 x230000 (wrap64 (x3 - 1))).f0) then (some false) else ((spec_l4Pages.f k ((rd_T80 x230000 x3).f1)).bind fun t237 => (if t237 = true then (if ((rd_T80 x230000 x3).f3 = true) then (spec_IsValidDisk.l0 k (wrap64 (x3 + 1)) x230000 x230001) else (if ((rd_T80 x230000 x3).f2) = 0 then (spec_IsValidDisk.l0 k (wrap64 (x3 + 1)) x230000 x230001) else (some false))) else (some false)))) else (none)) else (none)) else ((spec_l4Pages.f k ((rd_T80 x230000 x3).f1)).bind fun t241 => (if t241 = true then (if ((rd_T80 x230000 x3).f3 = true) then (spec_IsValidDisk.l0 k (wrap64 (x3 + 1)) x230000 x230001) else (if ((rd_T80 x230000 x3).f2) = 0 then (spec_IsValidDisk.l0 k (wrap64 (x3 + 1)) x230000 x230001) else (some false))) else (some false)))) else (some false))) else (none)) else ((spec_l1In.f x230001 0 1000).bind fun t230 => (if t230 = true then ((spec_CountPages.f k x230000 x230001).bind fun t231 => (some (decide (t231 ≤ 40)))) else (some false)))
def spec_IsValidDisk.f (k : Nat) (l0_0 : List (S80)) (a0_1 : Int) : Option (Bool) := spec_IsValidDisk.l0 k 0 l0_0 a0_1
theorem spec_IsValidDisk.mono_l : ∀ k, (∀ y0 y1 y2, LeO (spec_IsValidDisk.l0 k y0 y1 y2) (spec_IsValidDisk.l0 (k + 1) y0 y1 y2))
 | 0 => fun _ _ _ r h => by simp [spec_IsValidDisk.l0] at h
 | k + 1 => by
  have ih0 := spec_IsValidDisk.mono_l k
  ·intro y0 y1 y2
   unfold spec_IsValidDisk.l0
   repeat' first
   | (with_reducible exact ih0 _ _ _)
   | (with_reducible exact spec_CountPages.mono _ _ _)
   | (with_reducible exact spec_l4Pages.mono _ _)
   | (with_reducible exact LeO.refl _)
   | (with_reducible exact LeO.none _)
   | (with_reducible refine LeO.ite ?_ ?_)
   | (with_reducible refine LeO.bind ?_ (fun _ => ?_))
   | exact ih0 _ _ _
   | exact spec_CountPages.mono _ _ _
   | exact spec_l4Pages.mono _ _
   | exact LeO.none _
   | refine LeO.ite ?_ ?_
   | refine LeO.bind ?_ (fun _ => ?_)
theorem spec_IsValidDisk.mono : ∀ a0 a1 k, LeO (spec_IsValidDisk.f k a0 a1) (spec_IsValidDisk.f (k + 1) a0 a1) := by
 intro a0 a1 k
 have ih0 := spec_IsValidDisk.mono_l k
 unfold spec_IsValidDisk.f
 repeat' first
   | (with_reducible exact ih0 _ _ _)
   | (with_reducible exact spec_CountPages.mono _ _ _)
   | (with_reducible exact spec_l4Pages.mono _ _)
   | (with_reducible exact LeO.refl _)
   | (with_reducible exact LeO.none _)
   | (with_reducible refine LeO.ite ?_ ?_)
   | (with_reducible refine LeO.bind ?_ (fun _ => ?_))
   | exact ih0 _ _ _
   | exact spec_CountPages.mono _ _ _
   | exact spec_l4Pages.mono _ _
   | exact LeO.none _
   | refine LeO.ite ?_ ?_
   | refine LeO.bind ?_ (fun _ => ?_)
def spec_IsValidDisk.T4 : Bool × List (List Nat × List Nat) := (true, [([], []), ([0], [0]), ([], []), ([1, 2], [1, 2]), ([3], [3]), ([4], [4]), ([], []), ([6], [6]), ([7], [7]), ([5, 8], [5, 8]), ([9], [9]), ([10, 9], [10]), ([11], [11]), ([12, 11], [11, 12]), ([13, 11, 11], [11, 13]), ([14], [14]), ([15, 14], [14, 15]), ([14], [14]), ([16, 17, 14], [14, 16, 17]), ([18, 14], [14, 18]), ([19, 14], [14, 19]), ([14], [14]), ([21, 14], [14, 21]), ([14], [14]), ([23, 14], [14, 23]), ([22, 24, 14], [14, 22, 24]), ([25, 14], [14, 25]), ([26, 14], [14, 26]), ([20, 27, 14], [14, 20, 27]), ([14, 28, 11], [11, 14, 28]), ([11, 29], [11, 29]), ([30, 14], [30]), ([31], [31]), ([32, 31], [31, 32]), ([31], [31]), ([33, 34, 31], [31, 33, 34]), ([35, 31], [31, 35]), ([36, 31], [31, 36]), ([37, 31, 31], [31, 37]), ([38, 31], [31, 38]), ([31, 39], [31, 39]), ([40, 38], [40]), ([41], [41]), ([42, 41], [41, 42]), ([41], [41]), ([43, 44, 41], [41, 43, 44]), ([45, 41], [41, 45]), ([46, 41], [41, 46]), ([47, 41], [41, 47]), ([48, 41, 41], [41, 48]), ([49], [49]), ([50, 49], [49, 50]), ([49], [49]), ([51, 52, 49], [49, 51, 52]), ([53, 49], [49, 53]), ([54, 49], [49, 54]), ([55, 49], [49, 55]), ([49, 56, 41], [41, 49, 56]), ([41, 57], [41, 57])])
def spec_IsValidDisk.B4 : List Nat := [0, 1, 0, 7, 15, 31, 0, 64, 192, 511, 1023, 2047, 4095, 8191, 16383, 32767, 65535, 32767, 262143, 524287, 1048575, 32767, 2129919, 32767, 8421375, 31490047, 65044479, 132153343, 268435455, 536870911, 1073741823, 2147483647, 4294967295, 8589934591, 4294967295, 34359738367, 68719476735, 137438953471, 274877906943, 549755813887, 1099511627775, 2199023255551, 4398046511103, 8796093022207, 4398046511103, 35184372088831, 70368744177663, 140737488355327, 281474976710655, 562949953421311, 1125899906842623, 2251799813685247, 1125899906842623, 9007199254740991, 18014398509481983, 36028797018963967, 72057594037927935, 144115188075855871, 288230376151711743]
theorem spec_IsValidDisk.tab4 : rtab .any (opsOf Try.f46 4) = spec_IsValidDisk.T4 := by kernel_rfl
theorem spec_IsValidDisk.bits4 : waitsOk spec_IsValidDisk.T4.2 spec_IsValidDisk.B4 = true := by kernel_rfl
set_option maxHeartbeats 8000000 in
set_option maxRecDepth 100000 in
theorem spec_IsValidDisk.calls (k : Nat) (A0_0 : Option Addr) (c0_0 : Nat) (l0_0 : List (S80)) (a0_1 : Int) (r : Bool) (w : World) (hr0_0 : Kd.C k80 w A0_0 l0_0.length l0_0) (hc0_0 : l0_0.length ≤ c0_0) (h : spec_IsValidDisk.f k l0_0 a0_1 = some r) :
  Calls Try.prog 46 #[.agg #[.slice A0_0 l0_0.length c0_0, .int .i64 a0_1]] w fun e w' => e = .returned (.bool r) ∧ Below w.heap.size w w' := by
 have hu28 := Try.underlying28
 have HR0_0 := Aside0.mk hr0_0
 have HC0_0 := Aside0.mk hc0_0
 clear hr0_0 hc0_0
 have HB := Aside0.mk (Below.refl w.heap.size w)
 have H : (spec_IsValidDisk.l0 k 0 l0_0 a0_1) = some r := h
 clear h
 have H' := Aside0.mk H
 clear H
 go_enter Try.func46, Try.ntmps46
 go_wp2_with (first | ((with_reducible refine gate_dst (N := 1) rfl ?_); refine box_event ?hg (N := 1) ?hd (cs := #[.slice A0_0 l0_0.length c0_0, .int .i64 a0_1]) (t := 28) ?hr ?_; (case hd => rfl); (case hg => rfl); (case hr => first | (go_simp; done) | (go_simp; rfl)); intro gb229 hg w2 hbox hb; have n0_ := Aside0.mk (below_step (by repeat (first | (with_reducible first | exact HB.out | apply cA | apply cN | apply cD) | exact HB.out)) hb); have n1_ := Aside0.mk (hbox); have n2_ := Aside0.mk ((by rw [hg]; exact (below_size (by repeat (first | (with_reducible first | exact HB.out | apply cA | apply cN | apply cD) | exact HB.out))) : w.heap.size ≤ gb229)); have n3_ := Aside0.mk ((by rw [hg]; exact (below_size (by repeat (first | (with_reducible first | exact HB.out | apply cA | apply cN | apply cD) | exact HB.out))) : w.heap.size ≤ gb229)); clear HB; have HB := n0_; have BK229 := n1_; have GW229 := n2_; have GE229 := n3_; clear n0_ n1_ n2_ n3_; clear hb hbox hg))
 go_loopg [3] k (fun kq v3 w' => ∃ (x3_1 : Int), v3 = .int .i64 x3_1 ∧ Aside0 (spec_IsValidDisk.l0 kq x3_1 l0_0 a0_1 = some r) ∧ Aside0 (kq ≤ k) ∧ Aside0 (w'.heap[gb229]? = some (.cells #[(.slice A0_0 l0_0.length c0_0), .int .i64 a0_1] 28 (0, 0))) ∧ Aside0 (Below w.heap.size w w'))
 case atStart => exact ⟨(0), (by first | rfl | (simp; done) | (simp [*]; done)), H', ⟨Nat.le_refl _⟩, ⟨by (with_reducible repeat (first | apply bN | apply bD | apply bA)); exact BK229.out⟩, ⟨by repeat (first | (with_reducible first | exact HB.out | apply cA | apply cN | apply cD | refine below_set ?_ GE229.out) | exact HB.out)⟩⟩
 case round =>
  clear H'
  try clear p2
  obtain ⟨x3_1, rfl, HA, HK1, BK229, HB⟩ := hrel
  cases gk with
  | zero => exact absurd HA.out (by simp [spec_IsValidDisk.l0])
  | succ k1 =>
   have H := HA.out
   clear HA
   simp only [spec_IsValidDisk.l0] at H
   by_cases c3 : x3_1 < (l0_0.length : Int)
   ·rw [if_pos c3] at H
    have c3b0 : decide (x3_1 < (l0_0.length : Int)) = true := decide_eq_true c3
    clear c3
    by_cases c4 : 0 ≤ x3_1
    ·rw [if_pos c4] at H
     have c4b0 : decide (0 ≤ x3_1) = true := decide_eq_true c4
     clear c4
     replace H := Option.bind_eq_some_iff.mp H
     obtain ⟨t233, A50, H⟩ := H
     replace H : (if t233 = true then (if x3_1 > 0 then (if 0 ≤ (wrap64 (x3_1 - 1)) then (if (wrap64 (x3_1 - 1)) < (l0_0.length : Int) then (if ((rd_T80 l0_0 x3_1).f0) ≤ ((rd_T80 l0_0 (wrap64 (x3_1 - 1))).f0) then (some false) else ((spec_l4Pages.f k1 ((rd_T80 l0_0 x3_1).f1)).bind fun t237 => (if t237 = true then (if ((rd_T80 l0_0 x3_1).f3 = true) then (spec_IsValidDisk.l0 k1 (wrap64 (x3_1 + 1)) l0_0 a0_1) else (if ((rd_T80 l0_0 x3_1).f2) = 0 then (spec_IsValidDisk.l0 k1 (wrap64 (x3_1 + 1)) l0_0 a0_1) else (some false))) else (some false)))) else (none)) else (none)) else ((spec_l4Pages.f k1 ((rd_T80 l0_0 x3_1).f1)).bind fun t241 => (if t241 = true then (if ((rd_T80 l0_0 x3_1).f3 = true) then (spec_IsValidDisk.l0 k1 (wrap64 (x3_1 + 1)) l0_0 a0_1) else (if ((rd_T80 l0_0 x3_1).f2) = 0 then (spec_IsValidDisk.l0 k1 (wrap64 (x3_1 + 1)) l0_0 a0_1) else (some false))) else (some false)))) else (some false)) = some r := H
     have A5 := Aside0.mk A50
     clear A50
     by_cases c6 : t233 = true
     ·subst c6
      have H1 : (if x3_1 > 0 then (if 0 ≤ (wrap64 (x3_1 - 1)) then (if (wrap64 (x3_1 - 1)) < (l0_0.length : Int) then (if ((rd_T80 l0_0 x3_1).f0) ≤ ((rd_T80 l0_0 (wrap64 (x3_1 - 1))).f0) then (some false) else ((spec_l4Pages.f k1 ((rd_T80 l0_0 x3_1).f1)).bind fun t237 => (if t237 = true then (if ((rd_T80 l0_0 x3_1).f3 = true) then (spec_IsValidDisk.l0 k1 (wrap64 (x3_1 + 1)) l0_0 a0_1) else (if ((rd_T80 l0_0 x3_1).f2) = 0 then (spec_IsValidDisk.l0 k1 (wrap64 (x3_1 + 1)) l0_0 a0_1) else (some false))) else (some false)))) else (none)) else (none)) else ((spec_l4Pages.f k1 ((rd_T80 l0_0 x3_1).f1)).bind fun t241 => (if t241 = true then (if ((rd_T80 l0_0 x3_1).f3 = true) then (spec_IsValidDisk.l0 k1 (wrap64 (x3_1 + 1)) l0_0 a0_1) else (if ((rd_T80 l0_0 x3_1).f2) = 0 then (spec_IsValidDisk.l0 k1 (wrap64 (x3_1 + 1)) l0_0 a0_1) else (some false))) else (some false)))) = some r := by rw [if_pos rfl] at H; exact H
      clear H
      have H := H1
      clear H1
      by_cases c7 : x3_1 > 0
      ·rw [if_pos c7] at H
       have c7b0 : decide (0 < x3_1) = true := decide_eq_true c7
       clear c7
       obtain ⟨ji8, hji8⟩ : ∃ j_ : Int, (wrap64 (x3_1 - 1)) = j_ := ⟨_, rfl⟩
       replace H : (if 0 ≤ (ji8) then (if (ji8) < (l0_0.length : Int) then (if ((rd_T80 l0_0 x3_1).f0) ≤ ((rd_T80 l0_0 (ji8)).f0) then (some false) else ((spec_l4Pages.f k1 ((rd_T80 l0_0 x3_1).f1)).bind fun t237 => (if t237 = true then (if ((rd_T80 l0_0 x3_1).f3 = true) then (spec_IsValidDisk.l0 k1 (wrap64 (x3_1 + 1)) l0_0 a0_1) else (if ((rd_T80 l0_0 x3_1).f2) = 0 then (spec_IsValidDisk.l0 k1 (wrap64 (x3_1 + 1)) l0_0 a0_1) else (some false))) else (some false)))) else (none)) else (none)) = some r := by first | (rw [hji8] at H; exact H) | (simp only [hji8] at H ⊢; exact H)
       (try rw [hji8] at A5)
       have hji8w : (IntKind.i64.wrap (x3_1 - 1)) = ji8 := (i64_w _).trans hji8
       by_cases c9 : 0 ≤ (ji8)
       ·rw [if_pos c9] at H
        have c9b0 : decide (0 ≤ (ji8)) = true := decide_eq_true c9
        clear c9
        by_cases c10 : (ji8) < (l0_0.length : Int)
        ·rw [if_pos c10] at H
         have c10b0 : decide ((ji8) < (l0_0.length : Int)) = true := decide_eq_true c10
         clear c10
         by_cases c11 : ((rd_T80 l0_0 x3_1).f0) ≤ ((rd_T80 l0_0 (ji8)).f0)
         ·rw [if_pos c11] at H
          have c11b0 : decide (((rd_T80 l0_0 x3_1).f0) ≤ ((rd_T80 l0_0 (ji8)).f0)) = true := decide_eq_true c11
          clear c11
          obtain rfl := Option.some.inj H
          have hcz12_0 : wr.cell? ⟨gb229, 0, none⟩ = some (.slice A0_0 l0_0.length c0_0) := (blk_cell BK229.out 0).trans rfl
          have hcz12_1 : wr.cell? ⟨gb229, 1, none⟩ = some (.int .i64 a0_1) := (blk_cell BK229.out 1).trans rfl
          have hfz12_0 := blk_frozen BK229.out 0
          have hfz12_1 := blk_frozen BK229.out 1
          try go_wp2
          have n0_ := Aside0.mk (blk_drew BK229.out)
          have n1_ := Aside0.mk (below_drew1 HB.out)
          clear BK229
          clear HB
          have BK229 := n0_
          have HB := n1_
          clear n0_ n1_
          have p232 : 0 ≤ (x3_1 : Int) := of_decide_eq_true (by first | (with_reducible assumption) | assumption)
          have q232 : x3_1 < (l0_0.length : Int) := of_decide_eq_true (by first | (with_reducible assumption) | assumption)
          obtain ⟨ad232, A232_1, c232_1, e232, hx232_0, hx232_1, hx232_2, hx232_3, hl232_1, hi232_1⟩ := at_T80 HR0_0.out x3_1 p232 q232
          have hw232_3 := hx232_3
          have hw232_2 := hx232_2
          have hw232_1 := hx232_1
          have hw232_0 := hx232_0
          cases e232
          replace hx232_0 := (HB.out.cell (World.block_lt_of_cell? w _ hx232_0)).trans hx232_0
          replace hx232_1 := (HB.out.cell (World.block_lt_of_cell? w _ hx232_1)).trans hx232_1
          replace hx232_2 := (HB.out.cell (World.block_lt_of_cell? w _ hx232_2)).trans hx232_2
          replace hx232_3 := (HB.out.cell (World.block_lt_of_cell? w _ hx232_3)).trans hx232_3
          have HR232_1 := Aside0.mk hi232_1
          have HC232_1 := Aside0.mk hl232_1
          clear hi232_1 hl232_1
          replace p232 := eq_true p232
          replace q232 := eq_true q232
          have p234 : 0 ≤ (x3_1 : Int) := of_decide_eq_true (by first | (with_reducible assumption) | assumption)
          have q234 : x3_1 < (l0_0.length : Int) := of_decide_eq_true (by first | (with_reducible assumption) | assumption)
          obtain ⟨ad234, A234_1, c234_1, e234, hx234_0, hx234_1, hx234_2, hx234_3, hl234_1, hi234_1⟩ := at_T80 HR0_0.out x3_1 p234 q234
          have hw234_3 := hx234_3
          have hw234_2 := hx234_2
          have hw234_1 := hx234_1
          have hw234_0 := hx234_0
          obtain rfl : ad232 = ad234 := (by injection e234)
          replace hx234_0 := (HB.out.cell (World.block_lt_of_cell? w _ hx234_0)).trans hx234_0
          replace hx234_1 := (HB.out.cell (World.block_lt_of_cell? w _ hx234_1)).trans hx234_1
          replace hx234_2 := (HB.out.cell (World.block_lt_of_cell? w _ hx234_2)).trans hx234_2
          replace hx234_3 := (HB.out.cell (World.block_lt_of_cell? w _ hx234_3)).trans hx234_3
          have HR234_1 := Aside0.mk hi234_1
          have HC234_1 := Aside0.mk hl234_1
          clear hi234_1 hl234_1
          replace p234 := eq_true p234
          replace q234 := eq_true q234
          have ea_ := Option.some.inj (hx232_1.symm.trans hx234_1)
          injection ea_ with ea_ en_ ec_
          subst ea_
          subst ec_
          clear en_
          have p235 : 0 ≤ ((ji8) : Int) := of_decide_eq_true (by first | (with_reducible assumption) | assumption)
          have q235 : (ji8) < (l0_0.length : Int) := of_decide_eq_true (by first | (with_reducible assumption) | assumption)
          obtain ⟨ad235, A235_1, c235_1, e235, hx235_0, hx235_1, hx235_2, hx235_3, hl235_1, hi235_1⟩ := at_T80 HR0_0.out (ji8) p235 q235
          have hw235_3 := hx235_3
          have hw235_2 := hx235_2
          have hw235_1 := hx235_1
          have hw235_0 := hx235_0
          obtain rfl : ad232 = ad235 := (by injection e235)
          replace hx235_0 := (HB.out.cell (World.block_lt_of_cell? w _ hx235_0)).trans hx235_0
          replace hx235_1 := (HB.out.cell (World.block_lt_of_cell? w _ hx235_1)).trans hx235_1
          replace hx235_2 := (HB.out.cell (World.block_lt_of_cell? w _ hx235_2)).trans hx235_2
          replace hx235_3 := (HB.out.cell (World.block_lt_of_cell? w _ hx235_3)).trans hx235_3
          have HR235_1 := Aside0.mk hi235_1
          have HC235_1 := Aside0.mk hl235_1
          clear hi235_1 hl235_1
          replace p235 := eq_true p235
          replace q235 := eq_true q235
          refine start_ (n := 59) (S := fun w' => w'.cell? ⟨gb229, 0, none⟩ = some (.slice (some ad232) l0_0.length c0_0) ∧ w'.cell? ⟨gb229, 1, none⟩ = some (.int .i64 a0_1) ∧ w'.cell? (ad232.add ((x3_1).toNat * 4)) = some (.int .i64 ((rd_T80 l0_0 x3_1).f0)) ∧ w'.cell? ⟨(ad232.add ((x3_1).toNat * 4)).block, (ad232.add ((x3_1).toNat * 4)).off + 1, none⟩ = some (.slice A232_1 ((rd_T80 l0_0 x3_1).f1).length c232_1) ∧ w'.cell? ⟨(ad232.add ((x3_1).toNat * 4)).block, (ad232.add ((x3_1).toNat * 4)).off + 2, none⟩ = some (.int .i64 ((rd_T80 l0_0 x3_1).f2)) ∧ w'.cell? ⟨(ad232.add ((x3_1).toNat * 4)).block, (ad232.add ((x3_1).toNat * 4)).off + 3, none⟩ = some (.bool ((rd_T80 l0_0 x3_1).f3)) ∧ w'.cell? (ad232.add ((x3_1).toNat * 4)) = some (.int .i64 ((rd_T80 l0_0 x3_1).f0)) ∧ w'.cell? ⟨(ad232.add ((x3_1).toNat * 4)).block, (ad232.add ((x3_1).toNat * 4)).off + 1, none⟩ = some (.slice A232_1 ((rd_T80 l0_0 x3_1).f1).length c232_1) ∧ w'.cell? ⟨(ad232.add ((x3_1).toNat * 4)).block, (ad232.add ((x3_1).toNat * 4)).off + 2, none⟩ = some (.int .i64 ((rd_T80 l0_0 x3_1).f2)) ∧ w'.cell? ⟨(ad232.add ((x3_1).toNat * 4)).block, (ad232.add ((x3_1).toNat * 4)).off + 3, none⟩ = some (.bool ((rd_T80 l0_0 x3_1).f3)) ∧ w'.cell? (ad232.add (((ji8)).toNat * 4)) = some (.int .i64 ((rd_T80 l0_0 (ji8)).f0)) ∧ w'.cell? ⟨(ad232.add (((ji8)).toNat * 4)).block, (ad232.add (((ji8)).toNat * 4)).off + 1, none⟩ = some (.slice A235_1 ((rd_T80 l0_0 (ji8)).f1).length c235_1) ∧ w'.cell? ⟨(ad232.add (((ji8)).toNat * 4)).block, (ad232.add (((ji8)).toNat * 4)).off + 2, none⟩ = some (.int .i64 ((rd_T80 l0_0 (ji8)).f2)) ∧ w'.cell? ⟨(ad232.add (((ji8)).toNat * 4)).block, (ad232.add (((ji8)).toNat * 4)).off + 3, none⟩ = some (.bool ((rd_T80 l0_0 (ji8)).f3))) (ds := []) #[false, false, false, false, false, false, false, false, false, false, false, false, false, false, false, false, false, false, false, false, false, false, false, false, false, false, false, false, false, false, false, false, false, false, false, false, false, false, false, false, false, false, false, false, false, false, false, false, false, false, false, false, false, false, false, false, false, false, false] (by kernel_rfl) rfl rfl ⟨(blk_cell BK229.out 0).trans rfl, (blk_cell BK229.out 1).trans rfl, ((HB.out.cell (World.block_lt_of_cell? w _ hw232_0)).trans hw232_0), ((HB.out.cell (World.block_lt_of_cell? w _ hw232_1)).trans hw232_1), ((HB.out.cell (World.block_lt_of_cell? w _ hw232_2)).trans hw232_2), ((HB.out.cell (World.block_lt_of_cell? w _ hw232_3)).trans hw232_3), ((HB.out.cell (World.block_lt_of_cell? w _ hw234_0)).trans hw234_0), ((HB.out.cell (World.block_lt_of_cell? w _ hw234_1)).trans hw234_1), ((HB.out.cell (World.block_lt_of_cell? w _ hw234_2)).trans hw234_2), ((HB.out.cell (World.block_lt_of_cell? w _ hw234_3)).trans hw234_3), ((HB.out.cell (World.block_lt_of_cell? w _ hw235_0)).trans hw235_0), ((HB.out.cell (World.block_lt_of_cell? w _ hw235_1)).trans hw235_1), ((HB.out.cell (World.block_lt_of_cell? w _ hw235_2)).trans hw235_2), ((HB.out.cell (World.block_lt_of_cell? w _ hw235_3)).trans hw235_3)⟩ (fun hHeld => ?_); refine with_tabW spec_IsValidDisk.tab4 spec_IsValidDisk.bits4 (fun HT_ HW_ => ?_)
          generalize wr.drew = w13 at BK229 HB HR232_1 HR234_1 HR235_1 hx232_0 hx232_1 hx232_2 hx232_3 hx234_0 hx234_1 hx234_2 hx234_3 hx235_0 hx235_1 hx235_2 hx235_3 hHeld ⊢
          refine pu_ 0 (some 11) HT_ (h := ?_)
          refine pu_ 2 (some 13) HT_ (h := ?_)
          refine pu_ 6 (some 17) HT_ (h := ?_)
          refine ta_ 1 (some 12) HT_ HW_ hHeld (h := ?_)
          refine pu_ 3 (some 14) HT_ (h := ?_)
          refine pu_ 4 (some 15) HT_ (h := ?_)
          refine ta_ 5 (some 16) HT_ HW_ hHeld (h := ?_)
          refine ta_ 7 (some 18) HT_ HW_ hHeld (h := ?_)
          refine pu_ 8 (some 19) HT_ (h := ?_)
          refine one_ (i := 9) (N := some 20) #[true, true, true, true, true, true, true, true, true, true, false, false, false, false, false, false, false, false, false, false, false, false, false, false, false, false, false, false, false, false, false, false, false, false, false, false, false, false, false, false, false, false, false, false, false, false, false, false, false, false, false, false, false, false, false, false, false, false, false] rfl rfl (one_of HT_.out (by kernel_rfl)) (by decide) (fun K hK => ?_)
          refine goes_ Try.func88 (by kernel_rfl) rfl #[.int .i64 ((rd_T80 l0_0 x3_1).f0), .int .i64 0, .int .i64 (wrap64 (a0_1 - 1))] (by rfl) rfl rfl (by (try simp only [mA, mC, mN]); first | done | rfl | (simp only [lD, lT]; rfl)) ?_
          with_reducible refine (spec_l1In.calls ((rd_T80 l0_0 x3_1).f0) 0 (wrap64 (a0_1 - 1)) true _ A5.out).mono ?_
          rintro e w' ⟨rfl, ⟨nd, rfl⟩⟩
          refine ⟨_, rfl, ?_⟩
          refine hK.out _ _ ⟨(blk_cell BK229.out 0).trans rfl, (blk_cell BK229.out 1).trans rfl, ((HB.out.cell (World.block_lt_of_cell? w _ hw232_0)).trans hw232_0), ((HB.out.cell (World.block_lt_of_cell? w _ hw232_1)).trans hw232_1), ((HB.out.cell (World.block_lt_of_cell? w _ hw232_2)).trans hw232_2), ((HB.out.cell (World.block_lt_of_cell? w _ hw232_3)).trans hw232_3), ((HB.out.cell (World.block_lt_of_cell? w _ hw234_0)).trans hw234_0), ((HB.out.cell (World.block_lt_of_cell? w _ hw234_1)).trans hw234_1), ((HB.out.cell (World.block_lt_of_cell? w _ hw234_2)).trans hw234_2), ((HB.out.cell (World.block_lt_of_cell? w _ hw234_3)).trans hw234_3), ((HB.out.cell (World.block_lt_of_cell? w _ hw235_0)).trans hw235_0), ((HB.out.cell (World.block_lt_of_cell? w _ hw235_1)).trans hw235_1), ((HB.out.cell (World.block_lt_of_cell? w _ hw235_2)).trans hw235_2), ((HB.out.cell (World.block_lt_of_cell? w _ hw235_3)).trans hw235_3)⟩ (fun hHeld => ?_)
          clear hK K
          refine norm_ (a' := ?_) ?_ ?_
          rotate_left
          ·show Act.put _ (some 20) _ = _
           simp only [Act.put, List.setIfInBounds_toArray, List.set_cons_zero, List.set_cons_succ, i64_w, i32_w]
           rfl
          refine pu_ 10 (some 21) HT_ (h := ?_)
          refine pu_ 11 (some 22) HT_ (h := ?_)
          refine pu_ 12 (some 23) HT_ (h := ?_)
          refine pu_ 13 (some 24) HT_ (h := ?_)
          refine pu_ 14 (some 25) HT_ (h := ?_)
          refine pu_ 15 (some 26) HT_ (h := ?_)
          refine pu_ 17 (some 28) HT_ (h := ?_)
          refine pu_ 21 (some 32) HT_ (h := ?_)
          refine pu_ 23 (some 34) HT_ (h := ?_)
          refine pu_ 24 (some 35) HT_ (h := ?_)
          refine ta_ 16 (some 27) HT_ HW_ hHeld (h := ?_)
          refine pu_ 18 (some 29) HT_ (h := ?_)
          refine pu_ 19 (some 30) HT_ (h := ?_)
          refine ta_ 20 (some 31) HT_ HW_ hHeld (h := ?_)
          refine ta_ 22 (some 33) HT_ HW_ hHeld (h := ?_)
          refine pu_ 25 (some 36) HT_ (h := ?_)
          refine pu_ 26 (some 37) HT_ (h := ?_)
          refine ta_ 27 (some 38) HT_ HW_ hHeld (h := ?_)
          refine pu_ 28 (some 39) HT_ (h := ?_)
          refine pu_ 29 (some 40) HT_ (h := ?_)
          refine pu_ 30 (some 41) HT_ (h := ?_)
          refine pu_ 31 (some 42) HT_ (h := ?_)
          refine un_ 32 (some 43) HT_ (h := ?_)
          refine un_ 33 (some 44) HT_ (h := ?_)
          refine un_ 34 (some 45) HT_ (h := ?_)
          refine un_ 35 (some 46) HT_ (h := ?_)
          refine un_ 36 (some 47) HT_ (h := ?_)
          refine un_ 37 (some 48) HT_ (h := ?_)
          refine un_ 38 (some 49) HT_ (h := ?_)
          refine un_ 39 (some 50) HT_ (h := ?_)
          refine pu_ 40 (some 51) HT_ (h := ?_)
          refine pu_ 41 (some 52) HT_ (h := ?_)
          refine un_ 42 (some 53) HT_ (h := ?_)
          refine un_ 43 (some 54) HT_ (h := ?_)
          refine un_ 44 (some 55) HT_ (h := ?_)
          refine un_ 45 (some 56) HT_ (h := ?_)
          refine un_ 46 (some 57) HT_ (h := ?_)
          refine un_ 47 (some 58) HT_ (h := ?_)
          refine un_ 48 (some 59) HT_ (h := ?_)
          refine un_ 49 (some 60) HT_ (h := ?_)
          refine un_ 50 (some 61) HT_ (h := ?_)
          refine un_ 51 (some 62) HT_ (h := ?_)
          refine un_ 52 (some 63) HT_ (h := ?_)
          refine un_ 53 (some 64) HT_ (h := ?_)
          refine un_ 54 (some 65) HT_ (h := ?_)
          refine un_ 55 (some 66) HT_ (h := ?_)
          refine un_ 56 (some 67) HT_ (h := ?_)
          refine un_ 57 (some 68) HT_ (h := ?_)
          refine pu_ 58 (some 69) HT_ (h := ?_)
          refine done_ (done_of HT_.out (by kernel_rfl)) ?_
          try go_wp2
          go_ret
          exact ⟨by first | rfl | (simp [errW_none, errW_some] <;> rfl) | (simp only [← hji8]; first | rfl | (simp [errW_none, errW_some] <;> rfl)) | (simp [*, errW_none, errW_some] <;> rfl), by repeat (first | (with_reducible first | exact HB.out | apply cA | apply cN | apply cD | refine below_set ?_ GE229.out) | exact HB.out)⟩
         ·rw [if_neg c11] at H
          have c11b0 : decide (((rd_T80 l0_0 x3_1).f0) ≤ ((rd_T80 l0_0 (ji8)).f0)) = false := decide_eq_false c11
          clear c11
          replace H := Option.bind_eq_some_iff.mp H
          obtain ⟨t237, A140, H⟩ := H
          replace H : (if t237 = true then (if ((rd_T80 l0_0 x3_1).f3 = true) then (spec_IsValidDisk.l0 k1 (wrap64 (x3_1 + 1)) l0_0 a0_1) else (if ((rd_T80 l0_0 x3_1).f2) = 0 then (spec_IsValidDisk.l0 k1 (wrap64 (x3_1 + 1)) l0_0 a0_1) else (some false))) else (some false)) = some r := H
          have A14 := Aside0.mk A140
          clear A140
          by_cases c15 : t237 = true
          ·subst c15
           have H1 : (if ((rd_T80 l0_0 x3_1).f3 = true) then (spec_IsValidDisk.l0 k1 (wrap64 (x3_1 + 1)) l0_0 a0_1) else (if ((rd_T80 l0_0 x3_1).f2) = 0 then (spec_IsValidDisk.l0 k1 (wrap64 (x3_1 + 1)) l0_0 a0_1) else (some false))) = some r := by rw [if_pos rfl] at H; exact H
           clear H
           have H := H1
           clear H1
           obtain ⟨bq16, hbq16⟩ : ∃ b_ : Bool, b_ = ((rd_T80 l0_0 x3_1).f3) := ⟨_, rfl⟩
           replace H : (if (bq16 = true) then (spec_IsValidDisk.l0 k1 (wrap64 (x3_1 + 1)) l0_0 a0_1) else (if ((rd_T80 l0_0 x3_1).f2) = 0 then (spec_IsValidDisk.l0 k1 (wrap64 (x3_1 + 1)) l0_0 a0_1) else (some false))) = some r := by rw [← hbq16] at H; exact H
           have Nbq16 := Aside0.mk hbq16
           clear hbq16
           by_cases c17 : (bq16 = true)
           ·subst c17
            have H1 : (spec_IsValidDisk.l0 k1 (wrap64 (x3_1 + 1)) l0_0 a0_1) = some r := by rw [if_pos rfl] at H; exact H
            clear H
            have H := H1
            clear H1
            have H' := Aside0.mk H
            clear H
            have hcz18_0 : wr.cell? ⟨gb229, 0, none⟩ = some (.slice A0_0 l0_0.length c0_0) := (blk_cell BK229.out 0).trans rfl
            have hcz18_1 : wr.cell? ⟨gb229, 1, none⟩ = some (.int .i64 a0_1) := (blk_cell BK229.out 1).trans rfl
            have hfz18_0 := blk_frozen BK229.out 0
            have hfz18_1 := blk_frozen BK229.out 1
            try go_wp2
            have n0_ := Aside0.mk (blk_drew BK229.out)
            have n1_ := Aside0.mk (below_drew1 HB.out)
            clear BK229
            clear HB
            have BK229 := n0_
            have HB := n1_
            clear n0_ n1_
            have p232 : 0 ≤ (x3_1 : Int) := of_decide_eq_true (by first | (with_reducible assumption) | assumption)
            have q232 : x3_1 < (l0_0.length : Int) := of_decide_eq_true (by first | (with_reducible assumption) | assumption)
            obtain ⟨ad232, A232_1, c232_1, e232, hx232_0, hx232_1, hx232_2, hx232_3, hl232_1, hi232_1⟩ := at_T80 HR0_0.out x3_1 p232 q232
            have hw232_3 := hx232_3
            have hw232_2 := hx232_2
            have hw232_1 := hx232_1
            have hw232_0 := hx232_0
            (try rw [← Nbq16.out] at hx232_3)
            (try rw [← Nbq16.out] at hw232_3)
            cases e232
            replace hx232_0 := (HB.out.cell (World.block_lt_of_cell? w _ hx232_0)).trans hx232_0
            replace hx232_1 := (HB.out.cell (World.block_lt_of_cell? w _ hx232_1)).trans hx232_1
            replace hx232_2 := (HB.out.cell (World.block_lt_of_cell? w _ hx232_2)).trans hx232_2
            replace hx232_3 := (HB.out.cell (World.block_lt_of_cell? w _ hx232_3)).trans hx232_3
            have HR232_1 := Aside0.mk hi232_1
            have HC232_1 := Aside0.mk hl232_1
            clear hi232_1 hl232_1
            replace p232 := eq_true p232
            replace q232 := eq_true q232
            have p234 : 0 ≤ (x3_1 : Int) := of_decide_eq_true (by first | (with_reducible assumption) | assumption)
            have q234 : x3_1 < (l0_0.length : Int) := of_decide_eq_true (by first | (with_reducible assumption) | assumption)
            obtain ⟨ad234, A234_1, c234_1, e234, hx234_0, hx234_1, hx234_2, hx234_3, hl234_1, hi234_1⟩ := at_T80 HR0_0.out x3_1 p234 q234
            have hw234_3 := hx234_3
            have hw234_2 := hx234_2
            have hw234_1 := hx234_1
            have hw234_0 := hx234_0
            (try rw [← Nbq16.out] at hx234_3)
            (try rw [← Nbq16.out] at hw234_3)
            obtain rfl : ad232 = ad234 := (by injection e234)
            replace hx234_0 := (HB.out.cell (World.block_lt_of_cell? w _ hx234_0)).trans hx234_0
            replace hx234_1 := (HB.out.cell (World.block_lt_of_cell? w _ hx234_1)).trans hx234_1
            replace hx234_2 := (HB.out.cell (World.block_lt_of_cell? w _ hx234_2)).trans hx234_2
            replace hx234_3 := (HB.out.cell (World.block_lt_of_cell? w _ hx234_3)).trans hx234_3
            have HR234_1 := Aside0.mk hi234_1
            have HC234_1 := Aside0.mk hl234_1
            clear hi234_1 hl234_1
            replace p234 := eq_true p234
            replace q234 := eq_true q234
            have ea_ := Option.some.inj (hx232_1.symm.trans hx234_1)
            injection ea_ with ea_ en_ ec_
            subst ea_
            subst ec_
            clear en_
            have p235 : 0 ≤ ((ji8) : Int) := of_decide_eq_true (by first | (with_reducible assumption) | assumption)
            have q235 : (ji8) < (l0_0.length : Int) := of_decide_eq_true (by first | (with_reducible assumption) | assumption)
            obtain ⟨ad235, A235_1, c235_1, e235, hx235_0, hx235_1, hx235_2, hx235_3, hl235_1, hi235_1⟩ := at_T80 HR0_0.out (ji8) p235 q235
            have hw235_3 := hx235_3
            have hw235_2 := hx235_2
            have hw235_1 := hx235_1
            have hw235_0 := hx235_0
            (try rw [← Nbq16.out] at hx235_3)
            (try rw [← Nbq16.out] at hw235_3)
            obtain rfl : ad232 = ad235 := (by injection e235)
            replace hx235_0 := (HB.out.cell (World.block_lt_of_cell? w _ hx235_0)).trans hx235_0
            replace hx235_1 := (HB.out.cell (World.block_lt_of_cell? w _ hx235_1)).trans hx235_1
            replace hx235_2 := (HB.out.cell (World.block_lt_of_cell? w _ hx235_2)).trans hx235_2
            replace hx235_3 := (HB.out.cell (World.block_lt_of_cell? w _ hx235_3)).trans hx235_3
            have HR235_1 := Aside0.mk hi235_1
            have HC235_1 := Aside0.mk hl235_1
            clear hi235_1 hl235_1
            replace p235 := eq_true p235
            replace q235 := eq_true q235
            have p236 : 0 ≤ (x3_1 : Int) := of_decide_eq_true (by first | (with_reducible assumption) | assumption)
            have q236 : x3_1 < (l0_0.length : Int) := of_decide_eq_true (by first | (with_reducible assumption) | assumption)
            obtain ⟨ad236, A236_1, c236_1, e236, hx236_0, hx236_1, hx236_2, hx236_3, hl236_1, hi236_1⟩ := at_T80 HR0_0.out x3_1 p236 q236
            have hw236_3 := hx236_3
            have hw236_2 := hx236_2
            have hw236_1 := hx236_1
            have hw236_0 := hx236_0
            (try rw [← Nbq16.out] at hx236_3)
            (try rw [← Nbq16.out] at hw236_3)
            obtain rfl : ad232 = ad236 := (by injection e236)
            replace hx236_0 := (HB.out.cell (World.block_lt_of_cell? w _ hx236_0)).trans hx236_0
            replace hx236_1 := (HB.out.cell (World.block_lt_of_cell? w _ hx236_1)).trans hx236_1
            replace hx236_2 := (HB.out.cell (World.block_lt_of_cell? w _ hx236_2)).trans hx236_2
            replace hx236_3 := (HB.out.cell (World.block_lt_of_cell? w _ hx236_3)).trans hx236_3
            have HR236_1 := Aside0.mk hi236_1
            have HC236_1 := Aside0.mk hl236_1
            clear hi236_1 hl236_1
            replace p236 := eq_true p236
            replace q236 := eq_true q236
            have ea_ := Option.some.inj (hx232_1.symm.trans hx236_1)
            injection ea_ with ea_ en_ ec_
            subst ea_
            subst ec_
            clear en_
            have p238 : 0 ≤ (x3_1 : Int) := of_decide_eq_true (by first | (with_reducible assumption) | assumption)
            have q238 : x3_1 < (l0_0.length : Int) := of_decide_eq_true (by first | (with_reducible assumption) | assumption)
            obtain ⟨ad238, A238_1, c238_1, e238, hx238_0, hx238_1, hx238_2, hx238_3, hl238_1, hi238_1⟩ := at_T80 HR0_0.out x3_1 p238 q238
            have hw238_3 := hx238_3
            have hw238_2 := hx238_2
            have hw238_1 := hx238_1
            have hw238_0 := hx238_0
            (try rw [← Nbq16.out] at hx238_3)
            (try rw [← Nbq16.out] at hw238_3)
            obtain rfl : ad232 = ad238 := (by injection e238)
            replace hx238_0 := (HB.out.cell (World.block_lt_of_cell? w _ hx238_0)).trans hx238_0
            replace hx238_1 := (HB.out.cell (World.block_lt_of_cell? w _ hx238_1)).trans hx238_1
            replace hx238_2 := (HB.out.cell (World.block_lt_of_cell? w _ hx238_2)).trans hx238_2
            replace hx238_3 := (HB.out.cell (World.block_lt_of_cell? w _ hx238_3)).trans hx238_3
            have HR238_1 := Aside0.mk hi238_1
            have HC238_1 := Aside0.mk hl238_1
            clear hi238_1 hl238_1
            replace p238 := eq_true p238
            replace q238 := eq_true q238
            refine start_ (n := 59) (S := fun w' => w'.cell? ⟨gb229, 0, none⟩ = some (.slice (some ad232) l0_0.length c0_0) ∧ w'.cell? ⟨gb229, 1, none⟩ = some (.int .i64 a0_1) ∧ w'.cell? (ad232.add ((x3_1).toNat * 4)) = some (.int .i64 ((rd_T80 l0_0 x3_1).f0)) ∧ w'.cell? ⟨(ad232.add ((x3_1).toNat * 4)).block, (ad232.add ((x3_1).toNat * 4)).off + 1, none⟩ = some (.slice A232_1 ((rd_T80 l0_0 x3_1).f1).length c232_1) ∧ w'.cell? ⟨(ad232.add ((x3_1).toNat * 4)).block, (ad232.add ((x3_1).toNat * 4)).off + 2, none⟩ = some (.int .i64 ((rd_T80 l0_0 x3_1).f2)) ∧ w'.cell? ⟨(ad232.add ((x3_1).toNat * 4)).block, (ad232.add ((x3_1).toNat * 4)).off + 3, none⟩ = some (.bool true) ∧ w'.cell? (ad232.add ((x3_1).toNat * 4)) = some (.int .i64 ((rd_T80 l0_0 x3_1).f0)) ∧ w'.cell? ⟨(ad232.add ((x3_1).toNat * 4)).block, (ad232.add ((x3_1).toNat * 4)).off + 1, none⟩ = some (.slice A232_1 ((rd_T80 l0_0 x3_1).f1).length c232_1) ∧ w'.cell? ⟨(ad232.add ((x3_1).toNat * 4)).block, (ad232.add ((x3_1).toNat * 4)).off + 2, none⟩ = some (.int .i64 ((rd_T80 l0_0 x3_1).f2)) ∧ w'.cell? ⟨(ad232.add ((x3_1).toNat * 4)).block, (ad232.add ((x3_1).toNat * 4)).off + 3, none⟩ = some (.bool true) ∧ w'.cell? (ad232.add (((ji8)).toNat * 4)) = some (.int .i64 ((rd_T80 l0_0 (ji8)).f0)) ∧ w'.cell? ⟨(ad232.add (((ji8)).toNat * 4)).block, (ad232.add (((ji8)).toNat * 4)).off + 1, none⟩ = some (.slice A235_1 ((rd_T80 l0_0 (ji8)).f1).length c235_1) ∧ w'.cell? ⟨(ad232.add (((ji8)).toNat * 4)).block, (ad232.add (((ji8)).toNat * 4)).off + 2, none⟩ = some (.int .i64 ((rd_T80 l0_0 (ji8)).f2)) ∧ w'.cell? ⟨(ad232.add (((ji8)).toNat * 4)).block, (ad232.add (((ji8)).toNat * 4)).off + 3, none⟩ = some (.bool ((rd_T80 l0_0 (ji8)).f3)) ∧ w'.cell? (ad232.add ((x3_1).toNat * 4)) = some (.int .i64 ((rd_T80 l0_0 x3_1).f0)) ∧ w'.cell? ⟨(ad232.add ((x3_1).toNat * 4)).block, (ad232.add ((x3_1).toNat * 4)).off + 1, none⟩ = some (.slice A232_1 ((rd_T80 l0_0 x3_1).f1).length c232_1) ∧ w'.cell? ⟨(ad232.add ((x3_1).toNat * 4)).block, (ad232.add ((x3_1).toNat * 4)).off + 2, none⟩ = some (.int .i64 ((rd_T80 l0_0 x3_1).f2)) ∧ w'.cell? ⟨(ad232.add ((x3_1).toNat * 4)).block, (ad232.add ((x3_1).toNat * 4)).off + 3, none⟩ = some (.bool true) ∧ w'.cell? (ad232.add ((x3_1).toNat * 4)) = some (.int .i64 ((rd_T80 l0_0 x3_1).f0)) ∧ w'.cell? ⟨(ad232.add ((x3_1).toNat * 4)).block, (ad232.add ((x3_1).toNat * 4)).off + 1, none⟩ = some (.slice A238_1 ((rd_T80 l0_0 x3_1).f1).length c238_1) ∧ w'.cell? ⟨(ad232.add ((x3_1).toNat * 4)).block, (ad232.add ((x3_1).toNat * 4)).off + 2, none⟩ = some (.int .i64 ((rd_T80 l0_0 x3_1).f2)) ∧ w'.cell? ⟨(ad232.add ((x3_1).toNat * 4)).block, (ad232.add ((x3_1).toNat * 4)).off + 3, none⟩ = some (.bool true)) (ds := []) #[false, false, false, false, false, false, false, false, false, false, false, false, false, false, false, false, false, false, false, false, false, false, false, false, false, false, false, false, false, false, false, false, false, false, false, false, false, false, false, false, false, false, false, false, false, false, false, false, false, false, false, false, false, false, false, false, false, false, false] (by kernel_rfl) rfl rfl ⟨(blk_cell BK229.out 0).trans rfl, (blk_cell BK229.out 1).trans rfl, ((HB.out.cell (World.block_lt_of_cell? w _ hw232_0)).trans hw232_0), ((HB.out.cell (World.block_lt_of_cell? w _ hw232_1)).trans hw232_1), ((HB.out.cell (World.block_lt_of_cell? w _ hw232_2)).trans hw232_2), ((HB.out.cell (World.block_lt_of_cell? w _ hw232_3)).trans hw232_3), ((HB.out.cell (World.block_lt_of_cell? w _ hw234_0)).trans hw234_0), ((HB.out.cell (World.block_lt_of_cell? w _ hw234_1)).trans hw234_1), ((HB.out.cell (World.block_lt_of_cell? w _ hw234_2)).trans hw234_2), ((HB.out.cell (World.block_lt_of_cell? w _ hw234_3)).trans hw234_3), ((HB.out.cell (World.block_lt_of_cell? w _ hw235_0)).trans hw235_0), ((HB.out.cell (World.block_lt_of_cell? w _ hw235_1)).trans hw235_1), ((HB.out.cell (World.block_lt_of_cell? w _ hw235_2)).trans hw235_2), ((HB.out.cell (World.block_lt_of_cell? w _ hw235_3)).trans hw235_3), ((HB.out.cell (World.block_lt_of_cell? w _ hw236_0)).trans hw236_0), ((HB.out.cell (World.block_lt_of_cell? w _ hw236_1)).trans hw236_1), ((HB.out.cell (World.block_lt_of_cell? w _ hw236_2)).trans hw236_2), ((HB.out.cell (World.block_lt_of_cell? w _ hw236_3)).trans hw236_3), ((HB.out.cell (World.block_lt_of_cell? w _ hw238_0)).trans hw238_0), ((HB.out.cell (World.block_lt_of_cell? w _ hw238_1)).trans hw238_1), ((HB.out.cell (World.block_lt_of_cell? w _ hw238_2)).trans hw238_2), ((HB.out.cell (World.block_lt_of_cell? w _ hw238_3)).trans hw238_3)⟩ (fun hHeld => ?_); refine with_tabW spec_IsValidDisk.tab4 spec_IsValidDisk.bits4 (fun HT_ HW_ => ?_)
            generalize wr.drew = w19 at BK229 HB HR232_1 HR234_1 HR235_1 HR236_1 HR238_1 hx232_0 hx232_1 hx232_2 hx232_3 hx234_0 hx234_1 hx234_2 hx234_3 hx235_0 hx235_1 hx235_2 hx235_3 hx236_0 hx236_1 hx236_2 hx236_3 hx238_0 hx238_1 hx238_2 hx238_3 hHeld ⊢
            refine pu_ 0 (some 11) HT_ (h := ?_)
            refine pu_ 2 (some 13) HT_ (h := ?_)
            refine pu_ 6 (some 17) HT_ (h := ?_)
            refine ta_ 1 (some 12) HT_ HW_ hHeld (h := ?_)
            refine pu_ 3 (some 14) HT_ (h := ?_)
            refine pu_ 4 (some 15) HT_ (h := ?_)
            refine ta_ 5 (some 16) HT_ HW_ hHeld (h := ?_)
            refine ta_ 7 (some 18) HT_ HW_ hHeld (h := ?_)
            refine pu_ 8 (some 19) HT_ (h := ?_)
            refine one_ (i := 9) (N := some 20) #[true, true, true, true, true, true, true, true, true, true, false, false, false, false, false, false, false, false, false, false, false, false, false, false, false, false, false, false, false, false, false, false, false, false, false, false, false, false, false, false, false, false, false, false, false, false, false, false, false, false, false, false, false, false, false, false, false, false, false] rfl rfl (one_of HT_.out (by kernel_rfl)) (by decide) (fun K hK => ?_)
            refine goes_ Try.func88 (by kernel_rfl) rfl #[.int .i64 ((rd_T80 l0_0 x3_1).f0), .int .i64 0, .int .i64 (wrap64 (a0_1 - 1))] (by rfl) rfl rfl (by (try simp only [mA, mC, mN]); first | done | rfl | (simp only [lD, lT]; rfl)) ?_
            with_reducible refine (spec_l1In.calls ((rd_T80 l0_0 x3_1).f0) 0 (wrap64 (a0_1 - 1)) true _ A5.out).mono ?_
            rintro e w' ⟨rfl, ⟨nd, rfl⟩⟩
            refine ⟨_, rfl, ?_⟩
            refine hK.out _ _ ⟨(blk_cell BK229.out 0).trans rfl, (blk_cell BK229.out 1).trans rfl, ((HB.out.cell (World.block_lt_of_cell? w _ hw232_0)).trans hw232_0), ((HB.out.cell (World.block_lt_of_cell? w _ hw232_1)).trans hw232_1), ((HB.out.cell (World.block_lt_of_cell? w _ hw232_2)).trans hw232_2), ((HB.out.cell (World.block_lt_of_cell? w _ hw232_3)).trans hw232_3), ((HB.out.cell (World.block_lt_of_cell? w _ hw234_0)).trans hw234_0), ((HB.out.cell (World.block_lt_of_cell? w _ hw234_1)).trans hw234_1), ((HB.out.cell (World.block_lt_of_cell? w _ hw234_2)).trans hw234_2), ((HB.out.cell (World.block_lt_of_cell? w _ hw234_3)).trans hw234_3), ((HB.out.cell (World.block_lt_of_cell? w _ hw235_0)).trans hw235_0), ((HB.out.cell (World.block_lt_of_cell? w _ hw235_1)).trans hw235_1), ((HB.out.cell (World.block_lt_of_cell? w _ hw235_2)).trans hw235_2), ((HB.out.cell (World.block_lt_of_cell? w _ hw235_3)).trans hw235_3), ((HB.out.cell (World.block_lt_of_cell? w _ hw236_0)).trans hw236_0), ((HB.out.cell (World.block_lt_of_cell? w _ hw236_1)).trans hw236_1), ((HB.out.cell (World.block_lt_of_cell? w _ hw236_2)).trans hw236_2), ((HB.out.cell (World.block_lt_of_cell? w _ hw236_3)).trans hw236_3), ((HB.out.cell (World.block_lt_of_cell? w _ hw238_0)).trans hw238_0), ((HB.out.cell (World.block_lt_of_cell? w _ hw238_1)).trans hw238_1), ((HB.out.cell (World.block_lt_of_cell? w _ hw238_2)).trans hw238_2), ((HB.out.cell (World.block_lt_of_cell? w _ hw238_3)).trans hw238_3)⟩ (fun hHeld => ?_)
            clear hK K
            refine norm_ (a' := ?_) ?_ ?_
            rotate_left
            ·show Act.put _ (some 20) _ = _
             simp only [Act.put, List.setIfInBounds_toArray, List.set_cons_zero, List.set_cons_succ, i64_w, i32_w]
             rfl
            refine pu_ 10 (some 21) HT_ (h := ?_)
            refine pu_ 11 (some 22) HT_ (h := ?_)
            refine pu_ 12 (some 23) HT_ (h := ?_)
            refine pu_ 13 (some 24) HT_ (h := ?_)
            refine pu_ 14 (some 25) HT_ (h := ?_)
            refine pu_ 15 (some 26) HT_ (h := ?_)
            refine pu_ 17 (some 28) HT_ (h := ?_)
            refine pu_ 21 (some 32) HT_ (h := ?_)
            refine pu_ 23 (some 34) HT_ (h := ?_)
            refine pu_ 24 (some 35) HT_ (h := ?_)
            refine ta_ 16 (some 27) HT_ HW_ hHeld (h := ?_)
            refine pu_ 18 (some 29) HT_ (h := ?_)
            refine pu_ 19 (some 30) HT_ (h := ?_)
            refine ta_ 20 (some 31) HT_ HW_ hHeld (h := ?_)
            refine ta_ 22 (some 33) HT_ HW_ hHeld (h := ?_)
            refine pu_ 25 (some 36) HT_ (h := ?_)
            refine pu_ 26 (some 37) HT_ (h := ?_)
            refine ta_ 27 (some 38) HT_ HW_ hHeld (h := ?_)
            refine pu_ 28 (some 39) HT_ (h := ?_)
            refine pu_ 29 (some 40) HT_ (h := ?_)
            refine pu_ 30 (some 41) HT_ (h := ?_)
            refine pu_ 31 (some 42) HT_ (h := ?_)
            refine pu_ 32 (some 43) HT_ (h := ?_)
            refine pu_ 34 (some 45) HT_ (h := ?_)
            refine ta_ 33 (some 44) HT_ HW_ hHeld (h := ?_)
            refine pu_ 35 (some 46) HT_ (h := ?_)
            refine pu_ 36 (some 47) HT_ (h := ?_)
            refine ta_ 37 (some 48) HT_ HW_ hHeld (h := ?_)
            refine one_ (i := 38) (N := some 49) #[true, true, true, true, true, true, true, true, true, true, true, true, true, true, true, true, true, true, true, true, true, true, true, true, true, true, true, true, true, true, true, true, true, true, true, true, true, true, true, false, false, false, false, false, false, false, false, false, false, false, false, false, false, false, false, false, false, false, false] rfl rfl (one_of HT_.out (by kernel_rfl)) (by decide) (fun K hK => ?_)
            refine goes_ Try.func85 (by kernel_rfl) rfl #[.slice A232_1 ((rd_T80 l0_0 x3_1).f1).length c232_1] (by rfl) rfl rfl (by (try simp only [mA, mC, mN]); first | done | rfl | (simp only [lD, lT]; rfl)) ?_
            with_reducible refine (spec_l4Pages.calls k1 _ _ ((rd_T80 l0_0 x3_1).f1) true _ ?side1 ?side2 A14.out).mono ?_
            (case side1 => repeat (first | exact (Kd.C_below HR236_1.out (by repeat (first | (with_reducible first | exact HB.out | apply cA | apply cN | apply cD | refine below_set ?_ GE229.out) | exact HB.out))) | (with_reducible refine Kd.C_alloc ?_ _) | (with_reducible refine Kd.C_drewN ?_ _) | (with_reducible refine Kd.C_drew ?_)))
            (case side2 => exact HC236_1.out)
            rintro e w20 ⟨rfl, hb⟩
            refine ⟨_, rfl, ?_⟩
            have n0_ := Aside0.mk (blk_below (g := gb229) (o := .cells #[.slice (some ad232) l0_0.length c0_0, .int .i64 a0_1] 28 (0, 0)) (by (with_reducible repeat (first | apply bN | apply bD | apply bA)); exact BK229.out) hb)
            have n1_ := Aside0.mk (below_step (by repeat (first | (with_reducible first | exact HB.out | apply cA | apply cN | apply cD | refine below_set ?_ GE229.out) | exact HB.out)) hb)
            clear BK229
            clear HB
            have BK229 := n0_
            have HB := n1_
            clear n0_ n1_
            (try clear hb)
            (try clear hb2)
            (try clear hk)
            (try clear hi)
            refine hK.out _ _ ⟨(blk_cell BK229.out 0).trans rfl, (blk_cell BK229.out 1).trans rfl, ((HB.out.cell (World.block_lt_of_cell? w _ hw232_0)).trans hw232_0), ((HB.out.cell (World.block_lt_of_cell? w _ hw232_1)).trans hw232_1), ((HB.out.cell (World.block_lt_of_cell? w _ hw232_2)).trans hw232_2), ((HB.out.cell (World.block_lt_of_cell? w _ hw232_3)).trans hw232_3), ((HB.out.cell (World.block_lt_of_cell? w _ hw234_0)).trans hw234_0), ((HB.out.cell (World.block_lt_of_cell? w _ hw234_1)).trans hw234_1), ((HB.out.cell (World.block_lt_of_cell? w _ hw234_2)).trans hw234_2), ((HB.out.cell (World.block_lt_of_cell? w _ hw234_3)).trans hw234_3), ((HB.out.cell (World.block_lt_of_cell? w _ hw235_0)).trans hw235_0), ((HB.out.cell (World.block_lt_of_cell? w _ hw235_1)).trans hw235_1), ((HB.out.cell (World.block_lt_of_cell? w _ hw235_2)).trans hw235_2), ((HB.out.cell (World.block_lt_of_cell? w _ hw235_3)).trans hw235_3), ((HB.out.cell (World.block_lt_of_cell? w _ hw236_0)).trans hw236_0), ((HB.out.cell (World.block_lt_of_cell? w _ hw236_1)).trans hw236_1), ((HB.out.cell (World.block_lt_of_cell? w _ hw236_2)).trans hw236_2), ((HB.out.cell (World.block_lt_of_cell? w _ hw236_3)).trans hw236_3), ((HB.out.cell (World.block_lt_of_cell? w _ hw238_0)).trans hw238_0), ((HB.out.cell (World.block_lt_of_cell? w _ hw238_1)).trans hw238_1), ((HB.out.cell (World.block_lt_of_cell? w _ hw238_2)).trans hw238_2), ((HB.out.cell (World.block_lt_of_cell? w _ hw238_3)).trans hw238_3)⟩ (fun hHeld => ?_)
            clear hK K
            refine norm_ (a' := ?_) ?_ ?_
            rotate_left
            ·show Act.put _ (some 49) _ = _
             simp only [Act.put, List.setIfInBounds_toArray, List.set_cons_zero, List.set_cons_succ, i64_w, i32_w]
             rfl
            refine pu_ 39 (some 50) HT_ (h := ?_)
            refine pu_ 40 (some 51) HT_ (h := ?_)
            refine pu_ 41 (some 52) HT_ (h := ?_)
            refine pu_ 42 (some 53) HT_ (h := ?_)
            refine pu_ 44 (some 55) HT_ (h := ?_)
            refine ta_ 43 (some 54) HT_ HW_ hHeld (h := ?_)
            refine pu_ 45 (some 56) HT_ (h := ?_)
            refine pu_ 46 (some 57) HT_ (h := ?_)
            refine ta_ 47 (some 58) HT_ HW_ hHeld (h := ?_)
            refine pu_ 48 (some 59) HT_ (h := ?_)
            refine pu_ 49 (some 60) HT_ (h := ?_)
            refine un_ 50 (some 61) HT_ (h := ?_)
            refine un_ 51 (some 62) HT_ (h := ?_)
            refine un_ 52 (some 63) HT_ (h := ?_)
            refine un_ 53 (some 64) HT_ (h := ?_)
            refine un_ 54 (some 65) HT_ (h := ?_)
            refine un_ 55 (some 66) HT_ (h := ?_)
            refine un_ 56 (some 67) HT_ (h := ?_)
            refine pu_ 57 (some 68) HT_ (h := ?_)
            refine pu_ 58 (some 69) HT_ (h := ?_)
            refine done_ (done_of HT_.out (by kernel_rfl)) ?_
            try go_wp2
            go_roundg k1
            case measure => have := HK1.out; omega
            case rel => exact ⟨(wrap64 (x3_1 + 1)), (by first | rfl | (simp; done) | (simp [*]; done)), H', ⟨by have := HK1.out; omega⟩, ⟨by (with_reducible repeat (first | apply bN | apply bD | apply bA)); exact BK229.out⟩, ⟨by repeat (first | (with_reducible first | exact HB.out | apply cA | apply cN | apply cD | refine below_set ?_ GE229.out) | exact HB.out)⟩⟩
           ·replace c17 := Bool.eq_false_iff.mpr c17
            subst c17
            have H1 : (if ((rd_T80 l0_0 x3_1).f2) = 0 then (spec_IsValidDisk.l0 k1 (wrap64 (x3_1 + 1)) l0_0 a0_1) else (some false)) = some r := by rw [if_neg (show ¬ (false = true) by decide)] at H; exact H
            clear H
            have H := H1
            clear H1
            by_cases c21 : ((rd_T80 l0_0 x3_1).f2) = 0
            ·rw [if_pos c21] at H
             have c21b0 : (((rd_T80 l0_0 x3_1).f2) == 0) = true := beq_iff_eq.mpr c21
             have c21b1 : (((rd_T80 l0_0 x3_1).f2) != 0) = false := bne_eq_false_iff_eq.mpr c21
             clear c21
             have H' := Aside0.mk H
             clear H
             have hcz22_0 : wr.cell? ⟨gb229, 0, none⟩ = some (.slice A0_0 l0_0.length c0_0) := (blk_cell BK229.out 0).trans rfl
             have hcz22_1 : wr.cell? ⟨gb229, 1, none⟩ = some (.int .i64 a0_1) := (blk_cell BK229.out 1).trans rfl
             have hfz22_0 := blk_frozen BK229.out 0
             have hfz22_1 := blk_frozen BK229.out 1
             try go_wp2
             have n0_ := Aside0.mk (blk_drew BK229.out)
             have n1_ := Aside0.mk (below_drew1 HB.out)
             clear BK229
             clear HB
             have BK229 := n0_
             have HB := n1_
             clear n0_ n1_
             have p232 : 0 ≤ (x3_1 : Int) := of_decide_eq_true (by first | (with_reducible assumption) | assumption)
             have q232 : x3_1 < (l0_0.length : Int) := of_decide_eq_true (by first | (with_reducible assumption) | assumption)
             obtain ⟨ad232, A232_1, c232_1, e232, hx232_0, hx232_1, hx232_2, hx232_3, hl232_1, hi232_1⟩ := at_T80 HR0_0.out x3_1 p232 q232
             have hw232_3 := hx232_3
             have hw232_2 := hx232_2
             have hw232_1 := hx232_1
             have hw232_0 := hx232_0
             (try rw [← Nbq16.out] at hx232_3)
             (try rw [← Nbq16.out] at hw232_3)
             cases e232
             replace hx232_0 := (HB.out.cell (World.block_lt_of_cell? w _ hx232_0)).trans hx232_0
             replace hx232_1 := (HB.out.cell (World.block_lt_of_cell? w _ hx232_1)).trans hx232_1
             replace hx232_2 := (HB.out.cell (World.block_lt_of_cell? w _ hx232_2)).trans hx232_2
             replace hx232_3 := (HB.out.cell (World.block_lt_of_cell? w _ hx232_3)).trans hx232_3
             have HR232_1 := Aside0.mk hi232_1
             have HC232_1 := Aside0.mk hl232_1
             clear hi232_1 hl232_1
             replace p232 := eq_true p232
             replace q232 := eq_true q232
             have p234 : 0 ≤ (x3_1 : Int) := of_decide_eq_true (by first | (with_reducible assumption) | assumption)
             have q234 : x3_1 < (l0_0.length : Int) := of_decide_eq_true (by first | (with_reducible assumption) | assumption)
             obtain ⟨ad234, A234_1, c234_1, e234, hx234_0, hx234_1, hx234_2, hx234_3, hl234_1, hi234_1⟩ := at_T80 HR0_0.out x3_1 p234 q234
             have hw234_3 := hx234_3
             have hw234_2 := hx234_2
             have hw234_1 := hx234_1
             have hw234_0 := hx234_0
             (try rw [← Nbq16.out] at hx234_3)
             (try rw [← Nbq16.out] at hw234_3)
             obtain rfl : ad232 = ad234 := (by injection e234)
             replace hx234_0 := (HB.out.cell (World.block_lt_of_cell? w _ hx234_0)).trans hx234_0
             replace hx234_1 := (HB.out.cell (World.block_lt_of_cell? w _ hx234_1)).trans hx234_1
             replace hx234_2 := (HB.out.cell (World.block_lt_of_cell? w _ hx234_2)).trans hx234_2
             replace hx234_3 := (HB.out.cell (World.block_lt_of_cell? w _ hx234_3)).trans hx234_3
             have HR234_1 := Aside0.mk hi234_1
             have HC234_1 := Aside0.mk hl234_1
             clear hi234_1 hl234_1
             replace p234 := eq_true p234
             replace q234 := eq_true q234
             have ea_ := Option.some.inj (hx232_1.symm.trans hx234_1)
             injection ea_ with ea_ en_ ec_
             subst ea_
             subst ec_
             clear en_
             have p235 : 0 ≤ ((ji8) : Int) := of_decide_eq_true (by first | (with_reducible assumption) | assumption)
             have q235 : (ji8) < (l0_0.length : Int) := of_decide_eq_true (by first | (with_reducible assumption) | assumption)
             obtain ⟨ad235, A235_1, c235_1, e235, hx235_0, hx235_1, hx235_2, hx235_3, hl235_1, hi235_1⟩ := at_T80 HR0_0.out (ji8) p235 q235
             have hw235_3 := hx235_3
             have hw235_2 := hx235_2
             have hw235_1 := hx235_1
             have hw235_0 := hx235_0
             (try rw [← Nbq16.out] at hx235_3)
             (try rw [← Nbq16.out] at hw235_3)
             obtain rfl : ad232 = ad235 := (by injection e235)
             replace hx235_0 := (HB.out.cell (World.block_lt_of_cell? w _ hx235_0)).trans hx235_0
             replace hx235_1 := (HB.out.cell (World.block_lt_of_cell? w _ hx235_1)).trans hx235_1
             replace hx235_2 := (HB.out.cell (World.block_lt_of_cell? w _ hx235_2)).trans hx235_2
             replace hx235_3 := (HB.out.cell (World.block_lt_of_cell? w _ hx235_3)).trans hx235_3
             have HR235_1 := Aside0.mk hi235_1
             have HC235_1 := Aside0.mk hl235_1
             clear hi235_1 hl235_1
             replace p235 := eq_true p235
             replace q235 := eq_true q235
             have p236 : 0 ≤ (x3_1 : Int) := of_decide_eq_true (by first | (with_reducible assumption) | assumption)
             have q236 : x3_1 < (l0_0.length : Int) := of_decide_eq_true (by first | (with_reducible assumption) | assumption)
             obtain ⟨ad236, A236_1, c236_1, e236, hx236_0, hx236_1, hx236_2, hx236_3, hl236_1, hi236_1⟩ := at_T80 HR0_0.out x3_1 p236 q236
             have hw236_3 := hx236_3
             have hw236_2 := hx236_2
             have hw236_1 := hx236_1
             have hw236_0 := hx236_0
             (try rw [← Nbq16.out] at hx236_3)
             (try rw [← Nbq16.out] at hw236_3)
             obtain rfl : ad232 = ad236 := (by injection e236)
             replace hx236_0 := (HB.out.cell (World.block_lt_of_cell? w _ hx236_0)).trans hx236_0
             replace hx236_1 := (HB.out.cell (World.block_lt_of_cell? w _ hx236_1)).trans hx236_1
             replace hx236_2 := (HB.out.cell (World.block_lt_of_cell? w _ hx236_2)).trans hx236_2
             replace hx236_3 := (HB.out.cell (World.block_lt_of_cell? w _ hx236_3)).trans hx236_3
             have HR236_1 := Aside0.mk hi236_1
             have HC236_1 := Aside0.mk hl236_1
             clear hi236_1 hl236_1
             replace p236 := eq_true p236
             replace q236 := eq_true q236
             have ea_ := Option.some.inj (hx232_1.symm.trans hx236_1)
             injection ea_ with ea_ en_ ec_
             subst ea_
             subst ec_
             clear en_
             have p238 : 0 ≤ (x3_1 : Int) := of_decide_eq_true (by first | (with_reducible assumption) | assumption)
             have q238 : x3_1 < (l0_0.length : Int) := of_decide_eq_true (by first | (with_reducible assumption) | assumption)
             obtain ⟨ad238, A238_1, c238_1, e238, hx238_0, hx238_1, hx238_2, hx238_3, hl238_1, hi238_1⟩ := at_T80 HR0_0.out x3_1 p238 q238
             have hw238_3 := hx238_3
             have hw238_2 := hx238_2
             have hw238_1 := hx238_1
             have hw238_0 := hx238_0
             (try rw [← Nbq16.out] at hx238_3)
             (try rw [← Nbq16.out] at hw238_3)
             obtain rfl : ad232 = ad238 := (by injection e238)
             replace hx238_0 := (HB.out.cell (World.block_lt_of_cell? w _ hx238_0)).trans hx238_0
             replace hx238_1 := (HB.out.cell (World.block_lt_of_cell? w _ hx238_1)).trans hx238_1
             replace hx238_2 := (HB.out.cell (World.block_lt_of_cell? w _ hx238_2)).trans hx238_2
             replace hx238_3 := (HB.out.cell (World.block_lt_of_cell? w _ hx238_3)).trans hx238_3
             have HR238_1 := Aside0.mk hi238_1
             have HC238_1 := Aside0.mk hl238_1
             clear hi238_1 hl238_1
             replace p238 := eq_true p238
             replace q238 := eq_true q238
             have p239 : 0 ≤ (x3_1 : Int) := of_decide_eq_true (by first | (with_reducible assumption) | assumption)
             have q239 : x3_1 < (l0_0.length : Int) := of_decide_eq_true (by first | (with_reducible assumption) | assumption)
             obtain ⟨ad239, A239_1, c239_1, e239, hx239_0, hx239_1, hx239_2, hx239_3, hl239_1, hi239_1⟩ := at_T80 HR0_0.out x3_1 p239 q239
             have hw239_3 := hx239_3
             have hw239_2 := hx239_2
             have hw239_1 := hx239_1
             have hw239_0 := hx239_0
             (try rw [← Nbq16.out] at hx239_3)
             (try rw [← Nbq16.out] at hw239_3)
             obtain rfl : ad232 = ad239 := (by injection e239)
             replace hx239_0 := (HB.out.cell (World.block_lt_of_cell? w _ hx239_0)).trans hx239_0
             replace hx239_1 := (HB.out.cell (World.block_lt_of_cell? w _ hx239_1)).trans hx239_1
             replace hx239_2 := (HB.out.cell (World.block_lt_of_cell? w _ hx239_2)).trans hx239_2
             replace hx239_3 := (HB.out.cell (World.block_lt_of_cell? w _ hx239_3)).trans hx239_3
             have HR239_1 := Aside0.mk hi239_1
             have HC239_1 := Aside0.mk hl239_1
             clear hi239_1 hl239_1
             replace p239 := eq_true p239
             replace q239 := eq_true q239
             have ea_ := Option.some.inj (hx238_1.symm.trans hx239_1)
             injection ea_ with ea_ en_ ec_
             subst ea_
             subst ec_
             clear en_
             refine start_ (n := 59) (S := fun w' => w'.cell? ⟨gb229, 0, none⟩ = some (.slice (some ad232) l0_0.length c0_0) ∧ w'.cell? ⟨gb229, 1, none⟩ = some (.int .i64 a0_1) ∧ w'.cell? (ad232.add ((x3_1).toNat * 4)) = some (.int .i64 ((rd_T80 l0_0 x3_1).f0)) ∧ w'.cell? ⟨(ad232.add ((x3_1).toNat * 4)).block, (ad232.add ((x3_1).toNat * 4)).off + 1, none⟩ = some (.slice A232_1 ((rd_T80 l0_0 x3_1).f1).length c232_1) ∧ w'.cell? ⟨(ad232.add ((x3_1).toNat * 4)).block, (ad232.add ((x3_1).toNat * 4)).off + 2, none⟩ = some (.int .i64 ((rd_T80 l0_0 x3_1).f2)) ∧ w'.cell? ⟨(ad232.add ((x3_1).toNat * 4)).block, (ad232.add ((x3_1).toNat * 4)).off + 3, none⟩ = some (.bool false) ∧ w'.cell? (ad232.add ((x3_1).toNat * 4)) = some (.int .i64 ((rd_T80 l0_0 x3_1).f0)) ∧ w'.cell? ⟨(ad232.add ((x3_1).toNat * 4)).block, (ad232.add ((x3_1).toNat * 4)).off + 1, none⟩ = some (.slice A232_1 ((rd_T80 l0_0 x3_1).f1).length c232_1) ∧ w'.cell? ⟨(ad232.add ((x3_1).toNat * 4)).block, (ad232.add ((x3_1).toNat * 4)).off + 2, none⟩ = some (.int .i64 ((rd_T80 l0_0 x3_1).f2)) ∧ w'.cell? ⟨(ad232.add ((x3_1).toNat * 4)).block, (ad232.add ((x3_1).toNat * 4)).off + 3, none⟩ = some (.bool false) ∧ w'.cell? (ad232.add (((ji8)).toNat * 4)) = some (.int .i64 ((rd_T80 l0_0 (ji8)).f0)) ∧ w'.cell? ⟨(ad232.add (((ji8)).toNat * 4)).block, (ad232.add (((ji8)).toNat * 4)).off + 1, none⟩ = some (.slice A235_1 ((rd_T80 l0_0 (ji8)).f1).length c235_1) ∧ w'.cell? ⟨(ad232.add (((ji8)).toNat * 4)).block, (ad232.add (((ji8)).toNat * 4)).off + 2, none⟩ = some (.int .i64 ((rd_T80 l0_0 (ji8)).f2)) ∧ w'.cell? ⟨(ad232.add (((ji8)).toNat * 4)).block, (ad232.add (((ji8)).toNat * 4)).off + 3, none⟩ = some (.bool ((rd_T80 l0_0 (ji8)).f3)) ∧ w'.cell? (ad232.add ((x3_1).toNat * 4)) = some (.int .i64 ((rd_T80 l0_0 x3_1).f0)) ∧ w'.cell? ⟨(ad232.add ((x3_1).toNat * 4)).block, (ad232.add ((x3_1).toNat * 4)).off + 1, none⟩ = some (.slice A232_1 ((rd_T80 l0_0 x3_1).f1).length c232_1) ∧ w'.cell? ⟨(ad232.add ((x3_1).toNat * 4)).block, (ad232.add ((x3_1).toNat * 4)).off + 2, none⟩ = some (.int .i64 ((rd_T80 l0_0 x3_1).f2)) ∧ w'.cell? ⟨(ad232.add ((x3_1).toNat * 4)).block, (ad232.add ((x3_1).toNat * 4)).off + 3, none⟩ = some (.bool false) ∧ w'.cell? (ad232.add ((x3_1).toNat * 4)) = some (.int .i64 ((rd_T80 l0_0 x3_1).f0)) ∧ w'.cell? ⟨(ad232.add ((x3_1).toNat * 4)).block, (ad232.add ((x3_1).toNat * 4)).off + 1, none⟩ = some (.slice A238_1 ((rd_T80 l0_0 x3_1).f1).length c238_1) ∧ w'.cell? ⟨(ad232.add ((x3_1).toNat * 4)).block, (ad232.add ((x3_1).toNat * 4)).off + 2, none⟩ = some (.int .i64 ((rd_T80 l0_0 x3_1).f2)) ∧ w'.cell? ⟨(ad232.add ((x3_1).toNat * 4)).block, (ad232.add ((x3_1).toNat * 4)).off + 3, none⟩ = some (.bool false) ∧ w'.cell? (ad232.add ((x3_1).toNat * 4)) = some (.int .i64 ((rd_T80 l0_0 x3_1).f0)) ∧ w'.cell? ⟨(ad232.add ((x3_1).toNat * 4)).block, (ad232.add ((x3_1).toNat * 4)).off + 1, none⟩ = some (.slice A238_1 ((rd_T80 l0_0 x3_1).f1).length c238_1) ∧ w'.cell? ⟨(ad232.add ((x3_1).toNat * 4)).block, (ad232.add ((x3_1).toNat * 4)).off + 2, none⟩ = some (.int .i64 ((rd_T80 l0_0 x3_1).f2)) ∧ w'.cell? ⟨(ad232.add ((x3_1).toNat * 4)).block, (ad232.add ((x3_1).toNat * 4)).off + 3, none⟩ = some (.bool (false))) (ds := []) #[false, false, false, false, false, false, false, false, false, false, false, false, false, false, false, false, false, false, false, false, false, false, false, false, false, false, false, false, false, false, false, false, false, false, false, false, false, false, false, false, false, false, false, false, false, false, false, false, false, false, false, false, false, false, false, false, false, false, false] (by kernel_rfl) rfl rfl ⟨(blk_cell BK229.out 0).trans rfl, (blk_cell BK229.out 1).trans rfl, ((HB.out.cell (World.block_lt_of_cell? w _ hw232_0)).trans hw232_0), ((HB.out.cell (World.block_lt_of_cell? w _ hw232_1)).trans hw232_1), ((HB.out.cell (World.block_lt_of_cell? w _ hw232_2)).trans hw232_2), ((HB.out.cell (World.block_lt_of_cell? w _ hw232_3)).trans hw232_3), ((HB.out.cell (World.block_lt_of_cell? w _ hw234_0)).trans hw234_0), ((HB.out.cell (World.block_lt_of_cell? w _ hw234_1)).trans hw234_1), ((HB.out.cell (World.block_lt_of_cell? w _ hw234_2)).trans hw234_2), ((HB.out.cell (World.block_lt_of_cell? w _ hw234_3)).trans hw234_3), ((HB.out.cell (World.block_lt_of_cell? w _ hw235_0)).trans hw235_0), ((HB.out.cell (World.block_lt_of_cell? w _ hw235_1)).trans hw235_1), ((HB.out.cell (World.block_lt_of_cell? w _ hw235_2)).trans hw235_2), ((HB.out.cell (World.block_lt_of_cell? w _ hw235_3)).trans hw235_3), ((HB.out.cell (World.block_lt_of_cell? w _ hw236_0)).trans hw236_0), ((HB.out.cell (World.block_lt_of_cell? w _ hw236_1)).trans hw236_1), ((HB.out.cell (World.block_lt_of_cell? w _ hw236_2)).trans hw236_2), ((HB.out.cell (World.block_lt_of_cell? w _ hw236_3)).trans hw236_3), ((HB.out.cell (World.block_lt_of_cell? w _ hw238_0)).trans hw238_0), ((HB.out.cell (World.block_lt_of_cell? w _ hw238_1)).trans hw238_1), ((HB.out.cell (World.block_lt_of_cell? w _ hw238_2)).trans hw238_2), ((HB.out.cell (World.block_lt_of_cell? w _ hw238_3)).trans hw238_3), ((HB.out.cell (World.block_lt_of_cell? w _ hw239_0)).trans hw239_0), ((HB.out.cell (World.block_lt_of_cell? w _ hw239_1)).trans hw239_1), ((HB.out.cell (World.block_lt_of_cell? w _ hw239_2)).trans hw239_2), ((HB.out.cell (World.block_lt_of_cell? w _ hw239_3)).trans hw239_3)⟩ (fun hHeld => ?_); refine with_tabW spec_IsValidDisk.tab4 spec_IsValidDisk.bits4 (fun HT_ HW_ => ?_)
             generalize wr.drew = w23 at BK229 HB HR232_1 HR234_1 HR235_1 HR236_1 HR238_1 HR239_1 hx232_0 hx232_1 hx232_2 hx232_3 hx234_0 hx234_1 hx234_2 hx234_3 hx235_0 hx235_1 hx235_2 hx235_3 hx236_0 hx236_1 hx236_2 hx236_3 hx238_0 hx238_1 hx238_2 hx238_3 hx239_0 hx239_1 hx239_2 hx239_3 hHeld ⊢
             refine pu_ 0 (some 11) HT_ (h := ?_)
             refine pu_ 2 (some 13) HT_ (h := ?_)
             refine pu_ 6 (some 17) HT_ (h := ?_)
             refine ta_ 1 (some 12) HT_ HW_ hHeld (h := ?_)
             refine pu_ 3 (some 14) HT_ (h := ?_)
             refine pu_ 4 (some 15) HT_ (h := ?_)
             refine ta_ 5 (some 16) HT_ HW_ hHeld (h := ?_)
             refine ta_ 7 (some 18) HT_ HW_ hHeld (h := ?_)
             refine pu_ 8 (some 19) HT_ (h := ?_)
             refine one_ (i := 9) (N := some 20) #[true, true, true, true, true, true, true, true, true, true, false, false, false, false, false, false, false, false, false, false, false, false, false, false, false, false, false, false, false, false, false, false, false, false, false, false, false, false, false, false, false, false, false, false, false, false, false, false, false, false, false, false, false, false, false, false, false, false, false] rfl rfl (one_of HT_.out (by kernel_rfl)) (by decide) (fun K hK => ?_)
             refine goes_ Try.func88 (by kernel_rfl) rfl #[.int .i64 ((rd_T80 l0_0 x3_1).f0), .int .i64 0, .int .i64 (wrap64 (a0_1 - 1))] (by rfl) rfl rfl (by (try simp only [mA, mC, mN]); first | done | rfl | (simp only [lD, lT]; rfl)) ?_
             with_reducible refine (spec_l1In.calls ((rd_T80 l0_0 x3_1).f0) 0 (wrap64 (a0_1 - 1)) true _ A5.out).mono ?_
             rintro e w' ⟨rfl, ⟨nd, rfl⟩⟩
             refine ⟨_, rfl, ?_⟩
             refine hK.out _ _ ⟨(blk_cell BK229.out 0).trans rfl, (blk_cell BK229.out 1).trans rfl, ((HB.out.cell (World.block_lt_of_cell? w _ hw232_0)).trans hw232_0), ((HB.out.cell (World.block_lt_of_cell? w _ hw232_1)).trans hw232_1), ((HB.out.cell (World.block_lt_of_cell? w _ hw232_2)).trans hw232_2), ((HB.out.cell (World.block_lt_of_cell? w _ hw232_3)).trans hw232_3), ((HB.out.cell (World.block_lt_of_cell? w _ hw234_0)).trans hw234_0), ((HB.out.cell (World.block_lt_of_cell? w _ hw234_1)).trans hw234_1), ((HB.out.cell (World.block_lt_of_cell? w _ hw234_2)).trans hw234_2), ((HB.out.cell (World.block_lt_of_cell? w _ hw234_3)).trans hw234_3), ((HB.out.cell (World.block_lt_of_cell? w _ hw235_0)).trans hw235_0), ((HB.out.cell (World.block_lt_of_cell? w _ hw235_1)).trans hw235_1), ((HB.out.cell (World.block_lt_of_cell? w _ hw235_2)).trans hw235_2), ((HB.out.cell (World.block_lt_of_cell? w _ hw235_3)).trans hw235_3), ((HB.out.cell (World.block_lt_of_cell? w _ hw236_0)).trans hw236_0), ((HB.out.cell (World.block_lt_of_cell? w _ hw236_1)).trans hw236_1), ((HB.out.cell (World.block_lt_of_cell? w _ hw236_2)).trans hw236_2), ((HB.out.cell (World.block_lt_of_cell? w _ hw236_3)).trans hw236_3), ((HB.out.cell (World.block_lt_of_cell? w _ hw238_0)).trans hw238_0), ((HB.out.cell (World.block_lt_of_cell? w _ hw238_1)).trans hw238_1), ((HB.out.cell (World.block_lt_of_cell? w _ hw238_2)).trans hw238_2), ((HB.out.cell (World.block_lt_of_cell? w _ hw238_3)).trans hw238_3), ((HB.out.cell (World.block_lt_of_cell? w _ hw239_0)).trans hw239_0), ((HB.out.cell (World.block_lt_of_cell? w _ hw239_1)).trans hw239_1), ((HB.out.cell (World.block_lt_of_cell? w _ hw239_2)).trans hw239_2), ((HB.out.cell (World.block_lt_of_cell? w _ hw239_3)).trans hw239_3)⟩ (fun hHeld => ?_)
             clear hK K
             refine norm_ (a' := ?_) ?_ ?_
             rotate_left
             ·show Act.put _ (some 20) _ = _
              simp only [Act.put, List.setIfInBounds_toArray, List.set_cons_zero, List.set_cons_succ, i64_w, i32_w]
              rfl
             refine pu_ 10 (some 21) HT_ (h := ?_)
             refine pu_ 11 (some 22) HT_ (h := ?_)
             refine pu_ 12 (some 23) HT_ (h := ?_)
             refine pu_ 13 (some 24) HT_ (h := ?_)
             refine pu_ 14 (some 25) HT_ (h := ?_)
             refine pu_ 15 (some 26) HT_ (h := ?_)
             refine pu_ 17 (some 28) HT_ (h := ?_)
             refine pu_ 21 (some 32) HT_ (h := ?_)
             refine pu_ 23 (some 34) HT_ (h := ?_)
             refine pu_ 24 (some 35) HT_ (h := ?_)
             refine ta_ 16 (some 27) HT_ HW_ hHeld (h := ?_)
             refine pu_ 18 (some 29) HT_ (h := ?_)
             refine pu_ 19 (some 30) HT_ (h := ?_)
             refine ta_ 20 (some 31) HT_ HW_ hHeld (h := ?_)
             refine ta_ 22 (some 33) HT_ HW_ hHeld (h := ?_)
             refine pu_ 25 (some 36) HT_ (h := ?_)
             refine pu_ 26 (some 37) HT_ (h := ?_)
             refine ta_ 27 (some 38) HT_ HW_ hHeld (h := ?_)
             refine pu_ 28 (some 39) HT_ (h := ?_)
             refine pu_ 29 (some 40) HT_ (h := ?_)
             refine pu_ 30 (some 41) HT_ (h := ?_)
             refine pu_ 31 (some 42) HT_ (h := ?_)
             refine pu_ 32 (some 43) HT_ (h := ?_)
             refine pu_ 34 (some 45) HT_ (h := ?_)
             refine ta_ 33 (some 44) HT_ HW_ hHeld (h := ?_)
             refine pu_ 35 (some 46) HT_ (h := ?_)
             refine pu_ 36 (some 47) HT_ (h := ?_)
             refine ta_ 37 (some 48) HT_ HW_ hHeld (h := ?_)
             refine one_ (i := 38) (N := some 49) #[true, true, true, true, true, true, true, true, true, true, true, true, true, true, true, true, true, true, true, true, true, true, true, true, true, true, true, true, true, true, true, true, true, true, true, true, true, true, true, false, false, false, false, false, false, false, false, false, false, false, false, false, false, false, false, false, false, false, false] rfl rfl (one_of HT_.out (by kernel_rfl)) (by decide) (fun K hK => ?_)
             refine goes_ Try.func85 (by kernel_rfl) rfl #[.slice A232_1 ((rd_T80 l0_0 x3_1).f1).length c232_1] (by rfl) rfl rfl (by (try simp only [mA, mC, mN]); first | done | rfl | (simp only [lD, lT]; rfl)) ?_
             with_reducible refine (spec_l4Pages.calls k1 _ _ ((rd_T80 l0_0 x3_1).f1) true _ ?side1 ?side2 A14.out).mono ?_
             (case side1 => repeat (first | exact (Kd.C_below HR236_1.out (by repeat (first | (with_reducible first | exact HB.out | apply cA | apply cN | apply cD | refine below_set ?_ GE229.out) | exact HB.out))) | (with_reducible refine Kd.C_alloc ?_ _) | (with_reducible refine Kd.C_drewN ?_ _) | (with_reducible refine Kd.C_drew ?_)))
             (case side2 => exact HC236_1.out)
             rintro e w24 ⟨rfl, hb⟩
             refine ⟨_, rfl, ?_⟩
             have n0_ := Aside0.mk (blk_below (g := gb229) (o := .cells #[.slice (some ad232) l0_0.length c0_0, .int .i64 a0_1] 28 (0, 0)) (by (with_reducible repeat (first | apply bN | apply bD | apply bA)); exact BK229.out) hb)
             have n1_ := Aside0.mk (below_step (by repeat (first | (with_reducible first | exact HB.out | apply cA | apply cN | apply cD | refine below_set ?_ GE229.out) | exact HB.out)) hb)
             clear BK229
             clear HB
             have BK229 := n0_
             have HB := n1_
             clear n0_ n1_
             (try clear hb)
             (try clear hb2)
             (try clear hk)
             (try clear hi)
             refine hK.out _ _ ⟨(blk_cell BK229.out 0).trans rfl, (blk_cell BK229.out 1).trans rfl, ((HB.out.cell (World.block_lt_of_cell? w _ hw232_0)).trans hw232_0), ((HB.out.cell (World.block_lt_of_cell? w _ hw232_1)).trans hw232_1), ((HB.out.cell (World.block_lt_of_cell? w _ hw232_2)).trans hw232_2), ((HB.out.cell (World.block_lt_of_cell? w _ hw232_3)).trans hw232_3), ((HB.out.cell (World.block_lt_of_cell? w _ hw234_0)).trans hw234_0), ((HB.out.cell (World.block_lt_of_cell? w _ hw234_1)).trans hw234_1), ((HB.out.cell (World.block_lt_of_cell? w _ hw234_2)).trans hw234_2), ((HB.out.cell (World.block_lt_of_cell? w _ hw234_3)).trans hw234_3), ((HB.out.cell (World.block_lt_of_cell? w _ hw235_0)).trans hw235_0), ((HB.out.cell (World.block_lt_of_cell? w _ hw235_1)).trans hw235_1), ((HB.out.cell (World.block_lt_of_cell? w _ hw235_2)).trans hw235_2), ((HB.out.cell (World.block_lt_of_cell? w _ hw235_3)).trans hw235_3), ((HB.out.cell (World.block_lt_of_cell? w _ hw236_0)).trans hw236_0), ((HB.out.cell (World.block_lt_of_cell? w _ hw236_1)).trans hw236_1), ((HB.out.cell (World.block_lt_of_cell? w _ hw236_2)).trans hw236_2), ((HB.out.cell (World.block_lt_of_cell? w _ hw236_3)).trans hw236_3), ((HB.out.cell (World.block_lt_of_cell? w _ hw238_0)).trans hw238_0), ((HB.out.cell (World.block_lt_of_cell? w _ hw238_1)).trans hw238_1), ((HB.out.cell (World.block_lt_of_cell? w _ hw238_2)).trans hw238_2), ((HB.out.cell (World.block_lt_of_cell? w _ hw238_3)).trans hw238_3), ((HB.out.cell (World.block_lt_of_cell? w _ hw239_0)).trans hw239_0), ((HB.out.cell (World.block_lt_of_cell? w _ hw239_1)).trans hw239_1), ((HB.out.cell (World.block_lt_of_cell? w _ hw239_2)).trans hw239_2), ((HB.out.cell (World.block_lt_of_cell? w _ hw239_3)).trans hw239_3)⟩ (fun hHeld => ?_)
             clear hK K
             refine norm_ (a' := ?_) ?_ ?_
             rotate_left
             ·show Act.put _ (some 49) _ = _
              simp only [Act.put, List.setIfInBounds_toArray, List.set_cons_zero, List.set_cons_succ, i64_w, i32_w]
              rfl
             refine pu_ 39 (some 50) HT_ (h := ?_)
             refine pu_ 40 (some 51) HT_ (h := ?_)
             refine pu_ 41 (some 52) HT_ (h := ?_)
             refine pu_ 42 (some 53) HT_ (h := ?_)
             refine pu_ 44 (some 55) HT_ (h := ?_)
             refine ta_ 43 (some 54) HT_ HW_ hHeld (h := ?_)
             refine pu_ 45 (some 56) HT_ (h := ?_)
             refine pu_ 46 (some 57) HT_ (h := ?_)
             refine ta_ 47 (some 58) HT_ HW_ hHeld (h := ?_)
             refine pu_ 48 (some 59) HT_ (h := ?_)
             refine pu_ 49 (some 60) HT_ (h := ?_)
             refine pu_ 50 (some 61) HT_ (h := ?_)
             refine pu_ 52 (some 63) HT_ (h := ?_)
             refine ta_ 51 (some 62) HT_ HW_ hHeld (h := ?_)
             refine pu_ 53 (some 64) HT_ (h := ?_)
             refine pu_ 54 (some 65) HT_ (h := ?_)
             refine ta_ 55 (some 66) HT_ HW_ hHeld (h := ?_)
             refine pu_ 56 (some 67) HT_ (h := ?_)
             refine pu_ 57 (some 68) HT_ (h := ?_)
             refine pu_ 58 (some 69) HT_ (h := ?_)
             refine done_ (done_of HT_.out (by kernel_rfl)) ?_
             try go_wp2
             go_roundg k1
             case measure => have := HK1.out; omega
             case rel => exact ⟨(wrap64 (x3_1 + 1)), (by first | rfl | (simp; done) | (simp [*]; done)), H', ⟨by have := HK1.out; omega⟩, ⟨by (with_reducible repeat (first | apply bN | apply bD | apply bA)); exact BK229.out⟩, ⟨by repeat (first | (with_reducible first | exact HB.out | apply cA | apply cN | apply cD | refine below_set ?_ GE229.out) | exact HB.out)⟩⟩
            ·rw [if_neg c21] at H
             have c21b0 : (((rd_T80 l0_0 x3_1).f2) == 0) = false := beq_eq_false_iff_ne.mpr c21
             have c21b1 : (((rd_T80 l0_0 x3_1).f2) != 0) = true := bne_iff_ne.mpr c21
             obtain rfl := Option.some.inj H
             have hcz25_0 : wr.cell? ⟨gb229, 0, none⟩ = some (.slice A0_0 l0_0.length c0_0) := (blk_cell BK229.out 0).trans rfl
             have hcz25_1 : wr.cell? ⟨gb229, 1, none⟩ = some (.int .i64 a0_1) := (blk_cell BK229.out 1).trans rfl
             have hfz25_0 := blk_frozen BK229.out 0
             have hfz25_1 := blk_frozen BK229.out 1
             try go_wp2
             have n0_ := Aside0.mk (blk_drew BK229.out)
             have n1_ := Aside0.mk (below_drew1 HB.out)
             clear BK229
             clear HB
             have BK229 := n0_
             have HB := n1_
             clear n0_ n1_
             have p232 : 0 ≤ (x3_1 : Int) := of_decide_eq_true (by first | (with_reducible assumption) | assumption)
             have q232 : x3_1 < (l0_0.length : Int) := of_decide_eq_true (by first | (with_reducible assumption) | assumption)
             obtain ⟨ad232, A232_1, c232_1, e232, hx232_0, hx232_1, hx232_2, hx232_3, hl232_1, hi232_1⟩ := at_T80 HR0_0.out x3_1 p232 q232
             have hw232_3 := hx232_3
             have hw232_2 := hx232_2
             have hw232_1 := hx232_1
             have hw232_0 := hx232_0
             (try rw [← Nbq16.out] at hx232_3)
             (try rw [← Nbq16.out] at hw232_3)
             cases e232
             replace hx232_0 := (HB.out.cell (World.block_lt_of_cell? w _ hx232_0)).trans hx232_0
             replace hx232_1 := (HB.out.cell (World.block_lt_of_cell? w _ hx232_1)).trans hx232_1
             replace hx232_2 := (HB.out.cell (World.block_lt_of_cell? w _ hx232_2)).trans hx232_2
             replace hx232_3 := (HB.out.cell (World.block_lt_of_cell? w _ hx232_3)).trans hx232_3
             have HR232_1 := Aside0.mk hi232_1
             have HC232_1 := Aside0.mk hl232_1
             clear hi232_1 hl232_1
             replace p232 := eq_true p232
             replace q232 := eq_true q232
             have p234 : 0 ≤ (x3_1 : Int) := of_decide_eq_true (by first | (with_reducible assumption) | assumption)
             have q234 : x3_1 < (l0_0.length : Int) := of_decide_eq_true (by first | (with_reducible assumption) | assumption)
             obtain ⟨ad234, A234_1, c234_1, e234, hx234_0, hx234_1, hx234_2, hx234_3, hl234_1, hi234_1⟩ := at_T80 HR0_0.out x3_1 p234 q234
             have hw234_3 := hx234_3
             have hw234_2 := hx234_2
             have hw234_1 := hx234_1
             have hw234_0 := hx234_0
             (try rw [← Nbq16.out] at hx234_3)
             (try rw [← Nbq16.out] at hw234_3)
             obtain rfl : ad232 = ad234 := (by injection e234)
             replace hx234_0 := (HB.out.cell (World.block_lt_of_cell? w _ hx234_0)).trans hx234_0
             replace hx234_1 := (HB.out.cell (World.block_lt_of_cell? w _ hx234_1)).trans hx234_1
             replace hx234_2 := (HB.out.cell (World.block_lt_of_cell? w _ hx234_2)).trans hx234_2
             replace hx234_3 := (HB.out.cell (World.block_lt_of_cell? w _ hx234_3)).trans hx234_3
             have HR234_1 := Aside0.mk hi234_1
             have HC234_1 := Aside0.mk hl234_1
             clear hi234_1 hl234_1
             replace p234 := eq_true p234
             replace q234 := eq_true q234
             have ea_ := Option.some.inj (hx232_1.symm.trans hx234_1)
             injection ea_ with ea_ en_ ec_
             subst ea_
             subst ec_
             clear en_
             have p235 : 0 ≤ ((ji8) : Int) := of_decide_eq_true (by first | (with_reducible assumption) | assumption)
             have q235 : (ji8) < (l0_0.length : Int) := of_decide_eq_true (by first | (with_reducible assumption) | assumption)
             obtain ⟨ad235, A235_1, c235_1, e235, hx235_0, hx235_1, hx235_2, hx235_3, hl235_1, hi235_1⟩ := at_T80 HR0_0.out (ji8) p235 q235
             have hw235_3 := hx235_3
             have hw235_2 := hx235_2
             have hw235_1 := hx235_1
             have hw235_0 := hx235_0
             (try rw [← Nbq16.out] at hx235_3)
             (try rw [← Nbq16.out] at hw235_3)
             obtain rfl : ad232 = ad235 := (by injection e235)
             replace hx235_0 := (HB.out.cell (World.block_lt_of_cell? w _ hx235_0)).trans hx235_0
             replace hx235_1 := (HB.out.cell (World.block_lt_of_cell? w _ hx235_1)).trans hx235_1
             replace hx235_2 := (HB.out.cell (World.block_lt_of_cell? w _ hx235_2)).trans hx235_2
             replace hx235_3 := (HB.out.cell (World.block_lt_of_cell? w _ hx235_3)).trans hx235_3
             have HR235_1 := Aside0.mk hi235_1
             have HC235_1 := Aside0.mk hl235_1
             clear hi235_1 hl235_1
             replace p235 := eq_true p235
             replace q235 := eq_true q235
             have p236 : 0 ≤ (x3_1 : Int) := of_decide_eq_true (by first | (with_reducible assumption) | assumption)
             have q236 : x3_1 < (l0_0.length : Int) := of_decide_eq_true (by first | (with_reducible assumption) | assumption)
             obtain ⟨ad236, A236_1, c236_1, e236, hx236_0, hx236_1, hx236_2, hx236_3, hl236_1, hi236_1⟩ := at_T80 HR0_0.out x3_1 p236 q236
             have hw236_3 := hx236_3
             have hw236_2 := hx236_2
             have hw236_1 := hx236_1
             have hw236_0 := hx236_0
             (try rw [← Nbq16.out] at hx236_3)
             (try rw [← Nbq16.out] at hw236_3)
             obtain rfl : ad232 = ad236 := (by injection e236)
             replace hx236_0 := (HB.out.cell (World.block_lt_of_cell? w _ hx236_0)).trans hx236_0
             replace hx236_1 := (HB.out.cell (World.block_lt_of_cell? w _ hx236_1)).trans hx236_1
             replace hx236_2 := (HB.out.cell (World.block_lt_of_cell? w _ hx236_2)).trans hx236_2
             replace hx236_3 := (HB.out.cell (World.block_lt_of_cell? w _ hx236_3)).trans hx236_3
             have HR236_1 := Aside0.mk hi236_1
             have HC236_1 := Aside0.mk hl236_1
             clear hi236_1 hl236_1
             replace p236 := eq_true p236
             replace q236 := eq_true q236
             have ea_ := Option.some.inj (hx232_1.symm.trans hx236_1)
             injection ea_ with ea_ en_ ec_
             subst ea_
             subst ec_
             clear en_
             have p238 : 0 ≤ (x3_1 : Int) := of_decide_eq_true (by first | (with_reducible assumption) | assumption)
             have q238 : x3_1 < (l0_0.length : Int) := of_decide_eq_true (by first | (with_reducible assumption) | assumption)
             obtain ⟨ad238, A238_1, c238_1, e238, hx238_0, hx238_1, hx238_2, hx238_3, hl238_1, hi238_1⟩ := at_T80 HR0_0.out x3_1 p238 q238
             have hw238_3 := hx238_3
             have hw238_2 := hx238_2
             have hw238_1 := hx238_1
             have hw238_0 := hx238_0
             (try rw [← Nbq16.out] at hx238_3)
             (try rw [← Nbq16.out] at hw238_3)
             obtain rfl : ad232 = ad238 := (by injection e238)
             replace hx238_0 := (HB.out.cell (World.block_lt_of_cell? w _ hx238_0)).trans hx238_0
             replace hx238_1 := (HB.out.cell (World.block_lt_of_cell? w _ hx238_1)).trans hx238_1
             replace hx238_2 := (HB.out.cell (World.block_lt_of_cell? w _ hx238_2)).trans hx238_2
             replace hx238_3 := (HB.out.cell (World.block_lt_of_cell? w _ hx238_3)).trans hx238_3
             have HR238_1 := Aside0.mk hi238_1
             have HC238_1 := Aside0.mk hl238_1
             clear hi238_1 hl238_1
             replace p238 := eq_true p238
             replace q238 := eq_true q238
             have p239 : 0 ≤ (x3_1 : Int) := of_decide_eq_true (by first | (with_reducible assumption) | assumption)
             have q239 : x3_1 < (l0_0.length : Int) := of_decide_eq_true (by first | (with_reducible assumption) | assumption)
             obtain ⟨ad239, A239_1, c239_1, e239, hx239_0, hx239_1, hx239_2, hx239_3, hl239_1, hi239_1⟩ := at_T80 HR0_0.out x3_1 p239 q239
             have hw239_3 := hx239_3
             have hw239_2 := hx239_2
             have hw239_1 := hx239_1
             have hw239_0 := hx239_0
             (try rw [← Nbq16.out] at hx239_3)
             (try rw [← Nbq16.out] at hw239_3)
             obtain rfl : ad232 = ad239 := (by injection e239)
             replace hx239_0 := (HB.out.cell (World.block_lt_of_cell? w _ hx239_0)).trans hx239_0
             replace hx239_1 := (HB.out.cell (World.block_lt_of_cell? w _ hx239_1)).trans hx239_1
             replace hx239_2 := (HB.out.cell (World.block_lt_of_cell? w _ hx239_2)).trans hx239_2
             replace hx239_3 := (HB.out.cell (World.block_lt_of_cell? w _ hx239_3)).trans hx239_3
             have HR239_1 := Aside0.mk hi239_1
             have HC239_1 := Aside0.mk hl239_1
             clear hi239_1 hl239_1
             replace p239 := eq_true p239
             replace q239 := eq_true q239
             have ea_ := Option.some.inj (hx238_1.symm.trans hx239_1)
             injection ea_ with ea_ en_ ec_
             subst ea_
             subst ec_
             clear en_
             refine start_ (n := 59) (S := fun w' => w'.cell? ⟨gb229, 0, none⟩ = some (.slice (some ad232) l0_0.length c0_0) ∧ w'.cell? ⟨gb229, 1, none⟩ = some (.int .i64 a0_1) ∧ w'.cell? (ad232.add ((x3_1).toNat * 4)) = some (.int .i64 ((rd_T80 l0_0 x3_1).f0)) ∧ w'.cell? ⟨(ad232.add ((x3_1).toNat * 4)).block, (ad232.add ((x3_1).toNat * 4)).off + 1, none⟩ = some (.slice A232_1 ((rd_T80 l0_0 x3_1).f1).length c232_1) ∧ w'.cell? ⟨(ad232.add ((x3_1).toNat * 4)).block, (ad232.add ((x3_1).toNat * 4)).off + 2, none⟩ = some (.int .i64 ((rd_T80 l0_0 x3_1).f2)) ∧ w'.cell? ⟨(ad232.add ((x3_1).toNat * 4)).block, (ad232.add ((x3_1).toNat * 4)).off + 3, none⟩ = some (.bool false) ∧ w'.cell? (ad232.add ((x3_1).toNat * 4)) = some (.int .i64 ((rd_T80 l0_0 x3_1).f0)) ∧ w'.cell? ⟨(ad232.add ((x3_1).toNat * 4)).block, (ad232.add ((x3_1).toNat * 4)).off + 1, none⟩ = some (.slice A232_1 ((rd_T80 l0_0 x3_1).f1).length c232_1) ∧ w'.cell? ⟨(ad232.add ((x3_1).toNat * 4)).block, (ad232.add ((x3_1).toNat * 4)).off + 2, none⟩ = some (.int .i64 ((rd_T80 l0_0 x3_1).f2)) ∧ w'.cell? ⟨(ad232.add ((x3_1).toNat * 4)).block, (ad232.add ((x3_1).toNat * 4)).off + 3, none⟩ = some (.bool false) ∧ w'.cell? (ad232.add (((ji8)).toNat * 4)) = some (.int .i64 ((rd_T80 l0_0 (ji8)).f0)) ∧ w'.cell? ⟨(ad232.add (((ji8)).toNat * 4)).block, (ad232.add (((ji8)).toNat * 4)).off + 1, none⟩ = some (.slice A235_1 ((rd_T80 l0_0 (ji8)).f1).length c235_1) ∧ w'.cell? ⟨(ad232.add (((ji8)).toNat * 4)).block, (ad232.add (((ji8)).toNat * 4)).off + 2, none⟩ = some (.int .i64 ((rd_T80 l0_0 (ji8)).f2)) ∧ w'.cell? ⟨(ad232.add (((ji8)).toNat * 4)).block, (ad232.add (((ji8)).toNat * 4)).off + 3, none⟩ = some (.bool ((rd_T80 l0_0 (ji8)).f3)) ∧ w'.cell? (ad232.add ((x3_1).toNat * 4)) = some (.int .i64 ((rd_T80 l0_0 x3_1).f0)) ∧ w'.cell? ⟨(ad232.add ((x3_1).toNat * 4)).block, (ad232.add ((x3_1).toNat * 4)).off + 1, none⟩ = some (.slice A232_1 ((rd_T80 l0_0 x3_1).f1).length c232_1) ∧ w'.cell? ⟨(ad232.add ((x3_1).toNat * 4)).block, (ad232.add ((x3_1).toNat * 4)).off + 2, none⟩ = some (.int .i64 ((rd_T80 l0_0 x3_1).f2)) ∧ w'.cell? ⟨(ad232.add ((x3_1).toNat * 4)).block, (ad232.add ((x3_1).toNat * 4)).off + 3, none⟩ = some (.bool false) ∧ w'.cell? (ad232.add ((x3_1).toNat * 4)) = some (.int .i64 ((rd_T80 l0_0 x3_1).f0)) ∧ w'.cell? ⟨(ad232.add ((x3_1).toNat * 4)).block, (ad232.add ((x3_1).toNat * 4)).off + 1, none⟩ = some (.slice A238_1 ((rd_T80 l0_0 x3_1).f1).length c238_1) ∧ w'.cell? ⟨(ad232.add ((x3_1).toNat * 4)).block, (ad232.add ((x3_1).toNat * 4)).off + 2, none⟩ = some (.int .i64 ((rd_T80 l0_0 x3_1).f2)) ∧ w'.cell? ⟨(ad232.add ((x3_1).toNat * 4)).block, (ad232.add ((x3_1).toNat * 4)).off + 3, none⟩ = some (.bool false) ∧ w'.cell? (ad232.add ((x3_1).toNat * 4)) = some (.int .i64 ((rd_T80 l0_0 x3_1).f0)) ∧ w'.cell? ⟨(ad232.add ((x3_1).toNat * 4)).block, (ad232.add ((x3_1).toNat * 4)).off + 1, none⟩ = some (.slice A238_1 ((rd_T80 l0_0 x3_1).f1).length c238_1) ∧ w'.cell? ⟨(ad232.add ((x3_1).toNat * 4)).block, (ad232.add ((x3_1).toNat * 4)).off + 2, none⟩ = some (.int .i64 ((rd_T80 l0_0 x3_1).f2)) ∧ w'.cell? ⟨(ad232.add ((x3_1).toNat * 4)).block, (ad232.add ((x3_1).toNat * 4)).off + 3, none⟩ = some (.bool (false))) (ds := []) #[false, false, false, false, false, false, false, false, false, false, false, false, false, false, false, false, false, false, false, false, false, false, false, false, false, false, false, false, false, false, false, false, false, false, false, false, false, false, false, false, false, false, false, false, false, false, false, false, false, false, false, false, false, false, false, false, false, false, false] (by kernel_rfl) rfl rfl ⟨(blk_cell BK229.out 0).trans rfl, (blk_cell BK229.out 1).trans rfl, ((HB.out.cell (World.block_lt_of_cell? w _ hw232_0)).trans hw232_0), ((HB.out.cell (World.block_lt_of_cell? w _ hw232_1)).trans hw232_1), ((HB.out.cell (World.block_lt_of_cell? w _ hw232_2)).trans hw232_2), ((HB.out.cell (World.block_lt_of_cell? w _ hw232_3)).trans hw232_3), ((HB.out.cell (World.block_lt_of_cell? w _ hw234_0)).trans hw234_0), ((HB.out.cell (World.block_lt_of_cell? w _ hw234_1)).trans hw234_1), ((HB.out.cell (World.block_lt_of_cell? w _ hw234_2)).trans hw234_2), ((HB.out.cell (World.block_lt_of_cell? w _ hw234_3)).trans hw234_3), ((HB.out.cell (World.block_lt_of_cell? w _ hw235_0)).trans hw235_0), ((HB.out.cell (World.block_lt_of_cell? w _ hw235_1)).trans hw235_1), ((HB.out.cell (World.block_lt_of_cell? w _ hw235_2)).trans hw235_2), ((HB.out.cell (World.block_lt_of_cell? w _ hw235_3)).trans hw235_3), ((HB.out.cell (World.block_lt_of_cell? w _ hw236_0)).trans hw236_0), ((HB.out.cell (World.block_lt_of_cell? w _ hw236_1)).trans hw236_1), ((HB.out.cell (World.block_lt_of_cell? w _ hw236_2)).trans hw236_2), ((HB.out.cell (World.block_lt_of_cell? w _ hw236_3)).trans hw236_3), ((HB.out.cell (World.block_lt_of_cell? w _ hw238_0)).trans hw238_0), ((HB.out.cell (World.block_lt_of_cell? w _ hw238_1)).trans hw238_1), ((HB.out.cell (World.block_lt_of_cell? w _ hw238_2)).trans hw238_2), ((HB.out.cell (World.block_lt_of_cell? w _ hw238_3)).trans hw238_3), ((HB.out.cell (World.block_lt_of_cell? w _ hw239_0)).trans hw239_0), ((HB.out.cell (World.block_lt_of_cell? w _ hw239_1)).trans hw239_1), ((HB.out.cell (World.block_lt_of_cell? w _ hw239_2)).trans hw239_2), ((HB.out.cell (World.block_lt_of_cell? w _ hw239_3)).trans hw239_3)⟩ (fun hHeld => ?_); refine with_tabW spec_IsValidDisk.tab4 spec_IsValidDisk.bits4 (fun HT_ HW_ => ?_)
             generalize wr.drew = w26 at BK229 HB HR232_1 HR234_1 HR235_1 HR236_1 HR238_1 HR239_1 hx232_0 hx232_1 hx232_2 hx232_3 hx234_0 hx234_1 hx234_2 hx234_3 hx235_0 hx235_1 hx235_2 hx235_3 hx236_0 hx236_1 hx236_2 hx236_3 hx238_0 hx238_1 hx238_2 hx238_3 hx239_0 hx239_1 hx239_2 hx239_3 hHeld ⊢
             refine pu_ 0 (some 11) HT_ (h := ?_)
             refine pu_ 2 (some 13) HT_ (h := ?_)
             refine pu_ 6 (some 17) HT_ (h := ?_)
             refine ta_ 1 (some 12) HT_ HW_ hHeld (h := ?_)
             refine pu_ 3 (some 14) HT_ (h := ?_)
             refine pu_ 4 (some 15) HT_ (h := ?_)
             refine ta_ 5 (some 16) HT_ HW_ hHeld (h := ?_)
             refine ta_ 7 (some 18) HT_ HW_ hHeld (h := ?_)
             refine pu_ 8 (some 19) HT_ (h := ?_)
             refine one_ (i := 9) (N := some 20) #[true, true, true, true, true, true, true, true, true, true, false, false, false, false, false, false, false, false, false, false, false, false, false, false, false, false, false, false, false, false, false, false, false, false, false, false, false, false, false, false, false, false, false, false, false, false, false, false, false, false, false, false, false, false, false, false, false, false, false] rfl rfl (one_of HT_.out (by kernel_rfl)) (by decide) (fun K hK => ?_)
             refine goes_ Try.func88 (by kernel_rfl) rfl #[.int .i64 ((rd_T80 l0_0 x3_1).f0), .int .i64 0, .int .i64 (wrap64 (a0_1 - 1))] (by rfl) rfl rfl (by (try simp only [mA, mC, mN]); first | done | rfl | (simp only [lD, lT]; rfl)) ?_
             with_reducible refine (spec_l1In.calls ((rd_T80 l0_0 x3_1).f0) 0 (wrap64 (a0_1 - 1)) true _ A5.out).mono ?_
             rintro e w' ⟨rfl, ⟨nd, rfl⟩⟩
             refine ⟨_, rfl, ?_⟩
             refine hK.out _ _ ⟨(blk_cell BK229.out 0).trans rfl, (blk_cell BK229.out 1).trans rfl, ((HB.out.cell (World.block_lt_of_cell? w _ hw232_0)).trans hw232_0), ((HB.out.cell (World.block_lt_of_cell? w _ hw232_1)).trans hw232_1), ((HB.out.cell (World.block_lt_of_cell? w _ hw232_2)).trans hw232_2), ((HB.out.cell (World.block_lt_of_cell? w _ hw232_3)).trans hw232_3), ((HB.out.cell (World.block_lt_of_cell? w _ hw234_0)).trans hw234_0), ((HB.out.cell (World.block_lt_of_cell? w _ hw234_1)).trans hw234_1), ((HB.out.cell (World.block_lt_of_cell? w _ hw234_2)).trans hw234_2), ((HB.out.cell (World.block_lt_of_cell? w _ hw234_3)).trans hw234_3), ((HB.out.cell (World.block_lt_of_cell? w _ hw235_0)).trans hw235_0), ((HB.out.cell (World.block_lt_of_cell? w _ hw235_1)).trans hw235_1), ((HB.out.cell (World.block_lt_of_cell? w _ hw235_2)).trans hw235_2), ((HB.out.cell (World.block_lt_of_cell? w _ hw235_3)).trans hw235_3), ((HB.out.cell (World.block_lt_of_cell? w _ hw236_0)).trans hw236_0), ((HB.out.cell (World.block_lt_of_cell? w _ hw236_1)).trans hw236_1), ((HB.out.cell (World.block_lt_of_cell? w _ hw236_2)).trans hw236_2), ((HB.out.cell (World.block_lt_of_cell? w _ hw236_3)).trans hw236_3), ((HB.out.cell (World.block_lt_of_cell? w _ hw238_0)).trans hw238_0), ((HB.out.cell (World.block_lt_of_cell? w _ hw238_1)).trans hw238_1), ((HB.out.cell (World.block_lt_of_cell? w _ hw238_2)).trans hw238_2), ((HB.out.cell (World.block_lt_of_cell? w _ hw238_3)).trans hw238_3), ((HB.out.cell (World.block_lt_of_cell? w _ hw239_0)).trans hw239_0), ((HB.out.cell (World.block_lt_of_cell? w _ hw239_1)).trans hw239_1), ((HB.out.cell (World.block_lt_of_cell? w _ hw239_2)).trans hw239_2), ((HB.out.cell (World.block_lt_of_cell? w _ hw239_3)).trans hw239_3)⟩ (fun hHeld => ?_)
             clear hK K
             refine norm_ (a' := ?_) ?_ ?_
             rotate_left
             ·show Act.put _ (some 20) _ = _
              simp only [Act.put, List.setIfInBounds_toArray, List.set_cons_zero, List.set_cons_succ, i64_w, i32_w]
              rfl
             refine pu_ 10 (some 21) HT_ (h := ?_)
             refine pu_ 11 (some 22) HT_ (h := ?_)
             refine pu_ 12 (some 23) HT_ (h := ?_)
             refine pu_ 13 (some 24) HT_ (h := ?_)
             refine pu_ 14 (some 25) HT_ (h := ?_)
             refine pu_ 15 (some 26) HT_ (h := ?_)
             refine pu_ 17 (some 28) HT_ (h := ?_)
             refine pu_ 21 (some 32) HT_ (h := ?_)
             refine pu_ 23 (some 34) HT_ (h := ?_)
             refine pu_ 24 (some 35) HT_ (h := ?_)
             refine ta_ 16 (some 27) HT_ HW_ hHeld (h := ?_)
             refine pu_ 18 (some 29) HT_ (h := ?_)
             refine pu_ 19 (some 30) HT_ (h := ?_)
             refine ta_ 20 (some 31) HT_ HW_ hHeld (h := ?_)
             refine ta_ 22 (some 33) HT_ HW_ hHeld (h := ?_)
             refine pu_ 25 (some 36) HT_ (h := ?_)
             refine pu_ 26 (some 37) HT_ (h := ?_)
             refine ta_ 27 (some 38) HT_ HW_ hHeld (h := ?_)
             refine pu_ 28 (some 39) HT_ (h := ?_)
             refine pu_ 29 (some 40) HT_ (h := ?_)
             refine pu_ 30 (some 41) HT_ (h := ?_)
             refine pu_ 31 (some 42) HT_ (h := ?_)
             refine pu_ 32 (some 43) HT_ (h := ?_)
             refine pu_ 34 (some 45) HT_ (h := ?_)
             refine ta_ 33 (some 44) HT_ HW_ hHeld (h := ?_)
             refine pu_ 35 (some 46) HT_ (h := ?_)
             refine pu_ 36 (some 47) HT_ (h := ?_)
             refine ta_ 37 (some 48) HT_ HW_ hHeld (h := ?_)
             refine one_ (i := 38) (N := some 49) #[true, true, true, true, true, true, true, true, true, true, true, true, true, true, true, true, true, true, true, true, true, true, true, true, true, true, true, true, true, true, true, true, true, true, true, true, true, true, true, false, false, false, false, false, false, false, false, false, false, false, false, false, false, false, false, false, false, false, false] rfl rfl (one_of HT_.out (by kernel_rfl)) (by decide) (fun K hK => ?_)
             refine goes_ Try.func85 (by kernel_rfl) rfl #[.slice A232_1 ((rd_T80 l0_0 x3_1).f1).length c232_1] (by rfl) rfl rfl (by (try simp only [mA, mC, mN]); first | done | rfl | (simp only [lD, lT]; rfl)) ?_
             with_reducible refine (spec_l4Pages.calls k1 _ _ ((rd_T80 l0_0 x3_1).f1) true _ ?side1 ?side2 A14.out).mono ?_
             (case side1 => repeat (first | exact (Kd.C_below HR236_1.out (by repeat (first | (with_reducible first | exact HB.out | apply cA | apply cN | apply cD | refine below_set ?_ GE229.out) | exact HB.out))) | (with_reducible refine Kd.C_alloc ?_ _) | (with_reducible refine Kd.C_drewN ?_ _) | (with_reducible refine Kd.C_drew ?_)))
             (case side2 => exact HC236_1.out)
             rintro e w27 ⟨rfl, hb⟩
             refine ⟨_, rfl, ?_⟩
             have n0_ := Aside0.mk (blk_below (g := gb229) (o := .cells #[.slice (some ad232) l0_0.length c0_0, .int .i64 a0_1] 28 (0, 0)) (by (with_reducible repeat (first | apply bN | apply bD | apply bA)); exact BK229.out) hb)
             have n1_ := Aside0.mk (below_step (by repeat (first | (with_reducible first | exact HB.out | apply cA | apply cN | apply cD | refine below_set ?_ GE229.out) | exact HB.out)) hb)
             clear BK229
             clear HB
             have BK229 := n0_
             have HB := n1_
             clear n0_ n1_
             (try clear hb)
             (try clear hb2)
             (try clear hk)
             (try clear hi)
             refine hK.out _ _ ⟨(blk_cell BK229.out 0).trans rfl, (blk_cell BK229.out 1).trans rfl, ((HB.out.cell (World.block_lt_of_cell? w _ hw232_0)).trans hw232_0), ((HB.out.cell (World.block_lt_of_cell? w _ hw232_1)).trans hw232_1), ((HB.out.cell (World.block_lt_of_cell? w _ hw232_2)).trans hw232_2), ((HB.out.cell (World.block_lt_of_cell? w _ hw232_3)).trans hw232_3), ((HB.out.cell (World.block_lt_of_cell? w _ hw234_0)).trans hw234_0), ((HB.out.cell (World.block_lt_of_cell? w _ hw234_1)).trans hw234_1), ((HB.out.cell (World.block_lt_of_cell? w _ hw234_2)).trans hw234_2), ((HB.out.cell (World.block_lt_of_cell? w _ hw234_3)).trans hw234_3), ((HB.out.cell (World.block_lt_of_cell? w _ hw235_0)).trans hw235_0), ((HB.out.cell (World.block_lt_of_cell? w _ hw235_1)).trans hw235_1), ((HB.out.cell (World.block_lt_of_cell? w _ hw235_2)).trans hw235_2), ((HB.out.cell (World.block_lt_of_cell? w _ hw235_3)).trans hw235_3), ((HB.out.cell (World.block_lt_of_cell? w _ hw236_0)).trans hw236_0), ((HB.out.cell (World.block_lt_of_cell? w _ hw236_1)).trans hw236_1), ((HB.out.cell (World.block_lt_of_cell? w _ hw236_2)).trans hw236_2), ((HB.out.cell (World.block_lt_of_cell? w _ hw236_3)).trans hw236_3), ((HB.out.cell (World.block_lt_of_cell? w _ hw238_0)).trans hw238_0), ((HB.out.cell (World.block_lt_of_cell? w _ hw238_1)).trans hw238_1), ((HB.out.cell (World.block_lt_of_cell? w _ hw238_2)).trans hw238_2), ((HB.out.cell (World.block_lt_of_cell? w _ hw238_3)).trans hw238_3), ((HB.out.cell (World.block_lt_of_cell? w _ hw239_0)).trans hw239_0), ((HB.out.cell (World.block_lt_of_cell? w _ hw239_1)).trans hw239_1), ((HB.out.cell (World.block_lt_of_cell? w _ hw239_2)).trans hw239_2), ((HB.out.cell (World.block_lt_of_cell? w _ hw239_3)).trans hw239_3)⟩ (fun hHeld => ?_)
             clear hK K
             refine norm_ (a' := ?_) ?_ ?_
             rotate_left
             ·show Act.put _ (some 49) _ = _
              simp only [Act.put, List.setIfInBounds_toArray, List.set_cons_zero, List.set_cons_succ, i64_w, i32_w]
              rfl
             refine pu_ 39 (some 50) HT_ (h := ?_)
             refine pu_ 40 (some 51) HT_ (h := ?_)
             refine pu_ 41 (some 52) HT_ (h := ?_)
             refine pu_ 42 (some 53) HT_ (h := ?_)
             refine pu_ 44 (some 55) HT_ (h := ?_)
             refine ta_ 43 (some 54) HT_ HW_ hHeld (h := ?_)
             refine pu_ 45 (some 56) HT_ (h := ?_)
             refine pu_ 46 (some 57) HT_ (h := ?_)
             refine ta_ 47 (some 58) HT_ HW_ hHeld (h := ?_)
             refine pu_ 48 (some 59) HT_ (h := ?_)
             refine pu_ 49 (some 60) HT_ (h := ?_)
             refine pu_ 50 (some 61) HT_ (h := ?_)
             refine pu_ 52 (some 63) HT_ (h := ?_)
             refine ta_ 51 (some 62) HT_ HW_ hHeld (h := ?_)
             refine pu_ 53 (some 64) HT_ (h := ?_)
             refine pu_ 54 (some 65) HT_ (h := ?_)
             refine ta_ 55 (some 66) HT_ HW_ hHeld (h := ?_)
             refine pu_ 56 (some 67) HT_ (h := ?_)
             refine pu_ 57 (some 68) HT_ (h := ?_)
             refine pu_ 58 (some 69) HT_ (h := ?_)
             refine done_ (done_of HT_.out (by kernel_rfl)) ?_
             try go_wp2
             go_ret
             exact ⟨by first | rfl | (simp [errW_none, errW_some] <;> rfl) | (simp only [← hji8]; first | rfl | (simp [errW_none, errW_some] <;> rfl)) | (simp [*, errW_none, errW_some] <;> rfl), by repeat (first | (with_reducible first | exact HB.out | apply cA | apply cN | apply cD | refine below_set ?_ GE229.out) | exact HB.out)⟩
          ·replace c15 := Bool.eq_false_iff.mpr c15
           subst c15
           have H1 : (some false) = some r := by rw [if_neg (show ¬ (false = true) by decide)] at H; exact H
           clear H
           have H := H1
           clear H1
           obtain rfl := Option.some.inj H
           have hcz28_0 : wr.cell? ⟨gb229, 0, none⟩ = some (.slice A0_0 l0_0.length c0_0) := (blk_cell BK229.out 0).trans rfl
           have hcz28_1 : wr.cell? ⟨gb229, 1, none⟩ = some (.int .i64 a0_1) := (blk_cell BK229.out 1).trans rfl
           have hfz28_0 := blk_frozen BK229.out 0
           have hfz28_1 := blk_frozen BK229.out 1
           try go_wp2
           have n0_ := Aside0.mk (blk_drew BK229.out)
           have n1_ := Aside0.mk (below_drew1 HB.out)
           clear BK229
           clear HB
           have BK229 := n0_
           have HB := n1_
           clear n0_ n1_
           have p232 : 0 ≤ (x3_1 : Int) := of_decide_eq_true (by first | (with_reducible assumption) | assumption)
           have q232 : x3_1 < (l0_0.length : Int) := of_decide_eq_true (by first | (with_reducible assumption) | assumption)
           obtain ⟨ad232, A232_1, c232_1, e232, hx232_0, hx232_1, hx232_2, hx232_3, hl232_1, hi232_1⟩ := at_T80 HR0_0.out x3_1 p232 q232
           have hw232_3 := hx232_3
           have hw232_2 := hx232_2
           have hw232_1 := hx232_1
           have hw232_0 := hx232_0
           cases e232
           replace hx232_0 := (HB.out.cell (World.block_lt_of_cell? w _ hx232_0)).trans hx232_0
           replace hx232_1 := (HB.out.cell (World.block_lt_of_cell? w _ hx232_1)).trans hx232_1
           replace hx232_2 := (HB.out.cell (World.block_lt_of_cell? w _ hx232_2)).trans hx232_2
           replace hx232_3 := (HB.out.cell (World.block_lt_of_cell? w _ hx232_3)).trans hx232_3
           have HR232_1 := Aside0.mk hi232_1
           have HC232_1 := Aside0.mk hl232_1
           clear hi232_1 hl232_1
           replace p232 := eq_true p232
           replace q232 := eq_true q232
           have p234 : 0 ≤ (x3_1 : Int) := of_decide_eq_true (by first | (with_reducible assumption) | assumption)
           have q234 : x3_1 < (l0_0.length : Int) := of_decide_eq_true (by first | (with_reducible assumption) | assumption)
           obtain ⟨ad234, A234_1, c234_1, e234, hx234_0, hx234_1, hx234_2, hx234_3, hl234_1, hi234_1⟩ := at_T80 HR0_0.out x3_1 p234 q234
           have hw234_3 := hx234_3
           have hw234_2 := hx234_2
           have hw234_1 := hx234_1
           have hw234_0 := hx234_0
           obtain rfl : ad232 = ad234 := (by injection e234)
           replace hx234_0 := (HB.out.cell (World.block_lt_of_cell? w _ hx234_0)).trans hx234_0
           replace hx234_1 := (HB.out.cell (World.block_lt_of_cell? w _ hx234_1)).trans hx234_1
           replace hx234_2 := (HB.out.cell (World.block_lt_of_cell? w _ hx234_2)).trans hx234_2
           replace hx234_3 := (HB.out.cell (World.block_lt_of_cell? w _ hx234_3)).trans hx234_3
           have HR234_1 := Aside0.mk hi234_1
           have HC234_1 := Aside0.mk hl234_1
           clear hi234_1 hl234_1
           replace p234 := eq_true p234
           replace q234 := eq_true q234
           have ea_ := Option.some.inj (hx232_1.symm.trans hx234_1)
           injection ea_ with ea_ en_ ec_
           subst ea_
           subst ec_
           clear en_
           have p235 : 0 ≤ ((ji8) : Int) := of_decide_eq_true (by first | (with_reducible assumption) | assumption)
           have q235 : (ji8) < (l0_0.length : Int) := of_decide_eq_true (by first | (with_reducible assumption) | assumption)
           obtain ⟨ad235, A235_1, c235_1, e235, hx235_0, hx235_1, hx235_2, hx235_3, hl235_1, hi235_1⟩ := at_T80 HR0_0.out (ji8) p235 q235
           have hw235_3 := hx235_3
           have hw235_2 := hx235_2
           have hw235_1 := hx235_1
           have hw235_0 := hx235_0
           obtain rfl : ad232 = ad235 := (by injection e235)
           replace hx235_0 := (HB.out.cell (World.block_lt_of_cell? w _ hx235_0)).trans hx235_0
           replace hx235_1 := (HB.out.cell (World.block_lt_of_cell? w _ hx235_1)).trans hx235_1
           replace hx235_2 := (HB.out.cell (World.block_lt_of_cell? w _ hx235_2)).trans hx235_2
           replace hx235_3 := (HB.out.cell (World.block_lt_of_cell? w _ hx235_3)).trans hx235_3
           have HR235_1 := Aside0.mk hi235_1
           have HC235_1 := Aside0.mk hl235_1
           clear hi235_1 hl235_1
           replace p235 := eq_true p235
           replace q235 := eq_true q235
           have p236 : 0 ≤ (x3_1 : Int) := of_decide_eq_true (by first | (with_reducible assumption) | assumption)
           have q236 : x3_1 < (l0_0.length : Int) := of_decide_eq_true (by first | (with_reducible assumption) | assumption)
           obtain ⟨ad236, A236_1, c236_1, e236, hx236_0, hx236_1, hx236_2, hx236_3, hl236_1, hi236_1⟩ := at_T80 HR0_0.out x3_1 p236 q236
           have hw236_3 := hx236_3
           have hw236_2 := hx236_2
           have hw236_1 := hx236_1
           have hw236_0 := hx236_0
           obtain rfl : ad232 = ad236 := (by injection e236)
           replace hx236_0 := (HB.out.cell (World.block_lt_of_cell? w _ hx236_0)).trans hx236_0
           replace hx236_1 := (HB.out.cell (World.block_lt_of_cell? w _ hx236_1)).trans hx236_1
           replace hx236_2 := (HB.out.cell (World.block_lt_of_cell? w _ hx236_2)).trans hx236_2
           replace hx236_3 := (HB.out.cell (World.block_lt_of_cell? w _ hx236_3)).trans hx236_3
           have HR236_1 := Aside0.mk hi236_1
           have HC236_1 := Aside0.mk hl236_1
           clear hi236_1 hl236_1
           replace p236 := eq_true p236
           replace q236 := eq_true q236
           have ea_ := Option.some.inj (hx232_1.symm.trans hx236_1)
           injection ea_ with ea_ en_ ec_
           subst ea_
           subst ec_
           clear en_
           refine start_ (n := 59) (S := fun w' => w'.cell? ⟨gb229, 0, none⟩ = some (.slice (some ad232) l0_0.length c0_0) ∧ w'.cell? ⟨gb229, 1, none⟩ = some (.int .i64 a0_1) ∧ w'.cell? (ad232.add ((x3_1).toNat * 4)) = some (.int .i64 ((rd_T80 l0_0 x3_1).f0)) ∧ w'.cell? ⟨(ad232.add ((x3_1).toNat * 4)).block, (ad232.add ((x3_1).toNat * 4)).off + 1, none⟩ = some (.slice A232_1 ((rd_T80 l0_0 x3_1).f1).length c232_1) ∧ w'.cell? ⟨(ad232.add ((x3_1).toNat * 4)).block, (ad232.add ((x3_1).toNat * 4)).off + 2, none⟩ = some (.int .i64 ((rd_T80 l0_0 x3_1).f2)) ∧ w'.cell? ⟨(ad232.add ((x3_1).toNat * 4)).block, (ad232.add ((x3_1).toNat * 4)).off + 3, none⟩ = some (.bool ((rd_T80 l0_0 x3_1).f3)) ∧ w'.cell? (ad232.add ((x3_1).toNat * 4)) = some (.int .i64 ((rd_T80 l0_0 x3_1).f0)) ∧ w'.cell? ⟨(ad232.add ((x3_1).toNat * 4)).block, (ad232.add ((x3_1).toNat * 4)).off + 1, none⟩ = some (.slice A232_1 ((rd_T80 l0_0 x3_1).f1).length c232_1) ∧ w'.cell? ⟨(ad232.add ((x3_1).toNat * 4)).block, (ad232.add ((x3_1).toNat * 4)).off + 2, none⟩ = some (.int .i64 ((rd_T80 l0_0 x3_1).f2)) ∧ w'.cell? ⟨(ad232.add ((x3_1).toNat * 4)).block, (ad232.add ((x3_1).toNat * 4)).off + 3, none⟩ = some (.bool ((rd_T80 l0_0 x3_1).f3)) ∧ w'.cell? (ad232.add (((ji8)).toNat * 4)) = some (.int .i64 ((rd_T80 l0_0 (ji8)).f0)) ∧ w'.cell? ⟨(ad232.add (((ji8)).toNat * 4)).block, (ad232.add (((ji8)).toNat * 4)).off + 1, none⟩ = some (.slice A235_1 ((rd_T80 l0_0 (ji8)).f1).length c235_1) ∧ w'.cell? ⟨(ad232.add (((ji8)).toNat * 4)).block, (ad232.add (((ji8)).toNat * 4)).off + 2, none⟩ = some (.int .i64 ((rd_T80 l0_0 (ji8)).f2)) ∧ w'.cell? ⟨(ad232.add (((ji8)).toNat * 4)).block, (ad232.add (((ji8)).toNat * 4)).off + 3, none⟩ = some (.bool ((rd_T80 l0_0 (ji8)).f3)) ∧ w'.cell? (ad232.add ((x3_1).toNat * 4)) = some (.int .i64 ((rd_T80 l0_0 x3_1).f0)) ∧ w'.cell? ⟨(ad232.add ((x3_1).toNat * 4)).block, (ad232.add ((x3_1).toNat * 4)).off + 1, none⟩ = some (.slice A232_1 ((rd_T80 l0_0 x3_1).f1).length c232_1) ∧ w'.cell? ⟨(ad232.add ((x3_1).toNat * 4)).block, (ad232.add ((x3_1).toNat * 4)).off + 2, none⟩ = some (.int .i64 ((rd_T80 l0_0 x3_1).f2)) ∧ w'.cell? ⟨(ad232.add ((x3_1).toNat * 4)).block, (ad232.add ((x3_1).toNat * 4)).off + 3, none⟩ = some (.bool ((rd_T80 l0_0 x3_1).f3))) (ds := []) #[false, false, false, false, false, false, false, false, false, false, false, false, false, false, false, false, false, false, false, false, false, false, false, false, false, false, false, false, false, false, false, false, false, false, false, false, false, false, false, false, false, false, false, false, false, false, false, false, false, false, false, false, false, false, false, false, false, false, false] (by kernel_rfl) rfl rfl ⟨(blk_cell BK229.out 0).trans rfl, (blk_cell BK229.out 1).trans rfl, ((HB.out.cell (World.block_lt_of_cell? w _ hw232_0)).trans hw232_0), ((HB.out.cell (World.block_lt_of_cell? w _ hw232_1)).trans hw232_1), ((HB.out.cell (World.block_lt_of_cell? w _ hw232_2)).trans hw232_2), ((HB.out.cell (World.block_lt_of_cell? w _ hw232_3)).trans hw232_3), ((HB.out.cell (World.block_lt_of_cell? w _ hw234_0)).trans hw234_0), ((HB.out.cell (World.block_lt_of_cell? w _ hw234_1)).trans hw234_1), ((HB.out.cell (World.block_lt_of_cell? w _ hw234_2)).trans hw234_2), ((HB.out.cell (World.block_lt_of_cell? w _ hw234_3)).trans hw234_3), ((HB.out.cell (World.block_lt_of_cell? w _ hw235_0)).trans hw235_0), ((HB.out.cell (World.block_lt_of_cell? w _ hw235_1)).trans hw235_1), ((HB.out.cell (World.block_lt_of_cell? w _ hw235_2)).trans hw235_2), ((HB.out.cell (World.block_lt_of_cell? w _ hw235_3)).trans hw235_3), ((HB.out.cell (World.block_lt_of_cell? w _ hw236_0)).trans hw236_0), ((HB.out.cell (World.block_lt_of_cell? w _ hw236_1)).trans hw236_1), ((HB.out.cell (World.block_lt_of_cell? w _ hw236_2)).trans hw236_2), ((HB.out.cell (World.block_lt_of_cell? w _ hw236_3)).trans hw236_3)⟩ (fun hHeld => ?_); refine with_tabW spec_IsValidDisk.tab4 spec_IsValidDisk.bits4 (fun HT_ HW_ => ?_)
           generalize wr.drew = w29 at BK229 HB HR232_1 HR234_1 HR235_1 HR236_1 hx232_0 hx232_1 hx232_2 hx232_3 hx234_0 hx234_1 hx234_2 hx234_3 hx235_0 hx235_1 hx235_2 hx235_3 hx236_0 hx236_1 hx236_2 hx236_3 hHeld ⊢
           refine pu_ 0 (some 11) HT_ (h := ?_)
           refine pu_ 2 (some 13) HT_ (h := ?_)
           refine pu_ 6 (some 17) HT_ (h := ?_)
           refine ta_ 1 (some 12) HT_ HW_ hHeld (h := ?_)
           refine pu_ 3 (some 14) HT_ (h := ?_)
           refine pu_ 4 (some 15) HT_ (h := ?_)
           refine ta_ 5 (some 16) HT_ HW_ hHeld (h := ?_)
           refine ta_ 7 (some 18) HT_ HW_ hHeld (h := ?_)
           refine pu_ 8 (some 19) HT_ (h := ?_)
           refine one_ (i := 9) (N := some 20) #[true, true, true, true, true, true, true, true, true, true, false, false, false, false, false, false, false, false, false, false, false, false, false, false, false, false, false, false, false, false, false, false, false, false, false, false, false, false, false, false, false, false, false, false, false, false, false, false, false, false, false, false, false, false, false, false, false, false, false] rfl rfl (one_of HT_.out (by kernel_rfl)) (by decide) (fun K hK => ?_)
           refine goes_ Try.func88 (by kernel_rfl) rfl #[.int .i64 ((rd_T80 l0_0 x3_1).f0), .int .i64 0, .int .i64 (wrap64 (a0_1 - 1))] (by rfl) rfl rfl (by (try simp only [mA, mC, mN]); first | done | rfl | (simp only [lD, lT]; rfl)) ?_
           with_reducible refine (spec_l1In.calls ((rd_T80 l0_0 x3_1).f0) 0 (wrap64 (a0_1 - 1)) true _ A5.out).mono ?_
           rintro e w' ⟨rfl, ⟨nd, rfl⟩⟩
           refine ⟨_, rfl, ?_⟩
           refine hK.out _ _ ⟨(blk_cell BK229.out 0).trans rfl, (blk_cell BK229.out 1).trans rfl, ((HB.out.cell (World.block_lt_of_cell? w _ hw232_0)).trans hw232_0), ((HB.out.cell (World.block_lt_of_cell? w _ hw232_1)).trans hw232_1), ((HB.out.cell (World.block_lt_of_cell? w _ hw232_2)).trans hw232_2), ((HB.out.cell (World.block_lt_of_cell? w _ hw232_3)).trans hw232_3), ((HB.out.cell (World.block_lt_of_cell? w _ hw234_0)).trans hw234_0), ((HB.out.cell (World.block_lt_of_cell? w _ hw234_1)).trans hw234_1), ((HB.out.cell (World.block_lt_of_cell? w _ hw234_2)).trans hw234_2), ((HB.out.cell (World.block_lt_of_cell? w _ hw234_3)).trans hw234_3), ((HB.out.cell (World.block_lt_of_cell? w _ hw235_0)).trans hw235_0), ((HB.out.cell (World.block_lt_of_cell? w _ hw235_1)).trans hw235_1), ((HB.out.cell (World.block_lt_of_cell? w _ hw235_2)).trans hw235_2), ((HB.out.cell (World.block_lt_of_cell? w _ hw235_3)).trans hw235_3), ((HB.out.cell (World.block_lt_of_cell? w _ hw236_0)).trans hw236_0), ((HB.out.cell (World.block_lt_of_cell? w _ hw236_1)).trans hw236_1), ((HB.out.cell (World.block_lt_of_cell? w _ hw236_2)).trans hw236_2), ((HB.out.cell (World.block_lt_of_cell? w _ hw236_3)).trans hw236_3)⟩ (fun hHeld => ?_)
           clear hK K
           refine norm_ (a' := ?_) ?_ ?_
           rotate_left
           ·show Act.put _ (some 20) _ = _
            simp only [Act.put, List.setIfInBounds_toArray, List.set_cons_zero, List.set_cons_succ, i64_w, i32_w]
            rfl
           refine pu_ 10 (some 21) HT_ (h := ?_)
           refine pu_ 11 (some 22) HT_ (h := ?_)
           refine pu_ 12 (some 23) HT_ (h := ?_)
           refine pu_ 13 (some 24) HT_ (h := ?_)
           refine pu_ 14 (some 25) HT_ (h := ?_)
           refine pu_ 15 (some 26) HT_ (h := ?_)
           refine pu_ 17 (some 28) HT_ (h := ?_)
           refine pu_ 21 (some 32) HT_ (h := ?_)
           refine pu_ 23 (some 34) HT_ (h := ?_)
           refine pu_ 24 (some 35) HT_ (h := ?_)
           refine ta_ 16 (some 27) HT_ HW_ hHeld (h := ?_)
           refine pu_ 18 (some 29) HT_ (h := ?_)
           refine pu_ 19 (some 30) HT_ (h := ?_)
           refine ta_ 20 (some 31) HT_ HW_ hHeld (h := ?_)
           refine ta_ 22 (some 33) HT_ HW_ hHeld (h := ?_)
           refine pu_ 25 (some 36) HT_ (h := ?_)
           refine pu_ 26 (some 37) HT_ (h := ?_)
           refine ta_ 27 (some 38) HT_ HW_ hHeld (h := ?_)
           refine pu_ 28 (some 39) HT_ (h := ?_)
           refine pu_ 29 (some 40) HT_ (h := ?_)
           refine pu_ 30 (some 41) HT_ (h := ?_)
           refine pu_ 31 (some 42) HT_ (h := ?_)
           refine pu_ 32 (some 43) HT_ (h := ?_)
           refine pu_ 34 (some 45) HT_ (h := ?_)
           refine ta_ 33 (some 44) HT_ HW_ hHeld (h := ?_)
           refine pu_ 35 (some 46) HT_ (h := ?_)
           refine pu_ 36 (some 47) HT_ (h := ?_)
           refine ta_ 37 (some 48) HT_ HW_ hHeld (h := ?_)
           refine one_ (i := 38) (N := some 49) #[true, true, true, true, true, true, true, true, true, true, true, true, true, true, true, true, true, true, true, true, true, true, true, true, true, true, true, true, true, true, true, true, true, true, true, true, true, true, true, false, false, false, false, false, false, false, false, false, false, false, false, false, false, false, false, false, false, false, false] rfl rfl (one_of HT_.out (by kernel_rfl)) (by decide) (fun K hK => ?_)
           refine goes_ Try.func85 (by kernel_rfl) rfl #[.slice A232_1 ((rd_T80 l0_0 x3_1).f1).length c232_1] (by rfl) rfl rfl (by (try simp only [mA, mC, mN]); first | done | rfl | (simp only [lD, lT]; rfl)) ?_
           with_reducible refine (spec_l4Pages.calls k1 _ _ ((rd_T80 l0_0 x3_1).f1) false _ ?side1 ?side2 A14.out).mono ?_
           (case side1 => repeat (first | exact (Kd.C_below HR236_1.out (by repeat (first | (with_reducible first | exact HB.out | apply cA | apply cN | apply cD | refine below_set ?_ GE229.out) | exact HB.out))) | (with_reducible refine Kd.C_alloc ?_ _) | (with_reducible refine Kd.C_drewN ?_ _) | (with_reducible refine Kd.C_drew ?_)))
           (case side2 => exact HC236_1.out)
           rintro e w30 ⟨rfl, hb⟩
           refine ⟨_, rfl, ?_⟩
           have n0_ := Aside0.mk (blk_below (g := gb229) (o := .cells #[.slice (some ad232) l0_0.length c0_0, .int .i64 a0_1] 28 (0, 0)) (by (with_reducible repeat (first | apply bN | apply bD | apply bA)); exact BK229.out) hb)
           have n1_ := Aside0.mk (below_step (by repeat (first | (with_reducible first | exact HB.out | apply cA | apply cN | apply cD | refine below_set ?_ GE229.out) | exact HB.out)) hb)
           clear BK229
           clear HB
           have BK229 := n0_
           have HB := n1_
           clear n0_ n1_
           (try clear hb)
           (try clear hb2)
           (try clear hk)
           (try clear hi)
           refine hK.out _ _ ⟨(blk_cell BK229.out 0).trans rfl, (blk_cell BK229.out 1).trans rfl, ((HB.out.cell (World.block_lt_of_cell? w _ hw232_0)).trans hw232_0), ((HB.out.cell (World.block_lt_of_cell? w _ hw232_1)).trans hw232_1), ((HB.out.cell (World.block_lt_of_cell? w _ hw232_2)).trans hw232_2), ((HB.out.cell (World.block_lt_of_cell? w _ hw232_3)).trans hw232_3), ((HB.out.cell (World.block_lt_of_cell? w _ hw234_0)).trans hw234_0), ((HB.out.cell (World.block_lt_of_cell? w _ hw234_1)).trans hw234_1), ((HB.out.cell (World.block_lt_of_cell? w _ hw234_2)).trans hw234_2), ((HB.out.cell (World.block_lt_of_cell? w _ hw234_3)).trans hw234_3), ((HB.out.cell (World.block_lt_of_cell? w _ hw235_0)).trans hw235_0), ((HB.out.cell (World.block_lt_of_cell? w _ hw235_1)).trans hw235_1), ((HB.out.cell (World.block_lt_of_cell? w _ hw235_2)).trans hw235_2), ((HB.out.cell (World.block_lt_of_cell? w _ hw235_3)).trans hw235_3), ((HB.out.cell (World.block_lt_of_cell? w _ hw236_0)).trans hw236_0), ((HB.out.cell (World.block_lt_of_cell? w _ hw236_1)).trans hw236_1), ((HB.out.cell (World.block_lt_of_cell? w _ hw236_2)).trans hw236_2), ((HB.out.cell (World.block_lt_of_cell? w _ hw236_3)).trans hw236_3)⟩ (fun hHeld => ?_)
           clear hK K
           refine norm_ (a' := ?_) ?_ ?_
           rotate_left
           ·show Act.put _ (some 49) _ = _
            simp only [Act.put, List.setIfInBounds_toArray, List.set_cons_zero, List.set_cons_succ, i64_w, i32_w]
            rfl
           refine pu_ 39 (some 50) HT_ (h := ?_)
           refine pu_ 40 (some 51) HT_ (h := ?_)
           refine pu_ 41 (some 52) HT_ (h := ?_)
           refine un_ 42 (some 53) HT_ (h := ?_)
           refine un_ 43 (some 54) HT_ (h := ?_)
           refine un_ 44 (some 55) HT_ (h := ?_)
           refine un_ 45 (some 56) HT_ (h := ?_)
           refine un_ 46 (some 57) HT_ (h := ?_)
           refine un_ 47 (some 58) HT_ (h := ?_)
           refine un_ 48 (some 59) HT_ (h := ?_)
           refine un_ 49 (some 60) HT_ (h := ?_)
           refine un_ 50 (some 61) HT_ (h := ?_)
           refine un_ 51 (some 62) HT_ (h := ?_)
           refine un_ 52 (some 63) HT_ (h := ?_)
           refine un_ 53 (some 64) HT_ (h := ?_)
           refine un_ 54 (some 65) HT_ (h := ?_)
           refine un_ 55 (some 66) HT_ (h := ?_)
           refine un_ 56 (some 67) HT_ (h := ?_)
           refine un_ 57 (some 68) HT_ (h := ?_)
           refine pu_ 58 (some 69) HT_ (h := ?_)
           refine done_ (done_of HT_.out (by kernel_rfl)) ?_
           try go_wp2
           go_ret
           exact ⟨by first | rfl | (simp [errW_none, errW_some] <;> rfl) | (simp only [← hji8]; first | rfl | (simp [errW_none, errW_some] <;> rfl)) | (simp [*, errW_none, errW_some] <;> rfl), by repeat (first | (with_reducible first | exact HB.out | apply cA | apply cN | apply cD | refine below_set ?_ GE229.out) | exact HB.out)⟩
        ·rw [if_neg c10] at H
         exact absurd H (by simp)
       ·rw [if_neg c9] at H
        exact absurd H (by simp)
      ·rw [if_neg c7] at H
       have c7b0 : decide (0 < x3_1) = false := decide_eq_false c7
       clear c7
       replace H := Option.bind_eq_some_iff.mp H
       obtain ⟨t241, A310, H⟩ := H
       replace H : (if t241 = true then (if ((rd_T80 l0_0 x3_1).f3 = true) then (spec_IsValidDisk.l0 k1 (wrap64 (x3_1 + 1)) l0_0 a0_1) else (if ((rd_T80 l0_0 x3_1).f2) = 0 then (spec_IsValidDisk.l0 k1 (wrap64 (x3_1 + 1)) l0_0 a0_1) else (some false))) else (some false)) = some r := H
       have A31 := Aside0.mk A310
       clear A310
       by_cases c32 : t241 = true
       ·subst c32
        have H1 : (if ((rd_T80 l0_0 x3_1).f3 = true) then (spec_IsValidDisk.l0 k1 (wrap64 (x3_1 + 1)) l0_0 a0_1) else (if ((rd_T80 l0_0 x3_1).f2) = 0 then (spec_IsValidDisk.l0 k1 (wrap64 (x3_1 + 1)) l0_0 a0_1) else (some false))) = some r := by rw [if_pos rfl] at H; exact H
        clear H
        have H := H1
        clear H1
        obtain ⟨bq33, hbq33⟩ : ∃ b_ : Bool, b_ = ((rd_T80 l0_0 x3_1).f3) := ⟨_, rfl⟩
        replace H : (if (bq33 = true) then (spec_IsValidDisk.l0 k1 (wrap64 (x3_1 + 1)) l0_0 a0_1) else (if ((rd_T80 l0_0 x3_1).f2) = 0 then (spec_IsValidDisk.l0 k1 (wrap64 (x3_1 + 1)) l0_0 a0_1) else (some false))) = some r := by rw [← hbq33] at H; exact H
        have Nbq33 := Aside0.mk hbq33
        clear hbq33
        by_cases c34 : (bq33 = true)
        ·subst c34
         have H1 : (spec_IsValidDisk.l0 k1 (wrap64 (x3_1 + 1)) l0_0 a0_1) = some r := by rw [if_pos rfl] at H; exact H
         clear H
         have H := H1
         clear H1
         have H' := Aside0.mk H
         clear H
         have hcz35_0 : wr.cell? ⟨gb229, 0, none⟩ = some (.slice A0_0 l0_0.length c0_0) := (blk_cell BK229.out 0).trans rfl
         have hcz35_1 : wr.cell? ⟨gb229, 1, none⟩ = some (.int .i64 a0_1) := (blk_cell BK229.out 1).trans rfl
         have hfz35_0 := blk_frozen BK229.out 0
         have hfz35_1 := blk_frozen BK229.out 1
         try go_wp2
         have n0_ := Aside0.mk (blk_drew BK229.out)
         have n1_ := Aside0.mk (below_drew1 HB.out)
         clear BK229
         clear HB
         have BK229 := n0_
         have HB := n1_
         clear n0_ n1_
         have p232 : 0 ≤ (x3_1 : Int) := of_decide_eq_true (by first | (with_reducible assumption) | assumption)
         have q232 : x3_1 < (l0_0.length : Int) := of_decide_eq_true (by first | (with_reducible assumption) | assumption)
         obtain ⟨ad232, A232_1, c232_1, e232, hx232_0, hx232_1, hx232_2, hx232_3, hl232_1, hi232_1⟩ := at_T80 HR0_0.out x3_1 p232 q232
         have hw232_3 := hx232_3
         have hw232_2 := hx232_2
         have hw232_1 := hx232_1
         have hw232_0 := hx232_0
         (try rw [← Nbq33.out] at hx232_3)
         (try rw [← Nbq33.out] at hw232_3)
         cases e232
         replace hx232_0 := (HB.out.cell (World.block_lt_of_cell? w _ hx232_0)).trans hx232_0
         replace hx232_1 := (HB.out.cell (World.block_lt_of_cell? w _ hx232_1)).trans hx232_1
         replace hx232_2 := (HB.out.cell (World.block_lt_of_cell? w _ hx232_2)).trans hx232_2
         replace hx232_3 := (HB.out.cell (World.block_lt_of_cell? w _ hx232_3)).trans hx232_3
         have HR232_1 := Aside0.mk hi232_1
         have HC232_1 := Aside0.mk hl232_1
         clear hi232_1 hl232_1
         replace p232 := eq_true p232
         replace q232 := eq_true q232
         have p240 : 0 ≤ (x3_1 : Int) := of_decide_eq_true (by first | (with_reducible assumption) | assumption)
         have q240 : x3_1 < (l0_0.length : Int) := of_decide_eq_true (by first | (with_reducible assumption) | assumption)
         obtain ⟨ad240, A240_1, c240_1, e240, hx240_0, hx240_1, hx240_2, hx240_3, hl240_1, hi240_1⟩ := at_T80 HR0_0.out x3_1 p240 q240
         have hw240_3 := hx240_3
         have hw240_2 := hx240_2
         have hw240_1 := hx240_1
         have hw240_0 := hx240_0
         (try rw [← Nbq33.out] at hx240_3)
         (try rw [← Nbq33.out] at hw240_3)
         obtain rfl : ad232 = ad240 := (by injection e240)
         replace hx240_0 := (HB.out.cell (World.block_lt_of_cell? w _ hx240_0)).trans hx240_0
         replace hx240_1 := (HB.out.cell (World.block_lt_of_cell? w _ hx240_1)).trans hx240_1
         replace hx240_2 := (HB.out.cell (World.block_lt_of_cell? w _ hx240_2)).trans hx240_2
         replace hx240_3 := (HB.out.cell (World.block_lt_of_cell? w _ hx240_3)).trans hx240_3
         have HR240_1 := Aside0.mk hi240_1
         have HC240_1 := Aside0.mk hl240_1
         clear hi240_1 hl240_1
         replace p240 := eq_true p240
         replace q240 := eq_true q240
         have ea_ := Option.some.inj (hx232_1.symm.trans hx240_1)
         injection ea_ with ea_ en_ ec_
         subst ea_
         subst ec_
         clear en_
         have p242 : 0 ≤ (x3_1 : Int) := of_decide_eq_true (by first | (with_reducible assumption) | assumption)
         have q242 : x3_1 < (l0_0.length : Int) := of_decide_eq_true (by first | (with_reducible assumption) | assumption)
         obtain ⟨ad242, A242_1, c242_1, e242, hx242_0, hx242_1, hx242_2, hx242_3, hl242_1, hi242_1⟩ := at_T80 HR0_0.out x3_1 p242 q242
         have hw242_3 := hx242_3
         have hw242_2 := hx242_2
         have hw242_1 := hx242_1
         have hw242_0 := hx242_0
         (try rw [← Nbq33.out] at hx242_3)
         (try rw [← Nbq33.out] at hw242_3)
         obtain rfl : ad232 = ad242 := (by injection e242)
         replace hx242_0 := (HB.out.cell (World.block_lt_of_cell? w _ hx242_0)).trans hx242_0
         replace hx242_1 := (HB.out.cell (World.block_lt_of_cell? w _ hx242_1)).trans hx242_1
         replace hx242_2 := (HB.out.cell (World.block_lt_of_cell? w _ hx242_2)).trans hx242_2
         replace hx242_3 := (HB.out.cell (World.block_lt_of_cell? w _ hx242_3)).trans hx242_3
         have HR242_1 := Aside0.mk hi242_1
         have HC242_1 := Aside0.mk hl242_1
         clear hi242_1 hl242_1
         replace p242 := eq_true p242
         replace q242 := eq_true q242
         refine start_ (n := 59) (S := fun w' => w'.cell? ⟨gb229, 0, none⟩ = some (.slice (some ad232) l0_0.length c0_0) ∧ w'.cell? ⟨gb229, 1, none⟩ = some (.int .i64 a0_1) ∧ w'.cell? (ad232.add ((x3_1).toNat * 4)) = some (.int .i64 ((rd_T80 l0_0 x3_1).f0)) ∧ w'.cell? ⟨(ad232.add ((x3_1).toNat * 4)).block, (ad232.add ((x3_1).toNat * 4)).off + 1, none⟩ = some (.slice A232_1 ((rd_T80 l0_0 x3_1).f1).length c232_1) ∧ w'.cell? ⟨(ad232.add ((x3_1).toNat * 4)).block, (ad232.add ((x3_1).toNat * 4)).off + 2, none⟩ = some (.int .i64 ((rd_T80 l0_0 x3_1).f2)) ∧ w'.cell? ⟨(ad232.add ((x3_1).toNat * 4)).block, (ad232.add ((x3_1).toNat * 4)).off + 3, none⟩ = some (.bool true) ∧ w'.cell? (ad232.add ((x3_1).toNat * 4)) = some (.int .i64 ((rd_T80 l0_0 x3_1).f0)) ∧ w'.cell? ⟨(ad232.add ((x3_1).toNat * 4)).block, (ad232.add ((x3_1).toNat * 4)).off + 1, none⟩ = some (.slice A232_1 ((rd_T80 l0_0 x3_1).f1).length c232_1) ∧ w'.cell? ⟨(ad232.add ((x3_1).toNat * 4)).block, (ad232.add ((x3_1).toNat * 4)).off + 2, none⟩ = some (.int .i64 ((rd_T80 l0_0 x3_1).f2)) ∧ w'.cell? ⟨(ad232.add ((x3_1).toNat * 4)).block, (ad232.add ((x3_1).toNat * 4)).off + 3, none⟩ = some (.bool true) ∧ w'.cell? (ad232.add ((x3_1).toNat * 4)) = some (.int .i64 ((rd_T80 l0_0 x3_1).f0)) ∧ w'.cell? ⟨(ad232.add ((x3_1).toNat * 4)).block, (ad232.add ((x3_1).toNat * 4)).off + 1, none⟩ = some (.slice A242_1 ((rd_T80 l0_0 x3_1).f1).length c242_1) ∧ w'.cell? ⟨(ad232.add ((x3_1).toNat * 4)).block, (ad232.add ((x3_1).toNat * 4)).off + 2, none⟩ = some (.int .i64 ((rd_T80 l0_0 x3_1).f2)) ∧ w'.cell? ⟨(ad232.add ((x3_1).toNat * 4)).block, (ad232.add ((x3_1).toNat * 4)).off + 3, none⟩ = some (.bool true)) (ds := []) #[false, false, false, false, false, false, false, false, false, false, false, false, false, false, false, false, false, false, false, false, false, false, false, false, false, false, false, false, false, false, false, false, false, false, false, false, false, false, false, false, false, false, false, false, false, false, false, false, false, false, false, false, false, false, false, false, false, false, false] (by kernel_rfl) rfl rfl ⟨(blk_cell BK229.out 0).trans rfl, (blk_cell BK229.out 1).trans rfl, ((HB.out.cell (World.block_lt_of_cell? w _ hw232_0)).trans hw232_0), ((HB.out.cell (World.block_lt_of_cell? w _ hw232_1)).trans hw232_1), ((HB.out.cell (World.block_lt_of_cell? w _ hw232_2)).trans hw232_2), ((HB.out.cell (World.block_lt_of_cell? w _ hw232_3)).trans hw232_3), ((HB.out.cell (World.block_lt_of_cell? w _ hw240_0)).trans hw240_0), ((HB.out.cell (World.block_lt_of_cell? w _ hw240_1)).trans hw240_1), ((HB.out.cell (World.block_lt_of_cell? w _ hw240_2)).trans hw240_2), ((HB.out.cell (World.block_lt_of_cell? w _ hw240_3)).trans hw240_3), ((HB.out.cell (World.block_lt_of_cell? w _ hw242_0)).trans hw242_0), ((HB.out.cell (World.block_lt_of_cell? w _ hw242_1)).trans hw242_1), ((HB.out.cell (World.block_lt_of_cell? w _ hw242_2)).trans hw242_2), ((HB.out.cell (World.block_lt_of_cell? w _ hw242_3)).trans hw242_3)⟩ (fun hHeld => ?_); refine with_tabW spec_IsValidDisk.tab4 spec_IsValidDisk.bits4 (fun HT_ HW_ => ?_)
         generalize wr.drew = w36 at BK229 HB HR232_1 HR240_1 HR242_1 hx232_0 hx232_1 hx232_2 hx232_3 hx240_0 hx240_1 hx240_2 hx240_3 hx242_0 hx242_1 hx242_2 hx242_3 hHeld ⊢
         refine pu_ 0 (some 11) HT_ (h := ?_)
         refine pu_ 2 (some 13) HT_ (h := ?_)
         refine pu_ 6 (some 17) HT_ (h := ?_)
         refine ta_ 1 (some 12) HT_ HW_ hHeld (h := ?_)
         refine pu_ 3 (some 14) HT_ (h := ?_)
         refine pu_ 4 (some 15) HT_ (h := ?_)
         refine ta_ 5 (some 16) HT_ HW_ hHeld (h := ?_)
         refine ta_ 7 (some 18) HT_ HW_ hHeld (h := ?_)
         refine pu_ 8 (some 19) HT_ (h := ?_)
         refine one_ (i := 9) (N := some 20) #[true, true, true, true, true, true, true, true, true, true, false, false, false, false, false, false, false, false, false, false, false, false, false, false, false, false, false, false, false, false, false, false, false, false, false, false, false, false, false, false, false, false, false, false, false, false, false, false, false, false, false, false, false, false, false, false, false, false, false] rfl rfl (one_of HT_.out (by kernel_rfl)) (by decide) (fun K hK => ?_)
         refine goes_ Try.func88 (by kernel_rfl) rfl #[.int .i64 ((rd_T80 l0_0 x3_1).f0), .int .i64 0, .int .i64 (wrap64 (a0_1 - 1))] (by rfl) rfl rfl (by (try simp only [mA, mC, mN]); first | done | rfl | (simp only [lD, lT]; rfl)) ?_
         with_reducible refine (spec_l1In.calls ((rd_T80 l0_0 x3_1).f0) 0 (wrap64 (a0_1 - 1)) true _ A5.out).mono ?_
         rintro e w' ⟨rfl, ⟨nd, rfl⟩⟩
         refine ⟨_, rfl, ?_⟩
         refine hK.out _ _ ⟨(blk_cell BK229.out 0).trans rfl, (blk_cell BK229.out 1).trans rfl, ((HB.out.cell (World.block_lt_of_cell? w _ hw232_0)).trans hw232_0), ((HB.out.cell (World.block_lt_of_cell? w _ hw232_1)).trans hw232_1), ((HB.out.cell (World.block_lt_of_cell? w _ hw232_2)).trans hw232_2), ((HB.out.cell (World.block_lt_of_cell? w _ hw232_3)).trans hw232_3), ((HB.out.cell (World.block_lt_of_cell? w _ hw240_0)).trans hw240_0), ((HB.out.cell (World.block_lt_of_cell? w _ hw240_1)).trans hw240_1), ((HB.out.cell (World.block_lt_of_cell? w _ hw240_2)).trans hw240_2), ((HB.out.cell (World.block_lt_of_cell? w _ hw240_3)).trans hw240_3), ((HB.out.cell (World.block_lt_of_cell? w _ hw242_0)).trans hw242_0), ((HB.out.cell (World.block_lt_of_cell? w _ hw242_1)).trans hw242_1), ((HB.out.cell (World.block_lt_of_cell? w _ hw242_2)).trans hw242_2), ((HB.out.cell (World.block_lt_of_cell? w _ hw242_3)).trans hw242_3)⟩ (fun hHeld => ?_)
         clear hK K
         refine norm_ (a' := ?_) ?_ ?_
         rotate_left
         ·show Act.put _ (some 20) _ = _
          simp only [Act.put, List.setIfInBounds_toArray, List.set_cons_zero, List.set_cons_succ, i64_w, i32_w]
          rfl
         refine pu_ 10 (some 21) HT_ (h := ?_)
         refine pu_ 11 (some 22) HT_ (h := ?_)
         refine pu_ 12 (some 23) HT_ (h := ?_)
         refine pu_ 13 (some 24) HT_ (h := ?_)
         refine pu_ 14 (some 25) HT_ (h := ?_)
         refine un_ 15 (some 26) HT_ (h := ?_)
         refine un_ 16 (some 27) HT_ (h := ?_)
         refine un_ 17 (some 28) HT_ (h := ?_)
         refine un_ 18 (some 29) HT_ (h := ?_)
         refine un_ 19 (some 30) HT_ (h := ?_)
         refine un_ 20 (some 31) HT_ (h := ?_)
         refine un_ 21 (some 32) HT_ (h := ?_)
         refine un_ 22 (some 33) HT_ (h := ?_)
         refine un_ 23 (some 34) HT_ (h := ?_)
         refine un_ 24 (some 35) HT_ (h := ?_)
         refine un_ 25 (some 36) HT_ (h := ?_)
         refine un_ 26 (some 37) HT_ (h := ?_)
         refine un_ 27 (some 38) HT_ (h := ?_)
         refine un_ 28 (some 39) HT_ (h := ?_)
         refine pu_ 29 (some 40) HT_ (h := ?_)
         refine pu_ 30 (some 41) HT_ (h := ?_)
         refine pu_ 31 (some 42) HT_ (h := ?_)
         refine pu_ 32 (some 43) HT_ (h := ?_)
         refine pu_ 34 (some 45) HT_ (h := ?_)
         refine ta_ 33 (some 44) HT_ HW_ hHeld (h := ?_)
         refine pu_ 35 (some 46) HT_ (h := ?_)
         refine pu_ 36 (some 47) HT_ (h := ?_)
         refine ta_ 37 (some 48) HT_ HW_ hHeld (h := ?_)
         refine one_ (i := 38) (N := some 49) #[true, true, true, true, true, true, true, true, true, true, true, true, true, true, true, true, true, true, true, true, true, true, true, true, true, true, true, true, true, true, true, true, true, true, true, true, true, true, true, false, false, false, false, false, false, false, false, false, false, false, false, false, false, false, false, false, false, false, false] rfl rfl (one_of HT_.out (by kernel_rfl)) (by decide) (fun K hK => ?_)
         refine goes_ Try.func85 (by kernel_rfl) rfl #[.slice A232_1 ((rd_T80 l0_0 x3_1).f1).length c232_1] (by rfl) rfl rfl (by (try simp only [mA, mC, mN]); first | done | rfl | (simp only [lD, lT]; rfl)) ?_
         with_reducible refine (spec_l4Pages.calls k1 _ _ ((rd_T80 l0_0 x3_1).f1) true _ ?side1 ?side2 A31.out).mono ?_
         (case side1 => repeat (first | exact (Kd.C_below HR240_1.out (by repeat (first | (with_reducible first | exact HB.out | apply cA | apply cN | apply cD | refine below_set ?_ GE229.out) | exact HB.out))) | (with_reducible refine Kd.C_alloc ?_ _) | (with_reducible refine Kd.C_drewN ?_ _) | (with_reducible refine Kd.C_drew ?_)))
         (case side2 => exact HC240_1.out)
         rintro e w37 ⟨rfl, hb⟩
         refine ⟨_, rfl, ?_⟩
         have n0_ := Aside0.mk (blk_below (g := gb229) (o := .cells #[.slice (some ad232) l0_0.length c0_0, .int .i64 a0_1] 28 (0, 0)) (by (with_reducible repeat (first | apply bN | apply bD | apply bA)); exact BK229.out) hb)
         have n1_ := Aside0.mk (below_step (by repeat (first | (with_reducible first | exact HB.out | apply cA | apply cN | apply cD | refine below_set ?_ GE229.out) | exact HB.out)) hb)
         clear BK229
         clear HB
         have BK229 := n0_
         have HB := n1_
         clear n0_ n1_
         (try clear hb)
         (try clear hb2)
         (try clear hk)
         (try clear hi)
         refine hK.out _ _ ⟨(blk_cell BK229.out 0).trans rfl, (blk_cell BK229.out 1).trans rfl, ((HB.out.cell (World.block_lt_of_cell? w _ hw232_0)).trans hw232_0), ((HB.out.cell (World.block_lt_of_cell? w _ hw232_1)).trans hw232_1), ((HB.out.cell (World.block_lt_of_cell? w _ hw232_2)).trans hw232_2), ((HB.out.cell (World.block_lt_of_cell? w _ hw232_3)).trans hw232_3), ((HB.out.cell (World.block_lt_of_cell? w _ hw240_0)).trans hw240_0), ((HB.out.cell (World.block_lt_of_cell? w _ hw240_1)).trans hw240_1), ((HB.out.cell (World.block_lt_of_cell? w _ hw240_2)).trans hw240_2), ((HB.out.cell (World.block_lt_of_cell? w _ hw240_3)).trans hw240_3), ((HB.out.cell (World.block_lt_of_cell? w _ hw242_0)).trans hw242_0), ((HB.out.cell (World.block_lt_of_cell? w _ hw242_1)).trans hw242_1), ((HB.out.cell (World.block_lt_of_cell? w _ hw242_2)).trans hw242_2), ((HB.out.cell (World.block_lt_of_cell? w _ hw242_3)).trans hw242_3)⟩ (fun hHeld => ?_)
         clear hK K
         refine norm_ (a' := ?_) ?_ ?_
         rotate_left
         ·show Act.put _ (some 49) _ = _
          simp only [Act.put, List.setIfInBounds_toArray, List.set_cons_zero, List.set_cons_succ, i64_w, i32_w]
          rfl
         refine pu_ 39 (some 50) HT_ (h := ?_)
         refine pu_ 40 (some 51) HT_ (h := ?_)
         refine pu_ 41 (some 52) HT_ (h := ?_)
         refine pu_ 42 (some 53) HT_ (h := ?_)
         refine pu_ 44 (some 55) HT_ (h := ?_)
         refine ta_ 43 (some 54) HT_ HW_ hHeld (h := ?_)
         refine pu_ 45 (some 56) HT_ (h := ?_)
         refine pu_ 46 (some 57) HT_ (h := ?_)
         refine ta_ 47 (some 58) HT_ HW_ hHeld (h := ?_)
         refine pu_ 48 (some 59) HT_ (h := ?_)
         refine pu_ 49 (some 60) HT_ (h := ?_)
         refine un_ 50 (some 61) HT_ (h := ?_)
         refine un_ 51 (some 62) HT_ (h := ?_)
         refine un_ 52 (some 63) HT_ (h := ?_)
         refine un_ 53 (some 64) HT_ (h := ?_)
         refine un_ 54 (some 65) HT_ (h := ?_)
         refine un_ 55 (some 66) HT_ (h := ?_)
         refine un_ 56 (some 67) HT_ (h := ?_)
         refine pu_ 57 (some 68) HT_ (h := ?_)
         refine pu_ 58 (some 69) HT_ (h := ?_)
         refine done_ (done_of HT_.out (by kernel_rfl)) ?_
         try go_wp2
         go_roundg k1
         case measure => have := HK1.out; omega
         case rel => exact ⟨(wrap64 (x3_1 + 1)), (by first | rfl | (simp; done) | (simp [*]; done)), H', ⟨by have := HK1.out; omega⟩, ⟨by (with_reducible repeat (first | apply bN | apply bD | apply bA)); exact BK229.out⟩, ⟨by repeat (first | (with_reducible first | exact HB.out | apply cA | apply cN | apply cD | refine below_set ?_ GE229.out) | exact HB.out)⟩⟩
        ·replace c34 := Bool.eq_false_iff.mpr c34
         subst c34
         have H1 : (if ((rd_T80 l0_0 x3_1).f2) = 0 then (spec_IsValidDisk.l0 k1 (wrap64 (x3_1 + 1)) l0_0 a0_1) else (some false)) = some r := by rw [if_neg (show ¬ (false = true) by decide)] at H; exact H
         clear H
         have H := H1
         clear H1
         by_cases c38 : ((rd_T80 l0_0 x3_1).f2) = 0
         ·rw [if_pos c38] at H
          have c38b0 : (((rd_T80 l0_0 x3_1).f2) == 0) = true := beq_iff_eq.mpr c38
          have c38b1 : (((rd_T80 l0_0 x3_1).f2) != 0) = false := bne_eq_false_iff_eq.mpr c38
          clear c38
          have H' := Aside0.mk H
          clear H
          have hcz39_0 : wr.cell? ⟨gb229, 0, none⟩ = some (.slice A0_0 l0_0.length c0_0) := (blk_cell BK229.out 0).trans rfl
          have hcz39_1 : wr.cell? ⟨gb229, 1, none⟩ = some (.int .i64 a0_1) := (blk_cell BK229.out 1).trans rfl
          have hfz39_0 := blk_frozen BK229.out 0
          have hfz39_1 := blk_frozen BK229.out 1
          try go_wp2
          have n0_ := Aside0.mk (blk_drew BK229.out)
          have n1_ := Aside0.mk (below_drew1 HB.out)
          clear BK229
          clear HB
          have BK229 := n0_
          have HB := n1_
          clear n0_ n1_
          have p232 : 0 ≤ (x3_1 : Int) := of_decide_eq_true (by first | (with_reducible assumption) | assumption)
          have q232 : x3_1 < (l0_0.length : Int) := of_decide_eq_true (by first | (with_reducible assumption) | assumption)
          obtain ⟨ad232, A232_1, c232_1, e232, hx232_0, hx232_1, hx232_2, hx232_3, hl232_1, hi232_1⟩ := at_T80 HR0_0.out x3_1 p232 q232
          have hw232_3 := hx232_3
          have hw232_2 := hx232_2
          have hw232_1 := hx232_1
          have hw232_0 := hx232_0
          (try rw [← Nbq33.out] at hx232_3)
          (try rw [← Nbq33.out] at hw232_3)
          cases e232
          replace hx232_0 := (HB.out.cell (World.block_lt_of_cell? w _ hx232_0)).trans hx232_0
          replace hx232_1 := (HB.out.cell (World.block_lt_of_cell? w _ hx232_1)).trans hx232_1
          replace hx232_2 := (HB.out.cell (World.block_lt_of_cell? w _ hx232_2)).trans hx232_2
          replace hx232_3 := (HB.out.cell (World.block_lt_of_cell? w _ hx232_3)).trans hx232_3
          have HR232_1 := Aside0.mk hi232_1
          have HC232_1 := Aside0.mk hl232_1
          clear hi232_1 hl232_1
          replace p232 := eq_true p232
          replace q232 := eq_true q232
          have p240 : 0 ≤ (x3_1 : Int) := of_decide_eq_true (by first | (with_reducible assumption) | assumption)
          have q240 : x3_1 < (l0_0.length : Int) := of_decide_eq_true (by first | (with_reducible assumption) | assumption)
          obtain ⟨ad240, A240_1, c240_1, e240, hx240_0, hx240_1, hx240_2, hx240_3, hl240_1, hi240_1⟩ := at_T80 HR0_0.out x3_1 p240 q240
          have hw240_3 := hx240_3
          have hw240_2 := hx240_2
          have hw240_1 := hx240_1
          have hw240_0 := hx240_0
          (try rw [← Nbq33.out] at hx240_3)
          (try rw [← Nbq33.out] at hw240_3)
          obtain rfl : ad232 = ad240 := (by injection e240)
          replace hx240_0 := (HB.out.cell (World.block_lt_of_cell? w _ hx240_0)).trans hx240_0
          replace hx240_1 := (HB.out.cell (World.block_lt_of_cell? w _ hx240_1)).trans hx240_1
          replace hx240_2 := (HB.out.cell (World.block_lt_of_cell? w _ hx240_2)).trans hx240_2
          replace hx240_3 := (HB.out.cell (World.block_lt_of_cell? w _ hx240_3)).trans hx240_3
          have HR240_1 := Aside0.mk hi240_1
          have HC240_1 := Aside0.mk hl240_1
          clear hi240_1 hl240_1
          replace p240 := eq_true p240
          replace q240 := eq_true q240
          have ea_ := Option.some.inj (hx232_1.symm.trans hx240_1)
          injection ea_ with ea_ en_ ec_
          subst ea_
          subst ec_
          clear en_
          have p242 : 0 ≤ (x3_1 : Int) := of_decide_eq_true (by first | (with_reducible assumption) | assumption)
          have q242 : x3_1 < (l0_0.length : Int) := of_decide_eq_true (by first | (with_reducible assumption) | assumption)
          obtain ⟨ad242, A242_1, c242_1, e242, hx242_0, hx242_1, hx242_2, hx242_3, hl242_1, hi242_1⟩ := at_T80 HR0_0.out x3_1 p242 q242
          have hw242_3 := hx242_3
          have hw242_2 := hx242_2
          have hw242_1 := hx242_1
          have hw242_0 := hx242_0
          (try rw [← Nbq33.out] at hx242_3)
          (try rw [← Nbq33.out] at hw242_3)
          obtain rfl : ad232 = ad242 := (by injection e242)
          replace hx242_0 := (HB.out.cell (World.block_lt_of_cell? w _ hx242_0)).trans hx242_0
          replace hx242_1 := (HB.out.cell (World.block_lt_of_cell? w _ hx242_1)).trans hx242_1
          replace hx242_2 := (HB.out.cell (World.block_lt_of_cell? w _ hx242_2)).trans hx242_2
          replace hx242_3 := (HB.out.cell (World.block_lt_of_cell? w _ hx242_3)).trans hx242_3
          have HR242_1 := Aside0.mk hi242_1
          have HC242_1 := Aside0.mk hl242_1
          clear hi242_1 hl242_1
          replace p242 := eq_true p242
          replace q242 := eq_true q242
          have p243 : 0 ≤ (x3_1 : Int) := of_decide_eq_true (by first | (with_reducible assumption) | assumption)
          have q243 : x3_1 < (l0_0.length : Int) := of_decide_eq_true (by first | (with_reducible assumption) | assumption)
          obtain ⟨ad243, A243_1, c243_1, e243, hx243_0, hx243_1, hx243_2, hx243_3, hl243_1, hi243_1⟩ := at_T80 HR0_0.out x3_1 p243 q243
          have hw243_3 := hx243_3
          have hw243_2 := hx243_2
          have hw243_1 := hx243_1
          have hw243_0 := hx243_0
          (try rw [← Nbq33.out] at hx243_3)
          (try rw [← Nbq33.out] at hw243_3)
          obtain rfl : ad232 = ad243 := (by injection e243)
          replace hx243_0 := (HB.out.cell (World.block_lt_of_cell? w _ hx243_0)).trans hx243_0
          replace hx243_1 := (HB.out.cell (World.block_lt_of_cell? w _ hx243_1)).trans hx243_1
          replace hx243_2 := (HB.out.cell (World.block_lt_of_cell? w _ hx243_2)).trans hx243_2
          replace hx243_3 := (HB.out.cell (World.block_lt_of_cell? w _ hx243_3)).trans hx243_3
          have HR243_1 := Aside0.mk hi243_1
          have HC243_1 := Aside0.mk hl243_1
          clear hi243_1 hl243_1
          replace p243 := eq_true p243
          replace q243 := eq_true q243
          have ea_ := Option.some.inj (hx242_1.symm.trans hx243_1)
          injection ea_ with ea_ en_ ec_
          subst ea_
          subst ec_
          clear en_
          refine start_ (n := 59) (S := fun w' => w'.cell? ⟨gb229, 0, none⟩ = some (.slice (some ad232) l0_0.length c0_0) ∧ w'.cell? ⟨gb229, 1, none⟩ = some (.int .i64 a0_1) ∧ w'.cell? (ad232.add ((x3_1).toNat * 4)) = some (.int .i64 ((rd_T80 l0_0 x3_1).f0)) ∧ w'.cell? ⟨(ad232.add ((x3_1).toNat * 4)).block, (ad232.add ((x3_1).toNat * 4)).off + 1, none⟩ = some (.slice A232_1 ((rd_T80 l0_0 x3_1).f1).length c232_1) ∧ w'.cell? ⟨(ad232.add ((x3_1).toNat * 4)).block, (ad232.add ((x3_1).toNat * 4)).off + 2, none⟩ = some (.int .i64 ((rd_T80 l0_0 x3_1).f2)) ∧ w'.cell? ⟨(ad232.add ((x3_1).toNat * 4)).block, (ad232.add ((x3_1).toNat * 4)).off + 3, none⟩ = some (.bool false) ∧ w'.cell? (ad232.add ((x3_1).toNat * 4)) = some (.int .i64 ((rd_T80 l0_0 x3_1).f0)) ∧ w'.cell? ⟨(ad232.add ((x3_1).toNat * 4)).block, (ad232.add ((x3_1).toNat * 4)).off + 1, none⟩ = some (.slice A232_1 ((rd_T80 l0_0 x3_1).f1).length c232_1) ∧ w'.cell? ⟨(ad232.add ((x3_1).toNat * 4)).block, (ad232.add ((x3_1).toNat * 4)).off + 2, none⟩ = some (.int .i64 ((rd_T80 l0_0 x3_1).f2)) ∧ w'.cell? ⟨(ad232.add ((x3_1).toNat * 4)).block, (ad232.add ((x3_1).toNat * 4)).off + 3, none⟩ = some (.bool false) ∧ w'.cell? (ad232.add ((x3_1).toNat * 4)) = some (.int .i64 ((rd_T80 l0_0 x3_1).f0)) ∧ w'.cell? ⟨(ad232.add ((x3_1).toNat * 4)).block, (ad232.add ((x3_1).toNat * 4)).off + 1, none⟩ = some (.slice A242_1 ((rd_T80 l0_0 x3_1).f1).length c242_1) ∧ w'.cell? ⟨(ad232.add ((x3_1).toNat * 4)).block, (ad232.add ((x3_1).toNat * 4)).off + 2, none⟩ = some (.int .i64 ((rd_T80 l0_0 x3_1).f2)) ∧ w'.cell? ⟨(ad232.add ((x3_1).toNat * 4)).block, (ad232.add ((x3_1).toNat * 4)).off + 3, none⟩ = some (.bool false) ∧ w'.cell? (ad232.add ((x3_1).toNat * 4)) = some (.int .i64 ((rd_T80 l0_0 x3_1).f0)) ∧ w'.cell? ⟨(ad232.add ((x3_1).toNat * 4)).block, (ad232.add ((x3_1).toNat * 4)).off + 1, none⟩ = some (.slice A242_1 ((rd_T80 l0_0 x3_1).f1).length c242_1) ∧ w'.cell? ⟨(ad232.add ((x3_1).toNat * 4)).block, (ad232.add ((x3_1).toNat * 4)).off + 2, none⟩ = some (.int .i64 ((rd_T80 l0_0 x3_1).f2)) ∧ w'.cell? ⟨(ad232.add ((x3_1).toNat * 4)).block, (ad232.add ((x3_1).toNat * 4)).off + 3, none⟩ = some (.bool (false))) (ds := []) #[false, false, false, false, false, false, false, false, false, false, false, false, false, false, false, false, false, false, false, false, false, false, false, false, false, false, false, false, false, false, false, false, false, false, false, false, false, false, false, false, false, false, false, false, false, false, false, false, false, false, false, false, false, false, false, false, false, false, false] (by kernel_rfl) rfl rfl ⟨(blk_cell BK229.out 0).trans rfl, (blk_cell BK229.out 1).trans rfl, ((HB.out.cell (World.block_lt_of_cell? w _ hw232_0)).trans hw232_0), ((HB.out.cell (World.block_lt_of_cell? w _ hw232_1)).trans hw232_1), ((HB.out.cell (World.block_lt_of_cell? w _ hw232_2)).trans hw232_2), ((HB.out.cell (World.block_lt_of_cell? w _ hw232_3)).trans hw232_3), ((HB.out.cell (World.block_lt_of_cell? w _ hw240_0)).trans hw240_0), ((HB.out.cell (World.block_lt_of_cell? w _ hw240_1)).trans hw240_1), ((HB.out.cell (World.block_lt_of_cell? w _ hw240_2)).trans hw240_2), ((HB.out.cell (World.block_lt_of_cell? w _ hw240_3)).trans hw240_3), ((HB.out.cell (World.block_lt_of_cell? w _ hw242_0)).trans hw242_0), ((HB.out.cell (World.block_lt_of_cell? w _ hw242_1)).trans hw242_1), ((HB.out.cell (World.block_lt_of_cell? w _ hw242_2)).trans hw242_2), ((HB.out.cell (World.block_lt_of_cell? w _ hw242_3)).trans hw242_3), ((HB.out.cell (World.block_lt_of_cell? w _ hw243_0)).trans hw243_0), ((HB.out.cell (World.block_lt_of_cell? w _ hw243_1)).trans hw243_1), ((HB.out.cell (World.block_lt_of_cell? w _ hw243_2)).trans hw243_2), ((HB.out.cell (World.block_lt_of_cell? w _ hw243_3)).trans hw243_3)⟩ (fun hHeld => ?_); refine with_tabW spec_IsValidDisk.tab4 spec_IsValidDisk.bits4 (fun HT_ HW_ => ?_)
          generalize wr.drew = w40 at BK229 HB HR232_1 HR240_1 HR242_1 HR243_1 hx232_0 hx232_1 hx232_2 hx232_3 hx240_0 hx240_1 hx240_2 hx240_3 hx242_0 hx242_1 hx242_2 hx242_3 hx243_0 hx243_1 hx243_2 hx243_3 hHeld ⊢
          refine pu_ 0 (some 11) HT_ (h := ?_)
          refine pu_ 2 (some 13) HT_ (h := ?_)
          refine pu_ 6 (some 17) HT_ (h := ?_)
          refine ta_ 1 (some 12) HT_ HW_ hHeld (h := ?_)
          refine pu_ 3 (some 14) HT_ (h := ?_)
          refine pu_ 4 (some 15) HT_ (h := ?_)
          refine ta_ 5 (some 16) HT_ HW_ hHeld (h := ?_)
          refine ta_ 7 (some 18) HT_ HW_ hHeld (h := ?_)
          refine pu_ 8 (some 19) HT_ (h := ?_)
          refine one_ (i := 9) (N := some 20) #[true, true, true, true, true, true, true, true, true, true, false, false, false, false, false, false, false, false, false, false, false, false, false, false, false, false, false, false, false, false, false, false, false, false, false, false, false, false, false, false, false, false, false, false, false, false, false, false, false, false, false, false, false, false, false, false, false, false, false] rfl rfl (one_of HT_.out (by kernel_rfl)) (by decide) (fun K hK => ?_)
          refine goes_ Try.func88 (by kernel_rfl) rfl #[.int .i64 ((rd_T80 l0_0 x3_1).f0), .int .i64 0, .int .i64 (wrap64 (a0_1 - 1))] (by rfl) rfl rfl (by (try simp only [mA, mC, mN]); first | done | rfl | (simp only [lD, lT]; rfl)) ?_
          with_reducible refine (spec_l1In.calls ((rd_T80 l0_0 x3_1).f0) 0 (wrap64 (a0_1 - 1)) true _ A5.out).mono ?_
          rintro e w' ⟨rfl, ⟨nd, rfl⟩⟩
          refine ⟨_, rfl, ?_⟩
          refine hK.out _ _ ⟨(blk_cell BK229.out 0).trans rfl, (blk_cell BK229.out 1).trans rfl, ((HB.out.cell (World.block_lt_of_cell? w _ hw232_0)).trans hw232_0), ((HB.out.cell (World.block_lt_of_cell? w _ hw232_1)).trans hw232_1), ((HB.out.cell (World.block_lt_of_cell? w _ hw232_2)).trans hw232_2), ((HB.out.cell (World.block_lt_of_cell? w _ hw232_3)).trans hw232_3), ((HB.out.cell (World.block_lt_of_cell? w _ hw240_0)).trans hw240_0), ((HB.out.cell (World.block_lt_of_cell? w _ hw240_1)).trans hw240_1), ((HB.out.cell (World.block_lt_of_cell? w _ hw240_2)).trans hw240_2), ((HB.out.cell (World.block_lt_of_cell? w _ hw240_3)).trans hw240_3), ((HB.out.cell (World.block_lt_of_cell? w _ hw242_0)).trans hw242_0), ((HB.out.cell (World.block_lt_of_cell? w _ hw242_1)).trans hw242_1), ((HB.out.cell (World.block_lt_of_cell? w _ hw242_2)).trans hw242_2), ((HB.out.cell (World.block_lt_of_cell? w _ hw242_3)).trans hw242_3), ((HB.out.cell (World.block_lt_of_cell? w _ hw243_0)).trans hw243_0), ((HB.out.cell (World.block_lt_of_cell? w _ hw243_1)).trans hw243_1), ((HB.out.cell (World.block_lt_of_cell? w _ hw243_2)).trans hw243_2), ((HB.out.cell (World.block_lt_of_cell? w _ hw243_3)).trans hw243_3)⟩ (fun hHeld => ?_)
          clear hK K
          refine norm_ (a' := ?_) ?_ ?_
          rotate_left
          ·show Act.put _ (some 20) _ = _
           simp only [Act.put, List.setIfInBounds_toArray, List.set_cons_zero, List.set_cons_succ, i64_w, i32_w]
           rfl
          refine pu_ 10 (some 21) HT_ (h := ?_)
          refine pu_ 11 (some 22) HT_ (h := ?_)
          refine pu_ 12 (some 23) HT_ (h := ?_)
          refine pu_ 13 (some 24) HT_ (h := ?_)
          refine pu_ 14 (some 25) HT_ (h := ?_)
          refine un_ 15 (some 26) HT_ (h := ?_)
          refine un_ 16 (some 27) HT_ (h := ?_)
          refine un_ 17 (some 28) HT_ (h := ?_)
          refine un_ 18 (some 29) HT_ (h := ?_)
          refine un_ 19 (some 30) HT_ (h := ?_)
          refine un_ 20 (some 31) HT_ (h := ?_)
          refine un_ 21 (some 32) HT_ (h := ?_)
          refine un_ 22 (some 33) HT_ (h := ?_)
          refine un_ 23 (some 34) HT_ (h := ?_)
          refine un_ 24 (some 35) HT_ (h := ?_)
          refine un_ 25 (some 36) HT_ (h := ?_)
          refine un_ 26 (some 37) HT_ (h := ?_)
          refine un_ 27 (some 38) HT_ (h := ?_)
          refine un_ 28 (some 39) HT_ (h := ?_)
          refine pu_ 29 (some 40) HT_ (h := ?_)
          refine pu_ 30 (some 41) HT_ (h := ?_)
          refine pu_ 31 (some 42) HT_ (h := ?_)
          refine pu_ 32 (some 43) HT_ (h := ?_)
          refine pu_ 34 (some 45) HT_ (h := ?_)
          refine ta_ 33 (some 44) HT_ HW_ hHeld (h := ?_)
          refine pu_ 35 (some 46) HT_ (h := ?_)
          refine pu_ 36 (some 47) HT_ (h := ?_)
          refine ta_ 37 (some 48) HT_ HW_ hHeld (h := ?_)
          refine one_ (i := 38) (N := some 49) #[true, true, true, true, true, true, true, true, true, true, true, true, true, true, true, true, true, true, true, true, true, true, true, true, true, true, true, true, true, true, true, true, true, true, true, true, true, true, true, false, false, false, false, false, false, false, false, false, false, false, false, false, false, false, false, false, false, false, false] rfl rfl (one_of HT_.out (by kernel_rfl)) (by decide) (fun K hK => ?_)
          refine goes_ Try.func85 (by kernel_rfl) rfl #[.slice A232_1 ((rd_T80 l0_0 x3_1).f1).length c232_1] (by rfl) rfl rfl (by (try simp only [mA, mC, mN]); first | done | rfl | (simp only [lD, lT]; rfl)) ?_
          with_reducible refine (spec_l4Pages.calls k1 _ _ ((rd_T80 l0_0 x3_1).f1) true _ ?side1 ?side2 A31.out).mono ?_
          (case side1 => repeat (first | exact (Kd.C_below HR240_1.out (by repeat (first | (with_reducible first | exact HB.out | apply cA | apply cN | apply cD | refine below_set ?_ GE229.out) | exact HB.out))) | (with_reducible refine Kd.C_alloc ?_ _) | (with_reducible refine Kd.C_drewN ?_ _) | (with_reducible refine Kd.C_drew ?_)))
          (case side2 => exact HC240_1.out)
          rintro e w41 ⟨rfl, hb⟩
          refine ⟨_, rfl, ?_⟩
          have n0_ := Aside0.mk (blk_below (g := gb229) (o := .cells #[.slice (some ad232) l0_0.length c0_0, .int .i64 a0_1] 28 (0, 0)) (by (with_reducible repeat (first | apply bN | apply bD | apply bA)); exact BK229.out) hb)
          have n1_ := Aside0.mk (below_step (by repeat (first | (with_reducible first | exact HB.out | apply cA | apply cN | apply cD | refine below_set ?_ GE229.out) | exact HB.out)) hb)
          clear BK229
          clear HB
          have BK229 := n0_
          have HB := n1_
          clear n0_ n1_
          (try clear hb)
          (try clear hb2)
          (try clear hk)
          (try clear hi)
          refine hK.out _ _ ⟨(blk_cell BK229.out 0).trans rfl, (blk_cell BK229.out 1).trans rfl, ((HB.out.cell (World.block_lt_of_cell? w _ hw232_0)).trans hw232_0), ((HB.out.cell (World.block_lt_of_cell? w _ hw232_1)).trans hw232_1), ((HB.out.cell (World.block_lt_of_cell? w _ hw232_2)).trans hw232_2), ((HB.out.cell (World.block_lt_of_cell? w _ hw232_3)).trans hw232_3), ((HB.out.cell (World.block_lt_of_cell? w _ hw240_0)).trans hw240_0), ((HB.out.cell (World.block_lt_of_cell? w _ hw240_1)).trans hw240_1), ((HB.out.cell (World.block_lt_of_cell? w _ hw240_2)).trans hw240_2), ((HB.out.cell (World.block_lt_of_cell? w _ hw240_3)).trans hw240_3), ((HB.out.cell (World.block_lt_of_cell? w _ hw242_0)).trans hw242_0), ((HB.out.cell (World.block_lt_of_cell? w _ hw242_1)).trans hw242_1), ((HB.out.cell (World.block_lt_of_cell? w _ hw242_2)).trans hw242_2), ((HB.out.cell (World.block_lt_of_cell? w _ hw242_3)).trans hw242_3), ((HB.out.cell (World.block_lt_of_cell? w _ hw243_0)).trans hw243_0), ((HB.out.cell (World.block_lt_of_cell? w _ hw243_1)).trans hw243_1), ((HB.out.cell (World.block_lt_of_cell? w _ hw243_2)).trans hw243_2), ((HB.out.cell (World.block_lt_of_cell? w _ hw243_3)).trans hw243_3)⟩ (fun hHeld => ?_)
          clear hK K
          refine norm_ (a' := ?_) ?_ ?_
          rotate_left
          ·show Act.put _ (some 49) _ = _
           simp only [Act.put, List.setIfInBounds_toArray, List.set_cons_zero, List.set_cons_succ, i64_w, i32_w]
           rfl
          refine pu_ 39 (some 50) HT_ (h := ?_)
          refine pu_ 40 (some 51) HT_ (h := ?_)
          refine pu_ 41 (some 52) HT_ (h := ?_)
          refine pu_ 42 (some 53) HT_ (h := ?_)
          refine pu_ 44 (some 55) HT_ (h := ?_)
          refine ta_ 43 (some 54) HT_ HW_ hHeld (h := ?_)
          refine pu_ 45 (some 56) HT_ (h := ?_)
          refine pu_ 46 (some 57) HT_ (h := ?_)
          refine ta_ 47 (some 58) HT_ HW_ hHeld (h := ?_)
          refine pu_ 48 (some 59) HT_ (h := ?_)
          refine pu_ 49 (some 60) HT_ (h := ?_)
          refine pu_ 50 (some 61) HT_ (h := ?_)
          refine pu_ 52 (some 63) HT_ (h := ?_)
          refine ta_ 51 (some 62) HT_ HW_ hHeld (h := ?_)
          refine pu_ 53 (some 64) HT_ (h := ?_)
          refine pu_ 54 (some 65) HT_ (h := ?_)
          refine ta_ 55 (some 66) HT_ HW_ hHeld (h := ?_)
          refine pu_ 56 (some 67) HT_ (h := ?_)
          refine pu_ 57 (some 68) HT_ (h := ?_)
          refine pu_ 58 (some 69) HT_ (h := ?_)
          refine done_ (done_of HT_.out (by kernel_rfl)) ?_
          try go_wp2
          go_roundg k1
          case measure => have := HK1.out; omega
          case rel => exact ⟨(wrap64 (x3_1 + 1)), (by first | rfl | (simp; done) | (simp [*]; done)), H', ⟨by have := HK1.out; omega⟩, ⟨by (with_reducible repeat (first | apply bN | apply bD | apply bA)); exact BK229.out⟩, ⟨by repeat (first | (with_reducible first | exact HB.out | apply cA | apply cN | apply cD | refine below_set ?_ GE229.out) | exact HB.out)⟩⟩
         ·rw [if_neg c38] at H
          have c38b0 : (((rd_T80 l0_0 x3_1).f2) == 0) = false := beq_eq_false_iff_ne.mpr c38
          have c38b1 : (((rd_T80 l0_0 x3_1).f2) != 0) = true := bne_iff_ne.mpr c38
          obtain rfl := Option.some.inj H
          have hcz42_0 : wr.cell? ⟨gb229, 0, none⟩ = some (.slice A0_0 l0_0.length c0_0) := (blk_cell BK229.out 0).trans rfl
          have hcz42_1 : wr.cell? ⟨gb229, 1, none⟩ = some (.int .i64 a0_1) := (blk_cell BK229.out 1).trans rfl
          have hfz42_0 := blk_frozen BK229.out 0
          have hfz42_1 := blk_frozen BK229.out 1
          try go_wp2
          have n0_ := Aside0.mk (blk_drew BK229.out)
          have n1_ := Aside0.mk (below_drew1 HB.out)
          clear BK229
          clear HB
          have BK229 := n0_
          have HB := n1_
          clear n0_ n1_
          have p232 : 0 ≤ (x3_1 : Int) := of_decide_eq_true (by first | (with_reducible assumption) | assumption)
          have q232 : x3_1 < (l0_0.length : Int) := of_decide_eq_true (by first | (with_reducible assumption) | assumption)
          obtain ⟨ad232, A232_1, c232_1, e232, hx232_0, hx232_1, hx232_2, hx232_3, hl232_1, hi232_1⟩ := at_T80 HR0_0.out x3_1 p232 q232
          have hw232_3 := hx232_3
          have hw232_2 := hx232_2
          have hw232_1 := hx232_1
          have hw232_0 := hx232_0
          (try rw [← Nbq33.out] at hx232_3)
          (try rw [← Nbq33.out] at hw232_3)
          cases e232
          replace hx232_0 := (HB.out.cell (World.block_lt_of_cell? w _ hx232_0)).trans hx232_0
          replace hx232_1 := (HB.out.cell (World.block_lt_of_cell? w _ hx232_1)).trans hx232_1
          replace hx232_2 := (HB.out.cell (World.block_lt_of_cell? w _ hx232_2)).trans hx232_2
          replace hx232_3 := (HB.out.cell (World.block_lt_of_cell? w _ hx232_3)).trans hx232_3
          have HR232_1 := Aside0.mk hi232_1
          have HC232_1 := Aside0.mk hl232_1
          clear hi232_1 hl232_1
          replace p232 := eq_true p232
          replace q232 := eq_true q232
          have p240 : 0 ≤ (x3_1 : Int) := of_decide_eq_true (by first | (with_reducible assumption) | assumption)
          have q240 : x3_1 < (l0_0.length : Int) := of_decide_eq_true (by first | (with_reducible assumption) | assumption)
          obtain ⟨ad240, A240_1, c240_1, e240, hx240_0, hx240_1, hx240_2, hx240_3, hl240_1, hi240_1⟩ := at_T80 HR0_0.out x3_1 p240 q240
          have hw240_3 := hx240_3
          have hw240_2 := hx240_2
          have hw240_1 := hx240_1
          have hw240_0 := hx240_0
          (try rw [← Nbq33.out] at hx240_3)
          (try rw [← Nbq33.out] at hw240_3)
          obtain rfl : ad232 = ad240 := (by injection e240)
          replace hx240_0 := (HB.out.cell (World.block_lt_of_cell? w _ hx240_0)).trans hx240_0
          replace hx240_1 := (HB.out.cell (World.block_lt_of_cell? w _ hx240_1)).trans hx240_1
          replace hx240_2 := (HB.out.cell (World.block_lt_of_cell? w _ hx240_2)).trans hx240_2
          replace hx240_3 := (HB.out.cell (World.block_lt_of_cell? w _ hx240_3)).trans hx240_3
          have HR240_1 := Aside0.mk hi240_1
          have HC240_1 := Aside0.mk hl240_1
          clear hi240_1 hl240_1
          replace p240 := eq_true p240
          replace q240 := eq_true q240
          have ea_ := Option.some.inj (hx232_1.symm.trans hx240_1)
          injection ea_ with ea_ en_ ec_
          subst ea_
          subst ec_
          clear en_
          have p242 : 0 ≤ (x3_1 : Int) := of_decide_eq_true (by first | (with_reducible assumption) | assumption)
          have q242 : x3_1 < (l0_0.length : Int) := of_decide_eq_true (by first | (with_reducible assumption) | assumption)
          obtain ⟨ad242, A242_1, c242_1, e242, hx242_0, hx242_1, hx242_2, hx242_3, hl242_1, hi242_1⟩ := at_T80 HR0_0.out x3_1 p242 q242
          have hw242_3 := hx242_3
          have hw242_2 := hx242_2
          have hw242_1 := hx242_1
          have hw242_0 := hx242_0
          (try rw [← Nbq33.out] at hx242_3)
          (try rw [← Nbq33.out] at hw242_3)
          obtain rfl : ad232 = ad242 := (by injection e242)
          replace hx242_0 := (HB.out.cell (World.block_lt_of_cell? w _ hx242_0)).trans hx242_0
          replace hx242_1 := (HB.out.cell (World.block_lt_of_cell? w _ hx242_1)).trans hx242_1
          replace hx242_2 := (HB.out.cell (World.block_lt_of_cell? w _ hx242_2)).trans hx242_2
          replace hx242_3 := (HB.out.cell (World.block_lt_of_cell? w _ hx242_3)).trans hx242_3
          have HR242_1 := Aside0.mk hi242_1
          have HC242_1 := Aside0.mk hl242_1
          clear hi242_1 hl242_1
          replace p242 := eq_true p242
          replace q242 := eq_true q242
          have p243 : 0 ≤ (x3_1 : Int) := of_decide_eq_true (by first | (with_reducible assumption) | assumption)
          have q243 : x3_1 < (l0_0.length : Int) := of_decide_eq_true (by first | (with_reducible assumption) | assumption)
          obtain ⟨ad243, A243_1, c243_1, e243, hx243_0, hx243_1, hx243_2, hx243_3, hl243_1, hi243_1⟩ := at_T80 HR0_0.out x3_1 p243 q243
          have hw243_3 := hx243_3
          have hw243_2 := hx243_2
          have hw243_1 := hx243_1
          have hw243_0 := hx243_0
          (try rw [← Nbq33.out] at hx243_3)
          (try rw [← Nbq33.out] at hw243_3)
          obtain rfl : ad232 = ad243 := (by injection e243)
          replace hx243_0 := (HB.out.cell (World.block_lt_of_cell? w _ hx243_0)).trans hx243_0
          replace hx243_1 := (HB.out.cell (World.block_lt_of_cell? w _ hx243_1)).trans hx243_1
          replace hx243_2 := (HB.out.cell (World.block_lt_of_cell? w _ hx243_2)).trans hx243_2
          replace hx243_3 := (HB.out.cell (World.block_lt_of_cell? w _ hx243_3)).trans hx243_3
          have HR243_1 := Aside0.mk hi243_1
          have HC243_1 := Aside0.mk hl243_1
          clear hi243_1 hl243_1
          replace p243 := eq_true p243
          replace q243 := eq_true q243
          have ea_ := Option.some.inj (hx242_1.symm.trans hx243_1)
          injection ea_ with ea_ en_ ec_
          subst ea_
          subst ec_
          clear en_
          refine start_ (n := 59) (S := fun w' => w'.cell? ⟨gb229, 0, none⟩ = some (.slice (some ad232) l0_0.length c0_0) ∧ w'.cell? ⟨gb229, 1, none⟩ = some (.int .i64 a0_1) ∧ w'.cell? (ad232.add ((x3_1).toNat * 4)) = some (.int .i64 ((rd_T80 l0_0 x3_1).f0)) ∧ w'.cell? ⟨(ad232.add ((x3_1).toNat * 4)).block, (ad232.add ((x3_1).toNat * 4)).off + 1, none⟩ = some (.slice A232_1 ((rd_T80 l0_0 x3_1).f1).length c232_1) ∧ w'.cell? ⟨(ad232.add ((x3_1).toNat * 4)).block, (ad232.add ((x3_1).toNat * 4)).off + 2, none⟩ = some (.int .i64 ((rd_T80 l0_0 x3_1).f2)) ∧ w'.cell? ⟨(ad232.add ((x3_1).toNat * 4)).block, (ad232.add ((x3_1).toNat * 4)).off + 3, none⟩ = some (.bool false) ∧ w'.cell? (ad232.add ((x3_1).toNat * 4)) = some (.int .i64 ((rd_T80 l0_0 x3_1).f0)) ∧ w'.cell? ⟨(ad232.add ((x3_1).toNat * 4)).block, (ad232.add ((x3_1).toNat * 4)).off + 1, none⟩ = some (.slice A232_1 ((rd_T80 l0_0 x3_1).f1).length c232_1) ∧ w'.cell? ⟨(ad232.add ((x3_1).toNat * 4)).block, (ad232.add ((x3_1).toNat * 4)).off + 2, none⟩ = some (.int .i64 ((rd_T80 l0_0 x3_1).f2)) ∧ w'.cell? ⟨(ad232.add ((x3_1).toNat * 4)).block, (ad232.add ((x3_1).toNat * 4)).off + 3, none⟩ = some (.bool false) ∧ w'.cell? (ad232.add ((x3_1).toNat * 4)) = some (.int .i64 ((rd_T80 l0_0 x3_1).f0)) ∧ w'.cell? ⟨(ad232.add ((x3_1).toNat * 4)).block, (ad232.add ((x3_1).toNat * 4)).off + 1, none⟩ = some (.slice A242_1 ((rd_T80 l0_0 x3_1).f1).length c242_1) ∧ w'.cell? ⟨(ad232.add ((x3_1).toNat * 4)).block, (ad232.add ((x3_1).toNat * 4)).off + 2, none⟩ = some (.int .i64 ((rd_T80 l0_0 x3_1).f2)) ∧ w'.cell? ⟨(ad232.add ((x3_1).toNat * 4)).block, (ad232.add ((x3_1).toNat * 4)).off + 3, none⟩ = some (.bool false) ∧ w'.cell? (ad232.add ((x3_1).toNat * 4)) = some (.int .i64 ((rd_T80 l0_0 x3_1).f0)) ∧ w'.cell? ⟨(ad232.add ((x3_1).toNat * 4)).block, (ad232.add ((x3_1).toNat * 4)).off + 1, none⟩ = some (.slice A242_1 ((rd_T80 l0_0 x3_1).f1).length c242_1) ∧ w'.cell? ⟨(ad232.add ((x3_1).toNat * 4)).block, (ad232.add ((x3_1).toNat * 4)).off + 2, none⟩ = some (.int .i64 ((rd_T80 l0_0 x3_1).f2)) ∧ w'.cell? ⟨(ad232.add ((x3_1).toNat * 4)).block, (ad232.add ((x3_1).toNat * 4)).off + 3, none⟩ = some (.bool (false))) (ds := []) #[false, false, false, false, false, false, false, false, false, false, false, false, false, false, false, false, false, false, false, false, false, false, false, false, false, false, false, false, false, false, false, false, false, false, false, false, false, false, false, false, false, false, false, false, false, false, false, false, false, false, false, false, false, false, false, false, false, false, false] (by kernel_rfl) rfl rfl ⟨(blk_cell BK229.out 0).trans rfl, (blk_cell BK229.out 1).trans rfl, ((HB.out.cell (World.block_lt_of_cell? w _ hw232_0)).trans hw232_0), ((HB.out.cell (World.block_lt_of_cell? w _ hw232_1)).trans hw232_1), ((HB.out.cell (World.block_lt_of_cell? w _ hw232_2)).trans hw232_2), ((HB.out.cell (World.block_lt_of_cell? w _ hw232_3)).trans hw232_3), ((HB.out.cell (World.block_lt_of_cell? w _ hw240_0)).trans hw240_0), ((HB.out.cell (World.block_lt_of_cell? w _ hw240_1)).trans hw240_1), ((HB.out.cell (World.block_lt_of_cell? w _ hw240_2)).trans hw240_2), ((HB.out.cell (World.block_lt_of_cell? w _ hw240_3)).trans hw240_3), ((HB.out.cell (World.block_lt_of_cell? w _ hw242_0)).trans hw242_0), ((HB.out.cell (World.block_lt_of_cell? w _ hw242_1)).trans hw242_1), ((HB.out.cell (World.block_lt_of_cell? w _ hw242_2)).trans hw242_2), ((HB.out.cell (World.block_lt_of_cell? w _ hw242_3)).trans hw242_3), ((HB.out.cell (World.block_lt_of_cell? w _ hw243_0)).trans hw243_0), ((HB.out.cell (World.block_lt_of_cell? w _ hw243_1)).trans hw243_1), ((HB.out.cell (World.block_lt_of_cell? w _ hw243_2)).trans hw243_2), ((HB.out.cell (World.block_lt_of_cell? w _ hw243_3)).trans hw243_3)⟩ (fun hHeld => ?_); refine with_tabW spec_IsValidDisk.tab4 spec_IsValidDisk.bits4 (fun HT_ HW_ => ?_)
          generalize wr.drew = w43 at BK229 HB HR232_1 HR240_1 HR242_1 HR243_1 hx232_0 hx232_1 hx232_2 hx232_3 hx240_0 hx240_1 hx240_2 hx240_3 hx242_0 hx242_1 hx242_2 hx242_3 hx243_0 hx243_1 hx243_2 hx243_3 hHeld ⊢
          refine pu_ 0 (some 11) HT_ (h := ?_)
          refine pu_ 2 (some 13) HT_ (h := ?_)
          refine pu_ 6 (some 17) HT_ (h := ?_)
          refine ta_ 1 (some 12) HT_ HW_ hHeld (h := ?_)
          refine pu_ 3 (some 14) HT_ (h := ?_)
          refine pu_ 4 (some 15) HT_ (h := ?_)
          refine ta_ 5 (some 16) HT_ HW_ hHeld (h := ?_)
          refine ta_ 7 (some 18) HT_ HW_ hHeld (h := ?_)
          refine pu_ 8 (some 19) HT_ (h := ?_)
          refine one_ (i := 9) (N := some 20) #[true, true, true, true, true, true, true, true, true, true, false, false, false, false, false, false, false, false, false, false, false, false, false, false, false, false, false, false, false, false, false, false, false, false, false, false, false, false, false, false, false, false, false, false, false, false, false, false, false, false, false, false, false, false, false, false, false, false, false] rfl rfl (one_of HT_.out (by kernel_rfl)) (by decide) (fun K hK => ?_)
          refine goes_ Try.func88 (by kernel_rfl) rfl #[.int .i64 ((rd_T80 l0_0 x3_1).f0), .int .i64 0, .int .i64 (wrap64 (a0_1 - 1))] (by rfl) rfl rfl (by (try simp only [mA, mC, mN]); first | done | rfl | (simp only [lD, lT]; rfl)) ?_
          with_reducible refine (spec_l1In.calls ((rd_T80 l0_0 x3_1).f0) 0 (wrap64 (a0_1 - 1)) true _ A5.out).mono ?_
          rintro e w' ⟨rfl, ⟨nd, rfl⟩⟩
          refine ⟨_, rfl, ?_⟩
          refine hK.out _ _ ⟨(blk_cell BK229.out 0).trans rfl, (blk_cell BK229.out 1).trans rfl, ((HB.out.cell (World.block_lt_of_cell? w _ hw232_0)).trans hw232_0), ((HB.out.cell (World.block_lt_of_cell? w _ hw232_1)).trans hw232_1), ((HB.out.cell (World.block_lt_of_cell? w _ hw232_2)).trans hw232_2), ((HB.out.cell (World.block_lt_of_cell? w _ hw232_3)).trans hw232_3), ((HB.out.cell (World.block_lt_of_cell? w _ hw240_0)).trans hw240_0), ((HB.out.cell (World.block_lt_of_cell? w _ hw240_1)).trans hw240_1), ((HB.out.cell (World.block_lt_of_cell? w _ hw240_2)).trans hw240_2), ((HB.out.cell (World.block_lt_of_cell? w _ hw240_3)).trans hw240_3), ((HB.out.cell (World.block_lt_of_cell? w _ hw242_0)).trans hw242_0), ((HB.out.cell (World.block_lt_of_cell? w _ hw242_1)).trans hw242_1), ((HB.out.cell (World.block_lt_of_cell? w _ hw242_2)).trans hw242_2), ((HB.out.cell (World.block_lt_of_cell? w _ hw242_3)).trans hw242_3), ((HB.out.cell (World.block_lt_of_cell? w _ hw243_0)).trans hw243_0), ((HB.out.cell (World.block_lt_of_cell? w _ hw243_1)).trans hw243_1), ((HB.out.cell (World.block_lt_of_cell? w _ hw243_2)).trans hw243_2), ((HB.out.cell (World.block_lt_of_cell? w _ hw243_3)).trans hw243_3)⟩ (fun hHeld => ?_)
          clear hK K
          refine norm_ (a' := ?_) ?_ ?_
          rotate_left
          ·show Act.put _ (some 20) _ = _
           simp only [Act.put, List.setIfInBounds_toArray, List.set_cons_zero, List.set_cons_succ, i64_w, i32_w]
           rfl
          refine pu_ 10 (some 21) HT_ (h := ?_)
          refine pu_ 11 (some 22) HT_ (h := ?_)
          refine pu_ 12 (some 23) HT_ (h := ?_)
          refine pu_ 13 (some 24) HT_ (h := ?_)
          refine pu_ 14 (some 25) HT_ (h := ?_)
          refine un_ 15 (some 26) HT_ (h := ?_)
          refine un_ 16 (some 27) HT_ (h := ?_)
          refine un_ 17 (some 28) HT_ (h := ?_)
          refine un_ 18 (some 29) HT_ (h := ?_)
          refine un_ 19 (some 30) HT_ (h := ?_)
          refine un_ 20 (some 31) HT_ (h := ?_)
          refine un_ 21 (some 32) HT_ (h := ?_)
          refine un_ 22 (some 33) HT_ (h := ?_)
          refine un_ 23 (some 34) HT_ (h := ?_)
          refine un_ 24 (some 35) HT_ (h := ?_)
          refine un_ 25 (some 36) HT_ (h := ?_)
          refine un_ 26 (some 37) HT_ (h := ?_)
          refine un_ 27 (some 38) HT_ (h := ?_)
          refine un_ 28 (some 39) HT_ (h := ?_)
          refine pu_ 29 (some 40) HT_ (h := ?_)
          refine pu_ 30 (some 41) HT_ (h := ?_)
          refine pu_ 31 (some 42) HT_ (h := ?_)
          refine pu_ 32 (some 43) HT_ (h := ?_)
          refine pu_ 34 (some 45) HT_ (h := ?_)
          refine ta_ 33 (some 44) HT_ HW_ hHeld (h := ?_)
          refine pu_ 35 (some 46) HT_ (h := ?_)
          refine pu_ 36 (some 47) HT_ (h := ?_)
          refine ta_ 37 (some 48) HT_ HW_ hHeld (h := ?_)
          refine one_ (i := 38) (N := some 49) #[true, true, true, true, true, true, true, true, true, true, true, true, true, true, true, true, true, true, true, true, true, true, true, true, true, true, true, true, true, true, true, true, true, true, true, true, true, true, true, false, false, false, false, false, false, false, false, false, false, false, false, false, false, false, false, false, false, false, false] rfl rfl (one_of HT_.out (by kernel_rfl)) (by decide) (fun K hK => ?_)
          refine goes_ Try.func85 (by kernel_rfl) rfl #[.slice A232_1 ((rd_T80 l0_0 x3_1).f1).length c232_1] (by rfl) rfl rfl (by (try simp only [mA, mC, mN]); first | done | rfl | (simp only [lD, lT]; rfl)) ?_
          with_reducible refine (spec_l4Pages.calls k1 _ _ ((rd_T80 l0_0 x3_1).f1) true _ ?side1 ?side2 A31.out).mono ?_
          (case side1 => repeat (first | exact (Kd.C_below HR240_1.out (by repeat (first | (with_reducible first | exact HB.out | apply cA | apply cN | apply cD | refine below_set ?_ GE229.out) | exact HB.out))) | (with_reducible refine Kd.C_alloc ?_ _) | (with_reducible refine Kd.C_drewN ?_ _) | (with_reducible refine Kd.C_drew ?_)))
          (case side2 => exact HC240_1.out)
          rintro e w44 ⟨rfl, hb⟩
          refine ⟨_, rfl, ?_⟩
          have n0_ := Aside0.mk (blk_below (g := gb229) (o := .cells #[.slice (some ad232) l0_0.length c0_0, .int .i64 a0_1] 28 (0, 0)) (by (with_reducible repeat (first | apply bN | apply bD | apply bA)); exact BK229.out) hb)
          have n1_ := Aside0.mk (below_step (by repeat (first | (with_reducible first | exact HB.out | apply cA | apply cN | apply cD | refine below_set ?_ GE229.out) | exact HB.out)) hb)
          clear BK229
          clear HB
          have BK229 := n0_
          have HB := n1_
          clear n0_ n1_
          (try clear hb)
          (try clear hb2)
          (try clear hk)
          (try clear hi)
          refine hK.out _ _ ⟨(blk_cell BK229.out 0).trans rfl, (blk_cell BK229.out 1).trans rfl, ((HB.out.cell (World.block_lt_of_cell? w _ hw232_0)).trans hw232_0), ((HB.out.cell (World.block_lt_of_cell? w _ hw232_1)).trans hw232_1), ((HB.out.cell (World.block_lt_of_cell? w _ hw232_2)).trans hw232_2), ((HB.out.cell (World.block_lt_of_cell? w _ hw232_3)).trans hw232_3), ((HB.out.cell (World.block_lt_of_cell? w _ hw240_0)).trans hw240_0), ((HB.out.cell (World.block_lt_of_cell? w _ hw240_1)).trans hw240_1), ((HB.out.cell (World.block_lt_of_cell? w _ hw240_2)).trans hw240_2), ((HB.out.cell (World.block_lt_of_cell? w _ hw240_3)).trans hw240_3), ((HB.out.cell (World.block_lt_of_cell? w _ hw242_0)).trans hw242_0), ((HB.out.cell (World.block_lt_of_cell? w _ hw242_1)).trans hw242_1), ((HB.out.cell (World.block_lt_of_cell? w _ hw242_2)).trans hw242_2), ((HB.out.cell (World.block_lt_of_cell? w _ hw242_3)).trans hw242_3), ((HB.out.cell (World.block_lt_of_cell? w _ hw243_0)).trans hw243_0), ((HB.out.cell (World.block_lt_of_cell? w _ hw243_1)).trans hw243_1), ((HB.out.cell (World.block_lt_of_cell? w _ hw243_2)).trans hw243_2), ((HB.out.cell (World.block_lt_of_cell? w _ hw243_3)).trans hw243_3)⟩ (fun hHeld => ?_)
          clear hK K
          refine norm_ (a' := ?_) ?_ ?_
          rotate_left
          ·show Act.put _ (some 49) _ = _
           simp only [Act.put, List.setIfInBounds_toArray, List.set_cons_zero, List.set_cons_succ, i64_w, i32_w]
           rfl
          refine pu_ 39 (some 50) HT_ (h := ?_)
          refine pu_ 40 (some 51) HT_ (h := ?_)
          refine pu_ 41 (some 52) HT_ (h := ?_)
          refine pu_ 42 (some 53) HT_ (h := ?_)
          refine pu_ 44 (some 55) HT_ (h := ?_)
          refine ta_ 43 (some 54) HT_ HW_ hHeld (h := ?_)
          refine pu_ 45 (some 56) HT_ (h := ?_)
          refine pu_ 46 (some 57) HT_ (h := ?_)
          refine ta_ 47 (some 58) HT_ HW_ hHeld (h := ?_)
          refine pu_ 48 (some 59) HT_ (h := ?_)
          refine pu_ 49 (some 60) HT_ (h := ?_)
          refine pu_ 50 (some 61) HT_ (h := ?_)
          refine pu_ 52 (some 63) HT_ (h := ?_)
          refine ta_ 51 (some 62) HT_ HW_ hHeld (h := ?_)
          refine pu_ 53 (some 64) HT_ (h := ?_)
          refine pu_ 54 (some 65) HT_ (h := ?_)
          refine ta_ 55 (some 66) HT_ HW_ hHeld (h := ?_)
          refine pu_ 56 (some 67) HT_ (h := ?_)
          refine pu_ 57 (some 68) HT_ (h := ?_)
          refine pu_ 58 (some 69) HT_ (h := ?_)
          refine done_ (done_of HT_.out (by kernel_rfl)) ?_
          try go_wp2
          go_ret
          exact ⟨by first | rfl | (simp [errW_none, errW_some] <;> rfl) | (simp [*, errW_none, errW_some] <;> rfl), by repeat (first | (with_reducible first | exact HB.out | apply cA | apply cN | apply cD | refine below_set ?_ GE229.out) | exact HB.out)⟩
       ·replace c32 := Bool.eq_false_iff.mpr c32
        subst c32
        have H1 : (some false) = some r := by rw [if_neg (show ¬ (false = true) by decide)] at H; exact H
        clear H
        have H := H1
        clear H1
        obtain rfl := Option.some.inj H
        have hcz45_0 : wr.cell? ⟨gb229, 0, none⟩ = some (.slice A0_0 l0_0.length c0_0) := (blk_cell BK229.out 0).trans rfl
        have hcz45_1 : wr.cell? ⟨gb229, 1, none⟩ = some (.int .i64 a0_1) := (blk_cell BK229.out 1).trans rfl
        have hfz45_0 := blk_frozen BK229.out 0
        have hfz45_1 := blk_frozen BK229.out 1
        try go_wp2
        have n0_ := Aside0.mk (blk_drew BK229.out)
        have n1_ := Aside0.mk (below_drew1 HB.out)
        clear BK229
        clear HB
        have BK229 := n0_
        have HB := n1_
        clear n0_ n1_
        have p232 : 0 ≤ (x3_1 : Int) := of_decide_eq_true (by first | (with_reducible assumption) | assumption)
        have q232 : x3_1 < (l0_0.length : Int) := of_decide_eq_true (by first | (with_reducible assumption) | assumption)
        obtain ⟨ad232, A232_1, c232_1, e232, hx232_0, hx232_1, hx232_2, hx232_3, hl232_1, hi232_1⟩ := at_T80 HR0_0.out x3_1 p232 q232
        have hw232_3 := hx232_3
        have hw232_2 := hx232_2
        have hw232_1 := hx232_1
        have hw232_0 := hx232_0
        cases e232
        replace hx232_0 := (HB.out.cell (World.block_lt_of_cell? w _ hx232_0)).trans hx232_0
        replace hx232_1 := (HB.out.cell (World.block_lt_of_cell? w _ hx232_1)).trans hx232_1
        replace hx232_2 := (HB.out.cell (World.block_lt_of_cell? w _ hx232_2)).trans hx232_2
        replace hx232_3 := (HB.out.cell (World.block_lt_of_cell? w _ hx232_3)).trans hx232_3
        have HR232_1 := Aside0.mk hi232_1
        have HC232_1 := Aside0.mk hl232_1
        clear hi232_1 hl232_1
        replace p232 := eq_true p232
        replace q232 := eq_true q232
        have p240 : 0 ≤ (x3_1 : Int) := of_decide_eq_true (by first | (with_reducible assumption) | assumption)
        have q240 : x3_1 < (l0_0.length : Int) := of_decide_eq_true (by first | (with_reducible assumption) | assumption)
        obtain ⟨ad240, A240_1, c240_1, e240, hx240_0, hx240_1, hx240_2, hx240_3, hl240_1, hi240_1⟩ := at_T80 HR0_0.out x3_1 p240 q240
        have hw240_3 := hx240_3
        have hw240_2 := hx240_2
        have hw240_1 := hx240_1
        have hw240_0 := hx240_0
        obtain rfl : ad232 = ad240 := (by injection e240)
        replace hx240_0 := (HB.out.cell (World.block_lt_of_cell? w _ hx240_0)).trans hx240_0
        replace hx240_1 := (HB.out.cell (World.block_lt_of_cell? w _ hx240_1)).trans hx240_1
        replace hx240_2 := (HB.out.cell (World.block_lt_of_cell? w _ hx240_2)).trans hx240_2
        replace hx240_3 := (HB.out.cell (World.block_lt_of_cell? w _ hx240_3)).trans hx240_3
        have HR240_1 := Aside0.mk hi240_1
        have HC240_1 := Aside0.mk hl240_1
        clear hi240_1 hl240_1
        replace p240 := eq_true p240
        replace q240 := eq_true q240
        have ea_ := Option.some.inj (hx232_1.symm.trans hx240_1)
        injection ea_ with ea_ en_ ec_
        subst ea_
        subst ec_
        clear en_
        refine start_ (n := 59) (S := fun w' => w'.cell? ⟨gb229, 0, none⟩ = some (.slice (some ad232) l0_0.length c0_0) ∧ w'.cell? ⟨gb229, 1, none⟩ = some (.int .i64 a0_1) ∧ w'.cell? (ad232.add ((x3_1).toNat * 4)) = some (.int .i64 ((rd_T80 l0_0 x3_1).f0)) ∧ w'.cell? ⟨(ad232.add ((x3_1).toNat * 4)).block, (ad232.add ((x3_1).toNat * 4)).off + 1, none⟩ = some (.slice A232_1 ((rd_T80 l0_0 x3_1).f1).length c232_1) ∧ w'.cell? ⟨(ad232.add ((x3_1).toNat * 4)).block, (ad232.add ((x3_1).toNat * 4)).off + 2, none⟩ = some (.int .i64 ((rd_T80 l0_0 x3_1).f2)) ∧ w'.cell? ⟨(ad232.add ((x3_1).toNat * 4)).block, (ad232.add ((x3_1).toNat * 4)).off + 3, none⟩ = some (.bool ((rd_T80 l0_0 x3_1).f3)) ∧ w'.cell? (ad232.add ((x3_1).toNat * 4)) = some (.int .i64 ((rd_T80 l0_0 x3_1).f0)) ∧ w'.cell? ⟨(ad232.add ((x3_1).toNat * 4)).block, (ad232.add ((x3_1).toNat * 4)).off + 1, none⟩ = some (.slice A232_1 ((rd_T80 l0_0 x3_1).f1).length c232_1) ∧ w'.cell? ⟨(ad232.add ((x3_1).toNat * 4)).block, (ad232.add ((x3_1).toNat * 4)).off + 2, none⟩ = some (.int .i64 ((rd_T80 l0_0 x3_1).f2)) ∧ w'.cell? ⟨(ad232.add ((x3_1).toNat * 4)).block, (ad232.add ((x3_1).toNat * 4)).off + 3, none⟩ = some (.bool ((rd_T80 l0_0 x3_1).f3))) (ds := []) #[false, false, false, false, false, false, false, false, false, false, false, false, false, false, false, false, false, false, false, false, false, false, false, false, false, false, false, false, false, false, false, false, false, false, false, false, false, false, false, false, false, false, false, false, false, false, false, false, false, false, false, false, false, false, false, false, false, false, false] (by kernel_rfl) rfl rfl ⟨(blk_cell BK229.out 0).trans rfl, (blk_cell BK229.out 1).trans rfl, ((HB.out.cell (World.block_lt_of_cell? w _ hw232_0)).trans hw232_0), ((HB.out.cell (World.block_lt_of_cell? w _ hw232_1)).trans hw232_1), ((HB.out.cell (World.block_lt_of_cell? w _ hw232_2)).trans hw232_2), ((HB.out.cell (World.block_lt_of_cell? w _ hw232_3)).trans hw232_3), ((HB.out.cell (World.block_lt_of_cell? w _ hw240_0)).trans hw240_0), ((HB.out.cell (World.block_lt_of_cell? w _ hw240_1)).trans hw240_1), ((HB.out.cell (World.block_lt_of_cell? w _ hw240_2)).trans hw240_2), ((HB.out.cell (World.block_lt_of_cell? w _ hw240_3)).trans hw240_3)⟩ (fun hHeld => ?_); refine with_tabW spec_IsValidDisk.tab4 spec_IsValidDisk.bits4 (fun HT_ HW_ => ?_)
        generalize wr.drew = w46 at BK229 HB HR232_1 HR240_1 hx232_0 hx232_1 hx232_2 hx232_3 hx240_0 hx240_1 hx240_2 hx240_3 hHeld ⊢
        refine pu_ 0 (some 11) HT_ (h := ?_)
        refine pu_ 2 (some 13) HT_ (h := ?_)
        refine pu_ 6 (some 17) HT_ (h := ?_)
        refine ta_ 1 (some 12) HT_ HW_ hHeld (h := ?_)
        refine pu_ 3 (some 14) HT_ (h := ?_)
        refine pu_ 4 (some 15) HT_ (h := ?_)
        refine ta_ 5 (some 16) HT_ HW_ hHeld (h := ?_)
        refine ta_ 7 (some 18) HT_ HW_ hHeld (h := ?_)
        refine pu_ 8 (some 19) HT_ (h := ?_)
        refine one_ (i := 9) (N := some 20) #[true, true, true, true, true, true, true, true, true, true, false, false, false, false, false, false, false, false, false, false, false, false, false, false, false, false, false, false, false, false, false, false, false, false, false, false, false, false, false, false, false, false, false, false, false, false, false, false, false, false, false, false, false, false, false, false, false, false, false] rfl rfl (one_of HT_.out (by kernel_rfl)) (by decide) (fun K hK => ?_)
        refine goes_ Try.func88 (by kernel_rfl) rfl #[.int .i64 ((rd_T80 l0_0 x3_1).f0), .int .i64 0, .int .i64 (wrap64 (a0_1 - 1))] (by rfl) rfl rfl (by (try simp only [mA, mC, mN]); first | done | rfl | (simp only [lD, lT]; rfl)) ?_
        with_reducible refine (spec_l1In.calls ((rd_T80 l0_0 x3_1).f0) 0 (wrap64 (a0_1 - 1)) true _ A5.out).mono ?_
        rintro e w' ⟨rfl, ⟨nd, rfl⟩⟩
        refine ⟨_, rfl, ?_⟩
        refine hK.out _ _ ⟨(blk_cell BK229.out 0).trans rfl, (blk_cell BK229.out 1).trans rfl, ((HB.out.cell (World.block_lt_of_cell? w _ hw232_0)).trans hw232_0), ((HB.out.cell (World.block_lt_of_cell? w _ hw232_1)).trans hw232_1), ((HB.out.cell (World.block_lt_of_cell? w _ hw232_2)).trans hw232_2), ((HB.out.cell (World.block_lt_of_cell? w _ hw232_3)).trans hw232_3), ((HB.out.cell (World.block_lt_of_cell? w _ hw240_0)).trans hw240_0), ((HB.out.cell (World.block_lt_of_cell? w _ hw240_1)).trans hw240_1), ((HB.out.cell (World.block_lt_of_cell? w _ hw240_2)).trans hw240_2), ((HB.out.cell (World.block_lt_of_cell? w _ hw240_3)).trans hw240_3)⟩ (fun hHeld => ?_)
        clear hK K
        refine norm_ (a' := ?_) ?_ ?_
        rotate_left
        ·show Act.put _ (some 20) _ = _
         simp only [Act.put, List.setIfInBounds_toArray, List.set_cons_zero, List.set_cons_succ, i64_w, i32_w]
         rfl
        refine pu_ 10 (some 21) HT_ (h := ?_)
        refine pu_ 11 (some 22) HT_ (h := ?_)
        refine pu_ 12 (some 23) HT_ (h := ?_)
        refine pu_ 13 (some 24) HT_ (h := ?_)
        refine pu_ 14 (some 25) HT_ (h := ?_)
        refine un_ 15 (some 26) HT_ (h := ?_)
        refine un_ 16 (some 27) HT_ (h := ?_)
        refine un_ 17 (some 28) HT_ (h := ?_)
        refine un_ 18 (some 29) HT_ (h := ?_)
        refine un_ 19 (some 30) HT_ (h := ?_)
        refine un_ 20 (some 31) HT_ (h := ?_)
        refine un_ 21 (some 32) HT_ (h := ?_)
        refine un_ 22 (some 33) HT_ (h := ?_)
        refine un_ 23 (some 34) HT_ (h := ?_)
        refine un_ 24 (some 35) HT_ (h := ?_)
        refine un_ 25 (some 36) HT_ (h := ?_)
        refine un_ 26 (some 37) HT_ (h := ?_)
        refine un_ 27 (some 38) HT_ (h := ?_)
        refine un_ 28 (some 39) HT_ (h := ?_)
        refine pu_ 29 (some 40) HT_ (h := ?_)
        refine pu_ 30 (some 41) HT_ (h := ?_)
        refine pu_ 31 (some 42) HT_ (h := ?_)
        refine pu_ 32 (some 43) HT_ (h := ?_)
        refine pu_ 34 (some 45) HT_ (h := ?_)
        refine ta_ 33 (some 44) HT_ HW_ hHeld (h := ?_)
        refine pu_ 35 (some 46) HT_ (h := ?_)
        refine pu_ 36 (some 47) HT_ (h := ?_)
        refine ta_ 37 (some 48) HT_ HW_ hHeld (h := ?_)
        refine one_ (i := 38) (N := some 49) #[true, true, true, true, true, true, true, true, true, true, true, true, true, true, true, true, true, true, true, true, true, true, true, true, true, true, true, true, true, true, true, true, true, true, true, true, true, true, true, false, false, false, false, false, false, false, false, false, false, false, false, false, false, false, false, false, false, false, false] rfl rfl (one_of HT_.out (by kernel_rfl)) (by decide) (fun K hK => ?_)
        refine goes_ Try.func85 (by kernel_rfl) rfl #[.slice A232_1 ((rd_T80 l0_0 x3_1).f1).length c232_1] (by rfl) rfl rfl (by (try simp only [mA, mC, mN]); first | done | rfl | (simp only [lD, lT]; rfl)) ?_
        with_reducible refine (spec_l4Pages.calls k1 _ _ ((rd_T80 l0_0 x3_1).f1) false _ ?side1 ?side2 A31.out).mono ?_
        (case side1 => repeat (first | exact (Kd.C_below HR240_1.out (by repeat (first | (with_reducible first | exact HB.out | apply cA | apply cN | apply cD | refine below_set ?_ GE229.out) | exact HB.out))) | (with_reducible refine Kd.C_alloc ?_ _) | (with_reducible refine Kd.C_drewN ?_ _) | (with_reducible refine Kd.C_drew ?_)))
        (case side2 => exact HC240_1.out)
        rintro e w47 ⟨rfl, hb⟩
        refine ⟨_, rfl, ?_⟩
        have n0_ := Aside0.mk (blk_below (g := gb229) (o := .cells #[.slice (some ad232) l0_0.length c0_0, .int .i64 a0_1] 28 (0, 0)) (by (with_reducible repeat (first | apply bN | apply bD | apply bA)); exact BK229.out) hb)
        have n1_ := Aside0.mk (below_step (by repeat (first | (with_reducible first | exact HB.out | apply cA | apply cN | apply cD | refine below_set ?_ GE229.out) | exact HB.out)) hb)
        clear BK229
        clear HB
        have BK229 := n0_
        have HB := n1_
        clear n0_ n1_
        (try clear hb)
        (try clear hb2)
        (try clear hk)
        (try clear hi)
        refine hK.out _ _ ⟨(blk_cell BK229.out 0).trans rfl, (blk_cell BK229.out 1).trans rfl, ((HB.out.cell (World.block_lt_of_cell? w _ hw232_0)).trans hw232_0), ((HB.out.cell (World.block_lt_of_cell? w _ hw232_1)).trans hw232_1), ((HB.out.cell (World.block_lt_of_cell? w _ hw232_2)).trans hw232_2), ((HB.out.cell (World.block_lt_of_cell? w _ hw232_3)).trans hw232_3), ((HB.out.cell (World.block_lt_of_cell? w _ hw240_0)).trans hw240_0), ((HB.out.cell (World.block_lt_of_cell? w _ hw240_1)).trans hw240_1), ((HB.out.cell (World.block_lt_of_cell? w _ hw240_2)).trans hw240_2), ((HB.out.cell (World.block_lt_of_cell? w _ hw240_3)).trans hw240_3)⟩ (fun hHeld => ?_)
        clear hK K
        refine norm_ (a' := ?_) ?_ ?_
        rotate_left
        ·show Act.put _ (some 49) _ = _
         simp only [Act.put, List.setIfInBounds_toArray, List.set_cons_zero, List.set_cons_succ, i64_w, i32_w]
         rfl
        refine pu_ 39 (some 50) HT_ (h := ?_)
        refine pu_ 40 (some 51) HT_ (h := ?_)
        refine pu_ 41 (some 52) HT_ (h := ?_)
        refine un_ 42 (some 53) HT_ (h := ?_)
        refine un_ 43 (some 54) HT_ (h := ?_)
        refine un_ 44 (some 55) HT_ (h := ?_)
        refine un_ 45 (some 56) HT_ (h := ?_)
        refine un_ 46 (some 57) HT_ (h := ?_)
        refine un_ 47 (some 58) HT_ (h := ?_)
        refine un_ 48 (some 59) HT_ (h := ?_)
        refine un_ 49 (some 60) HT_ (h := ?_)
        refine un_ 50 (some 61) HT_ (h := ?_)
        refine un_ 51 (some 62) HT_ (h := ?_)
        refine un_ 52 (some 63) HT_ (h := ?_)
        refine un_ 53 (some 64) HT_ (h := ?_)
        refine un_ 54 (some 65) HT_ (h := ?_)
        refine un_ 55 (some 66) HT_ (h := ?_)
        refine un_ 56 (some 67) HT_ (h := ?_)
        refine un_ 57 (some 68) HT_ (h := ?_)
        refine pu_ 58 (some 69) HT_ (h := ?_)
        refine done_ (done_of HT_.out (by kernel_rfl)) ?_
        try go_wp2
        go_ret
        exact ⟨by first | rfl | (simp [errW_none, errW_some] <;> rfl) | (simp [*, errW_none, errW_some] <;> rfl), by repeat (first | (with_reducible first | exact HB.out | apply cA | apply cN | apply cD | refine below_set ?_ GE229.out) | exact HB.out)⟩
     ·replace c6 := Bool.eq_false_iff.mpr c6
      subst c6
      have H1 : (some false) = some r := by rw [if_neg (show ¬ (false = true) by decide)] at H; exact H
      clear H
      have H := H1
      clear H1
      obtain rfl := Option.some.inj H
      have hcz48_0 : wr.cell? ⟨gb229, 0, none⟩ = some (.slice A0_0 l0_0.length c0_0) := (blk_cell BK229.out 0).trans rfl
      have hcz48_1 : wr.cell? ⟨gb229, 1, none⟩ = some (.int .i64 a0_1) := (blk_cell BK229.out 1).trans rfl
      have hfz48_0 := blk_frozen BK229.out 0
      have hfz48_1 := blk_frozen BK229.out 1
      try go_wp2
      have n0_ := Aside0.mk (blk_drew BK229.out)
      have n1_ := Aside0.mk (below_drew1 HB.out)
      clear BK229
      clear HB
      have BK229 := n0_
      have HB := n1_
      clear n0_ n1_
      have p232 : 0 ≤ (x3_1 : Int) := of_decide_eq_true (by first | (with_reducible assumption) | assumption)
      have q232 : x3_1 < (l0_0.length : Int) := of_decide_eq_true (by first | (with_reducible assumption) | assumption)
      obtain ⟨ad232, A232_1, c232_1, e232, hx232_0, hx232_1, hx232_2, hx232_3, hl232_1, hi232_1⟩ := at_T80 HR0_0.out x3_1 p232 q232
      have hw232_3 := hx232_3
      have hw232_2 := hx232_2
      have hw232_1 := hx232_1
      have hw232_0 := hx232_0
      cases e232
      replace hx232_0 := (HB.out.cell (World.block_lt_of_cell? w _ hx232_0)).trans hx232_0
      replace hx232_1 := (HB.out.cell (World.block_lt_of_cell? w _ hx232_1)).trans hx232_1
      replace hx232_2 := (HB.out.cell (World.block_lt_of_cell? w _ hx232_2)).trans hx232_2
      replace hx232_3 := (HB.out.cell (World.block_lt_of_cell? w _ hx232_3)).trans hx232_3
      have HR232_1 := Aside0.mk hi232_1
      have HC232_1 := Aside0.mk hl232_1
      clear hi232_1 hl232_1
      replace p232 := eq_true p232
      replace q232 := eq_true q232
      refine start_ (n := 59) (S := fun w' => w'.cell? ⟨gb229, 0, none⟩ = some (.slice (some ad232) l0_0.length c0_0) ∧ w'.cell? ⟨gb229, 1, none⟩ = some (.int .i64 a0_1) ∧ w'.cell? (ad232.add ((x3_1).toNat * 4)) = some (.int .i64 ((rd_T80 l0_0 x3_1).f0)) ∧ w'.cell? ⟨(ad232.add ((x3_1).toNat * 4)).block, (ad232.add ((x3_1).toNat * 4)).off + 1, none⟩ = some (.slice A232_1 ((rd_T80 l0_0 x3_1).f1).length c232_1) ∧ w'.cell? ⟨(ad232.add ((x3_1).toNat * 4)).block, (ad232.add ((x3_1).toNat * 4)).off + 2, none⟩ = some (.int .i64 ((rd_T80 l0_0 x3_1).f2)) ∧ w'.cell? ⟨(ad232.add ((x3_1).toNat * 4)).block, (ad232.add ((x3_1).toNat * 4)).off + 3, none⟩ = some (.bool ((rd_T80 l0_0 x3_1).f3))) (ds := []) #[false, false, false, false, false, false, false, false, false, false, false, false, false, false, false, false, false, false, false, false, false, false, false, false, false, false, false, false, false, false, false, false, false, false, false, false, false, false, false, false, false, false, false, false, false, false, false, false, false, false, false, false, false, false, false, false, false, false, false] (by kernel_rfl) rfl rfl ⟨(blk_cell BK229.out 0).trans rfl, (blk_cell BK229.out 1).trans rfl, ((HB.out.cell (World.block_lt_of_cell? w _ hw232_0)).trans hw232_0), ((HB.out.cell (World.block_lt_of_cell? w _ hw232_1)).trans hw232_1), ((HB.out.cell (World.block_lt_of_cell? w _ hw232_2)).trans hw232_2), ((HB.out.cell (World.block_lt_of_cell? w _ hw232_3)).trans hw232_3)⟩ (fun hHeld => ?_); refine with_tabW spec_IsValidDisk.tab4 spec_IsValidDisk.bits4 (fun HT_ HW_ => ?_)
      generalize wr.drew = w49 at BK229 HB HR232_1 hx232_0 hx232_1 hx232_2 hx232_3 hHeld ⊢
      refine pu_ 0 (some 11) HT_ (h := ?_)
      refine pu_ 2 (some 13) HT_ (h := ?_)
      refine pu_ 6 (some 17) HT_ (h := ?_)
      refine ta_ 1 (some 12) HT_ HW_ hHeld (h := ?_)
      refine pu_ 3 (some 14) HT_ (h := ?_)
      refine pu_ 4 (some 15) HT_ (h := ?_)
      refine ta_ 5 (some 16) HT_ HW_ hHeld (h := ?_)
      refine ta_ 7 (some 18) HT_ HW_ hHeld (h := ?_)
      refine pu_ 8 (some 19) HT_ (h := ?_)
      refine one_ (i := 9) (N := some 20) #[true, true, true, true, true, true, true, true, true, true, false, false, false, false, false, false, false, false, false, false, false, false, false, false, false, false, false, false, false, false, false, false, false, false, false, false, false, false, false, false, false, false, false, false, false, false, false, false, false, false, false, false, false, false, false, false, false, false, false] rfl rfl (one_of HT_.out (by kernel_rfl)) (by decide) (fun K hK => ?_)
      refine goes_ Try.func88 (by kernel_rfl) rfl #[.int .i64 ((rd_T80 l0_0 x3_1).f0), .int .i64 0, .int .i64 (wrap64 (a0_1 - 1))] (by rfl) rfl rfl (by (try simp only [mA, mC, mN]); first | done | rfl | (simp only [lD, lT]; rfl)) ?_
      with_reducible refine (spec_l1In.calls ((rd_T80 l0_0 x3_1).f0) 0 (wrap64 (a0_1 - 1)) false _ A5.out).mono ?_
      rintro e w' ⟨rfl, ⟨nd, rfl⟩⟩
      refine ⟨_, rfl, ?_⟩
      refine hK.out _ _ ⟨(blk_cell BK229.out 0).trans rfl, (blk_cell BK229.out 1).trans rfl, ((HB.out.cell (World.block_lt_of_cell? w _ hw232_0)).trans hw232_0), ((HB.out.cell (World.block_lt_of_cell? w _ hw232_1)).trans hw232_1), ((HB.out.cell (World.block_lt_of_cell? w _ hw232_2)).trans hw232_2), ((HB.out.cell (World.block_lt_of_cell? w _ hw232_3)).trans hw232_3)⟩ (fun hHeld => ?_)
      clear hK K
      refine norm_ (a' := ?_) ?_ ?_
      rotate_left
      ·show Act.put _ (some 20) _ = _
       simp only [Act.put, List.setIfInBounds_toArray, List.set_cons_zero, List.set_cons_succ, i64_w, i32_w]
       rfl
      refine pu_ 10 (some 21) HT_ (h := ?_)
      refine pu_ 11 (some 22) HT_ (h := ?_)
      refine un_ 12 (some 23) HT_ (h := ?_)
      refine un_ 13 (some 24) HT_ (h := ?_)
      refine un_ 14 (some 25) HT_ (h := ?_)
      refine un_ 15 (some 26) HT_ (h := ?_)
      refine un_ 16 (some 27) HT_ (h := ?_)
      refine un_ 17 (some 28) HT_ (h := ?_)
      refine un_ 18 (some 29) HT_ (h := ?_)
      refine un_ 19 (some 30) HT_ (h := ?_)
      refine un_ 20 (some 31) HT_ (h := ?_)
      refine un_ 21 (some 32) HT_ (h := ?_)
      refine un_ 22 (some 33) HT_ (h := ?_)
      refine un_ 23 (some 34) HT_ (h := ?_)
      refine un_ 24 (some 35) HT_ (h := ?_)
      refine un_ 25 (some 36) HT_ (h := ?_)
      refine un_ 26 (some 37) HT_ (h := ?_)
      refine un_ 27 (some 38) HT_ (h := ?_)
      refine un_ 28 (some 39) HT_ (h := ?_)
      refine un_ 29 (some 40) HT_ (h := ?_)
      refine pu_ 30 (some 41) HT_ (h := ?_)
      refine pu_ 31 (some 42) HT_ (h := ?_)
      refine un_ 32 (some 43) HT_ (h := ?_)
      refine un_ 33 (some 44) HT_ (h := ?_)
      refine un_ 34 (some 45) HT_ (h := ?_)
      refine un_ 35 (some 46) HT_ (h := ?_)
      refine un_ 36 (some 47) HT_ (h := ?_)
      refine un_ 37 (some 48) HT_ (h := ?_)
      refine un_ 38 (some 49) HT_ (h := ?_)
      refine un_ 39 (some 50) HT_ (h := ?_)
      refine pu_ 40 (some 51) HT_ (h := ?_)
      refine pu_ 41 (some 52) HT_ (h := ?_)
      refine un_ 42 (some 53) HT_ (h := ?_)
      refine un_ 43 (some 54) HT_ (h := ?_)
      refine un_ 44 (some 55) HT_ (h := ?_)
      refine un_ 45 (some 56) HT_ (h := ?_)
      refine un_ 46 (some 57) HT_ (h := ?_)
      refine un_ 47 (some 58) HT_ (h := ?_)
      refine un_ 48 (some 59) HT_ (h := ?_)
      refine un_ 49 (some 60) HT_ (h := ?_)
      refine un_ 50 (some 61) HT_ (h := ?_)
      refine un_ 51 (some 62) HT_ (h := ?_)
      refine un_ 52 (some 63) HT_ (h := ?_)
      refine un_ 53 (some 64) HT_ (h := ?_)
      refine un_ 54 (some 65) HT_ (h := ?_)
      refine un_ 55 (some 66) HT_ (h := ?_)
      refine un_ 56 (some 67) HT_ (h := ?_)
      refine un_ 57 (some 68) HT_ (h := ?_)
      refine pu_ 58 (some 69) HT_ (h := ?_)
      refine done_ (done_of HT_.out (by kernel_rfl)) ?_
      try go_wp2
      go_ret
      exact ⟨by first | rfl | (simp [errW_none, errW_some] <;> rfl) | (simp [*, errW_none, errW_some] <;> rfl), by repeat (first | (with_reducible first | exact HB.out | apply cA | apply cN | apply cD | refine below_set ?_ GE229.out) | exact HB.out)⟩
    ·rw [if_neg c4] at H
     exact absurd H (by simp)
   ·rw [if_neg c3] at H
    have c3b0 : decide (x3_1 < (l0_0.length : Int)) = false := decide_eq_false c3
    clear c3
    replace H := Option.bind_eq_some_iff.mp H
    obtain ⟨t230, A500, H⟩ := H
    replace H : (if t230 = true then ((spec_CountPages.f k1 l0_0 a0_1).bind fun t231 => (some (decide (t231 ≤ 40)))) else (some false)) = some r := H
    have A50 := Aside0.mk A500
    clear A500
    by_cases c51 : t230 = true
    ·subst c51
     have H1 : ((spec_CountPages.f k1 l0_0 a0_1).bind fun t231 => (some (decide (t231 ≤ 40)))) = some r := by rw [if_pos rfl] at H; exact H
     clear H
     have H := H1
     clear H1
     replace H := Option.bind_eq_some_iff.mp H
     obtain ⟨t231, A520, H⟩ := H
     replace H : (some (decide (t231 ≤ 40))) = some r := H
     have A52 := Aside0.mk A520
     clear A520
     obtain rfl := Option.some.inj H
     have hcz53_0 : wr.cell? ⟨gb229, 0, none⟩ = some (.slice A0_0 l0_0.length c0_0) := (blk_cell BK229.out 0).trans rfl
     have hcz53_1 : wr.cell? ⟨gb229, 1, none⟩ = some (.int .i64 a0_1) := (blk_cell BK229.out 1).trans rfl
     have hfz53_0 := blk_frozen BK229.out 0
     have hfz53_1 := blk_frozen BK229.out 1
     go_wp2_with (first | ((with_reducible refine gate_callee (f := 88) rfl ?_); refine goesL_ (some 72) rfl rfl Try.func88 (by kernel_rfl) rfl #[.int .i64 a0_1, .int .i64 0, .int .i64 1000] rfl (by (try simp only [mA, mC, mN]); first | done | rfl | (simp only [lD, lT]; rfl)) ?_; (with_reducible refine (spec_l1In.calls a0_1 0 1000 true _ A50.out).mono ?_); rintro e w' ⟨rfl, ⟨nd, rfl⟩⟩; refine ⟨_, rfl, ?_⟩) | (go_at_call 76; (with_reducible refine (spec_CountPages.calls k1 _ _ l0_0 a0_1 t231 _ ?side1 ?side2 A52.out).mono ?_); (case side1 => repeat (first | exact (Kd.C_below HR0_0.out (by repeat (first | (with_reducible first | exact HB.out | apply cA | apply cN | apply cD | refine below_set ?_ GE229.out) | exact HB.out))) | (with_reducible refine Kd.C_alloc ?_ _) | (with_reducible refine Kd.C_drewN ?_ _) | (with_reducible refine Kd.C_drew ?_))); (case side2 => exact HC0_0.out); rintro e w54 ⟨rfl, hb⟩; have n0_ := Aside0.mk (blk_below (g := gb229) (o := .cells #[.slice A0_0 l0_0.length c0_0, .int .i64 a0_1] 28 (0, 0)) (by (with_reducible repeat (first | apply bN | apply bD | apply bA)); exact BK229.out) hb); have n1_ := Aside0.mk (below_step (by repeat (first | (with_reducible first | exact HB.out | apply cA | apply cN | apply cD | refine below_set ?_ GE229.out) | exact HB.out)) hb); clear BK229; clear HB; have BK229 := n0_; have HB := n1_; clear n0_ n1_; (try clear hb); (try clear hb2); (try clear hk); (try clear hi)))
     go_ret
     exact ⟨by first | rfl | (simp [errW_none, errW_some] <;> rfl) | (simp [*, errW_none, errW_some] <;> rfl), by repeat (first | (with_reducible first | exact HB.out | apply cA | apply cN | apply cD | refine below_set ?_ GE229.out) | exact HB.out)⟩
    ·replace c51 := Bool.eq_false_iff.mpr c51
     subst c51
     have H1 : (some false) = some r := by rw [if_neg (show ¬ (false = true) by decide)] at H; exact H
     clear H
     have H := H1
     clear H1
     obtain rfl := Option.some.inj H
     have hcz55_0 : wr.cell? ⟨gb229, 0, none⟩ = some (.slice A0_0 l0_0.length c0_0) := (blk_cell BK229.out 0).trans rfl
     have hcz55_1 : wr.cell? ⟨gb229, 1, none⟩ = some (.int .i64 a0_1) := (blk_cell BK229.out 1).trans rfl
     have hfz55_0 := blk_frozen BK229.out 0
     have hfz55_1 := blk_frozen BK229.out 1
     go_wp2_with (first | ((with_reducible refine gate_callee (f := 88) rfl ?_); refine goesL_ (some 72) rfl rfl Try.func88 (by kernel_rfl) rfl #[.int .i64 a0_1, .int .i64 0, .int .i64 1000] rfl (by (try simp only [mA, mC, mN]); first | done | rfl | (simp only [lD, lT]; rfl)) ?_; (with_reducible refine (spec_l1In.calls a0_1 0 1000 false _ A50.out).mono ?_); rintro e w' ⟨rfl, ⟨nd, rfl⟩⟩; refine ⟨_, rfl, ?_⟩))
     go_ret
     exact ⟨by first | rfl | (simp [errW_none, errW_some] <;> rfl) | (simp [*, errW_none, errW_some] <;> rfl), by repeat (first | (with_reducible first | exact HB.out | apply cA | apply cN | apply cD | refine below_set ?_ GE229.out) | exact HB.out)⟩

end Go.Proofs.Ytinniedbgfgclaa.PFnExactIsValidDisk
