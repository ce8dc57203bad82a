/- Out of a copy of the print, with function values told: nothing is claimed here. -/
import Derived.Test.YtinniedbgfgclaaVQFnExactDeleteUnreadableFilesx0
import Derived.Test.YtinniedbgfgclaaVQFnExactDeleteUnreadableFilesx5
import Derived.Test.YtinniedbgfgclaaVQFnExactDeleteUnreadableFilesx6
import Derived.Test.YtinniedbgfgclaaVQFnExactDeleteUnreadableFilesx7
import Derived.Test.YtinniedbgfgclaaVShort
import Derived.Test.YtinniedbgfgclaaVPress
namespace Go.Proofs.Ytinniedbgfgclaa.PFnExactDeleteUnreadableFiles
open Go.RowKit Go.Proofs.YtinniedbgfgclaaW.PrintWords Go.Proofs.YtinniedbgfgclaaW.PrintLast Go.Proofs.YtinniedbgfgclaaW.PrintMore Go.Proofs.Ytinniedbgfgclaa.Short Go.Proofs.Ytinniedbgfgclaa.Press
attribute [local go_sem] max2_int min2_int max_two min_two max_three min_three max_four min_four   -- for this text's walks alone
set_option linter.unusedVariables false
set_option linter.unusedSimpArgs false
def spec_IsValidDisk.l0 : Nat → Int → List (S80) → Int → Option (Bool)
 | 0, _, _, _ => none
 | k + 1, x3, x234000, x234001 => if x3 < (x234000.length : Int) then (if 0 ≤ x3 then ((spec_l1In.f ((rd_T80 x234000 x3).f0) 0 (wrap64 (x234001 - 1))).bind fun t237 => (if t237 = true then (if x3 > 0 then (if 0 ≤ (wrap64 (x3 - 1)) then (if (wrap64 (x3 - 1)) < (x234000.length : Int) then (if ((rd_T80 x234000 x3).f0) ≤ ((rd_T80 x234000 (wrap64 (x3 - 1))).f0) then (some false) else ((spec_l4Pages.f k ((rd_T80 x234000 x3).f1)).bind fun t241 => (if t241 = true then (if ((rd_T80 x234000 x3).f3 = true) then (spec_IsValidDisk.l0 k (wrap64 (x3 + 1)) x234000 x234001) else (if ((rd_T80 x234000 x3).f2) = 0 then (spec_IsValidDisk.l0 k (wrap64 (x3 + 1)) x234000 x234001) else (some false))) else (some false)))) else (none)) else (none)) else ((spec_l4Pages.f k ((rd_T80 x234000 x3).f1)).bind fun t245 => (if t245 = true then (if ((rd_T80 x234000 x3).f3 = true) then (spec_IsValidDisk.l0 k (wrap64 (x3 + 1)) x234000 x234001) else (if ((rd_T80 x234000 x3).f2) = 0 then (spec_IsValidDisk.l0 k (wrap64 (x3 + 1)) x234000 x234001) else (some false))) else (some false)))) else (some false))) else (none)) else ((spec_l1In.f x234001 0 1000).bind fun t234 => (if t234 = true then ((spec_CountPages.f k x234000 x234001).bind fun t235 => (some (decide (t235 ≤ 40)))) else (some false)))
def spec_IsValidDisk.f (k : Nat) (l0_0 : List (S80)) (a0_1 : Int) : Option (Bool) := spec_IsValidDisk.l0 k 0 l0_0 a0_1
theorem spec_IsValidDisk.mono_l : ∀ k, (∀ y0 y1 y2, LeO (spec_IsValidDisk.l0 k y0 y1 y2) (spec_IsValidDisk.l0 (k + 1) y0 y1 y2))
 | 0 => fun _ _ _ r h => by simp [spec_IsValidDisk.l0] at h
 | k + 1 => by
  have ih0 := spec_IsValidDisk.mono_l k
  ·intro y0 y1 y2
   unfold spec_IsValidDisk.l0
   repeat' first
   | (with_reducible exact ih0 _ _ _)
   | (with_reducible exact spec_CountPages.mono _ _ _)
   | (with_reducible exact spec_l4Pages.mono _ _)
   | (with_reducible exact LeO.refl _)
   | (with_reducible exact LeO.none _)
   | (with_reducible refine LeO.ite ?_ ?_)
   | (with_reducible refine LeO.bind ?_ (fun _ => ?_))
theorem spec_IsValidDisk.mono : ∀ a0 a1 k, LeO (spec_IsValidDisk.f k a0 a1) (spec_IsValidDisk.f (k + 1) a0 a1) := by
 intro a0 a1 k
 have ih0 := spec_IsValidDisk.mono_l k
 unfold spec_IsValidDisk.f
 repeat' first
   | (with_reducible exact ih0 _ _ _)
   | (with_reducible exact spec_CountPages.mono _ _ _)
   | (with_reducible exact spec_l4Pages.mono _ _)
   | (with_reducible exact LeO.refl _)
   | (with_reducible exact LeO.none _)
   | (with_reducible refine LeO.ite ?_ ?_)
   | (with_reducible refine LeO.bind ?_ (fun _ => ?_))
def spec_IsValidDisk.T4 : Bool × List (List Nat × List Nat) := (true, [([], []), ([0], [0]), ([], []), ([1, 2], [1, 2]), ([3], [3]), ([4], [4]), ([], []), ([6], [6]), ([7], [7]), ([5, 8], [5, 8]), ([9], [9]), ([10, 9], [10]), ([11], [11]), ([12, 11], [11, 12]), ([13, 11, 11], [11, 13]), ([14], [14]), ([15, 14], [14, 15]), ([14], [14]), ([16, 17, 14], [14, 16, 17]), ([18, 14], [14, 18]), ([19, 14], [14, 19]), ([14], [14]), ([21, 14], [14, 21]), ([14], [14]), ([23, 14], [14, 23]), ([22, 24, 14], [14, 22, 24]), ([25, 14], [14, 25]), ([26, 14], [14, 26]), ([20, 27, 14], [14, 20, 27]), ([14, 28, 11], [11, 14, 28]), ([11, 29], [11, 29]), ([30, 14], [30]), ([31], [31]), ([32, 31], [31, 32]), ([31], [31]), ([33, 34, 31], [31, 33, 34]), ([35, 31], [31, 35]), ([36, 31], [31, 36]), ([37, 31, 31], [31, 37]), ([38, 31], [31, 38]), ([31, 39], [31, 39]), ([40, 38], [40]), ([41], [41]), ([42, 41], [41, 42]), ([41], [41]), ([43, 44, 41], [41, 43, 44]), ([45, 41], [41, 45]), ([46, 41], [41, 46]), ([47, 41], [41, 47]), ([48, 41, 41], [41, 48]), ([49], [49]), ([50, 49], [49, 50]), ([49], [49]), ([51, 52, 49], [49, 51, 52]), ([53, 49], [49, 53]), ([54, 49], [49, 54]), ([55, 49], [49, 55]), ([49, 56, 41], [41, 49, 56]), ([41, 57], [41, 57])])
def spec_IsValidDisk.B4 : List Nat := [0, 1, 0, 7, 15, 31, 0, 64, 192, 511, 1023, 2047, 4095, 8191, 16383, 32767, 65535, 32767, 262143, 524287, 1048575, 32767, 2129919, 32767, 8421375, 31490047, 65044479, 132153343, 268435455, 536870911, 1073741823, 2147483647, 4294967295, 8589934591, 4294967295, 34359738367, 68719476735, 137438953471, 274877906943, 549755813887, 1099511627775, 2199023255551, 4398046511103, 8796093022207, 4398046511103, 35184372088831, 70368744177663, 140737488355327, 281474976710655, 562949953421311, 1125899906842623, 2251799813685247, 1125899906842623, 9007199254740991, 18014398509481983, 36028797018963967, 72057594037927935, 144115188075855871, 288230376151711743]
theorem spec_IsValidDisk.tab4 : rtab .any (opsOf Try.f46 4) = spec_IsValidDisk.T4 := by kernel_rfl
theorem spec_IsValidDisk.bits4 : waitsOk spec_IsValidDisk.T4.2 spec_IsValidDisk.B4 = true := by kernel_rfl
set_option maxHeartbeats 8000000 in
set_option maxRecDepth 100000 in
theorem spec_IsValidDisk.calls (k : Nat) (A0_0 : Option Addr) (c0_0 : Nat) (l0_0 : List (S80)) (a0_1 : Int) (r : Bool) (w : World) (hr0_0 : Kd.C k80 w A0_0 l0_0.length l0_0) (hc0_0 : l0_0.length ≤ c0_0) (h : spec_IsValidDisk.f k l0_0 a0_1 = some r) :
  Calls Try.prog 46 #[.agg #[.slice A0_0 l0_0.length c0_0, .int .i64 a0_1]] w fun e w' => e = .returned (.bool r) ∧ Below w.heap.size w w' := by
 have hu28 := Try.underlying28
 have HR0_0 := kp hr0_0
 have HC0_0 := kp hc0_0
 clear hr0_0 hc0_0
 have HB := kp (Below.refl w.heap.size w)
 have H : (spec_IsValidDisk.l0 k 0 l0_0 a0_1) = some r := h
 clear h
 have H' := kp H
 clear H
 go_enter Try.func46, Try.ntmps46
 go_wp2_with (first | ((with_reducible refine gate_dst (N := 1) rfl ?_); refine bx_ 1 #[.slice A0_0 l0_0.length c0_0, .int .i64 a0_1] 28 ?_; intro gb233 hg w2 hbox hb; have n0_ := kp (below_step bb hb); have n1_ := kp (hbox); have n2_ := kp (bs hg); have n3_ := kp (bs hg); clear HB; have HB := n0_; have BK233 := n1_; have GW233 := n2_; have GE233 := n3_; clear n0_ n1_ n2_ n3_; clear hb hbox hg))
 (try simp only [Act.put, List.setIfInBounds_toArray, List.set_cons_zero, List.set_cons_succ])
 go_loopg [3] k (fun kq v3 w' => ∃ (x3_1 : Int), v3 = .int .i64 x3_1 ∧ Aside0 (spec_IsValidDisk.l0 kq x3_1 l0_0 a0_1 = some r) ∧ Aside0 (kq ≤ k) ∧ Aside0 (w'.heap[gb233]? = some (.cells #[(.slice A0_0 l0_0.length c0_0), .int .i64 a0_1] 28 (0, 0))) ∧ Aside0 (Below w.heap.size w w'))
 case atStart => exact ⟨(0), (by first | rfl | (simp; done) | (simp [*]; done)), H', ⟨Nat.le_refl _⟩, ⟨by (with_reducible repeat (first | apply bN | apply bD | apply bA)); exact BK233.out⟩, ⟨bb⟩⟩
 case round =>
  clear H'
  try clear p2
  obtain ⟨x3_1, rfl, HA, HK1, BK233, HB⟩ := hrel
  cases gk with
  | zero => exact absurd HA.out (by simp [spec_IsValidDisk.l0])
  | succ k1 =>
   have H := HA.out; clear HA; simp only [spec_IsValidDisk.l0] at H
   by_cases c3 : x3_1 < (l0_0.length : Int)
   ·rw [if_pos c3] at H; have c3b0 : decide (x3_1 < (l0_0.length : Int)) = true := decide_eq_true c3; clear c3
    by_cases c4 : 0 ≤ x3_1
    ·rw [if_pos c4] at H; have c4b0 : decide (0 ≤ x3_1) = true := decide_eq_true c4; clear c4; replace H := Option.bind_eq_some_iff.mp H; obtain ⟨t237, A50, H⟩ := H; replace H : (if t237 = true then (if x3_1 > 0 then (if 0 ≤ (wrap64 (x3_1 - 1)) then (if (wrap64 (x3_1 - 1)) < (l0_0.length : Int) then (if ((rd_T80 l0_0 x3_1).f0) ≤ ((rd_T80 l0_0 (wrap64 (x3_1 - 1))).f0) then (some false) else ((spec_l4Pages.f k1 ((rd_T80 l0_0 x3_1).f1)).bind fun t241 => (if t241 = true then (if ((rd_T80 l0_0 x3_1).f3 = true) then (spec_IsValidDisk.l0 k1 (wrap64 (x3_1 + 1)) l0_0 a0_1) else (if ((rd_T80 l0_0 x3_1).f2) = 0 then (spec_IsValidDisk.l0 k1 (wrap64 (x3_1 + 1)) l0_0 a0_1) else (some false))) else (some false)))) else (none)) else (none)) else ((spec_l4Pages.f k1 ((rd_T80 l0_0 x3_1).f1)).bind fun t245 => (if t245 = true then (if ((rd_T80 l0_0 x3_1).f3 = true) then (spec_IsValidDisk.l0 k1 (wrap64 (x3_1 + 1)) l0_0 a0_1) else (if ((rd_T80 l0_0 x3_1).f2) = 0 then (spec_IsValidDisk.l0 k1 (wrap64 (x3_1 + 1)) l0_0 a0_1) else (some false))) else (some false)))) else (some false)) = some r := H; have A5 := kp A50; clear A50
     by_cases c6 : t237 = true
     ·subst c6; have H1 : (if x3_1 > 0 then (if 0 ≤ (wrap64 (x3_1 - 1)) then (if (wrap64 (x3_1 - 1)) < (l0_0.length : Int) then (if ((rd_T80 l0_0 x3_1).f0) ≤ ((rd_T80 l0_0 (wrap64 (x3_1 - 1))).f0) then (some false) else ((spec_l4Pages.f k1 ((rd_T80 l0_0 x3_1).f1)).bind fun t241 => (if t241 = true then (if ((rd_T80 l0_0 x3_1).f3 = true) then (spec_IsValidDisk.l0 k1 (wrap64 (x3_1 + 1)) l0_0 a0_1) else (if ((rd_T80 l0_0 x3_1).f2) = 0 then (spec_IsValidDisk.l0 k1 (wrap64 (x3_1 + 1)) l0_0 a0_1) else (some false))) else (some false)))) else (none)) else (none)) else ((spec_l4Pages.f k1 ((rd_T80 l0_0 x3_1).f1)).bind fun t245 => (if t245 = true then (if ((rd_T80 l0_0 x3_1).f3 = true) then (spec_IsValidDisk.l0 k1 (wrap64 (x3_1 + 1)) l0_0 a0_1) else (if ((rd_T80 l0_0 x3_1).f2) = 0 then (spec_IsValidDisk.l0 k1 (wrap64 (x3_1 + 1)) l0_0 a0_1) else (some false))) else (some false)))) = some r := by rw [if_pos rfl] at H; exact H
      clear H; have H := H1; clear H1
      by_cases c7 : x3_1 > 0
      ·rw [if_pos c7] at H; have c7b0 : decide (0 < x3_1) = true := decide_eq_true c7; clear c7; obtain ⟨ji8, hji8⟩ : ∃ j_ : Int, (wrap64 (x3_1 - 1)) = j_ := ⟨_, rfl⟩; replace H : (if 0 ≤ (ji8) then (if (ji8) < (l0_0.length : Int) then (if ((rd_T80 l0_0 x3_1).f0) ≤ ((rd_T80 l0_0 (ji8)).f0) then (some false) else ((spec_l4Pages.f k1 ((rd_T80 l0_0 x3_1).f1)).bind fun t241 => (if t241 = true then (if ((rd_T80 l0_0 x3_1).f3 = true) then (spec_IsValidDisk.l0 k1 (wrap64 (x3_1 + 1)) l0_0 a0_1) else (if ((rd_T80 l0_0 x3_1).f2) = 0 then (spec_IsValidDisk.l0 k1 (wrap64 (x3_1 + 1)) l0_0 a0_1) else (some false))) else (some false)))) else (none)) else (none)) = some r := by first | (rw [hji8] at H; exact H) | (simp only [hji8] at H ⊢; exact H)
       (try rw [hji8] at A5); have hji8w : (IntKind.i64.wrap (x3_1 - 1)) = ji8 := (i64_w _).trans hji8
       by_cases c9 : 0 ≤ (ji8)
       ·rw [if_pos c9] at H; have c9b0 : decide (0 ≤ (ji8)) = true := decide_eq_true c9; clear c9
        by_cases c10 : (ji8) < (l0_0.length : Int)
        ·rw [if_pos c10] at H; have c10b0 : decide ((ji8) < (l0_0.length : Int)) = true := decide_eq_true c10; clear c10
         by_cases c11 : ((rd_T80 l0_0 x3_1).f0) ≤ ((rd_T80 l0_0 (ji8)).f0)
         ·rw [if_pos c11] at H; have c11b0 : decide (((rd_T80 l0_0 x3_1).f0) ≤ ((rd_T80 l0_0 (ji8)).f0)) = true := decide_eq_true c11; clear c11; obtain rfl := Option.some.inj H; have hcz12_0 : wr.cell? ⟨gb233, 0, none⟩ = some (.slice A0_0 l0_0.length c0_0) := (blk_cell BK233.out 0).trans rfl; have hcz12_1 : wr.cell? ⟨gb233, 1, none⟩ = some (.int .i64 a0_1) := (blk_cell BK233.out 1).trans rfl; have hfz12_0 := blk_frozen BK233.out 0; have hfz12_1 := blk_frozen BK233.out 1
          try go_wp2
          have n0_ := kp (blk_drew BK233.out); have n1_ := kp (below_drew1 HB.out); clear BK233; clear HB; have BK233 := n0_; have HB := n1_; clear n0_ n1_; have p236 : 0 ≤ (x3_1 : Int) := dt; have q236 : x3_1 < (l0_0.length : Int) := dt; obtain ⟨ad236, A236_1, c236_1, e236, hx236_0, hx236_1, hx236_2, hx236_3, hl236_1, hi236_1⟩ := at_T80 HR0_0.out x3_1 p236 q236; have hw236_3 := hx236_3; have hw236_2 := hx236_2; have hw236_1 := hx236_1; have hw236_0 := hx236_0; cases e236; replace hx236_0 := kc HB.out hx236_0; replace hx236_1 := kc HB.out hx236_1; replace hx236_2 := kc HB.out hx236_2; replace hx236_3 := kc HB.out hx236_3; have HR236_1 := kp hi236_1; have HC236_1 := kp hl236_1; clear hi236_1 hl236_1; replace p236 := eq_true p236; replace q236 := eq_true q236; have p238 : 0 ≤ (x3_1 : Int) := dt; have q238 : x3_1 < (l0_0.length : Int) := dt; obtain ⟨ad238, A238_1, c238_1, e238, hx238_0, hx238_1, hx238_2, hx238_3, hl238_1, hi238_1⟩ := at_T80 HR0_0.out x3_1 p238 q238; have hw238_3 := hx238_3; have hw238_2 := hx238_2; have hw238_1 := hx238_1; have hw238_0 := hx238_0; obtain rfl : ad236 = ad238 := (by injection e238); replace hx238_0 := kc HB.out hx238_0; replace hx238_1 := kc HB.out hx238_1; replace hx238_2 := kc HB.out hx238_2; replace hx238_3 := kc HB.out hx238_3; have HR238_1 := kp hi238_1; have HC238_1 := kp hl238_1; clear hi238_1 hl238_1; replace p238 := eq_true p238; replace q238 := eq_true q238; have ea_ := Option.some.inj (hx236_1.symm.trans hx238_1)
          injection ea_ with ea_ en_ ec_
          subst ea_; subst ec_; clear en_; have p239 : 0 ≤ ((ji8) : Int) := dt; have q239 : (ji8) < (l0_0.length : Int) := dt; obtain ⟨ad239, A239_1, c239_1, e239, hx239_0, hx239_1, hx239_2, hx239_3, hl239_1, hi239_1⟩ := at_T80 HR0_0.out (ji8) p239 q239; have hw239_3 := hx239_3; have hw239_2 := hx239_2; have hw239_1 := hx239_1; have hw239_0 := hx239_0; obtain rfl : ad236 = ad239 := (by injection e239); replace hx239_0 := kc HB.out hx239_0; replace hx239_1 := kc HB.out hx239_1; replace hx239_2 := kc HB.out hx239_2; replace hx239_3 := kc HB.out hx239_3; have HR239_1 := kp hi239_1; have HC239_1 := kp hl239_1; clear hi239_1 hl239_1; replace p239 := eq_true p239; replace q239 := eq_true q239
          refine start_ (n := 59) (S := fun w' => w'.cell? ⟨gb233, 0, none⟩ = some (.slice (some ad236) l0_0.length c0_0) ∧ w'.cell? ⟨gb233, 1, none⟩ = some (.int .i64 a0_1) ∧ w'.cell? (ad236.add ((x3_1).toNat * 4)) = some (.int .i64 ((rd_T80 l0_0 x3_1).f0)) ∧ w'.cell? ⟨(ad236.add ((x3_1).toNat * 4)).block, (ad236.add ((x3_1).toNat * 4)).off + 1, none⟩ = some (.slice A236_1 ((rd_T80 l0_0 x3_1).f1).length c236_1) ∧ w'.cell? ⟨(ad236.add ((x3_1).toNat * 4)).block, (ad236.add ((x3_1).toNat * 4)).off + 2, none⟩ = some (.int .i64 ((rd_T80 l0_0 x3_1).f2)) ∧ w'.cell? ⟨(ad236.add ((x3_1).toNat * 4)).block, (ad236.add ((x3_1).toNat * 4)).off + 3, none⟩ = some (.bool ((rd_T80 l0_0 x3_1).f3)) ∧ w'.cell? (ad236.add (((ji8)).toNat * 4)) = some (.int .i64 ((rd_T80 l0_0 (ji8)).f0)) ∧ w'.cell? ⟨(ad236.add (((ji8)).toNat * 4)).block, (ad236.add (((ji8)).toNat * 4)).off + 1, none⟩ = some (.slice A239_1 ((rd_T80 l0_0 (ji8)).f1).length c239_1) ∧ w'.cell? ⟨(ad236.add (((ji8)).toNat * 4)).block, (ad236.add (((ji8)).toNat * 4)).off + 2, none⟩ = some (.int .i64 ((rd_T80 l0_0 (ji8)).f2)) ∧ w'.cell? ⟨(ad236.add (((ji8)).toNat * 4)).block, (ad236.add (((ji8)).toNat * 4)).off + 3, none⟩ = some (.bool ((rd_T80 l0_0 (ji8)).f3))) (ds := []) #[false, false, false, false, false, false, false, false, false, false, false, false, false, false, false, false, false, false, false, false, false, false, false, false, false, false, false, false, false, false, false, false, false, false, false, false, false, false, false, false, false, false, false, false, false, false, false, false, false, false, false, false, false, false, false, false, false, false, false] (by kernel_rfl) rfl rfl ⟨(blk_cell BK233.out 0).trans rfl, (blk_cell BK233.out 1).trans rfl, (kc HB.out hw236_0), (kc HB.out hw236_1), (kc HB.out hw236_2), (kc HB.out hw236_3), (kc HB.out hw239_0), (kc HB.out hw239_1), (kc HB.out hw239_2), (kc HB.out hw239_3)⟩ (fun hHeld => ?_); refine with_tabW spec_IsValidDisk.tab4 spec_IsValidDisk.bits4 (fun HT_ HW_ => ?_)
          generalize wr.drew = w13 at BK233 HB HR236_1 HR238_1 HR239_1 hx236_0 hx236_1 hx236_2 hx236_3 hx238_0 hx238_1 hx238_2 hx238_3 hx239_0 hx239_1 hx239_2 hx239_3 hHeld ⊢
          refine pq 0 11 HT_ ?_
          refine pq 2 13 HT_ ?_
          refine pq 6 17 HT_ ?_
          refine tq 1 12 HT_ HW_ hHeld ?_
          refine pq 3 14 HT_ ?_
          refine pq 4 15 HT_ ?_
          refine tq 5 16 HT_ HW_ hHeld ?_
          refine tq 7 18 HT_ HW_ hHeld ?_
          refine pq 8 19 HT_ ?_
          refine on_ 9 (some 20) HT_ (fun K hK => ?_); refine gs_ Try.func88 #[.int .i64 ((rd_T80 l0_0 x3_1).f0), .int .i64 0, .int .i64 (wrap64 (a0_1 - 1))] ?_; with_reducible refine (spec_l1In.calls ((rd_T80 l0_0 x3_1).f0) 0 (wrap64 (a0_1 - 1)) true _ A5.out).mono ?_
          rintro e w' ⟨rfl, ⟨nd, rfl⟩⟩; refine ⟨_, rfl, ?_⟩; refine hK.out _ _ ⟨(blk_cell BK233.out 0).trans rfl, (blk_cell BK233.out 1).trans rfl, (kc HB.out hw236_0), (kc HB.out hw236_1), (kc HB.out hw236_2), (kc HB.out hw236_3), (kc HB.out hw239_0), (kc HB.out hw239_1), (kc HB.out hw239_2), (kc HB.out hw239_3)⟩ (fun hHeld => ?_); clear hK K; refine nm_ (some 20) ?_
          refine pq 10 21 HT_ ?_
          refine pq 11 22 HT_ ?_
          refine pq 12 23 HT_ ?_
          refine pq 13 24 HT_ ?_
          refine pq 14 25 HT_ ?_
          refine pq 15 26 HT_ ?_
          refine pq 17 28 HT_ ?_
          refine pq 21 32 HT_ ?_
          refine pq 23 34 HT_ ?_
          refine pq 24 35 HT_ ?_
          refine tq 16 27 HT_ HW_ hHeld ?_
          refine pq 18 29 HT_ ?_
          refine pq 19 30 HT_ ?_
          refine tq 20 31 HT_ HW_ hHeld ?_
          refine tq 22 33 HT_ HW_ hHeld ?_
          refine pq 25 36 HT_ ?_
          refine pq 26 37 HT_ ?_
          refine tq 27 38 HT_ HW_ hHeld ?_
          refine pq 28 39 HT_ ?_
          refine pq 29 40 HT_ ?_
          refine pq 30 41 HT_ ?_
          refine pq 31 42 HT_ ?_
          refine uq 32 43 HT_ ?_
          refine uq 33 44 HT_ ?_
          refine uq 34 45 HT_ ?_
          refine uq 35 46 HT_ ?_
          refine uq 36 47 HT_ ?_
          refine uq 37 48 HT_ ?_
          refine uq 38 49 HT_ ?_
          refine uq 39 50 HT_ ?_
          refine pq 40 51 HT_ ?_
          refine pq 41 52 HT_ ?_
          refine uq 42 53 HT_ ?_
          refine uq 43 54 HT_ ?_
          refine uq 44 55 HT_ ?_
          refine uq 45 56 HT_ ?_
          refine uq 46 57 HT_ ?_
          refine uq 47 58 HT_ ?_
          refine uq 48 59 HT_ ?_
          refine uq 49 60 HT_ ?_
          refine uq 50 61 HT_ ?_
          refine uq 51 62 HT_ ?_
          refine uq 52 63 HT_ ?_
          refine uq 53 64 HT_ ?_
          refine uq 54 65 HT_ ?_
          refine uq 55 66 HT_ ?_
          refine uq 56 67 HT_ ?_
          refine uq 57 68 HT_ ?_
          refine pq 58 69 HT_ ?_
          refine done_ (done_of HT_.out (by kernel_rfl)) ?_
          try go_wp2
          go_ret; exact ⟨by first | rfl | (simp [errW_none, errW_some] <;> rfl) | (simp only [← hji8]; first | rfl | (simp [errW_none, errW_some] <;> rfl)) | (simp [*, errW_none, errW_some] <;> rfl), bb⟩
         ·rw [if_neg c11] at H; have c11b0 : decide (((rd_T80 l0_0 x3_1).f0) ≤ ((rd_T80 l0_0 (ji8)).f0)) = false := decide_eq_false c11; clear c11; replace H := Option.bind_eq_some_iff.mp H; obtain ⟨t241, A140, H⟩ := H; replace H : (if t241 = true then (if ((rd_T80 l0_0 x3_1).f3 = true) then (spec_IsValidDisk.l0 k1 (wrap64 (x3_1 + 1)) l0_0 a0_1) else (if ((rd_T80 l0_0 x3_1).f2) = 0 then (spec_IsValidDisk.l0 k1 (wrap64 (x3_1 + 1)) l0_0 a0_1) else (some false))) else (some false)) = some r := H; have A14 := kp A140; clear A140
          by_cases c15 : t241 = true
          ·subst c15; have H1 : (if ((rd_T80 l0_0 x3_1).f3 = true) then (spec_IsValidDisk.l0 k1 (wrap64 (x3_1 + 1)) l0_0 a0_1) else (if ((rd_T80 l0_0 x3_1).f2) = 0 then (spec_IsValidDisk.l0 k1 (wrap64 (x3_1 + 1)) l0_0 a0_1) else (some false))) = some r := by rw [if_pos rfl] at H; exact H
           clear H; have H := H1; clear H1; obtain ⟨bq16, hbq16⟩ : ∃ b_ : Bool, b_ = ((rd_T80 l0_0 x3_1).f3) := ⟨_, rfl⟩; replace H : (if (bq16 = true) then (spec_IsValidDisk.l0 k1 (wrap64 (x3_1 + 1)) l0_0 a0_1) else (if ((rd_T80 l0_0 x3_1).f2) = 0 then (spec_IsValidDisk.l0 k1 (wrap64 (x3_1 + 1)) l0_0 a0_1) else (some false))) = some r := by rw [← hbq16] at H; exact H
           have Nbq16 := kp hbq16; clear hbq16
           by_cases c17 : (bq16 = true)
           ·subst c17; have H1 : (spec_IsValidDisk.l0 k1 (wrap64 (x3_1 + 1)) l0_0 a0_1) = some r := by rw [if_pos rfl] at H; exact H
            clear H; have H := H1; clear H1; have H' := kp H; clear H; have hcz18_0 : wr.cell? ⟨gb233, 0, none⟩ = some (.slice A0_0 l0_0.length c0_0) := (blk_cell BK233.out 0).trans rfl; have hcz18_1 : wr.cell? ⟨gb233, 1, none⟩ = some (.int .i64 a0_1) := (blk_cell BK233.out 1).trans rfl; have hfz18_0 := blk_frozen BK233.out 0; have hfz18_1 := blk_frozen BK233.out 1
            try go_wp2
            have n0_ := kp (blk_drew BK233.out); have n1_ := kp (below_drew1 HB.out); clear BK233; clear HB; have BK233 := n0_; have HB := n1_; clear n0_ n1_; have p236 : 0 ≤ (x3_1 : Int) := dt; have q236 : x3_1 < (l0_0.length : Int) := dt; obtain ⟨ad236, A236_1, c236_1, e236, hx236_0, hx236_1, hx236_2, hx236_3, hl236_1, hi236_1⟩ := at_T80 HR0_0.out x3_1 p236 q236; have hw236_3 := hx236_3; have hw236_2 := hx236_2; have hw236_1 := hx236_1; have hw236_0 := hx236_0; (try rw [← Nbq16.out] at hx236_3); (try rw [← Nbq16.out] at hw236_3); cases e236; replace hx236_0 := kc HB.out hx236_0; replace hx236_1 := kc HB.out hx236_1; replace hx236_2 := kc HB.out hx236_2; replace hx236_3 := kc HB.out hx236_3; have HR236_1 := kp hi236_1; have HC236_1 := kp hl236_1; clear hi236_1 hl236_1; replace p236 := eq_true p236; replace q236 := eq_true q236; have p238 : 0 ≤ (x3_1 : Int) := dt; have q238 : x3_1 < (l0_0.length : Int) := dt; obtain ⟨ad238, A238_1, c238_1, e238, hx238_0, hx238_1, hx238_2, hx238_3, hl238_1, hi238_1⟩ := at_T80 HR0_0.out x3_1 p238 q238; have hw238_3 := hx238_3; have hw238_2 := hx238_2; have hw238_1 := hx238_1; have hw238_0 := hx238_0; (try rw [← Nbq16.out] at hx238_3); (try rw [← Nbq16.out] at hw238_3); obtain rfl : ad236 = ad238 := (by injection e238); replace hx238_0 := kc HB.out hx238_0; replace hx238_1 := kc HB.out hx238_1; replace hx238_2 := kc HB.out hx238_2; replace hx238_3 := kc HB.out hx238_3; have HR238_1 := kp hi238_1; have HC238_1 := kp hl238_1
            clear hi238_1 hl238_1; replace p238 := eq_true p238; replace q238 := eq_true q238; have ea_ := Option.some.inj (hx236_1.symm.trans hx238_1)
            injection ea_ with ea_ en_ ec_
            subst ea_; subst ec_; clear en_; have p239 : 0 ≤ ((ji8) : Int) := dt; have q239 : (ji8) < (l0_0.length : Int) := dt; obtain ⟨ad239, A239_1, c239_1, e239, hx239_0, hx239_1, hx239_2, hx239_3, hl239_1, hi239_1⟩ := at_T80 HR0_0.out (ji8) p239 q239; have hw239_3 := hx239_3; have hw239_2 := hx239_2; have hw239_1 := hx239_1; have hw239_0 := hx239_0; (try rw [← Nbq16.out] at hx239_3); (try rw [← Nbq16.out] at hw239_3); obtain rfl : ad236 = ad239 := (by injection e239); replace hx239_0 := kc HB.out hx239_0; replace hx239_1 := kc HB.out hx239_1; replace hx239_2 := kc HB.out hx239_2; replace hx239_3 := kc HB.out hx239_3; have HR239_1 := kp hi239_1; have HC239_1 := kp hl239_1; clear hi239_1 hl239_1; replace p239 := eq_true p239; replace q239 := eq_true q239; have p240 : 0 ≤ (x3_1 : Int) := dt; have q240 : x3_1 < (l0_0.length : Int) := dt; obtain ⟨ad240, A240_1, c240_1, e240, hx240_0, hx240_1, hx240_2, hx240_3, hl240_1, hi240_1⟩ := at_T80 HR0_0.out x3_1 p240 q240; have hw240_3 := hx240_3; have hw240_2 := hx240_2; have hw240_1 := hx240_1; have hw240_0 := hx240_0; (try rw [← Nbq16.out] at hx240_3); (try rw [← Nbq16.out] at hw240_3); obtain rfl : ad236 = ad240 := (by injection e240); replace hx240_0 := kc HB.out hx240_0; replace hx240_1 := kc HB.out hx240_1; replace hx240_2 := kc HB.out hx240_2; replace hx240_3 := kc HB.out hx240_3; have HR240_1 := kp hi240_1; have HC240_1 := kp hl240_1; clear hi240_1 hl240_1; replace p240 := eq_true p240; replace q240 := eq_true q240
            have ea_ := Option.some.inj (hx236_1.symm.trans hx240_1)
            injection ea_ with ea_ en_ ec_
            subst ea_; subst ec_; clear en_; have p242 : 0 ≤ (x3_1 : Int) := dt; have q242 : x3_1 < (l0_0.length : Int) := dt; obtain ⟨ad242, A242_1, c242_1, e242, hx242_0, hx242_1, hx242_2, hx242_3, hl242_1, hi242_1⟩ := at_T80 HR0_0.out x3_1 p242 q242; have hw242_3 := hx242_3; have hw242_2 := hx242_2; have hw242_1 := hx242_1; have hw242_0 := hx242_0; (try rw [← Nbq16.out] at hx242_3); (try rw [← Nbq16.out] at hw242_3); obtain rfl : ad236 = ad242 := (by injection e242); replace hx242_0 := kc HB.out hx242_0; replace hx242_1 := kc HB.out hx242_1; replace hx242_2 := kc HB.out hx242_2; replace hx242_3 := kc HB.out hx242_3; have HR242_1 := kp hi242_1; have HC242_1 := kp hl242_1; clear hi242_1 hl242_1; replace p242 := eq_true p242; replace q242 := eq_true q242
            refine start_ (n := 59) (S := fun w' => w'.cell? ⟨gb233, 0, none⟩ = some (.slice (some ad236) l0_0.length c0_0) ∧ w'.cell? ⟨gb233, 1, none⟩ = some (.int .i64 a0_1) ∧ w'.cell? (ad236.add ((x3_1).toNat * 4)) = some (.int .i64 ((rd_T80 l0_0 x3_1).f0)) ∧ w'.cell? ⟨(ad236.add ((x3_1).toNat * 4)).block, (ad236.add ((x3_1).toNat * 4)).off + 1, none⟩ = some (.slice A236_1 ((rd_T80 l0_0 x3_1).f1).length c236_1) ∧ w'.cell? ⟨(ad236.add ((x3_1).toNat * 4)).block, (ad236.add ((x3_1).toNat * 4)).off + 2, none⟩ = some (.int .i64 ((rd_T80 l0_0 x3_1).f2)) ∧ w'.cell? ⟨(ad236.add ((x3_1).toNat * 4)).block, (ad236.add ((x3_1).toNat * 4)).off + 3, none⟩ = some (.bool true) ∧ w'.cell? (ad236.add (((ji8)).toNat * 4)) = some (.int .i64 ((rd_T80 l0_0 (ji8)).f0)) ∧ w'.cell? ⟨(ad236.add (((ji8)).toNat * 4)).block, (ad236.add (((ji8)).toNat * 4)).off + 1, none⟩ = some (.slice A239_1 ((rd_T80 l0_0 (ji8)).f1).length c239_1) ∧ w'.cell? ⟨(ad236.add (((ji8)).toNat * 4)).block, (ad236.add (((ji8)).toNat * 4)).off + 2, none⟩ = some (.int .i64 ((rd_T80 l0_0 (ji8)).f2)) ∧ w'.cell? ⟨(ad236.add (((ji8)).toNat * 4)).block, (ad236.add (((ji8)).toNat * 4)).off + 3, none⟩ = some (.bool ((rd_T80 l0_0 (ji8)).f3)) ∧ w'.cell? ⟨(ad236.add ((x3_1).toNat * 4)).block, (ad236.add ((x3_1).toNat * 4)).off + 1, none⟩ = some (.slice A242_1 ((rd_T80 l0_0 x3_1).f1).length c242_1)) (ds := []) #[false, false, false, false, false, false, false, false, false, false, false, false, false, false, false, false, false, false, false, false, false, false, false, false, false, false, false, false, false, false, false, false, false, false, false, false, false, false, false, false, false, false, false, false, false, false, false, false, false, false, false, false, false, false, false, false, false, false, false] (by kernel_rfl) rfl rfl ⟨(blk_cell BK233.out 0).trans rfl, (blk_cell BK233.out 1).trans rfl, (kc HB.out hw236_0), (kc HB.out hw236_1), (kc HB.out hw236_2), (kc HB.out hw236_3), (kc HB.out hw239_0), (kc HB.out hw239_1), (kc HB.out hw239_2), (kc HB.out hw239_3), (kc HB.out hw242_1)⟩ (fun hHeld => ?_); refine with_tabW spec_IsValidDisk.tab4 spec_IsValidDisk.bits4 (fun HT_ HW_ => ?_)
            generalize wr.drew = w19 at BK233 HB HR236_1 HR238_1 HR239_1 HR240_1 HR242_1 hx236_0 hx236_1 hx236_2 hx236_3 hx238_0 hx238_1 hx238_2 hx238_3 hx239_0 hx239_1 hx239_2 hx239_3 hx240_0 hx240_1 hx240_2 hx240_3 hx242_0 hx242_1 hx242_2 hx242_3 hHeld ⊢
            refine pq 0 11 HT_ ?_
            refine pq 2 13 HT_ ?_
            refine pq 6 17 HT_ ?_
            refine tq 1 12 HT_ HW_ hHeld ?_
            refine pq 3 14 HT_ ?_
            refine pq 4 15 HT_ ?_
            refine tq 5 16 HT_ HW_ hHeld ?_
            refine tq 7 18 HT_ HW_ hHeld ?_
            refine pq 8 19 HT_ ?_
            refine on_ 9 (some 20) HT_ (fun K hK => ?_); refine gs_ Try.func88 #[.int .i64 ((rd_T80 l0_0 x3_1).f0), .int .i64 0, .int .i64 (wrap64 (a0_1 - 1))] ?_; with_reducible refine (spec_l1In.calls ((rd_T80 l0_0 x3_1).f0) 0 (wrap64 (a0_1 - 1)) true _ A5.out).mono ?_
            rintro e w' ⟨rfl, ⟨nd, rfl⟩⟩; refine ⟨_, rfl, ?_⟩; refine hK.out _ _ ⟨(blk_cell BK233.out 0).trans rfl, (blk_cell BK233.out 1).trans rfl, (kc HB.out hw236_0), (kc HB.out hw236_1), (kc HB.out hw236_2), (kc HB.out hw236_3), (kc HB.out hw239_0), (kc HB.out hw239_1), (kc HB.out hw239_2), (kc HB.out hw239_3), (kc HB.out hw242_1)⟩ (fun hHeld => ?_); clear hK K; refine nm_ (some 20) ?_
            refine pq 10 21 HT_ ?_
            refine pq 11 22 HT_ ?_
            refine pq 12 23 HT_ ?_
            refine pq 13 24 HT_ ?_
            refine pq 14 25 HT_ ?_
            refine pq 15 26 HT_ ?_
            refine pq 17 28 HT_ ?_
            refine pq 21 32 HT_ ?_
            refine pq 23 34 HT_ ?_
            refine pq 24 35 HT_ ?_
            refine tq 16 27 HT_ HW_ hHeld ?_
            refine pq 18 29 HT_ ?_
            refine pq 19 30 HT_ ?_
            refine tq 20 31 HT_ HW_ hHeld ?_
            refine tq 22 33 HT_ HW_ hHeld ?_
            refine pq 25 36 HT_ ?_
            refine pq 26 37 HT_ ?_
            refine tq 27 38 HT_ HW_ hHeld ?_
            refine pq 28 39 HT_ ?_
            refine pq 29 40 HT_ ?_
            refine pq 30 41 HT_ ?_
            refine pq 31 42 HT_ ?_
            refine pq 32 43 HT_ ?_
            refine pq 34 45 HT_ ?_
            refine tq 33 44 HT_ HW_ hHeld ?_
            refine pq 35 46 HT_ ?_
            refine pq 36 47 HT_ ?_
            refine tq 37 48 HT_ HW_ hHeld ?_
            refine on_ 38 (some 49) HT_ (fun K hK => ?_); refine gs_ Try.func85 #[.slice A236_1 ((rd_T80 l0_0 x3_1).f1).length c236_1] ?_; with_reducible refine (spec_l4Pages.calls k1 _ _ ((rd_T80 l0_0 x3_1).f1) true _ ?side1 ?side2 A14.out).mono ?_
            (case side1 => repeat (first | exact (Kd.C_below HR240_1.out bb) | (with_reducible refine Kd.C_alloc ?_ _) | (with_reducible refine Kd.C_drewN ?_ _) | (with_reducible refine Kd.C_drew ?_))); (case side2 => exact HC240_1.out); rintro e w20 ⟨rfl, hb⟩; refine ⟨_, rfl, ?_⟩; have n0_ := kp (kb BK233.out hb); have n1_ := kp (below_step bb hb); clear BK233; clear HB; have BK233 := n0_; have HB := n1_; clear n0_ n1_; (try clear hb); (try clear hk); refine hK.out _ _ ⟨(blk_cell BK233.out 0).trans rfl, (blk_cell BK233.out 1).trans rfl, (kc HB.out hw236_0), (kc HB.out hw236_1), (kc HB.out hw236_2), (kc HB.out hw236_3), (kc HB.out hw239_0), (kc HB.out hw239_1), (kc HB.out hw239_2), (kc HB.out hw239_3), (kc HB.out hw242_1)⟩ (fun hHeld => ?_); clear hK K; refine nm_ (some 49) ?_
            refine pq 39 50 HT_ ?_
            refine pq 40 51 HT_ ?_
            refine pq 41 52 HT_ ?_
            refine pq 42 53 HT_ ?_
            refine pq 44 55 HT_ ?_
            refine tq 43 54 HT_ HW_ hHeld ?_
            refine pq 45 56 HT_ ?_
            refine pq 46 57 HT_ ?_
            refine tq 47 58 HT_ HW_ hHeld ?_
            refine pq 48 59 HT_ ?_
            refine pq 49 60 HT_ ?_
            refine uq 50 61 HT_ ?_
            refine uq 51 62 HT_ ?_
            refine uq 52 63 HT_ ?_
            refine uq 53 64 HT_ ?_
            refine uq 54 65 HT_ ?_
            refine uq 55 66 HT_ ?_
            refine uq 56 67 HT_ ?_
            refine pq 57 68 HT_ ?_
            refine pq 58 69 HT_ ?_
            refine done_ (done_of HT_.out (by kernel_rfl)) ?_
            try go_wp2
            go_roundg k1
            case measure => have := HK1.out; omega
            case rel => exact ⟨(wrap64 (x3_1 + 1)), (by first | rfl | (simp; done) | (simp [*]; done)), H', ⟨by have := HK1.out; omega⟩, ⟨by (with_reducible repeat (first | apply bN | apply bD | apply bA)); exact BK233.out⟩, ⟨bb⟩⟩
           ·replace c17 := Bool.eq_false_iff.mpr c17; subst c17; have H1 : (if ((rd_T80 l0_0 x3_1).f2) = 0 then (spec_IsValidDisk.l0 k1 (wrap64 (x3_1 + 1)) l0_0 a0_1) else (some false)) = some r := by rw [if_neg (show ¬ (false = true) by decide)] at H; exact H
            clear H; have H := H1; clear H1
            by_cases c21 : ((rd_T80 l0_0 x3_1).f2) = 0
            ·rw [if_pos c21] at H; have c21b0 : (((rd_T80 l0_0 x3_1).f2) == 0) = true := beq_iff_eq.mpr c21; have c21b1 : (((rd_T80 l0_0 x3_1).f2) != 0) = false := bne_eq_false_iff_eq.mpr c21; clear c21; have H' := kp H; clear H; have hcz22_0 : wr.cell? ⟨gb233, 0, none⟩ = some (.slice A0_0 l0_0.length c0_0) := (blk_cell BK233.out 0).trans rfl; have hcz22_1 : wr.cell? ⟨gb233, 1, none⟩ = some (.int .i64 a0_1) := (blk_cell BK233.out 1).trans rfl; have hfz22_0 := blk_frozen BK233.out 0; have hfz22_1 := blk_frozen BK233.out 1
             try go_wp2
             have n0_ := kp (blk_drew BK233.out); have n1_ := kp (below_drew1 HB.out); clear BK233; clear HB; have BK233 := n0_; have HB := n1_; clear n0_ n1_; have p236 : 0 ≤ (x3_1 : Int) := dt; have q236 : x3_1 < (l0_0.length : Int) := dt; obtain ⟨ad236, A236_1, c236_1, e236, hx236_0, hx236_1, hx236_2, hx236_3, hl236_1, hi236_1⟩ := at_T80 HR0_0.out x3_1 p236 q236; have hw236_3 := hx236_3; have hw236_2 := hx236_2; have hw236_1 := hx236_1; have hw236_0 := hx236_0; (try rw [← Nbq16.out] at hx236_3); (try rw [← Nbq16.out] at hw236_3); cases e236; replace hx236_0 := kc HB.out hx236_0; replace hx236_1 := kc HB.out hx236_1; replace hx236_2 := kc HB.out hx236_2; replace hx236_3 := kc HB.out hx236_3; have HR236_1 := kp hi236_1; have HC236_1 := kp hl236_1; clear hi236_1 hl236_1; replace p236 := eq_true p236; replace q236 := eq_true q236; have p238 : 0 ≤ (x3_1 : Int) := dt; have q238 : x3_1 < (l0_0.length : Int) := dt; obtain ⟨ad238, A238_1, c238_1, e238, hx238_0, hx238_1, hx238_2, hx238_3, hl238_1, hi238_1⟩ := at_T80 HR0_0.out x3_1 p238 q238; have hw238_3 := hx238_3; have hw238_2 := hx238_2; have hw238_1 := hx238_1; have hw238_0 := hx238_0; (try rw [← Nbq16.out] at hx238_3); (try rw [← Nbq16.out] at hw238_3); obtain rfl : ad236 = ad238 := (by injection e238); replace hx238_0 := kc HB.out hx238_0; replace hx238_1 := kc HB.out hx238_1; replace hx238_2 := kc HB.out hx238_2; replace hx238_3 := kc HB.out hx238_3; have HR238_1 := kp hi238_1; have HC238_1 := kp hl238_1
             clear hi238_1 hl238_1; replace p238 := eq_true p238; replace q238 := eq_true q238; have ea_ := Option.some.inj (hx236_1.symm.trans hx238_1)
             injection ea_ with ea_ en_ ec_
             subst ea_; subst ec_; clear en_; have p239 : 0 ≤ ((ji8) : Int) := dt; have q239 : (ji8) < (l0_0.length : Int) := dt; obtain ⟨ad239, A239_1, c239_1, e239, hx239_0, hx239_1, hx239_2, hx239_3, hl239_1, hi239_1⟩ := at_T80 HR0_0.out (ji8) p239 q239; have hw239_3 := hx239_3; have hw239_2 := hx239_2; have hw239_1 := hx239_1; have hw239_0 := hx239_0; (try rw [← Nbq16.out] at hx239_3); (try rw [← Nbq16.out] at hw239_3); obtain rfl : ad236 = ad239 := (by injection e239); replace hx239_0 := kc HB.out hx239_0; replace hx239_1 := kc HB.out hx239_1; replace hx239_2 := kc HB.out hx239_2; replace hx239_3 := kc HB.out hx239_3; have HR239_1 := kp hi239_1; have HC239_1 := kp hl239_1; clear hi239_1 hl239_1; replace p239 := eq_true p239; replace q239 := eq_true q239; have p240 : 0 ≤ (x3_1 : Int) := dt; have q240 : x3_1 < (l0_0.length : Int) := dt; obtain ⟨ad240, A240_1, c240_1, e240, hx240_0, hx240_1, hx240_2, hx240_3, hl240_1, hi240_1⟩ := at_T80 HR0_0.out x3_1 p240 q240; have hw240_3 := hx240_3; have hw240_2 := hx240_2; have hw240_1 := hx240_1; have hw240_0 := hx240_0; (try rw [← Nbq16.out] at hx240_3); (try rw [← Nbq16.out] at hw240_3); obtain rfl : ad236 = ad240 := (by injection e240); replace hx240_0 := kc HB.out hx240_0; replace hx240_1 := kc HB.out hx240_1; replace hx240_2 := kc HB.out hx240_2; replace hx240_3 := kc HB.out hx240_3; have HR240_1 := kp hi240_1; have HC240_1 := kp hl240_1; clear hi240_1 hl240_1; replace p240 := eq_true p240
             replace q240 := eq_true q240; have ea_ := Option.some.inj (hx236_1.symm.trans hx240_1)
             injection ea_ with ea_ en_ ec_
             subst ea_; subst ec_; clear en_; have p242 : 0 ≤ (x3_1 : Int) := dt; have q242 : x3_1 < (l0_0.length : Int) := dt; obtain ⟨ad242, A242_1, c242_1, e242, hx242_0, hx242_1, hx242_2, hx242_3, hl242_1, hi242_1⟩ := at_T80 HR0_0.out x3_1 p242 q242; have hw242_3 := hx242_3; have hw242_2 := hx242_2; have hw242_1 := hx242_1; have hw242_0 := hx242_0; (try rw [← Nbq16.out] at hx242_3); (try rw [← Nbq16.out] at hw242_3); obtain rfl : ad236 = ad242 := (by injection e242); replace hx242_0 := kc HB.out hx242_0; replace hx242_1 := kc HB.out hx242_1; replace hx242_2 := kc HB.out hx242_2; replace hx242_3 := kc HB.out hx242_3; have HR242_1 := kp hi242_1; have HC242_1 := kp hl242_1; clear hi242_1 hl242_1; replace p242 := eq_true p242; replace q242 := eq_true q242; have p243 : 0 ≤ (x3_1 : Int) := dt; have q243 : x3_1 < (l0_0.length : Int) := dt; obtain ⟨ad243, A243_1, c243_1, e243, hx243_0, hx243_1, hx243_2, hx243_3, hl243_1, hi243_1⟩ := at_T80 HR0_0.out x3_1 p243 q243; have hw243_3 := hx243_3; have hw243_2 := hx243_2; have hw243_1 := hx243_1; have hw243_0 := hx243_0; (try rw [← Nbq16.out] at hx243_3); (try rw [← Nbq16.out] at hw243_3); obtain rfl : ad236 = ad243 := (by injection e243); replace hx243_0 := kc HB.out hx243_0; replace hx243_1 := kc HB.out hx243_1; replace hx243_2 := kc HB.out hx243_2; replace hx243_3 := kc HB.out hx243_3; have HR243_1 := kp hi243_1; have HC243_1 := kp hl243_1; clear hi243_1 hl243_1; replace p243 := eq_true p243; replace q243 := eq_true q243
             have ea_ := Option.some.inj (hx242_1.symm.trans hx243_1)
             injection ea_ with ea_ en_ ec_
             subst ea_; subst ec_; clear en_
             refine start_ (n := 59) (S := fun w' => w'.cell? ⟨gb233, 0, none⟩ = some (.slice (some ad236) l0_0.length c0_0) ∧ w'.cell? ⟨gb233, 1, none⟩ = some (.int .i64 a0_1) ∧ w'.cell? (ad236.add ((x3_1).toNat * 4)) = some (.int .i64 ((rd_T80 l0_0 x3_1).f0)) ∧ w'.cell? ⟨(ad236.add ((x3_1).toNat * 4)).block, (ad236.add ((x3_1).toNat * 4)).off + 1, none⟩ = some (.slice A236_1 ((rd_T80 l0_0 x3_1).f1).length c236_1) ∧ w'.cell? ⟨(ad236.add ((x3_1).toNat * 4)).block, (ad236.add ((x3_1).toNat * 4)).off + 2, none⟩ = some (.int .i64 ((rd_T80 l0_0 x3_1).f2)) ∧ w'.cell? ⟨(ad236.add ((x3_1).toNat * 4)).block, (ad236.add ((x3_1).toNat * 4)).off + 3, none⟩ = some (.bool false) ∧ w'.cell? (ad236.add (((ji8)).toNat * 4)) = some (.int .i64 ((rd_T80 l0_0 (ji8)).f0)) ∧ w'.cell? ⟨(ad236.add (((ji8)).toNat * 4)).block, (ad236.add (((ji8)).toNat * 4)).off + 1, none⟩ = some (.slice A239_1 ((rd_T80 l0_0 (ji8)).f1).length c239_1) ∧ w'.cell? ⟨(ad236.add (((ji8)).toNat * 4)).block, (ad236.add (((ji8)).toNat * 4)).off + 2, none⟩ = some (.int .i64 ((rd_T80 l0_0 (ji8)).f2)) ∧ w'.cell? ⟨(ad236.add (((ji8)).toNat * 4)).block, (ad236.add (((ji8)).toNat * 4)).off + 3, none⟩ = some (.bool ((rd_T80 l0_0 (ji8)).f3)) ∧ w'.cell? ⟨(ad236.add ((x3_1).toNat * 4)).block, (ad236.add ((x3_1).toNat * 4)).off + 1, none⟩ = some (.slice A242_1 ((rd_T80 l0_0 x3_1).f1).length c242_1) ∧ w'.cell? ⟨(ad236.add ((x3_1).toNat * 4)).block, (ad236.add ((x3_1).toNat * 4)).off + 3, none⟩ = some (.bool (false))) (ds := []) #[false, false, false, false, false, false, false, false, false, false, false, false, false, false, false, false, false, false, false, false, false, false, false, false, false, false, false, false, false, false, false, false, false, false, false, false, false, false, false, false, false, false, false, false, false, false, false, false, false, false, false, false, false, false, false, false, false, false, false] (by kernel_rfl) rfl rfl ⟨(blk_cell BK233.out 0).trans rfl, (blk_cell BK233.out 1).trans rfl, (kc HB.out hw236_0), (kc HB.out hw236_1), (kc HB.out hw236_2), (kc HB.out hw236_3), (kc HB.out hw239_0), (kc HB.out hw239_1), (kc HB.out hw239_2), (kc HB.out hw239_3), (kc HB.out hw242_1), (kc HB.out hw243_3)⟩ (fun hHeld => ?_); refine with_tabW spec_IsValidDisk.tab4 spec_IsValidDisk.bits4 (fun HT_ HW_ => ?_)
             generalize wr.drew = w23 at BK233 HB HR236_1 HR238_1 HR239_1 HR240_1 HR242_1 HR243_1 hx236_0 hx236_1 hx236_2 hx236_3 hx238_0 hx238_1 hx238_2 hx238_3 hx239_0 hx239_1 hx239_2 hx239_3 hx240_0 hx240_1 hx240_2 hx240_3 hx242_0 hx242_1 hx242_2 hx242_3 hx243_0 hx243_1 hx243_2 hx243_3 hHeld ⊢
             refine pq 0 11 HT_ ?_
             refine pq 2 13 HT_ ?_
             refine pq 6 17 HT_ ?_
             refine tq 1 12 HT_ HW_ hHeld ?_
             refine pq 3 14 HT_ ?_
             refine pq 4 15 HT_ ?_
             refine tq 5 16 HT_ HW_ hHeld ?_
             refine tq 7 18 HT_ HW_ hHeld ?_
             refine pq 8 19 HT_ ?_
             refine on_ 9 (some 20) HT_ (fun K hK => ?_); refine gs_ Try.func88 #[.int .i64 ((rd_T80 l0_0 x3_1).f0), .int .i64 0, .int .i64 (wrap64 (a0_1 - 1))] ?_; with_reducible refine (spec_l1In.calls ((rd_T80 l0_0 x3_1).f0) 0 (wrap64 (a0_1 - 1)) true _ A5.out).mono ?_
             rintro e w' ⟨rfl, ⟨nd, rfl⟩⟩; refine ⟨_, rfl, ?_⟩; refine hK.out _ _ ⟨(blk_cell BK233.out 0).trans rfl, (blk_cell BK233.out 1).trans rfl, (kc HB.out hw236_0), (kc HB.out hw236_1), (kc HB.out hw236_2), (kc HB.out hw236_3), (kc HB.out hw239_0), (kc HB.out hw239_1), (kc HB.out hw239_2), (kc HB.out hw239_3), (kc HB.out hw242_1), (kc HB.out hw243_3)⟩ (fun hHeld => ?_); clear hK K; refine nm_ (some 20) ?_
             refine pq 10 21 HT_ ?_
             refine pq 11 22 HT_ ?_
             refine pq 12 23 HT_ ?_
             refine pq 13 24 HT_ ?_
             refine pq 14 25 HT_ ?_
             refine pq 15 26 HT_ ?_
             refine pq 17 28 HT_ ?_
             refine pq 21 32 HT_ ?_
             refine pq 23 34 HT_ ?_
             refine pq 24 35 HT_ ?_
             refine tq 16 27 HT_ HW_ hHeld ?_
             refine pq 18 29 HT_ ?_
             refine pq 19 30 HT_ ?_
             refine tq 20 31 HT_ HW_ hHeld ?_
             refine tq 22 33 HT_ HW_ hHeld ?_
             refine pq 25 36 HT_ ?_
             refine pq 26 37 HT_ ?_
             refine tq 27 38 HT_ HW_ hHeld ?_
             refine pq 28 39 HT_ ?_
             refine pq 29 40 HT_ ?_
             refine pq 30 41 HT_ ?_
             refine pq 31 42 HT_ ?_
             refine pq 32 43 HT_ ?_
             refine pq 34 45 HT_ ?_
             refine tq 33 44 HT_ HW_ hHeld ?_
             refine pq 35 46 HT_ ?_
             refine pq 36 47 HT_ ?_
             refine tq 37 48 HT_ HW_ hHeld ?_
             refine on_ 38 (some 49) HT_ (fun K hK => ?_); refine gs_ Try.func85 #[.slice A236_1 ((rd_T80 l0_0 x3_1).f1).length c236_1] ?_; with_reducible refine (spec_l4Pages.calls k1 _ _ ((rd_T80 l0_0 x3_1).f1) true _ ?side1 ?side2 A14.out).mono ?_
             (case side1 => repeat (first | exact (Kd.C_below HR240_1.out bb) | (with_reducible refine Kd.C_alloc ?_ _) | (with_reducible refine Kd.C_drewN ?_ _) | (with_reducible refine Kd.C_drew ?_))); (case side2 => exact HC240_1.out); rintro e w24 ⟨rfl, hb⟩; refine ⟨_, rfl, ?_⟩; have n0_ := kp (kb BK233.out hb); have n1_ := kp (below_step bb hb); clear BK233; clear HB; have BK233 := n0_; have HB := n1_; clear n0_ n1_; (try clear hb); (try clear hk); refine hK.out _ _ ⟨(blk_cell BK233.out 0).trans rfl, (blk_cell BK233.out 1).trans rfl, (kc HB.out hw236_0), (kc HB.out hw236_1), (kc HB.out hw236_2), (kc HB.out hw236_3), (kc HB.out hw239_0), (kc HB.out hw239_1), (kc HB.out hw239_2), (kc HB.out hw239_3), (kc HB.out hw242_1), (kc HB.out hw243_3)⟩ (fun hHeld => ?_); clear hK K; refine nm_ (some 49) ?_
             refine pq 39 50 HT_ ?_
             refine pq 40 51 HT_ ?_
             refine pq 41 52 HT_ ?_
             refine pq 42 53 HT_ ?_
             refine pq 44 55 HT_ ?_
             refine tq 43 54 HT_ HW_ hHeld ?_
             refine pq 45 56 HT_ ?_
             refine pq 46 57 HT_ ?_
             refine tq 47 58 HT_ HW_ hHeld ?_
             refine pq 48 59 HT_ ?_
             refine pq 49 60 HT_ ?_
             refine pq 50 61 HT_ ?_
             refine pq 52 63 HT_ ?_
             refine tq 51 62 HT_ HW_ hHeld ?_
             refine pq 53 64 HT_ ?_
             refine pq 54 65 HT_ ?_
             refine tq 55 66 HT_ HW_ hHeld ?_
             refine pq 56 67 HT_ ?_
             refine pq 57 68 HT_ ?_
             refine pq 58 69 HT_ ?_
             refine done_ (done_of HT_.out (by kernel_rfl)) ?_
             try go_wp2
             go_roundg k1
             case measure => have := HK1.out; omega
             case rel => exact ⟨(wrap64 (x3_1 + 1)), (by first | rfl | (simp; done) | (simp [*]; done)), H', ⟨by have := HK1.out; omega⟩, ⟨by (with_reducible repeat (first | apply bN | apply bD | apply bA)); exact BK233.out⟩, ⟨bb⟩⟩
            ·rw [if_neg c21] at H; have c21b0 : (((rd_T80 l0_0 x3_1).f2) == 0) = false := beq_eq_false_iff_ne.mpr c21; have c21b1 : (((rd_T80 l0_0 x3_1).f2) != 0) = true := bne_iff_ne.mpr c21; obtain rfl := Option.some.inj H; have hcz25_0 : wr.cell? ⟨gb233, 0, none⟩ = some (.slice A0_0 l0_0.length c0_0) := (blk_cell BK233.out 0).trans rfl; have hcz25_1 : wr.cell? ⟨gb233, 1, none⟩ = some (.int .i64 a0_1) := (blk_cell BK233.out 1).trans rfl; have hfz25_0 := blk_frozen BK233.out 0; have hfz25_1 := blk_frozen BK233.out 1
             try go_wp2
             have n0_ := kp (blk_drew BK233.out); have n1_ := kp (below_drew1 HB.out); clear BK233; clear HB; have BK233 := n0_; have HB := n1_; clear n0_ n1_; have p236 : 0 ≤ (x3_1 : Int) := dt; have q236 : x3_1 < (l0_0.length : Int) := dt; obtain ⟨ad236, A236_1, c236_1, e236, hx236_0, hx236_1, hx236_2, hx236_3, hl236_1, hi236_1⟩ := at_T80 HR0_0.out x3_1 p236 q236; have hw236_3 := hx236_3; have hw236_2 := hx236_2; have hw236_1 := hx236_1; have hw236_0 := hx236_0; (try rw [← Nbq16.out] at hx236_3); (try rw [← Nbq16.out] at hw236_3); cases e236; replace hx236_0 := kc HB.out hx236_0; replace hx236_1 := kc HB.out hx236_1; replace hx236_2 := kc HB.out hx236_2; replace hx236_3 := kc HB.out hx236_3; have HR236_1 := kp hi236_1; have HC236_1 := kp hl236_1; clear hi236_1 hl236_1; replace p236 := eq_true p236; replace q236 := eq_true q236; have p238 : 0 ≤ (x3_1 : Int) := dt; have q238 : x3_1 < (l0_0.length : Int) := dt; obtain ⟨ad238, A238_1, c238_1, e238, hx238_0, hx238_1, hx238_2, hx238_3, hl238_1, hi238_1⟩ := at_T80 HR0_0.out x3_1 p238 q238; have hw238_3 := hx238_3; have hw238_2 := hx238_2; have hw238_1 := hx238_1; have hw238_0 := hx238_0; (try rw [← Nbq16.out] at hx238_3); (try rw [← Nbq16.out] at hw238_3); obtain rfl : ad236 = ad238 := (by injection e238); replace hx238_0 := kc HB.out hx238_0; replace hx238_1 := kc HB.out hx238_1; replace hx238_2 := kc HB.out hx238_2; replace hx238_3 := kc HB.out hx238_3; have HR238_1 := kp hi238_1; have HC238_1 := kp hl238_1
             clear hi238_1 hl238_1; replace p238 := eq_true p238; replace q238 := eq_true q238; have ea_ := Option.some.inj (hx236_1.symm.trans hx238_1)
             injection ea_ with ea_ en_ ec_
             subst ea_; subst ec_; clear en_; have p239 : 0 ≤ ((ji8) : Int) := dt; have q239 : (ji8) < (l0_0.length : Int) := dt; obtain ⟨ad239, A239_1, c239_1, e239, hx239_0, hx239_1, hx239_2, hx239_3, hl239_1, hi239_1⟩ := at_T80 HR0_0.out (ji8) p239 q239; have hw239_3 := hx239_3; have hw239_2 := hx239_2; have hw239_1 := hx239_1; have hw239_0 := hx239_0; (try rw [← Nbq16.out] at hx239_3); (try rw [← Nbq16.out] at hw239_3); obtain rfl : ad236 = ad239 := (by injection e239); replace hx239_0 := kc HB.out hx239_0; replace hx239_1 := kc HB.out hx239_1; replace hx239_2 := kc HB.out hx239_2; replace hx239_3 := kc HB.out hx239_3; have HR239_1 := kp hi239_1; have HC239_1 := kp hl239_1; clear hi239_1 hl239_1; replace p239 := eq_true p239; replace q239 := eq_true q239; have p240 : 0 ≤ (x3_1 : Int) := dt; have q240 : x3_1 < (l0_0.length : Int) := dt; obtain ⟨ad240, A240_1, c240_1, e240, hx240_0, hx240_1, hx240_2, hx240_3, hl240_1, hi240_1⟩ := at_T80 HR0_0.out x3_1 p240 q240; have hw240_3 := hx240_3; have hw240_2 := hx240_2; have hw240_1 := hx240_1; have hw240_0 := hx240_0; (try rw [← Nbq16.out] at hx240_3); (try rw [← Nbq16.out] at hw240_3); obtain rfl : ad236 = ad240 := (by injection e240); replace hx240_0 := kc HB.out hx240_0; replace hx240_1 := kc HB.out hx240_1; replace hx240_2 := kc HB.out hx240_2; replace hx240_3 := kc HB.out hx240_3; have HR240_1 := kp hi240_1; have HC240_1 := kp hl240_1; clear hi240_1 hl240_1; replace p240 := eq_true p240
             replace q240 := eq_true q240; have ea_ := Option.some.inj (hx236_1.symm.trans hx240_1)
             injection ea_ with ea_ en_ ec_
             subst ea_; subst ec_; clear en_; have p242 : 0 ≤ (x3_1 : Int) := dt; have q242 : x3_1 < (l0_0.length : Int) := dt; obtain ⟨ad242, A242_1, c242_1, e242, hx242_0, hx242_1, hx242_2, hx242_3, hl242_1, hi242_1⟩ := at_T80 HR0_0.out x3_1 p242 q242; have hw242_3 := hx242_3; have hw242_2 := hx242_2; have hw242_1 := hx242_1; have hw242_0 := hx242_0; (try rw [← Nbq16.out] at hx242_3); (try rw [← Nbq16.out] at hw242_3); obtain rfl : ad236 = ad242 := (by injection e242); replace hx242_0 := kc HB.out hx242_0; replace hx242_1 := kc HB.out hx242_1; replace hx242_2 := kc HB.out hx242_2; replace hx242_3 := kc HB.out hx242_3; have HR242_1 := kp hi242_1; have HC242_1 := kp hl242_1; clear hi242_1 hl242_1; replace p242 := eq_true p242; replace q242 := eq_true q242; have p243 : 0 ≤ (x3_1 : Int) := dt; have q243 : x3_1 < (l0_0.length : Int) := dt; obtain ⟨ad243, A243_1, c243_1, e243, hx243_0, hx243_1, hx243_2, hx243_3, hl243_1, hi243_1⟩ := at_T80 HR0_0.out x3_1 p243 q243; have hw243_3 := hx243_3; have hw243_2 := hx243_2; have hw243_1 := hx243_1; have hw243_0 := hx243_0; (try rw [← Nbq16.out] at hx243_3); (try rw [← Nbq16.out] at hw243_3); obtain rfl : ad236 = ad243 := (by injection e243); replace hx243_0 := kc HB.out hx243_0; replace hx243_1 := kc HB.out hx243_1; replace hx243_2 := kc HB.out hx243_2; replace hx243_3 := kc HB.out hx243_3; have HR243_1 := kp hi243_1; have HC243_1 := kp hl243_1; clear hi243_1 hl243_1; replace p243 := eq_true p243; replace q243 := eq_true q243
             have ea_ := Option.some.inj (hx242_1.symm.trans hx243_1)
             injection ea_ with ea_ en_ ec_
             subst ea_; subst ec_; clear en_
             refine start_ (n := 59) (S := fun w' => w'.cell? ⟨gb233, 0, none⟩ = some (.slice (some ad236) l0_0.length c0_0) ∧ w'.cell? ⟨gb233, 1, none⟩ = some (.int .i64 a0_1) ∧ w'.cell? (ad236.add ((x3_1).toNat * 4)) = some (.int .i64 ((rd_T80 l0_0 x3_1).f0)) ∧ w'.cell? ⟨(ad236.add ((x3_1).toNat * 4)).block, (ad236.add ((x3_1).toNat * 4)).off + 1, none⟩ = some (.slice A236_1 ((rd_T80 l0_0 x3_1).f1).length c236_1) ∧ w'.cell? ⟨(ad236.add ((x3_1).toNat * 4)).block, (ad236.add ((x3_1).toNat * 4)).off + 2, none⟩ = some (.int .i64 ((rd_T80 l0_0 x3_1).f2)) ∧ w'.cell? ⟨(ad236.add ((x3_1).toNat * 4)).block, (ad236.add ((x3_1).toNat * 4)).off + 3, none⟩ = some (.bool false) ∧ w'.cell? (ad236.add (((ji8)).toNat * 4)) = some (.int .i64 ((rd_T80 l0_0 (ji8)).f0)) ∧ w'.cell? ⟨(ad236.add (((ji8)).toNat * 4)).block, (ad236.add (((ji8)).toNat * 4)).off + 1, none⟩ = some (.slice A239_1 ((rd_T80 l0_0 (ji8)).f1).length c239_1) ∧ w'.cell? ⟨(ad236.add (((ji8)).toNat * 4)).block, (ad236.add (((ji8)).toNat * 4)).off + 2, none⟩ = some (.int .i64 ((rd_T80 l0_0 (ji8)).f2)) ∧ w'.cell? ⟨(ad236.add (((ji8)).toNat * 4)).block, (ad236.add (((ji8)).toNat * 4)).off + 3, none⟩ = some (.bool ((rd_T80 l0_0 (ji8)).f3)) ∧ w'.cell? ⟨(ad236.add ((x3_1).toNat * 4)).block, (ad236.add ((x3_1).toNat * 4)).off + 1, none⟩ = some (.slice A242_1 ((rd_T80 l0_0 x3_1).f1).length c242_1) ∧ w'.cell? ⟨(ad236.add ((x3_1).toNat * 4)).block, (ad236.add ((x3_1).toNat * 4)).off + 3, none⟩ = some (.bool (false))) (ds := []) #[false, false, false, false, false, false, false, false, false, false, false, false, false, false, false, false, false, false, false, false, false, false, false, false, false, false, false, false, false, false, false, false, false, false, false, false, false, false, false, false, false, false, false, false, false, false, false, false, false, false, false, false, false, false, false, false, false, false, false] (by kernel_rfl) rfl rfl ⟨(blk_cell BK233.out 0).trans rfl, (blk_cell BK233.out 1).trans rfl, (kc HB.out hw236_0), (kc HB.out hw236_1), (kc HB.out hw236_2), (kc HB.out hw236_3), (kc HB.out hw239_0), (kc HB.out hw239_1), (kc HB.out hw239_2), (kc HB.out hw239_3), (kc HB.out hw242_1), (kc HB.out hw243_3)⟩ (fun hHeld => ?_); refine with_tabW spec_IsValidDisk.tab4 spec_IsValidDisk.bits4 (fun HT_ HW_ => ?_)
             generalize wr.drew = w26 at BK233 HB HR236_1 HR238_1 HR239_1 HR240_1 HR242_1 HR243_1 hx236_0 hx236_1 hx236_2 hx236_3 hx238_0 hx238_1 hx238_2 hx238_3 hx239_0 hx239_1 hx239_2 hx239_3 hx240_0 hx240_1 hx240_2 hx240_3 hx242_0 hx242_1 hx242_2 hx242_3 hx243_0 hx243_1 hx243_2 hx243_3 hHeld ⊢
             refine pq 0 11 HT_ ?_
             refine pq 2 13 HT_ ?_
             refine pq 6 17 HT_ ?_
             refine tq 1 12 HT_ HW_ hHeld ?_
             refine pq 3 14 HT_ ?_
             refine pq 4 15 HT_ ?_
             refine tq 5 16 HT_ HW_ hHeld ?_
             refine tq 7 18 HT_ HW_ hHeld ?_
             refine pq 8 19 HT_ ?_
             refine on_ 9 (some 20) HT_ (fun K hK => ?_); refine gs_ Try.func88 #[.int .i64 ((rd_T80 l0_0 x3_1).f0), .int .i64 0, .int .i64 (wrap64 (a0_1 - 1))] ?_; with_reducible refine (spec_l1In.calls ((rd_T80 l0_0 x3_1).f0) 0 (wrap64 (a0_1 - 1)) true _ A5.out).mono ?_
             rintro e w' ⟨rfl, ⟨nd, rfl⟩⟩; refine ⟨_, rfl, ?_⟩; refine hK.out _ _ ⟨(blk_cell BK233.out 0).trans rfl, (blk_cell BK233.out 1).trans rfl, (kc HB.out hw236_0), (kc HB.out hw236_1), (kc HB.out hw236_2), (kc HB.out hw236_3), (kc HB.out hw239_0), (kc HB.out hw239_1), (kc HB.out hw239_2), (kc HB.out hw239_3), (kc HB.out hw242_1), (kc HB.out hw243_3)⟩ (fun hHeld => ?_); clear hK K; refine nm_ (some 20) ?_
             refine pq 10 21 HT_ ?_
             refine pq 11 22 HT_ ?_
             refine pq 12 23 HT_ ?_
             refine pq 13 24 HT_ ?_
             refine pq 14 25 HT_ ?_
             refine pq 15 26 HT_ ?_
             refine pq 17 28 HT_ ?_
             refine pq 21 32 HT_ ?_
             refine pq 23 34 HT_ ?_
             refine pq 24 35 HT_ ?_
             refine tq 16 27 HT_ HW_ hHeld ?_
             refine pq 18 29 HT_ ?_
             refine pq 19 30 HT_ ?_
             refine tq 20 31 HT_ HW_ hHeld ?_
             refine tq 22 33 HT_ HW_ hHeld ?_
             refine pq 25 36 HT_ ?_
             refine pq 26 37 HT_ ?_
             refine tq 27 38 HT_ HW_ hHeld ?_
             refine pq 28 39 HT_ ?_
             refine pq 29 40 HT_ ?_
             refine pq 30 41 HT_ ?_
             refine pq 31 42 HT_ ?_
             refine pq 32 43 HT_ ?_
             refine pq 34 45 HT_ ?_
             refine tq 33 44 HT_ HW_ hHeld ?_
             refine pq 35 46 HT_ ?_
             refine pq 36 47 HT_ ?_
             refine tq 37 48 HT_ HW_ hHeld ?_
             refine on_ 38 (some 49) HT_ (fun K hK => ?_); refine gs_ Try.func85 #[.slice A236_1 ((rd_T80 l0_0 x3_1).f1).length c236_1] ?_; with_reducible refine (spec_l4Pages.calls k1 _ _ ((rd_T80 l0_0 x3_1).f1) true _ ?side1 ?side2 A14.out).mono ?_
             (case side1 => repeat (first | exact (Kd.C_below HR240_1.out bb) | (with_reducible refine Kd.C_alloc ?_ _) | (with_reducible refine Kd.C_drewN ?_ _) | (with_reducible refine Kd.C_drew ?_))); (case side2 => exact HC240_1.out); rintro e w27 ⟨rfl, hb⟩; refine ⟨_, rfl, ?_⟩; have n0_ := kp (kb BK233.out hb); have n1_ := kp (below_step bb hb); clear BK233; clear HB; have BK233 := n0_; have HB := n1_; clear n0_ n1_; (try clear hb); (try clear hk); refine hK.out _ _ ⟨(blk_cell BK233.out 0).trans rfl, (blk_cell BK233.out 1).trans rfl, (kc HB.out hw236_0), (kc HB.out hw236_1), (kc HB.out hw236_2), (kc HB.out hw236_3), (kc HB.out hw239_0), (kc HB.out hw239_1), (kc HB.out hw239_2), (kc HB.out hw239_3), (kc HB.out hw242_1), (kc HB.out hw243_3)⟩ (fun hHeld => ?_); clear hK K; refine nm_ (some 49) ?_
             refine pq 39 50 HT_ ?_
             refine pq 40 51 HT_ ?_
             refine pq 41 52 HT_ ?_
             refine pq 42 53 HT_ ?_
             refine pq 44 55 HT_ ?_
             refine tq 43 54 HT_ HW_ hHeld ?_
             refine pq 45 56 HT_ ?_
             refine pq 46 57 HT_ ?_
             refine tq 47 58 HT_ HW_ hHeld ?_
             refine pq 48 59 HT_ ?_
             refine pq 49 60 HT_ ?_
             refine pq 50 61 HT_ ?_
             refine pq 52 63 HT_ ?_
             refine tq 51 62 HT_ HW_ hHeld ?_
             refine pq 53 64 HT_ ?_
             refine pq 54 65 HT_ ?_
             refine tq 55 66 HT_ HW_ hHeld ?_
             refine pq 56 67 HT_ ?_
             refine pq 57 68 HT_ ?_
             refine pq 58 69 HT_ ?_
             refine done_ (done_of HT_.out (by kernel_rfl)) ?_
             try go_wp2
             go_ret; exact ⟨by first | rfl | (simp [errW_none, errW_some] <;> rfl) | (simp only [← hji8]; first | rfl | (simp [errW_none, errW_some] <;> rfl)) | (simp [*, errW_none, errW_some] <;> rfl), bb⟩
          ·replace c15 := Bool.eq_false_iff.mpr c15; subst c15; have H1 : (some false) = some r := by rw [if_neg (show ¬ (false = true) by decide)] at H; exact H
           clear H; have H := H1; clear H1; obtain rfl := Option.some.inj H; have hcz28_0 : wr.cell? ⟨gb233, 0, none⟩ = some (.slice A0_0 l0_0.length c0_0) := (blk_cell BK233.out 0).trans rfl; have hcz28_1 : wr.cell? ⟨gb233, 1, none⟩ = some (.int .i64 a0_1) := (blk_cell BK233.out 1).trans rfl; have hfz28_0 := blk_frozen BK233.out 0; have hfz28_1 := blk_frozen BK233.out 1
           try go_wp2
           have n0_ := kp (blk_drew BK233.out); have n1_ := kp (below_drew1 HB.out); clear BK233; clear HB; have BK233 := n0_; have HB := n1_; clear n0_ n1_; have p236 : 0 ≤ (x3_1 : Int) := dt; have q236 : x3_1 < (l0_0.length : Int) := dt; obtain ⟨ad236, A236_1, c236_1, e236, hx236_0, hx236_1, hx236_2, hx236_3, hl236_1, hi236_1⟩ := at_T80 HR0_0.out x3_1 p236 q236; have hw236_3 := hx236_3; have hw236_2 := hx236_2; have hw236_1 := hx236_1; have hw236_0 := hx236_0; cases e236; replace hx236_0 := kc HB.out hx236_0; replace hx236_1 := kc HB.out hx236_1; replace hx236_2 := kc HB.out hx236_2; replace hx236_3 := kc HB.out hx236_3; have HR236_1 := kp hi236_1; have HC236_1 := kp hl236_1; clear hi236_1 hl236_1; replace p236 := eq_true p236; replace q236 := eq_true q236; have p238 : 0 ≤ (x3_1 : Int) := dt; have q238 : x3_1 < (l0_0.length : Int) := dt; obtain ⟨ad238, A238_1, c238_1, e238, hx238_0, hx238_1, hx238_2, hx238_3, hl238_1, hi238_1⟩ := at_T80 HR0_0.out x3_1 p238 q238; have hw238_3 := hx238_3; have hw238_2 := hx238_2; have hw238_1 := hx238_1; have hw238_0 := hx238_0; obtain rfl : ad236 = ad238 := (by injection e238); replace hx238_0 := kc HB.out hx238_0; replace hx238_1 := kc HB.out hx238_1; replace hx238_2 := kc HB.out hx238_2; replace hx238_3 := kc HB.out hx238_3; have HR238_1 := kp hi238_1; have HC238_1 := kp hl238_1; clear hi238_1 hl238_1; replace p238 := eq_true p238; replace q238 := eq_true q238; have ea_ := Option.some.inj (hx236_1.symm.trans hx238_1)
           injection ea_ with ea_ en_ ec_
           subst ea_; subst ec_; clear en_; have p239 : 0 ≤ ((ji8) : Int) := dt; have q239 : (ji8) < (l0_0.length : Int) := dt; obtain ⟨ad239, A239_1, c239_1, e239, hx239_0, hx239_1, hx239_2, hx239_3, hl239_1, hi239_1⟩ := at_T80 HR0_0.out (ji8) p239 q239; have hw239_3 := hx239_3; have hw239_2 := hx239_2; have hw239_1 := hx239_1; have hw239_0 := hx239_0; obtain rfl : ad236 = ad239 := (by injection e239); replace hx239_0 := kc HB.out hx239_0; replace hx239_1 := kc HB.out hx239_1; replace hx239_2 := kc HB.out hx239_2; replace hx239_3 := kc HB.out hx239_3; have HR239_1 := kp hi239_1; have HC239_1 := kp hl239_1; clear hi239_1 hl239_1; replace p239 := eq_true p239; replace q239 := eq_true q239; have p240 : 0 ≤ (x3_1 : Int) := dt; have q240 : x3_1 < (l0_0.length : Int) := dt; obtain ⟨ad240, A240_1, c240_1, e240, hx240_0, hx240_1, hx240_2, hx240_3, hl240_1, hi240_1⟩ := at_T80 HR0_0.out x3_1 p240 q240; have hw240_3 := hx240_3; have hw240_2 := hx240_2; have hw240_1 := hx240_1; have hw240_0 := hx240_0; obtain rfl : ad236 = ad240 := (by injection e240); replace hx240_0 := kc HB.out hx240_0; replace hx240_1 := kc HB.out hx240_1; replace hx240_2 := kc HB.out hx240_2; replace hx240_3 := kc HB.out hx240_3; have HR240_1 := kp hi240_1; have HC240_1 := kp hl240_1; clear hi240_1 hl240_1; replace p240 := eq_true p240; replace q240 := eq_true q240; have ea_ := Option.some.inj (hx236_1.symm.trans hx240_1)
           injection ea_ with ea_ en_ ec_
           subst ea_; subst ec_; clear en_
           refine start_ (n := 59) (S := fun w' => w'.cell? ⟨gb233, 0, none⟩ = some (.slice (some ad236) l0_0.length c0_0) ∧ w'.cell? ⟨gb233, 1, none⟩ = some (.int .i64 a0_1) ∧ w'.cell? (ad236.add ((x3_1).toNat * 4)) = some (.int .i64 ((rd_T80 l0_0 x3_1).f0)) ∧ w'.cell? ⟨(ad236.add ((x3_1).toNat * 4)).block, (ad236.add ((x3_1).toNat * 4)).off + 1, none⟩ = some (.slice A236_1 ((rd_T80 l0_0 x3_1).f1).length c236_1) ∧ w'.cell? ⟨(ad236.add ((x3_1).toNat * 4)).block, (ad236.add ((x3_1).toNat * 4)).off + 2, none⟩ = some (.int .i64 ((rd_T80 l0_0 x3_1).f2)) ∧ w'.cell? ⟨(ad236.add ((x3_1).toNat * 4)).block, (ad236.add ((x3_1).toNat * 4)).off + 3, none⟩ = some (.bool ((rd_T80 l0_0 x3_1).f3)) ∧ w'.cell? (ad236.add (((ji8)).toNat * 4)) = some (.int .i64 ((rd_T80 l0_0 (ji8)).f0)) ∧ w'.cell? ⟨(ad236.add (((ji8)).toNat * 4)).block, (ad236.add (((ji8)).toNat * 4)).off + 1, none⟩ = some (.slice A239_1 ((rd_T80 l0_0 (ji8)).f1).length c239_1) ∧ w'.cell? ⟨(ad236.add (((ji8)).toNat * 4)).block, (ad236.add (((ji8)).toNat * 4)).off + 2, none⟩ = some (.int .i64 ((rd_T80 l0_0 (ji8)).f2)) ∧ w'.cell? ⟨(ad236.add (((ji8)).toNat * 4)).block, (ad236.add (((ji8)).toNat * 4)).off + 3, none⟩ = some (.bool ((rd_T80 l0_0 (ji8)).f3))) (ds := []) #[false, false, false, false, false, false, false, false, false, false, false, false, false, false, false, false, false, false, false, false, false, false, false, false, false, false, false, false, false, false, false, false, false, false, false, false, false, false, false, false, false, false, false, false, false, false, false, false, false, false, false, false, false, false, false, false, false, false, false] (by kernel_rfl) rfl rfl ⟨(blk_cell BK233.out 0).trans rfl, (blk_cell BK233.out 1).trans rfl, (kc HB.out hw236_0), (kc HB.out hw236_1), (kc HB.out hw236_2), (kc HB.out hw236_3), (kc HB.out hw239_0), (kc HB.out hw239_1), (kc HB.out hw239_2), (kc HB.out hw239_3)⟩ (fun hHeld => ?_); refine with_tabW spec_IsValidDisk.tab4 spec_IsValidDisk.bits4 (fun HT_ HW_ => ?_)
           generalize wr.drew = w29 at BK233 HB HR236_1 HR238_1 HR239_1 HR240_1 hx236_0 hx236_1 hx236_2 hx236_3 hx238_0 hx238_1 hx238_2 hx238_3 hx239_0 hx239_1 hx239_2 hx239_3 hx240_0 hx240_1 hx240_2 hx240_3 hHeld ⊢
           refine pq 0 11 HT_ ?_
           refine pq 2 13 HT_ ?_
           refine pq 6 17 HT_ ?_
           refine tq 1 12 HT_ HW_ hHeld ?_
           refine pq 3 14 HT_ ?_
           refine pq 4 15 HT_ ?_
           refine tq 5 16 HT_ HW_ hHeld ?_
           refine tq 7 18 HT_ HW_ hHeld ?_
           refine pq 8 19 HT_ ?_
           refine on_ 9 (some 20) HT_ (fun K hK => ?_); refine gs_ Try.func88 #[.int .i64 ((rd_T80 l0_0 x3_1).f0), .int .i64 0, .int .i64 (wrap64 (a0_1 - 1))] ?_; with_reducible refine (spec_l1In.calls ((rd_T80 l0_0 x3_1).f0) 0 (wrap64 (a0_1 - 1)) true _ A5.out).mono ?_
           rintro e w' ⟨rfl, ⟨nd, rfl⟩⟩; refine ⟨_, rfl, ?_⟩; refine hK.out _ _ ⟨(blk_cell BK233.out 0).trans rfl, (blk_cell BK233.out 1).trans rfl, (kc HB.out hw236_0), (kc HB.out hw236_1), (kc HB.out hw236_2), (kc HB.out hw236_3), (kc HB.out hw239_0), (kc HB.out hw239_1), (kc HB.out hw239_2), (kc HB.out hw239_3)⟩ (fun hHeld => ?_); clear hK K; refine nm_ (some 20) ?_
           refine pq 10 21 HT_ ?_
           refine pq 11 22 HT_ ?_
           refine pq 12 23 HT_ ?_
           refine pq 13 24 HT_ ?_
           refine pq 14 25 HT_ ?_
           refine pq 15 26 HT_ ?_
           refine pq 17 28 HT_ ?_
           refine pq 21 32 HT_ ?_
           refine pq 23 34 HT_ ?_
           refine pq 24 35 HT_ ?_
           refine tq 16 27 HT_ HW_ hHeld ?_
           refine pq 18 29 HT_ ?_
           refine pq 19 30 HT_ ?_
           refine tq 20 31 HT_ HW_ hHeld ?_
           refine tq 22 33 HT_ HW_ hHeld ?_
           refine pq 25 36 HT_ ?_
           refine pq 26 37 HT_ ?_
           refine tq 27 38 HT_ HW_ hHeld ?_
           refine pq 28 39 HT_ ?_
           refine pq 29 40 HT_ ?_
           refine pq 30 41 HT_ ?_
           refine pq 31 42 HT_ ?_
           refine pq 32 43 HT_ ?_
           refine pq 34 45 HT_ ?_
           refine tq 33 44 HT_ HW_ hHeld ?_
           refine pq 35 46 HT_ ?_
           refine pq 36 47 HT_ ?_
           refine tq 37 48 HT_ HW_ hHeld ?_
           refine on_ 38 (some 49) HT_ (fun K hK => ?_); refine gs_ Try.func85 #[.slice A236_1 ((rd_T80 l0_0 x3_1).f1).length c236_1] ?_; with_reducible refine (spec_l4Pages.calls k1 _ _ ((rd_T80 l0_0 x3_1).f1) false _ ?side1 ?side2 A14.out).mono ?_
           (case side1 => repeat (first | exact (Kd.C_below HR240_1.out bb) | (with_reducible refine Kd.C_alloc ?_ _) | (with_reducible refine Kd.C_drewN ?_ _) | (with_reducible refine Kd.C_drew ?_))); (case side2 => exact HC240_1.out); rintro e w30 ⟨rfl, hb⟩; refine ⟨_, rfl, ?_⟩; have n0_ := kp (kb BK233.out hb); have n1_ := kp (below_step bb hb); clear BK233; clear HB; have BK233 := n0_; have HB := n1_; clear n0_ n1_; (try clear hb); (try clear hk); refine hK.out _ _ ⟨(blk_cell BK233.out 0).trans rfl, (blk_cell BK233.out 1).trans rfl, (kc HB.out hw236_0), (kc HB.out hw236_1), (kc HB.out hw236_2), (kc HB.out hw236_3), (kc HB.out hw239_0), (kc HB.out hw239_1), (kc HB.out hw239_2), (kc HB.out hw239_3)⟩ (fun hHeld => ?_); clear hK K; refine nm_ (some 49) ?_
           refine pq 39 50 HT_ ?_
           refine pq 40 51 HT_ ?_
           refine pq 41 52 HT_ ?_
           refine uq 42 53 HT_ ?_
           refine uq 43 54 HT_ ?_
           refine uq 44 55 HT_ ?_
           refine uq 45 56 HT_ ?_
           refine uq 46 57 HT_ ?_
           refine uq 47 58 HT_ ?_
           refine uq 48 59 HT_ ?_
           refine uq 49 60 HT_ ?_
           refine uq 50 61 HT_ ?_
           refine uq 51 62 HT_ ?_
           refine uq 52 63 HT_ ?_
           refine uq 53 64 HT_ ?_
           refine uq 54 65 HT_ ?_
           refine uq 55 66 HT_ ?_
           refine uq 56 67 HT_ ?_
           refine uq 57 68 HT_ ?_
           refine pq 58 69 HT_ ?_
           refine done_ (done_of HT_.out (by kernel_rfl)) ?_
           try go_wp2
           go_ret; exact ⟨by first | rfl | (simp [errW_none, errW_some] <;> rfl) | (simp only [← hji8]; first | rfl | (simp [errW_none, errW_some] <;> rfl)) | (simp [*, errW_none, errW_some] <;> rfl), bb⟩
        ·rw [if_neg c10] at H; exact absurd H (by simp)
       ·rw [if_neg c9] at H; exact absurd H (by simp)
      ·rw [if_neg c7] at H; have c7b0 : decide (0 < x3_1) = false := decide_eq_false c7; clear c7; replace H := Option.bind_eq_some_iff.mp H; obtain ⟨t245, A310, H⟩ := H; replace H : (if t245 = true then (if ((rd_T80 l0_0 x3_1).f3 = true) then (spec_IsValidDisk.l0 k1 (wrap64 (x3_1 + 1)) l0_0 a0_1) else (if ((rd_T80 l0_0 x3_1).f2) = 0 then (spec_IsValidDisk.l0 k1 (wrap64 (x3_1 + 1)) l0_0 a0_1) else (some false))) else (some false)) = some r := H; have A31 := kp A310; clear A310
       by_cases c32 : t245 = true
       ·subst c32; have H1 : (if ((rd_T80 l0_0 x3_1).f3 = true) then (spec_IsValidDisk.l0 k1 (wrap64 (x3_1 + 1)) l0_0 a0_1) else (if ((rd_T80 l0_0 x3_1).f2) = 0 then (spec_IsValidDisk.l0 k1 (wrap64 (x3_1 + 1)) l0_0 a0_1) else (some false))) = some r := by rw [if_pos rfl] at H; exact H
        clear H; have H := H1; clear H1; obtain ⟨bq33, hbq33⟩ : ∃ b_ : Bool, b_ = ((rd_T80 l0_0 x3_1).f3) := ⟨_, rfl⟩; replace H : (if (bq33 = true) then (spec_IsValidDisk.l0 k1 (wrap64 (x3_1 + 1)) l0_0 a0_1) else (if ((rd_T80 l0_0 x3_1).f2) = 0 then (spec_IsValidDisk.l0 k1 (wrap64 (x3_1 + 1)) l0_0 a0_1) else (some false))) = some r := by rw [← hbq33] at H; exact H
        have Nbq33 := kp hbq33; clear hbq33
        by_cases c34 : (bq33 = true)
        ·subst c34; have H1 : (spec_IsValidDisk.l0 k1 (wrap64 (x3_1 + 1)) l0_0 a0_1) = some r := by rw [if_pos rfl] at H; exact H
         clear H; have H := H1; clear H1; have H' := kp H; clear H; have hcz35_0 : wr.cell? ⟨gb233, 0, none⟩ = some (.slice A0_0 l0_0.length c0_0) := (blk_cell BK233.out 0).trans rfl; have hcz35_1 : wr.cell? ⟨gb233, 1, none⟩ = some (.int .i64 a0_1) := (blk_cell BK233.out 1).trans rfl; have hfz35_0 := blk_frozen BK233.out 0; have hfz35_1 := blk_frozen BK233.out 1
         try go_wp2
         have n0_ := kp (blk_drew BK233.out); have n1_ := kp (below_drew1 HB.out); clear BK233; clear HB; have BK233 := n0_; have HB := n1_; clear n0_ n1_; have p236 : 0 ≤ (x3_1 : Int) := dt; have q236 : x3_1 < (l0_0.length : Int) := dt; obtain ⟨ad236, A236_1, c236_1, e236, hx236_0, hx236_1, hx236_2, hx236_3, hl236_1, hi236_1⟩ := at_T80 HR0_0.out x3_1 p236 q236; have hw236_3 := hx236_3; have hw236_2 := hx236_2; have hw236_1 := hx236_1; have hw236_0 := hx236_0; (try rw [← Nbq33.out] at hx236_3); (try rw [← Nbq33.out] at hw236_3); cases e236; replace hx236_0 := kc HB.out hx236_0; replace hx236_1 := kc HB.out hx236_1; replace hx236_2 := kc HB.out hx236_2; replace hx236_3 := kc HB.out hx236_3; have HR236_1 := kp hi236_1; have HC236_1 := kp hl236_1; clear hi236_1 hl236_1; replace p236 := eq_true p236; replace q236 := eq_true q236; have p244 : 0 ≤ (x3_1 : Int) := dt; have q244 : x3_1 < (l0_0.length : Int) := dt; obtain ⟨ad244, A244_1, c244_1, e244, hx244_0, hx244_1, hx244_2, hx244_3, hl244_1, hi244_1⟩ := at_T80 HR0_0.out x3_1 p244 q244; have hw244_3 := hx244_3; have hw244_2 := hx244_2; have hw244_1 := hx244_1; have hw244_0 := hx244_0; (try rw [← Nbq33.out] at hx244_3); (try rw [← Nbq33.out] at hw244_3); obtain rfl : ad236 = ad244 := (by injection e244); replace hx244_0 := kc HB.out hx244_0; replace hx244_1 := kc HB.out hx244_1; replace hx244_2 := kc HB.out hx244_2; replace hx244_3 := kc HB.out hx244_3; have HR244_1 := kp hi244_1; have HC244_1 := kp hl244_1
         clear hi244_1 hl244_1; replace p244 := eq_true p244; replace q244 := eq_true q244; have ea_ := Option.some.inj (hx236_1.symm.trans hx244_1)
         injection ea_ with ea_ en_ ec_
         subst ea_; subst ec_; clear en_; have p246 : 0 ≤ (x3_1 : Int) := dt; have q246 : x3_1 < (l0_0.length : Int) := dt; obtain ⟨ad246, A246_1, c246_1, e246, hx246_0, hx246_1, hx246_2, hx246_3, hl246_1, hi246_1⟩ := at_T80 HR0_0.out x3_1 p246 q246; have hw246_3 := hx246_3; have hw246_2 := hx246_2; have hw246_1 := hx246_1; have hw246_0 := hx246_0; (try rw [← Nbq33.out] at hx246_3); (try rw [← Nbq33.out] at hw246_3); obtain rfl : ad236 = ad246 := (by injection e246); replace hx246_0 := kc HB.out hx246_0; replace hx246_1 := kc HB.out hx246_1; replace hx246_2 := kc HB.out hx246_2; replace hx246_3 := kc HB.out hx246_3; have HR246_1 := kp hi246_1; have HC246_1 := kp hl246_1; clear hi246_1 hl246_1; replace p246 := eq_true p246; replace q246 := eq_true q246
         refine start_ (n := 59) (S := fun w' => w'.cell? ⟨gb233, 0, none⟩ = some (.slice (some ad236) l0_0.length c0_0) ∧ w'.cell? ⟨gb233, 1, none⟩ = some (.int .i64 a0_1) ∧ w'.cell? (ad236.add ((x3_1).toNat * 4)) = some (.int .i64 ((rd_T80 l0_0 x3_1).f0)) ∧ w'.cell? ⟨(ad236.add ((x3_1).toNat * 4)).block, (ad236.add ((x3_1).toNat * 4)).off + 1, none⟩ = some (.slice A236_1 ((rd_T80 l0_0 x3_1).f1).length c236_1) ∧ w'.cell? ⟨(ad236.add ((x3_1).toNat * 4)).block, (ad236.add ((x3_1).toNat * 4)).off + 2, none⟩ = some (.int .i64 ((rd_T80 l0_0 x3_1).f2)) ∧ w'.cell? ⟨(ad236.add ((x3_1).toNat * 4)).block, (ad236.add ((x3_1).toNat * 4)).off + 3, none⟩ = some (.bool true) ∧ w'.cell? ⟨(ad236.add ((x3_1).toNat * 4)).block, (ad236.add ((x3_1).toNat * 4)).off + 1, none⟩ = some (.slice A246_1 ((rd_T80 l0_0 x3_1).f1).length c246_1)) (ds := []) #[false, false, false, false, false, false, false, false, false, false, false, false, false, false, false, false, false, false, false, false, false, false, false, false, false, false, false, false, false, false, false, false, false, false, false, false, false, false, false, false, false, false, false, false, false, false, false, false, false, false, false, false, false, false, false, false, false, false, false] (by kernel_rfl) rfl rfl ⟨(blk_cell BK233.out 0).trans rfl, (blk_cell BK233.out 1).trans rfl, (kc HB.out hw236_0), (kc HB.out hw236_1), (kc HB.out hw236_2), (kc HB.out hw236_3), (kc HB.out hw246_1)⟩ (fun hHeld => ?_); refine with_tabW spec_IsValidDisk.tab4 spec_IsValidDisk.bits4 (fun HT_ HW_ => ?_)
         generalize wr.drew = w36 at BK233 HB HR236_1 HR244_1 HR246_1 hx236_0 hx236_1 hx236_2 hx236_3 hx244_0 hx244_1 hx244_2 hx244_3 hx246_0 hx246_1 hx246_2 hx246_3 hHeld ⊢
         refine pq 0 11 HT_ ?_
         refine pq 2 13 HT_ ?_
         refine pq 6 17 HT_ ?_
         refine tq 1 12 HT_ HW_ hHeld ?_
         refine pq 3 14 HT_ ?_
         refine pq 4 15 HT_ ?_
         refine tq 5 16 HT_ HW_ hHeld ?_
         refine tq 7 18 HT_ HW_ hHeld ?_
         refine pq 8 19 HT_ ?_
         refine on_ 9 (some 20) HT_ (fun K hK => ?_); refine gs_ Try.func88 #[.int .i64 ((rd_T80 l0_0 x3_1).f0), .int .i64 0, .int .i64 (wrap64 (a0_1 - 1))] ?_; with_reducible refine (spec_l1In.calls ((rd_T80 l0_0 x3_1).f0) 0 (wrap64 (a0_1 - 1)) true _ A5.out).mono ?_
         rintro e w' ⟨rfl, ⟨nd, rfl⟩⟩; refine ⟨_, rfl, ?_⟩; refine hK.out _ _ ⟨(blk_cell BK233.out 0).trans rfl, (blk_cell BK233.out 1).trans rfl, (kc HB.out hw236_0), (kc HB.out hw236_1), (kc HB.out hw236_2), (kc HB.out hw236_3), (kc HB.out hw246_1)⟩ (fun hHeld => ?_); clear hK K; refine nm_ (some 20) ?_
         refine pq 10 21 HT_ ?_
         refine pq 11 22 HT_ ?_
         refine pq 12 23 HT_ ?_
         refine pq 13 24 HT_ ?_
         refine pq 14 25 HT_ ?_
         refine uq 15 26 HT_ ?_
         refine uq 16 27 HT_ ?_
         refine uq 17 28 HT_ ?_
         refine uq 18 29 HT_ ?_
         refine uq 19 30 HT_ ?_
         refine uq 20 31 HT_ ?_
         refine uq 21 32 HT_ ?_
         refine uq 22 33 HT_ ?_
         refine uq 23 34 HT_ ?_
         refine uq 24 35 HT_ ?_
         refine uq 25 36 HT_ ?_
         refine uq 26 37 HT_ ?_
         refine uq 27 38 HT_ ?_
         refine uq 28 39 HT_ ?_
         refine pq 29 40 HT_ ?_
         refine pq 30 41 HT_ ?_
         refine pq 31 42 HT_ ?_
         refine pq 32 43 HT_ ?_
         refine pq 34 45 HT_ ?_
         refine tq 33 44 HT_ HW_ hHeld ?_
         refine pq 35 46 HT_ ?_
         refine pq 36 47 HT_ ?_
         refine tq 37 48 HT_ HW_ hHeld ?_
         refine on_ 38 (some 49) HT_ (fun K hK => ?_); refine gs_ Try.func85 #[.slice A236_1 ((rd_T80 l0_0 x3_1).f1).length c236_1] ?_; with_reducible refine (spec_l4Pages.calls k1 _ _ ((rd_T80 l0_0 x3_1).f1) true _ ?side1 ?side2 A31.out).mono ?_
         (case side1 => repeat (first | exact (Kd.C_below HR244_1.out bb) | (with_reducible refine Kd.C_alloc ?_ _) | (with_reducible refine Kd.C_drewN ?_ _) | (with_reducible refine Kd.C_drew ?_))); (case side2 => exact HC244_1.out); rintro e w37 ⟨rfl, hb⟩; refine ⟨_, rfl, ?_⟩; have n0_ := kp (kb BK233.out hb); have n1_ := kp (below_step bb hb); clear BK233; clear HB; have BK233 := n0_; have HB := n1_; clear n0_ n1_; (try clear hb); (try clear hk); refine hK.out _ _ ⟨(blk_cell BK233.out 0).trans rfl, (blk_cell BK233.out 1).trans rfl, (kc HB.out hw236_0), (kc HB.out hw236_1), (kc HB.out hw236_2), (kc HB.out hw236_3), (kc HB.out hw246_1)⟩ (fun hHeld => ?_); clear hK K; refine nm_ (some 49) ?_
         refine pq 39 50 HT_ ?_
         refine pq 40 51 HT_ ?_
         refine pq 41 52 HT_ ?_
         refine pq 42 53 HT_ ?_
         refine pq 44 55 HT_ ?_
         refine tq 43 54 HT_ HW_ hHeld ?_
         refine pq 45 56 HT_ ?_
         refine pq 46 57 HT_ ?_
         refine tq 47 58 HT_ HW_ hHeld ?_
         refine pq 48 59 HT_ ?_
         refine pq 49 60 HT_ ?_
         refine uq 50 61 HT_ ?_
         refine uq 51 62 HT_ ?_
         refine uq 52 63 HT_ ?_
         refine uq 53 64 HT_ ?_
         refine uq 54 65 HT_ ?_
         refine uq 55 66 HT_ ?_
         refine uq 56 67 HT_ ?_
         refine pq 57 68 HT_ ?_
         refine pq 58 69 HT_ ?_
         refine done_ (done_of HT_.out (by kernel_rfl)) ?_
         try go_wp2
         go_roundg k1
         case measure => have := HK1.out; omega
         case rel => exact ⟨(wrap64 (x3_1 + 1)), (by first | rfl | (simp; done) | (simp [*]; done)), H', ⟨by have := HK1.out; omega⟩, ⟨by (with_reducible repeat (first | apply bN | apply bD | apply bA)); exact BK233.out⟩, ⟨bb⟩⟩
        ·replace c34 := Bool.eq_false_iff.mpr c34; subst c34; have H1 : (if ((rd_T80 l0_0 x3_1).f2) = 0 then (spec_IsValidDisk.l0 k1 (wrap64 (x3_1 + 1)) l0_0 a0_1) else (some false)) = some r := by rw [if_neg (show ¬ (false = true) by decide)] at H; exact H
         clear H; have H := H1; clear H1
         by_cases c38 : ((rd_T80 l0_0 x3_1).f2) = 0
         ·rw [if_pos c38] at H; have c38b0 : (((rd_T80 l0_0 x3_1).f2) == 0) = true := beq_iff_eq.mpr c38; have c38b1 : (((rd_T80 l0_0 x3_1).f2) != 0) = false := bne_eq_false_iff_eq.mpr c38; clear c38; have H' := kp H; clear H; have hcz39_0 : wr.cell? ⟨gb233, 0, none⟩ = some (.slice A0_0 l0_0.length c0_0) := (blk_cell BK233.out 0).trans rfl; have hcz39_1 : wr.cell? ⟨gb233, 1, none⟩ = some (.int .i64 a0_1) := (blk_cell BK233.out 1).trans rfl; have hfz39_0 := blk_frozen BK233.out 0; have hfz39_1 := blk_frozen BK233.out 1
          try go_wp2
          have n0_ := kp (blk_drew BK233.out); have n1_ := kp (below_drew1 HB.out); clear BK233; clear HB; have BK233 := n0_; have HB := n1_; clear n0_ n1_; have p236 : 0 ≤ (x3_1 : Int) := dt; have q236 : x3_1 < (l0_0.length : Int) := dt; obtain ⟨ad236, A236_1, c236_1, e236, hx236_0, hx236_1, hx236_2, hx236_3, hl236_1, hi236_1⟩ := at_T80 HR0_0.out x3_1 p236 q236; have hw236_3 := hx236_3; have hw236_2 := hx236_2; have hw236_1 := hx236_1; have hw236_0 := hx236_0; (try rw [← Nbq33.out] at hx236_3); (try rw [← Nbq33.out] at hw236_3); cases e236; replace hx236_0 := kc HB.out hx236_0; replace hx236_1 := kc HB.out hx236_1; replace hx236_2 := kc HB.out hx236_2; replace hx236_3 := kc HB.out hx236_3; have HR236_1 := kp hi236_1; have HC236_1 := kp hl236_1; clear hi236_1 hl236_1; replace p236 := eq_true p236; replace q236 := eq_true q236; have p244 : 0 ≤ (x3_1 : Int) := dt; have q244 : x3_1 < (l0_0.length : Int) := dt; obtain ⟨ad244, A244_1, c244_1, e244, hx244_0, hx244_1, hx244_2, hx244_3, hl244_1, hi244_1⟩ := at_T80 HR0_0.out x3_1 p244 q244; have hw244_3 := hx244_3; have hw244_2 := hx244_2; have hw244_1 := hx244_1; have hw244_0 := hx244_0; (try rw [← Nbq33.out] at hx244_3); (try rw [← Nbq33.out] at hw244_3); obtain rfl : ad236 = ad244 := (by injection e244); replace hx244_0 := kc HB.out hx244_0; replace hx244_1 := kc HB.out hx244_1; replace hx244_2 := kc HB.out hx244_2; replace hx244_3 := kc HB.out hx244_3; have HR244_1 := kp hi244_1; have HC244_1 := kp hl244_1
          clear hi244_1 hl244_1; replace p244 := eq_true p244; replace q244 := eq_true q244; have ea_ := Option.some.inj (hx236_1.symm.trans hx244_1)
          injection ea_ with ea_ en_ ec_
          subst ea_; subst ec_; clear en_; have p246 : 0 ≤ (x3_1 : Int) := dt; have q246 : x3_1 < (l0_0.length : Int) := dt; obtain ⟨ad246, A246_1, c246_1, e246, hx246_0, hx246_1, hx246_2, hx246_3, hl246_1, hi246_1⟩ := at_T80 HR0_0.out x3_1 p246 q246; have hw246_3 := hx246_3; have hw246_2 := hx246_2; have hw246_1 := hx246_1; have hw246_0 := hx246_0; (try rw [← Nbq33.out] at hx246_3); (try rw [← Nbq33.out] at hw246_3); obtain rfl : ad236 = ad246 := (by injection e246); replace hx246_0 := kc HB.out hx246_0; replace hx246_1 := kc HB.out hx246_1; replace hx246_2 := kc HB.out hx246_2; replace hx246_3 := kc HB.out hx246_3; have HR246_1 := kp hi246_1; have HC246_1 := kp hl246_1; clear hi246_1 hl246_1; replace p246 := eq_true p246; replace q246 := eq_true q246; have p247 : 0 ≤ (x3_1 : Int) := dt; have q247 : x3_1 < (l0_0.length : Int) := dt; obtain ⟨ad247, A247_1, c247_1, e247, hx247_0, hx247_1, hx247_2, hx247_3, hl247_1, hi247_1⟩ := at_T80 HR0_0.out x3_1 p247 q247; have hw247_3 := hx247_3; have hw247_2 := hx247_2; have hw247_1 := hx247_1; have hw247_0 := hx247_0; (try rw [← Nbq33.out] at hx247_3); (try rw [← Nbq33.out] at hw247_3); obtain rfl : ad236 = ad247 := (by injection e247); replace hx247_0 := kc HB.out hx247_0; replace hx247_1 := kc HB.out hx247_1; replace hx247_2 := kc HB.out hx247_2; replace hx247_3 := kc HB.out hx247_3; have HR247_1 := kp hi247_1; have HC247_1 := kp hl247_1; clear hi247_1 hl247_1; replace p247 := eq_true p247; replace q247 := eq_true q247
          have ea_ := Option.some.inj (hx246_1.symm.trans hx247_1)
          injection ea_ with ea_ en_ ec_
          subst ea_; subst ec_; clear en_
          refine start_ (n := 59) (S := fun w' => w'.cell? ⟨gb233, 0, none⟩ = some (.slice (some ad236) l0_0.length c0_0) ∧ w'.cell? ⟨gb233, 1, none⟩ = some (.int .i64 a0_1) ∧ w'.cell? (ad236.add ((x3_1).toNat * 4)) = some (.int .i64 ((rd_T80 l0_0 x3_1).f0)) ∧ w'.cell? ⟨(ad236.add ((x3_1).toNat * 4)).block, (ad236.add ((x3_1).toNat * 4)).off + 1, none⟩ = some (.slice A236_1 ((rd_T80 l0_0 x3_1).f1).length c236_1) ∧ w'.cell? ⟨(ad236.add ((x3_1).toNat * 4)).block, (ad236.add ((x3_1).toNat * 4)).off + 2, none⟩ = some (.int .i64 ((rd_T80 l0_0 x3_1).f2)) ∧ w'.cell? ⟨(ad236.add ((x3_1).toNat * 4)).block, (ad236.add ((x3_1).toNat * 4)).off + 3, none⟩ = some (.bool false) ∧ w'.cell? ⟨(ad236.add ((x3_1).toNat * 4)).block, (ad236.add ((x3_1).toNat * 4)).off + 1, none⟩ = some (.slice A246_1 ((rd_T80 l0_0 x3_1).f1).length c246_1) ∧ w'.cell? ⟨(ad236.add ((x3_1).toNat * 4)).block, (ad236.add ((x3_1).toNat * 4)).off + 3, none⟩ = some (.bool (false))) (ds := []) #[false, false, false, false, false, false, false, false, false, false, false, false, false, false, false, false, false, false, false, false, false, false, false, false, false, false, false, false, false, false, false, false, false, false, false, false, false, false, false, false, false, false, false, false, false, false, false, false, false, false, false, false, false, false, false, false, false, false, false] (by kernel_rfl) rfl rfl ⟨(blk_cell BK233.out 0).trans rfl, (blk_cell BK233.out 1).trans rfl, (kc HB.out hw236_0), (kc HB.out hw236_1), (kc HB.out hw236_2), (kc HB.out hw236_3), (kc HB.out hw246_1), (kc HB.out hw247_3)⟩ (fun hHeld => ?_); refine with_tabW spec_IsValidDisk.tab4 spec_IsValidDisk.bits4 (fun HT_ HW_ => ?_)
          generalize wr.drew = w40 at BK233 HB HR236_1 HR244_1 HR246_1 HR247_1 hx236_0 hx236_1 hx236_2 hx236_3 hx244_0 hx244_1 hx244_2 hx244_3 hx246_0 hx246_1 hx246_2 hx246_3 hx247_0 hx247_1 hx247_2 hx247_3 hHeld ⊢
          refine pq 0 11 HT_ ?_
          refine pq 2 13 HT_ ?_
          refine pq 6 17 HT_ ?_
          refine tq 1 12 HT_ HW_ hHeld ?_
          refine pq 3 14 HT_ ?_
          refine pq 4 15 HT_ ?_
          refine tq 5 16 HT_ HW_ hHeld ?_
          refine tq 7 18 HT_ HW_ hHeld ?_
          refine pq 8 19 HT_ ?_
          refine on_ 9 (some 20) HT_ (fun K hK => ?_); refine gs_ Try.func88 #[.int .i64 ((rd_T80 l0_0 x3_1).f0), .int .i64 0, .int .i64 (wrap64 (a0_1 - 1))] ?_; with_reducible refine (spec_l1In.calls ((rd_T80 l0_0 x3_1).f0) 0 (wrap64 (a0_1 - 1)) true _ A5.out).mono ?_
          rintro e w' ⟨rfl, ⟨nd, rfl⟩⟩; refine ⟨_, rfl, ?_⟩; refine hK.out _ _ ⟨(blk_cell BK233.out 0).trans rfl, (blk_cell BK233.out 1).trans rfl, (kc HB.out hw236_0), (kc HB.out hw236_1), (kc HB.out hw236_2), (kc HB.out hw236_3), (kc HB.out hw246_1), (kc HB.out hw247_3)⟩ (fun hHeld => ?_); clear hK K; refine nm_ (some 20) ?_
          refine pq 10 21 HT_ ?_
          refine pq 11 22 HT_ ?_
          refine pq 12 23 HT_ ?_
          refine pq 13 24 HT_ ?_
          refine pq 14 25 HT_ ?_
          refine uq 15 26 HT_ ?_
          refine uq 16 27 HT_ ?_
          refine uq 17 28 HT_ ?_
          refine uq 18 29 HT_ ?_
          refine uq 19 30 HT_ ?_
          refine uq 20 31 HT_ ?_
          refine uq 21 32 HT_ ?_
          refine uq 22 33 HT_ ?_
          refine uq 23 34 HT_ ?_
          refine uq 24 35 HT_ ?_
          refine uq 25 36 HT_ ?_
          refine uq 26 37 HT_ ?_
          refine uq 27 38 HT_ ?_
          refine uq 28 39 HT_ ?_
          refine pq 29 40 HT_ ?_
          refine pq 30 41 HT_ ?_
          refine pq 31 42 HT_ ?_
          refine pq 32 43 HT_ ?_
          refine pq 34 45 HT_ ?_
          refine tq 33 44 HT_ HW_ hHeld ?_
          refine pq 35 46 HT_ ?_
          refine pq 36 47 HT_ ?_
          refine tq 37 48 HT_ HW_ hHeld ?_
          refine on_ 38 (some 49) HT_ (fun K hK => ?_); refine gs_ Try.func85 #[.slice A236_1 ((rd_T80 l0_0 x3_1).f1).length c236_1] ?_; with_reducible refine (spec_l4Pages.calls k1 _ _ ((rd_T80 l0_0 x3_1).f1) true _ ?side1 ?side2 A31.out).mono ?_
          (case side1 => repeat (first | exact (Kd.C_below HR244_1.out bb) | (with_reducible refine Kd.C_alloc ?_ _) | (with_reducible refine Kd.C_drewN ?_ _) | (with_reducible refine Kd.C_drew ?_))); (case side2 => exact HC244_1.out); rintro e w41 ⟨rfl, hb⟩; refine ⟨_, rfl, ?_⟩; have n0_ := kp (kb BK233.out hb); have n1_ := kp (below_step bb hb); clear BK233; clear HB; have BK233 := n0_; have HB := n1_; clear n0_ n1_; (try clear hb); (try clear hk); refine hK.out _ _ ⟨(blk_cell BK233.out 0).trans rfl, (blk_cell BK233.out 1).trans rfl, (kc HB.out hw236_0), (kc HB.out hw236_1), (kc HB.out hw236_2), (kc HB.out hw236_3), (kc HB.out hw246_1), (kc HB.out hw247_3)⟩ (fun hHeld => ?_); clear hK K; refine nm_ (some 49) ?_
          refine pq 39 50 HT_ ?_
          refine pq 40 51 HT_ ?_
          refine pq 41 52 HT_ ?_
          refine pq 42 53 HT_ ?_
          refine pq 44 55 HT_ ?_
          refine tq 43 54 HT_ HW_ hHeld ?_
          refine pq 45 56 HT_ ?_
          refine pq 46 57 HT_ ?_
          refine tq 47 58 HT_ HW_ hHeld ?_
          refine pq 48 59 HT_ ?_
          refine pq 49 60 HT_ ?_
          refine pq 50 61 HT_ ?_
          refine pq 52 63 HT_ ?_
          refine tq 51 62 HT_ HW_ hHeld ?_
          refine pq 53 64 HT_ ?_
          refine pq 54 65 HT_ ?_
          refine tq 55 66 HT_ HW_ hHeld ?_
          refine pq 56 67 HT_ ?_
          refine pq 57 68 HT_ ?_
          refine pq 58 69 HT_ ?_
          refine done_ (done_of HT_.out (by kernel_rfl)) ?_
          try go_wp2
          go_roundg k1
          case measure => have := HK1.out; omega
          case rel => exact ⟨(wrap64 (x3_1 + 1)), (by first | rfl | (simp; done) | (simp [*]; done)), H', ⟨by have := HK1.out; omega⟩, ⟨by (with_reducible repeat (first | apply bN | apply bD | apply bA)); exact BK233.out⟩, ⟨bb⟩⟩
         ·rw [if_neg c38] at H; have c38b0 : (((rd_T80 l0_0 x3_1).f2) == 0) = false := beq_eq_false_iff_ne.mpr c38; have c38b1 : (((rd_T80 l0_0 x3_1).f2) != 0) = true := bne_iff_ne.mpr c38; obtain rfl := Option.some.inj H; have hcz42_0 : wr.cell? ⟨gb233, 0, none⟩ = some (.slice A0_0 l0_0.length c0_0) := (blk_cell BK233.out 0).trans rfl; have hcz42_1 : wr.cell? ⟨gb233, 1, none⟩ = some (.int .i64 a0_1) := (blk_cell BK233.out 1).trans rfl; have hfz42_0 := blk_frozen BK233.out 0; have hfz42_1 := blk_frozen BK233.out 1
          try go_wp2
          have n0_ := kp (blk_drew BK233.out); have n1_ := kp (below_drew1 HB.out); clear BK233; clear HB; have BK233 := n0_; have HB := n1_; clear n0_ n1_; have p236 : 0 ≤ (x3_1 : Int) := dt; have q236 : x3_1 < (l0_0.length : Int) := dt; obtain ⟨ad236, A236_1, c236_1, e236, hx236_0, hx236_1, hx236_2, hx236_3, hl236_1, hi236_1⟩ := at_T80 HR0_0.out x3_1 p236 q236; have hw236_3 := hx236_3; have hw236_2 := hx236_2; have hw236_1 := hx236_1; have hw236_0 := hx236_0; (try rw [← Nbq33.out] at hx236_3); (try rw [← Nbq33.out] at hw236_3); cases e236; replace hx236_0 := kc HB.out hx236_0; replace hx236_1 := kc HB.out hx236_1; replace hx236_2 := kc HB.out hx236_2; replace hx236_3 := kc HB.out hx236_3; have HR236_1 := kp hi236_1; have HC236_1 := kp hl236_1; clear hi236_1 hl236_1; replace p236 := eq_true p236; replace q236 := eq_true q236; have p244 : 0 ≤ (x3_1 : Int) := dt; have q244 : x3_1 < (l0_0.length : Int) := dt; obtain ⟨ad244, A244_1, c244_1, e244, hx244_0, hx244_1, hx244_2, hx244_3, hl244_1, hi244_1⟩ := at_T80 HR0_0.out x3_1 p244 q244; have hw244_3 := hx244_3; have hw244_2 := hx244_2; have hw244_1 := hx244_1; have hw244_0 := hx244_0; (try rw [← Nbq33.out] at hx244_3); (try rw [← Nbq33.out] at hw244_3); obtain rfl : ad236 = ad244 := (by injection e244); replace hx244_0 := kc HB.out hx244_0; replace hx244_1 := kc HB.out hx244_1; replace hx244_2 := kc HB.out hx244_2; replace hx244_3 := kc HB.out hx244_3; have HR244_1 := kp hi244_1; have HC244_1 := kp hl244_1
          clear hi244_1 hl244_1; replace p244 := eq_true p244; replace q244 := eq_true q244; have ea_ := Option.some.inj (hx236_1.symm.trans hx244_1)
          injection ea_ with ea_ en_ ec_
          subst ea_; subst ec_; clear en_; have p246 : 0 ≤ (x3_1 : Int) := dt; have q246 : x3_1 < (l0_0.length : Int) := dt; obtain ⟨ad246, A246_1, c246_1, e246, hx246_0, hx246_1, hx246_2, hx246_3, hl246_1, hi246_1⟩ := at_T80 HR0_0.out x3_1 p246 q246; have hw246_3 := hx246_3; have hw246_2 := hx246_2; have hw246_1 := hx246_1; have hw246_0 := hx246_0; (try rw [← Nbq33.out] at hx246_3); (try rw [← Nbq33.out] at hw246_3); obtain rfl : ad236 = ad246 := (by injection e246); replace hx246_0 := kc HB.out hx246_0; replace hx246_1 := kc HB.out hx246_1; replace hx246_2 := kc HB.out hx246_2; replace hx246_3 := kc HB.out hx246_3; have HR246_1 := kp hi246_1; have HC246_1 := kp hl246_1; clear hi246_1 hl246_1; replace p246 := eq_true p246; replace q246 := eq_true q246; have p247 : 0 ≤ (x3_1 : Int) := dt; have q247 : x3_1 < (l0_0.length : Int) := dt; obtain ⟨ad247, A247_1, c247_1, e247, hx247_0, hx247_1, hx247_2, hx247_3, hl247_1, hi247_1⟩ := at_T80 HR0_0.out x3_1 p247 q247; have hw247_3 := hx247_3; have hw247_2 := hx247_2; have hw247_1 := hx247_1; have hw247_0 := hx247_0; (try rw [← Nbq33.out] at hx247_3); (try rw [← Nbq33.out] at hw247_3); obtain rfl : ad236 = ad247 := (by injection e247); replace hx247_0 := kc HB.out hx247_0; replace hx247_1 := kc HB.out hx247_1; replace hx247_2 := kc HB.out hx247_2; replace hx247_3 := kc HB.out hx247_3; have HR247_1 := kp hi247_1; have HC247_1 := kp hl247_1; clear hi247_1 hl247_1; replace p247 := eq_true p247; replace q247 := eq_true q247
          have ea_ := Option.some.inj (hx246_1.symm.trans hx247_1)
          injection ea_ with ea_ en_ ec_
          subst ea_; subst ec_; clear en_
          refine start_ (n := 59) (S := fun w' => w'.cell? ⟨gb233, 0, none⟩ = some (.slice (some ad236) l0_0.length c0_0) ∧ w'.cell? ⟨gb233, 1, none⟩ = some (.int .i64 a0_1) ∧ w'.cell? (ad236.add ((x3_1).toNat * 4)) = some (.int .i64 ((rd_T80 l0_0 x3_1).f0)) ∧ w'.cell? ⟨(ad236.add ((x3_1).toNat * 4)).block, (ad236.add ((x3_1).toNat * 4)).off + 1, none⟩ = some (.slice A236_1 ((rd_T80 l0_0 x3_1).f1).length c236_1) ∧ w'.cell? ⟨(ad236.add ((x3_1).toNat * 4)).block, (ad236.add ((x3_1).toNat * 4)).off + 2, none⟩ = some (.int .i64 ((rd_T80 l0_0 x3_1).f2)) ∧ w'.cell? ⟨(ad236.add ((x3_1).toNat * 4)).block, (ad236.add ((x3_1).toNat * 4)).off + 3, none⟩ = some (.bool false) ∧ w'.cell? ⟨(ad236.add ((x3_1).toNat * 4)).block, (ad236.add ((x3_1).toNat * 4)).off + 1, none⟩ = some (.slice A246_1 ((rd_T80 l0_0 x3_1).f1).length c246_1) ∧ w'.cell? ⟨(ad236.add ((x3_1).toNat * 4)).block, (ad236.add ((x3_1).toNat * 4)).off + 3, none⟩ = some (.bool (false))) (ds := []) #[false, false, false, false, false, false, false, false, false, false, false, false, false, false, false, false, false, false, false, false, false, false, false, false, false, false, false, false, false, false, false, false, false, false, false, false, false, false, false, false, false, false, false, false, false, false, false, false, false, false, false, false, false, false, false, false, false, false, false] (by kernel_rfl) rfl rfl ⟨(blk_cell BK233.out 0).trans rfl, (blk_cell BK233.out 1).trans rfl, (kc HB.out hw236_0), (kc HB.out hw236_1), (kc HB.out hw236_2), (kc HB.out hw236_3), (kc HB.out hw246_1), (kc HB.out hw247_3)⟩ (fun hHeld => ?_); refine with_tabW spec_IsValidDisk.tab4 spec_IsValidDisk.bits4 (fun HT_ HW_ => ?_)
          generalize wr.drew = w43 at BK233 HB HR236_1 HR244_1 HR246_1 HR247_1 hx236_0 hx236_1 hx236_2 hx236_3 hx244_0 hx244_1 hx244_2 hx244_3 hx246_0 hx246_1 hx246_2 hx246_3 hx247_0 hx247_1 hx247_2 hx247_3 hHeld ⊢
          refine pq 0 11 HT_ ?_
          refine pq 2 13 HT_ ?_
          refine pq 6 17 HT_ ?_
          refine tq 1 12 HT_ HW_ hHeld ?_
          refine pq 3 14 HT_ ?_
          refine pq 4 15 HT_ ?_
          refine tq 5 16 HT_ HW_ hHeld ?_
          refine tq 7 18 HT_ HW_ hHeld ?_
          refine pq 8 19 HT_ ?_
          refine on_ 9 (some 20) HT_ (fun K hK => ?_); refine gs_ Try.func88 #[.int .i64 ((rd_T80 l0_0 x3_1).f0), .int .i64 0, .int .i64 (wrap64 (a0_1 - 1))] ?_; with_reducible refine (spec_l1In.calls ((rd_T80 l0_0 x3_1).f0) 0 (wrap64 (a0_1 - 1)) true _ A5.out).mono ?_
          rintro e w' ⟨rfl, ⟨nd, rfl⟩⟩; refine ⟨_, rfl, ?_⟩; refine hK.out _ _ ⟨(blk_cell BK233.out 0).trans rfl, (blk_cell BK233.out 1).trans rfl, (kc HB.out hw236_0), (kc HB.out hw236_1), (kc HB.out hw236_2), (kc HB.out hw236_3), (kc HB.out hw246_1), (kc HB.out hw247_3)⟩ (fun hHeld => ?_); clear hK K; refine nm_ (some 20) ?_
          refine pq 10 21 HT_ ?_
          refine pq 11 22 HT_ ?_
          refine pq 12 23 HT_ ?_
          refine pq 13 24 HT_ ?_
          refine pq 14 25 HT_ ?_
          refine uq 15 26 HT_ ?_
          refine uq 16 27 HT_ ?_
          refine uq 17 28 HT_ ?_
          refine uq 18 29 HT_ ?_
          refine uq 19 30 HT_ ?_
          refine uq 20 31 HT_ ?_
          refine uq 21 32 HT_ ?_
          refine uq 22 33 HT_ ?_
          refine uq 23 34 HT_ ?_
          refine uq 24 35 HT_ ?_
          refine uq 25 36 HT_ ?_
          refine uq 26 37 HT_ ?_
          refine uq 27 38 HT_ ?_
          refine uq 28 39 HT_ ?_
          refine pq 29 40 HT_ ?_
          refine pq 30 41 HT_ ?_
          refine pq 31 42 HT_ ?_
          refine pq 32 43 HT_ ?_
          refine pq 34 45 HT_ ?_
          refine tq 33 44 HT_ HW_ hHeld ?_
          refine pq 35 46 HT_ ?_
          refine pq 36 47 HT_ ?_
          refine tq 37 48 HT_ HW_ hHeld ?_
          refine on_ 38 (some 49) HT_ (fun K hK => ?_); refine gs_ Try.func85 #[.slice A236_1 ((rd_T80 l0_0 x3_1).f1).length c236_1] ?_; with_reducible refine (spec_l4Pages.calls k1 _ _ ((rd_T80 l0_0 x3_1).f1) true _ ?side1 ?side2 A31.out).mono ?_
          (case side1 => repeat (first | exact (Kd.C_below HR244_1.out bb) | (with_reducible refine Kd.C_alloc ?_ _) | (with_reducible refine Kd.C_drewN ?_ _) | (with_reducible refine Kd.C_drew ?_))); (case side2 => exact HC244_1.out); rintro e w44 ⟨rfl, hb⟩; refine ⟨_, rfl, ?_⟩; have n0_ := kp (kb BK233.out hb); have n1_ := kp (below_step bb hb); clear BK233; clear HB; have BK233 := n0_; have HB := n1_; clear n0_ n1_; (try clear hb); (try clear hk); refine hK.out _ _ ⟨(blk_cell BK233.out 0).trans rfl, (blk_cell BK233.out 1).trans rfl, (kc HB.out hw236_0), (kc HB.out hw236_1), (kc HB.out hw236_2), (kc HB.out hw236_3), (kc HB.out hw246_1), (kc HB.out hw247_3)⟩ (fun hHeld => ?_); clear hK K; refine nm_ (some 49) ?_
          refine pq 39 50 HT_ ?_
          refine pq 40 51 HT_ ?_
          refine pq 41 52 HT_ ?_
          refine pq 42 53 HT_ ?_
          refine pq 44 55 HT_ ?_
          refine tq 43 54 HT_ HW_ hHeld ?_
          refine pq 45 56 HT_ ?_
          refine pq 46 57 HT_ ?_
          refine tq 47 58 HT_ HW_ hHeld ?_
          refine pq 48 59 HT_ ?_
          refine pq 49 60 HT_ ?_
          refine pq 50 61 HT_ ?_
          refine pq 52 63 HT_ ?_
          refine tq 51 62 HT_ HW_ hHeld ?_
          refine pq 53 64 HT_ ?_
          refine pq 54 65 HT_ ?_
          refine tq 55 66 HT_ HW_ hHeld ?_
          refine pq 56 67 HT_ ?_
          refine pq 57 68 HT_ ?_
          refine pq 58 69 HT_ ?_
          refine done_ (done_of HT_.out (by kernel_rfl)) ?_
          try go_wp2
          go_ret; exact ⟨er, bb⟩
       ·replace c32 := Bool.eq_false_iff.mpr c32; subst c32; have H1 : (some false) = some r := by rw [if_neg (show ¬ (false = true) by decide)] at H; exact H
        clear H; have H := H1; clear H1; obtain rfl := Option.some.inj H; have hcz45_0 : wr.cell? ⟨gb233, 0, none⟩ = some (.slice A0_0 l0_0.length c0_0) := (blk_cell BK233.out 0).trans rfl; have hcz45_1 : wr.cell? ⟨gb233, 1, none⟩ = some (.int .i64 a0_1) := (blk_cell BK233.out 1).trans rfl; have hfz45_0 := blk_frozen BK233.out 0; have hfz45_1 := blk_frozen BK233.out 1
        try go_wp2
        have n0_ := kp (blk_drew BK233.out); have n1_ := kp (below_drew1 HB.out); clear BK233; clear HB; have BK233 := n0_; have HB := n1_; clear n0_ n1_; have p236 : 0 ≤ (x3_1 : Int) := dt; have q236 : x3_1 < (l0_0.length : Int) := dt; obtain ⟨ad236, A236_1, c236_1, e236, hx236_0, hx236_1, hx236_2, hx236_3, hl236_1, hi236_1⟩ := at_T80 HR0_0.out x3_1 p236 q236; have hw236_3 := hx236_3; have hw236_2 := hx236_2; have hw236_1 := hx236_1; have hw236_0 := hx236_0; cases e236; replace hx236_0 := kc HB.out hx236_0; replace hx236_1 := kc HB.out hx236_1; replace hx236_2 := kc HB.out hx236_2; replace hx236_3 := kc HB.out hx236_3; have HR236_1 := kp hi236_1; have HC236_1 := kp hl236_1; clear hi236_1 hl236_1; replace p236 := eq_true p236; replace q236 := eq_true q236; have p244 : 0 ≤ (x3_1 : Int) := dt; have q244 : x3_1 < (l0_0.length : Int) := dt; obtain ⟨ad244, A244_1, c244_1, e244, hx244_0, hx244_1, hx244_2, hx244_3, hl244_1, hi244_1⟩ := at_T80 HR0_0.out x3_1 p244 q244; have hw244_3 := hx244_3; have hw244_2 := hx244_2; have hw244_1 := hx244_1; have hw244_0 := hx244_0; obtain rfl : ad236 = ad244 := (by injection e244); replace hx244_0 := kc HB.out hx244_0; replace hx244_1 := kc HB.out hx244_1; replace hx244_2 := kc HB.out hx244_2; replace hx244_3 := kc HB.out hx244_3; have HR244_1 := kp hi244_1; have HC244_1 := kp hl244_1; clear hi244_1 hl244_1; replace p244 := eq_true p244; replace q244 := eq_true q244; have ea_ := Option.some.inj (hx236_1.symm.trans hx244_1)
        injection ea_ with ea_ en_ ec_
        subst ea_; subst ec_; clear en_
        refine start_ (n := 59) (S := fun w' => w'.cell? ⟨gb233, 0, none⟩ = some (.slice (some ad236) l0_0.length c0_0) ∧ w'.cell? ⟨gb233, 1, none⟩ = some (.int .i64 a0_1) ∧ w'.cell? (ad236.add ((x3_1).toNat * 4)) = some (.int .i64 ((rd_T80 l0_0 x3_1).f0)) ∧ w'.cell? ⟨(ad236.add ((x3_1).toNat * 4)).block, (ad236.add ((x3_1).toNat * 4)).off + 1, none⟩ = some (.slice A236_1 ((rd_T80 l0_0 x3_1).f1).length c236_1) ∧ w'.cell? ⟨(ad236.add ((x3_1).toNat * 4)).block, (ad236.add ((x3_1).toNat * 4)).off + 2, none⟩ = some (.int .i64 ((rd_T80 l0_0 x3_1).f2)) ∧ w'.cell? ⟨(ad236.add ((x3_1).toNat * 4)).block, (ad236.add ((x3_1).toNat * 4)).off + 3, none⟩ = some (.bool ((rd_T80 l0_0 x3_1).f3))) (ds := []) #[false, false, false, false, false, false, false, false, false, false, false, false, false, false, false, false, false, false, false, false, false, false, false, false, false, false, false, false, false, false, false, false, false, false, false, false, false, false, false, false, false, false, false, false, false, false, false, false, false, false, false, false, false, false, false, false, false, false, false] (by kernel_rfl) rfl rfl ⟨(blk_cell BK233.out 0).trans rfl, (blk_cell BK233.out 1).trans rfl, (kc HB.out hw236_0), (kc HB.out hw236_1), (kc HB.out hw236_2), (kc HB.out hw236_3)⟩ (fun hHeld => ?_); refine with_tabW spec_IsValidDisk.tab4 spec_IsValidDisk.bits4 (fun HT_ HW_ => ?_)
        generalize wr.drew = w46 at BK233 HB HR236_1 HR244_1 hx236_0 hx236_1 hx236_2 hx236_3 hx244_0 hx244_1 hx244_2 hx244_3 hHeld ⊢
        refine pq 0 11 HT_ ?_
        refine pq 2 13 HT_ ?_
        refine pq 6 17 HT_ ?_
        refine tq 1 12 HT_ HW_ hHeld ?_
        refine pq 3 14 HT_ ?_
        refine pq 4 15 HT_ ?_
        refine tq 5 16 HT_ HW_ hHeld ?_
        refine tq 7 18 HT_ HW_ hHeld ?_
        refine pq 8 19 HT_ ?_
        refine on_ 9 (some 20) HT_ (fun K hK => ?_); refine gs_ Try.func88 #[.int .i64 ((rd_T80 l0_0 x3_1).f0), .int .i64 0, .int .i64 (wrap64 (a0_1 - 1))] ?_; with_reducible refine (spec_l1In.calls ((rd_T80 l0_0 x3_1).f0) 0 (wrap64 (a0_1 - 1)) true _ A5.out).mono ?_
        rintro e w' ⟨rfl, ⟨nd, rfl⟩⟩; refine ⟨_, rfl, ?_⟩; refine hK.out _ _ ⟨(blk_cell BK233.out 0).trans rfl, (blk_cell BK233.out 1).trans rfl, (kc HB.out hw236_0), (kc HB.out hw236_1), (kc HB.out hw236_2), (kc HB.out hw236_3)⟩ (fun hHeld => ?_); clear hK K; refine nm_ (some 20) ?_
        refine pq 10 21 HT_ ?_
        refine pq 11 22 HT_ ?_
        refine pq 12 23 HT_ ?_
        refine pq 13 24 HT_ ?_
        refine pq 14 25 HT_ ?_
        refine uq 15 26 HT_ ?_
        refine uq 16 27 HT_ ?_
        refine uq 17 28 HT_ ?_
        refine uq 18 29 HT_ ?_
        refine uq 19 30 HT_ ?_
        refine uq 20 31 HT_ ?_
        refine uq 21 32 HT_ ?_
        refine uq 22 33 HT_ ?_
        refine uq 23 34 HT_ ?_
        refine uq 24 35 HT_ ?_
        refine uq 25 36 HT_ ?_
        refine uq 26 37 HT_ ?_
        refine uq 27 38 HT_ ?_
        refine uq 28 39 HT_ ?_
        refine pq 29 40 HT_ ?_
        refine pq 30 41 HT_ ?_
        refine pq 31 42 HT_ ?_
        refine pq 32 43 HT_ ?_
        refine pq 34 45 HT_ ?_
        refine tq 33 44 HT_ HW_ hHeld ?_
        refine pq 35 46 HT_ ?_
        refine pq 36 47 HT_ ?_
        refine tq 37 48 HT_ HW_ hHeld ?_
        refine on_ 38 (some 49) HT_ (fun K hK => ?_); refine gs_ Try.func85 #[.slice A236_1 ((rd_T80 l0_0 x3_1).f1).length c236_1] ?_; with_reducible refine (spec_l4Pages.calls k1 _ _ ((rd_T80 l0_0 x3_1).f1) false _ ?side1 ?side2 A31.out).mono ?_
        (case side1 => repeat (first | exact (Kd.C_below HR244_1.out bb) | (with_reducible refine Kd.C_alloc ?_ _) | (with_reducible refine Kd.C_drewN ?_ _) | (with_reducible refine Kd.C_drew ?_))); (case side2 => exact HC244_1.out); rintro e w47 ⟨rfl, hb⟩; refine ⟨_, rfl, ?_⟩; have n0_ := kp (kb BK233.out hb); have n1_ := kp (below_step bb hb); clear BK233; clear HB; have BK233 := n0_; have HB := n1_; clear n0_ n1_; (try clear hb); (try clear hk); refine hK.out _ _ ⟨(blk_cell BK233.out 0).trans rfl, (blk_cell BK233.out 1).trans rfl, (kc HB.out hw236_0), (kc HB.out hw236_1), (kc HB.out hw236_2), (kc HB.out hw236_3)⟩ (fun hHeld => ?_); clear hK K; refine nm_ (some 49) ?_
        refine pq 39 50 HT_ ?_
        refine pq 40 51 HT_ ?_
        refine pq 41 52 HT_ ?_
        refine uq 42 53 HT_ ?_
        refine uq 43 54 HT_ ?_
        refine uq 44 55 HT_ ?_
        refine uq 45 56 HT_ ?_
        refine uq 46 57 HT_ ?_
        refine uq 47 58 HT_ ?_
        refine uq 48 59 HT_ ?_
        refine uq 49 60 HT_ ?_
        refine uq 50 61 HT_ ?_
        refine uq 51 62 HT_ ?_
        refine uq 52 63 HT_ ?_
        refine uq 53 64 HT_ ?_
        refine uq 54 65 HT_ ?_
        refine uq 55 66 HT_ ?_
        refine uq 56 67 HT_ ?_
        refine uq 57 68 HT_ ?_
        refine pq 58 69 HT_ ?_
        refine done_ (done_of HT_.out (by kernel_rfl)) ?_
        try go_wp2
        go_ret; exact ⟨er, bb⟩
     ·replace c6 := Bool.eq_false_iff.mpr c6; subst c6; have H1 : (some false) = some r := by rw [if_neg (show ¬ (false = true) by decide)] at H; exact H
      clear H; have H := H1; clear H1; obtain rfl := Option.some.inj H; have hcz48_0 : wr.cell? ⟨gb233, 0, none⟩ = some (.slice A0_0 l0_0.length c0_0) := (blk_cell BK233.out 0).trans rfl; have hcz48_1 : wr.cell? ⟨gb233, 1, none⟩ = some (.int .i64 a0_1) := (blk_cell BK233.out 1).trans rfl; have hfz48_0 := blk_frozen BK233.out 0; have hfz48_1 := blk_frozen BK233.out 1
      try go_wp2
      have n0_ := kp (blk_drew BK233.out); have n1_ := kp (below_drew1 HB.out); clear BK233; clear HB; have BK233 := n0_; have HB := n1_; clear n0_ n1_; have p236 : 0 ≤ (x3_1 : Int) := dt; have q236 : x3_1 < (l0_0.length : Int) := dt; obtain ⟨ad236, A236_1, c236_1, e236, hx236_0, hx236_1, hx236_2, hx236_3, hl236_1, hi236_1⟩ := at_T80 HR0_0.out x3_1 p236 q236; have hw236_3 := hx236_3; have hw236_2 := hx236_2; have hw236_1 := hx236_1; have hw236_0 := hx236_0; cases e236; replace hx236_0 := kc HB.out hx236_0; replace hx236_1 := kc HB.out hx236_1; replace hx236_2 := kc HB.out hx236_2; replace hx236_3 := kc HB.out hx236_3; have HR236_1 := kp hi236_1; have HC236_1 := kp hl236_1; clear hi236_1 hl236_1; replace p236 := eq_true p236; replace q236 := eq_true q236
      refine start_ (n := 59) (S := fun w' => w'.cell? ⟨gb233, 0, none⟩ = some (.slice (some ad236) l0_0.length c0_0) ∧ w'.cell? ⟨gb233, 1, none⟩ = some (.int .i64 a0_1) ∧ w'.cell? (ad236.add ((x3_1).toNat * 4)) = some (.int .i64 ((rd_T80 l0_0 x3_1).f0)) ∧ w'.cell? ⟨(ad236.add ((x3_1).toNat * 4)).block, (ad236.add ((x3_1).toNat * 4)).off + 1, none⟩ = some (.slice A236_1 ((rd_T80 l0_0 x3_1).f1).length c236_1) ∧ w'.cell? ⟨(ad236.add ((x3_1).toNat * 4)).block, (ad236.add ((x3_1).toNat * 4)).off + 2, none⟩ = some (.int .i64 ((rd_T80 l0_0 x3_1).f2)) ∧ w'.cell? ⟨(ad236.add ((x3_1).toNat * 4)).block, (ad236.add ((x3_1).toNat * 4)).off + 3, none⟩ = some (.bool ((rd_T80 l0_0 x3_1).f3))) (ds := []) #[false, false, false, false, false, false, false, false, false, false, false, false, false, false, false, false, false, false, false, false, false, false, false, false, false, false, false, false, false, false, false, false, false, false, false, false, false, false, false, false, false, false, false, false, false, false, false, false, false, false, false, false, false, false, false, false, false, false, false] (by kernel_rfl) rfl rfl ⟨(blk_cell BK233.out 0).trans rfl, (blk_cell BK233.out 1).trans rfl, (kc HB.out hw236_0), (kc HB.out hw236_1), (kc HB.out hw236_2), (kc HB.out hw236_3)⟩ (fun hHeld => ?_); refine with_tabW spec_IsValidDisk.tab4 spec_IsValidDisk.bits4 (fun HT_ HW_ => ?_)
      generalize wr.drew = w49 at BK233 HB HR236_1 hx236_0 hx236_1 hx236_2 hx236_3 hHeld ⊢
      refine pq 0 11 HT_ ?_
      refine pq 2 13 HT_ ?_
      refine pq 6 17 HT_ ?_
      refine tq 1 12 HT_ HW_ hHeld ?_
      refine pq 3 14 HT_ ?_
      refine pq 4 15 HT_ ?_
      refine tq 5 16 HT_ HW_ hHeld ?_
      refine tq 7 18 HT_ HW_ hHeld ?_
      refine pq 8 19 HT_ ?_
      refine on_ 9 (some 20) HT_ (fun K hK => ?_); refine gs_ Try.func88 #[.int .i64 ((rd_T80 l0_0 x3_1).f0), .int .i64 0, .int .i64 (wrap64 (a0_1 - 1))] ?_; with_reducible refine (spec_l1In.calls ((rd_T80 l0_0 x3_1).f0) 0 (wrap64 (a0_1 - 1)) false _ A5.out).mono ?_
      rintro e w' ⟨rfl, ⟨nd, rfl⟩⟩; refine ⟨_, rfl, ?_⟩; refine hK.out _ _ ⟨(blk_cell BK233.out 0).trans rfl, (blk_cell BK233.out 1).trans rfl, (kc HB.out hw236_0), (kc HB.out hw236_1), (kc HB.out hw236_2), (kc HB.out hw236_3)⟩ (fun hHeld => ?_); clear hK K; refine nm_ (some 20) ?_
      refine pq 10 21 HT_ ?_
      refine pq 11 22 HT_ ?_
      refine uq 12 23 HT_ ?_
      refine uq 13 24 HT_ ?_
      refine uq 14 25 HT_ ?_
      refine uq 15 26 HT_ ?_
      refine uq 16 27 HT_ ?_
      refine uq 17 28 HT_ ?_
      refine uq 18 29 HT_ ?_
      refine uq 19 30 HT_ ?_
      refine uq 20 31 HT_ ?_
      refine uq 21 32 HT_ ?_
      refine uq 22 33 HT_ ?_
      refine uq 23 34 HT_ ?_
      refine uq 24 35 HT_ ?_
      refine uq 25 36 HT_ ?_
      refine uq 26 37 HT_ ?_
      refine uq 27 38 HT_ ?_
      refine uq 28 39 HT_ ?_
      refine uq 29 40 HT_ ?_
      refine pq 30 41 HT_ ?_
      refine pq 31 42 HT_ ?_
      refine uq 32 43 HT_ ?_
      refine uq 33 44 HT_ ?_
      refine uq 34 45 HT_ ?_
      refine uq 35 46 HT_ ?_
      refine uq 36 47 HT_ ?_
      refine uq 37 48 HT_ ?_
      refine uq 38 49 HT_ ?_
      refine uq 39 50 HT_ ?_
      refine pq 40 51 HT_ ?_
      refine pq 41 52 HT_ ?_
      refine uq 42 53 HT_ ?_
      refine uq 43 54 HT_ ?_
      refine uq 44 55 HT_ ?_
      refine uq 45 56 HT_ ?_
      refine uq 46 57 HT_ ?_
      refine uq 47 58 HT_ ?_
      refine uq 48 59 HT_ ?_
      refine uq 49 60 HT_ ?_
      refine uq 50 61 HT_ ?_
      refine uq 51 62 HT_ ?_
      refine uq 52 63 HT_ ?_
      refine uq 53 64 HT_ ?_
      refine uq 54 65 HT_ ?_
      refine uq 55 66 HT_ ?_
      refine uq 56 67 HT_ ?_
      refine uq 57 68 HT_ ?_
      refine pq 58 69 HT_ ?_
      refine done_ (done_of HT_.out (by kernel_rfl)) ?_
      try go_wp2
      go_ret; exact ⟨er, bb⟩
    ·rw [if_neg c4] at H; exact absurd H (by simp)
   ·rw [if_neg c3] at H; have c3b0 : decide (x3_1 < (l0_0.length : Int)) = false := decide_eq_false c3; clear c3; replace H := Option.bind_eq_some_iff.mp H; obtain ⟨t234, A500, H⟩ := H; replace H : (if t234 = true then ((spec_CountPages.f k1 l0_0 a0_1).bind fun t235 => (some (decide (t235 ≤ 40)))) else (some false)) = some r := H; have A50 := kp A500; clear A500
    by_cases c51 : t234 = true
    ·subst c51; have H1 : ((spec_CountPages.f k1 l0_0 a0_1).bind fun t235 => (some (decide (t235 ≤ 40)))) = some r := by rw [if_pos rfl] at H; exact H
     clear H; have H := H1; clear H1; replace H := Option.bind_eq_some_iff.mp H; obtain ⟨t235, A520, H⟩ := H; replace H : (some (decide (t235 ≤ 40))) = some r := H; have A52 := kp A520; clear A520; obtain rfl := Option.some.inj H; have hcz53_0 : wr.cell? ⟨gb233, 0, none⟩ = some (.slice A0_0 l0_0.length c0_0) := (blk_cell BK233.out 0).trans rfl; have hcz53_1 : wr.cell? ⟨gb233, 1, none⟩ = some (.int .i64 a0_1) := (blk_cell BK233.out 1).trans rfl; have hfz53_0 := blk_frozen BK233.out 0; have hfz53_1 := blk_frozen BK233.out 1
     go_wp2_with (first | ((with_reducible refine gate_callee (f := 88) rfl ?_); refine gl_ 72 Try.func88 #[.int .i64 a0_1, .int .i64 0, .int .i64 1000] ?_; (with_reducible refine (spec_l1In.calls a0_1 0 1000 true _ A50.out).mono ?_); rintro e w' ⟨rfl, ⟨nd, rfl⟩⟩; refine ⟨_, rfl, ?_⟩) | (go_at_call 76; (with_reducible refine (spec_CountPages.calls k1 _ _ l0_0 a0_1 t235 _ ?side1 ?side2 A52.out).mono ?_); (case side1 => repeat (first | exact (Kd.C_below HR0_0.out bb) | (with_reducible refine Kd.C_alloc ?_ _) | (with_reducible refine Kd.C_drewN ?_ _) | (with_reducible refine Kd.C_drew ?_))); (case side2 => exact HC0_0.out); rintro e w54 ⟨rfl, hb⟩; have n0_ := kp (kb BK233.out hb); have n1_ := kp (below_step bb hb); clear BK233; clear HB; have BK233 := n0_; have HB := n1_; clear n0_ n1_; (try clear hb)))
     go_ret; exact ⟨er, bb⟩
    ·replace c51 := Bool.eq_false_iff.mpr c51; subst c51; have H1 : (some false) = some r := by rw [if_neg (show ¬ (false = true) by decide)] at H; exact H
     clear H; have H := H1; clear H1; obtain rfl := Option.some.inj H; have hcz55_0 : wr.cell? ⟨gb233, 0, none⟩ = some (.slice A0_0 l0_0.length c0_0) := (blk_cell BK233.out 0).trans rfl; have hcz55_1 : wr.cell? ⟨gb233, 1, none⟩ = some (.int .i64 a0_1) := (blk_cell BK233.out 1).trans rfl; have hfz55_0 := blk_frozen BK233.out 0; have hfz55_1 := blk_frozen BK233.out 1
     go_wp2_with (first | ((with_reducible refine gate_callee (f := 88) rfl ?_); refine gl_ 72 Try.func88 #[.int .i64 a0_1, .int .i64 0, .int .i64 1000] ?_; (with_reducible refine (spec_l1In.calls a0_1 0 1000 false _ A50.out).mono ?_); rintro e w' ⟨rfl, ⟨nd, rfl⟩⟩; refine ⟨_, rfl, ?_⟩))
     go_ret; exact ⟨er, bb⟩
end Go.Proofs.Ytinniedbgfgclaa.PFnExactDeleteUnreadableFiles
