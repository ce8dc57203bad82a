/- Out of the print of this law's functions, with the contracts of some of them proved otherwise; nothing is claimed here. -/
/- Out of the print of this law's functions, its regions' steps said shorter; nothing is claimed here. -/
import Derived.Test.YtkipmmkjbeeemaaPFnExactEqualDisksx0
import Derived.Test.YtkipmmkjbeeemaaQFnExactEqualDisksx5
import Derived.Test.YtkipmmkjbeeemaaShort
namespace Go.Proofs.Ytkipmmkjbeeemaa.PFnExactEqualDisks
open Go.RowKit Go.Proofs.YtkipmmkjbeeemaaW.PrintWords Go.Proofs.YtkipmmkjbeeemaaW.PrintLast Go.Proofs.YtkipmmkjbeeemaaW.PrintMore Go.Proofs.Ytkipmmkjbeeemaa.Short
attribute [local go_sem] max2_int min2_int max_two min_two max_three min_three max_four min_four   -- for this text's walks alone
set_option linter.unusedVariables false
set_option linter.unusedSimpArgs false

/-! ### spec_EqualDisks: function 70 -/
mutual
def spec_EqualDisks.j0 : Nat → Bool → List (S104) → Int → List (S104) → Int → Option (Bool)
 | 0, _, _, _, _, _ => none
 | k + 1, x22, x182000, x182001, x183000, x183001 => if x22 = true then (some false) else (spec_EqualDisks.l0 k 0 x182000 x182001 x183000 x183001)
def spec_EqualDisks.l0 : Nat → Int → List (S104) → Int → List (S104) → Int → Option (Bool)
 | 0, _, _, _, _, _ => none
 | k + 1, x5, x182000, x182001, x183000, x183001 => if x5 < (x182000.length : Int) then (if 0 ≤ x5 then (if x5 < (x183000.length : Int) then (if ((rd_T104 x182000 x5).f0) = ((rd_T104 x183000 x5).f0) then (if ((rd_T104 x182000 x5).f2) = ((rd_T104 x183000 x5).f2) then (if (((rd_T104 x182000 x5).f3) != ((rd_T104 x183000 x5).f3)) = true then (spec_EqualDisks.j2 k x5 true x182000 x182001 x183000 x183001 ((rd_T104 x182000 x5).f0) ((rd_T104 x182000 x5).f1) ((rd_T104 x182000 x5).f2) ((rd_T104 x182000 x5).f3) ((rd_T104 x183000 x5).f0) ((rd_T104 x183000 x5).f1) ((rd_T104 x183000 x5).f2) ((rd_T104 x183000 x5).f3)) else (spec_EqualDisks.j2 k x5 ((((rd_T104 x182000 x5).f1).length : Int) != (((rd_T104 x183000 x5).f1).length : Int)) x182000 x182001 x183000 x183001 ((rd_T104 x182000 x5).f0) ((rd_T104 x182000 x5).f1) ((rd_T104 x182000 x5).f2) ((rd_T104 x182000 x5).f3) ((rd_T104 x183000 x5).f0) ((rd_T104 x183000 x5).f1) ((rd_T104 x183000 x5).f2) ((rd_T104 x183000 x5).f3))) else (spec_EqualDisks.j2 k x5 true x182000 x182001 x183000 x183001 ((rd_T104 x182000 x5).f0) ((rd_T104 x182000 x5).f1) ((rd_T104 x182000 x5).f2) ((rd_T104 x182000 x5).f3) ((rd_T104 x183000 x5).f0) ((rd_T104 x183000 x5).f1) ((rd_T104 x183000 x5).f2) ((rd_T104 x183000 x5).f3))) else (spec_EqualDisks.j2 k x5 true x182000 x182001 x183000 x183001 ((rd_T104 x182000 x5).f0) ((rd_T104 x182000 x5).f1) ((rd_T104 x182000 x5).f2) ((rd_T104 x182000 x5).f3) ((rd_T104 x183000 x5).f0) ((rd_T104 x183000 x5).f1) ((rd_T104 x183000 x5).f2) ((rd_T104 x183000 x5).f3))) else (none)) else (none)) else (some true)
def spec_EqualDisks.j2 : Nat → Int → Bool → List (S104) → Int → List (S104) → Int → Int → List (S31) → Int → Bool → Int → List (S31) → Int → Bool → Option (Bool)
 | 0, _, _, _, _, _, _, _, _, _, _, _, _, _, _ => none
 | k + 1, x5, x67, x182000, x182001, x183000, x183001, x185000, x185001, x185002, x185003, x187000, x187001, x187002, x187003 => if x67 = true then (some false) else (spec_EqualDisks.l1 k x5 0 x182000 x182001 x183000 x183001 x185000 x185001 x185002 x185003 x187000 x187001 x187002 x187003)
def spec_EqualDisks.l1 : Nat → Int → Int → List (S104) → Int → List (S104) → Int → Int → List (S31) → Int → Bool → Int → List (S31) → Int → Bool → Option (Bool)
 | 0, _, _, _, _, _, _, _, _, _, _, _, _, _, _ => none
 | k + 1, x5, x8, x182000, x182001, x183000, x183001, x185000, x185001, x185002, x185003, x187000, x187001, x187002, x187003 => if x8 < (x185001.length : Int) then (if 0 ≤ x8 then (if x8 < (x187001.length : Int) then ((spec_l6Rows.f k ((rd_T31 x185001 x8).f0) ((rd_T31 x187001 x8).f0)).bind fun t189 => (if t189 = true then (spec_EqualDisks.l1 k x5 (wrap64 (x8 + 1)) x182000 x182001 x183000 x183001 x185000 x185001 x185002 x185003 x187000 x187001 x187002 x187003) else (some false))) else (none)) else (none)) else (spec_EqualDisks.l0 k (wrap64 (x5 + 1)) x182000 x182001 x183000 x183001)
end
def spec_EqualDisks.f (k : Nat) (l0_0 : List (S104)) (a0_1 : Int) (l1_0 : List (S104)) (a1_1 : Int) : Option (Bool) := if a0_1 = a1_1 then (spec_EqualDisks.j0 k ((l0_0.length : Int) != (l1_0.length : Int)) l0_0 a0_1 l1_0 a1_1) else (spec_EqualDisks.j0 k true l0_0 a0_1 l1_0 a1_1)
theorem spec_EqualDisks.mono_l : ∀ k, (∀ y0 y1 y2 y3 y4, LeO (spec_EqualDisks.j0 k y0 y1 y2 y3 y4) (spec_EqualDisks.j0 (k + 1) y0 y1 y2 y3 y4)) ∧ (∀ y0 y1 y2 y3 y4, LeO (spec_EqualDisks.l0 k y0 y1 y2 y3 y4) (spec_EqualDisks.l0 (k + 1) y0 y1 y2 y3 y4)) ∧ (∀ y0 y1 y2 y3 y4 y5 y6 y7 y8 y9 y10 y11 y12 y13, LeO (spec_EqualDisks.j2 k y0 y1 y2 y3 y4 y5 y6 y7 y8 y9 y10 y11 y12 y13) (spec_EqualDisks.j2 (k + 1) y0 y1 y2 y3 y4 y5 y6 y7 y8 y9 y10 y11 y12 y13)) ∧ (∀ y0 y1 y2 y3 y4 y5 y6 y7 y8 y9 y10 y11 y12 y13, LeO (spec_EqualDisks.l1 k y0 y1 y2 y3 y4 y5 y6 y7 y8 y9 y10 y11 y12 y13) (spec_EqualDisks.l1 (k + 1) y0 y1 y2 y3 y4 y5 y6 y7 y8 y9 y10 y11 y12 y13))
 | 0 => ⟨fun _ _ _ _ _ r h => by simp [spec_EqualDisks.j0] at h, fun _ _ _ _ _ r h => by simp [spec_EqualDisks.l0] at h, fun _ _ _ _ _ _ _ _ _ _ _ _ _ _ r h => by simp [spec_EqualDisks.j2] at h, fun _ _ _ _ _ _ _ _ _ _ _ _ _ _ r h => by simp [spec_EqualDisks.l1] at h⟩
 | k + 1 => by
  obtain ⟨ih0, ih1, ih2, ih3⟩ := spec_EqualDisks.mono_l k
  refine ⟨?_, ?_, ?_, ?_⟩
  ·intro y0 y1 y2 y3 y4
   unfold spec_EqualDisks.j0
   repeat' first
   | (with_reducible exact ih0 _ _ _ _ _)
   | (with_reducible exact ih1 _ _ _ _ _)
   | (with_reducible exact ih2 _ _ _ _ _ _ _ _ _ _ _ _ _ _)
   | (with_reducible exact ih3 _ _ _ _ _ _ _ _ _ _ _ _ _ _)
   | (with_reducible exact spec_l6Rows.mono _ _ _)
   | (with_reducible exact LeO.refl _)
   | (with_reducible exact LeO.none _)
   | (with_reducible refine LeO.ite ?_ ?_)
   | (with_reducible refine LeO.bind ?_ (fun _ => ?_))
   | exact ih0 _ _ _ _ _
   | exact ih1 _ _ _ _ _
   | exact ih2 _ _ _ _ _ _ _ _ _ _ _ _ _ _
   | exact ih3 _ _ _ _ _ _ _ _ _ _ _ _ _ _
   | exact spec_l6Rows.mono _ _ _
   | exact LeO.none _
   | refine LeO.ite ?_ ?_
   | refine LeO.bind ?_ (fun _ => ?_)
  ·intro y0 y1 y2 y3 y4
   unfold spec_EqualDisks.l0
   repeat' first
   | (with_reducible exact ih0 _ _ _ _ _)
   | (with_reducible exact ih1 _ _ _ _ _)
   | (with_reducible exact ih2 _ _ _ _ _ _ _ _ _ _ _ _ _ _)
   | (with_reducible exact ih3 _ _ _ _ _ _ _ _ _ _ _ _ _ _)
   | (with_reducible exact spec_l6Rows.mono _ _ _)
   | (with_reducible exact LeO.refl _)
   | (with_reducible exact LeO.none _)
   | (with_reducible refine LeO.ite ?_ ?_)
   | (with_reducible refine LeO.bind ?_ (fun _ => ?_))
   | exact ih0 _ _ _ _ _
   | exact ih1 _ _ _ _ _
   | exact ih2 _ _ _ _ _ _ _ _ _ _ _ _ _ _
   | exact ih3 _ _ _ _ _ _ _ _ _ _ _ _ _ _
   | exact spec_l6Rows.mono _ _ _
   | exact LeO.none _
   | refine LeO.ite ?_ ?_
   | refine LeO.bind ?_ (fun _ => ?_)
  ·intro y0 y1 y2 y3 y4 y5 y6 y7 y8 y9 y10 y11 y12 y13
   unfold spec_EqualDisks.j2
   repeat' first
   | (with_reducible exact ih0 _ _ _ _ _)
   | (with_reducible exact ih1 _ _ _ _ _)
   | (with_reducible exact ih2 _ _ _ _ _ _ _ _ _ _ _ _ _ _)
   | (with_reducible exact ih3 _ _ _ _ _ _ _ _ _ _ _ _ _ _)
   | (with_reducible exact spec_l6Rows.mono _ _ _)
   | (with_reducible exact LeO.refl _)
   | (with_reducible exact LeO.none _)
   | (with_reducible refine LeO.ite ?_ ?_)
   | (with_reducible refine LeO.bind ?_ (fun _ => ?_))
   | exact ih0 _ _ _ _ _
   | exact ih1 _ _ _ _ _
   | exact ih2 _ _ _ _ _ _ _ _ _ _ _ _ _ _
   | exact ih3 _ _ _ _ _ _ _ _ _ _ _ _ _ _
   | exact spec_l6Rows.mono _ _ _
   | exact LeO.none _
   | refine LeO.ite ?_ ?_
   | refine LeO.bind ?_ (fun _ => ?_)
  ·intro y0 y1 y2 y3 y4 y5 y6 y7 y8 y9 y10 y11 y12 y13
   unfold spec_EqualDisks.l1
   repeat' first
   | (with_reducible exact ih0 _ _ _ _ _)
   | (with_reducible exact ih1 _ _ _ _ _)
   | (with_reducible exact ih2 _ _ _ _ _ _ _ _ _ _ _ _ _ _)
   | (with_reducible exact ih3 _ _ _ _ _ _ _ _ _ _ _ _ _ _)
   | (with_reducible exact spec_l6Rows.mono _ _ _)
   | (with_reducible exact LeO.refl _)
   | (with_reducible exact LeO.none _)
   | (with_reducible refine LeO.ite ?_ ?_)
   | (with_reducible refine LeO.bind ?_ (fun _ => ?_))
   | exact ih0 _ _ _ _ _
   | exact ih1 _ _ _ _ _
   | exact ih2 _ _ _ _ _ _ _ _ _ _ _ _ _ _
   | exact ih3 _ _ _ _ _ _ _ _ _ _ _ _ _ _
   | exact spec_l6Rows.mono _ _ _
   | exact LeO.none _
   | refine LeO.ite ?_ ?_
   | refine LeO.bind ?_ (fun _ => ?_)
theorem spec_EqualDisks.mono : ∀ a0 a1 a2 a3 k, LeO (spec_EqualDisks.f k a0 a1 a2 a3) (spec_EqualDisks.f (k + 1) a0 a1 a2 a3) := by
 intro a0 a1 a2 a3 k
 obtain ⟨ih0, ih1, ih2, ih3⟩ := spec_EqualDisks.mono_l k
 unfold spec_EqualDisks.f
 repeat' first
   | (with_reducible exact ih0 _ _ _ _ _)
   | (with_reducible exact ih1 _ _ _ _ _)
   | (with_reducible exact ih2 _ _ _ _ _ _ _ _ _ _ _ _ _ _)
   | (with_reducible exact ih3 _ _ _ _ _ _ _ _ _ _ _ _ _ _)
   | (with_reducible exact spec_l6Rows.mono _ _ _)
   | (with_reducible exact LeO.refl _)
   | (with_reducible exact LeO.none _)
   | (with_reducible refine LeO.ite ?_ ?_)
   | (with_reducible refine LeO.bind ?_ (fun _ => ?_))
   | exact ih0 _ _ _ _ _
   | exact ih1 _ _ _ _ _
   | exact ih2 _ _ _ _ _ _ _ _ _ _ _ _ _ _
   | exact ih3 _ _ _ _ _ _ _ _ _ _ _ _ _ _
   | exact spec_l6Rows.mono _ _ _
   | exact LeO.none _
   | refine LeO.ite ?_ ?_
   | refine LeO.bind ?_ (fun _ => ?_)
set_option maxHeartbeats 8000000 in
set_option maxRecDepth 100000 in
theorem spec_EqualDisks.calls (k : Nat) (A0_0 : Option Addr) (c0_0 : Nat) (l0_0 : List (S104)) (a0_1 : Int) (A1_0 : Option Addr) (c1_0 : Nat) (l1_0 : List (S104)) (a1_1 : Int) (r : Bool) (w : World) (hr0_0 : Kd.C k104 w A0_0 l0_0.length l0_0) (hc0_0 : l0_0.length ≤ c0_0) (hr1_0 : Kd.C k104 w A1_0 l1_0.length l1_0) (hc1_0 : l1_0.length ≤ c1_0) (h : spec_EqualDisks.f k l0_0 a0_1 l1_0 a1_1 = some r) :
  Calls Try.prog 70 #[.agg #[.slice A0_0 l0_0.length c0_0, .int .i64 a0_1], .agg #[.slice A1_0 l1_0.length c1_0, .int .i64 a1_1]] w fun e w' => e = .returned (.bool r) ∧ Below w.heap.size w w' := by
 have hu67 := Try.underlying67
 have hu104 := Try.underlying104
 have HR0_0 := Aside0.mk hr0_0
 have HC0_0 := Aside0.mk hc0_0
 clear hr0_0 hc0_0
 have HR1_0 := Aside0.mk hr1_0
 have HC1_0 := Aside0.mk hc1_0
 clear hr1_0 hc1_0
 have HB := Aside0.mk (Below.refl w.heap.size w)
 have H : (if a0_1 = a1_1 then (spec_EqualDisks.j0 k ((l0_0.length : Int) != (l1_0.length : Int)) l0_0 a0_1 l1_0 a1_1) else (spec_EqualDisks.j0 k true l0_0 a0_1 l1_0 a1_1)) = some r := h
 clear h
 have HC3 := Aside0.mk H
 clear H
 go_enter Try.func70, Try.ntmps70
 go_upto_region 1 with (first | ((with_reducible refine gate_dst (N := 2) rfl ?_); (try (refine gate_guard (by rfl) ?_; dsimp only)); refine box_event ?hg (N := 2) ?hd (cs := #[.slice A0_0 l0_0.length c0_0, .int .i64 a0_1]) (t := 67) ?hr ?_; (case hd => rfl); (case hg => rfl); (case hr => first | (go_simp; done) | (go_simp; rfl)); intro gb181 hg w4 hbox hb; have n0_ := Aside0.mk (below_step (by repeat (first | (with_reducible first | exact HB.out | apply below_alloc | apply pw_below_drewN | apply below_drew1) | exact HB.out)) hb); have n1_ := Aside0.mk (hbox); have n2_ := Aside0.mk ((by rw [hg]; exact (below_size (by repeat (first | (with_reducible first | exact HB.out | apply below_alloc | apply pw_below_drewN | apply below_drew1) | exact HB.out))) : w.heap.size ≤ gb181)); have n3_ := Aside0.mk ((by rw [hg]; exact (below_size (by repeat (first | (with_reducible first | exact HB.out | apply below_alloc | apply pw_below_drewN | apply below_drew1) | exact HB.out))) : w.heap.size ≤ gb181)); clear HB; have HB := n0_; have BK181 := n1_; have GW181 := n2_; have GE181 := n3_; clear n0_ n1_ n2_ n3_; clear hb hbox hg) | ((with_reducible refine gate_dst (N := 3) rfl ?_); (try (refine gate_guard (by rfl) ?_; dsimp only)); refine box_event ?hg (N := 3) ?hd (cs := #[.slice A1_0 l1_0.length c1_0, .int .i64 a1_1]) (t := 67) ?hr ?_; (case hd => rfl); (case hg => rfl); (case hr => first | (go_simp; done) | (go_simp; rfl)); intro gb182 hg w5 hbox hb; have n0_ := Aside0.mk (blk_below (g := gb181) (o := .cells #[.slice A0_0 l0_0.length c0_0, .int .i64 a0_1] 67 (0, 0)) (by (with_reducible repeat (first | apply bN | apply bD | apply bA)); exact BK181.out) hb); have n1_ := Aside0.mk (below_step (by repeat (first | (with_reducible first | exact HB.out | apply below_alloc | apply pw_below_drewN | apply below_drew1 | refine below_set ?_ GE181.out) | exact HB.out)) hb); have n2_ := Aside0.mk (hbox); have n3_ := Aside0.mk ((by rw [hg]; exact (below_size (by repeat (first | (with_reducible first | exact HB.out | apply below_alloc | apply pw_below_drewN | apply below_drew1 | refine below_set ?_ GE181.out) | exact HB.out))) : w.heap.size ≤ gb182)); have n4_ := Aside0.mk ((by rw [hg]; exact (below_size (by repeat (first | (with_reducible first | exact HB.out | apply below_alloc | apply pw_below_drewN | apply below_drew1 | refine below_set ?_ GE181.out) | exact HB.out))) : w.heap.size ≤ gb182)); have n5_ := Aside0.mk ((by rw [hg]; exact Nat.ne_of_lt (blk_lt (g := gb181) (o := .cells #[.slice A0_0 l0_0.length c0_0, .int .i64 a0_1] 67 (0, 0)) (by (with_reducible repeat (first | apply bN | apply bD | apply bA)); exact BK181.out)) : gb181 ≠ gb182)); have n6_ := Aside0.mk ((by rw [hg]; exact Nat.ne_of_gt (blk_lt (g := gb181) (o := .cells #[.slice A0_0 l0_0.length c0_0, .int .i64 a0_1] 67 (0, 0)) (by (with_reducible repeat (first | apply bN | apply bD | apply bA)); exact BK181.out)) : gb182 ≠ gb181)); clear BK181; clear HB; have BK181 := n0_; have HB := n1_; have BK182 := n2_; have GW182 := n3_; have GE182 := n4_; have NB181_182 := n5_; have NB182_181 := n6_; clear n0_ n1_ n2_ n3_ n4_ n5_ n6_; clear hb hbox hg))
 repeat (go_quiet (first | ((with_reducible refine gate_dst (N := 2) rfl ?_); (try (refine gate_guard (by rfl) ?_; dsimp only)); refine box_event ?hg (N := 2) ?hd (cs := #[.slice A0_0 l0_0.length c0_0, .int .i64 a0_1]) (t := 67) ?hr ?_; (case hd => rfl); (case hg => rfl); (case hr => first | (go_simp; done) | (go_simp; rfl)); intro gb181 hg w4 hbox hb; have n0_ := Aside0.mk (below_step (by repeat (first | (with_reducible first | exact HB.out | apply below_alloc | apply pw_below_drewN | apply below_drew1) | exact HB.out)) hb); have n1_ := Aside0.mk (hbox); have n2_ := Aside0.mk ((by rw [hg]; exact (below_size (by repeat (first | (with_reducible first | exact HB.out | apply below_alloc | apply pw_below_drewN | apply below_drew1) | exact HB.out))) : w.heap.size ≤ gb181)); have n3_ := Aside0.mk ((by rw [hg]; exact (below_size (by repeat (first | (with_reducible first | exact HB.out | apply below_alloc | apply pw_below_drewN | apply below_drew1) | exact HB.out))) : w.heap.size ≤ gb181)); clear HB; have HB := n0_; have BK181 := n1_; have GW181 := n2_; have GE181 := n3_; clear n0_ n1_ n2_ n3_; clear hb hbox hg) | ((with_reducible refine gate_dst (N := 3) rfl ?_); (try (refine gate_guard (by rfl) ?_; dsimp only)); refine box_event ?hg (N := 3) ?hd (cs := #[.slice A1_0 l1_0.length c1_0, .int .i64 a1_1]) (t := 67) ?hr ?_; (case hd => rfl); (case hg => rfl); (case hr => first | (go_simp; done) | (go_simp; rfl)); intro gb182 hg w5 hbox hb; have n0_ := Aside0.mk (blk_below (g := gb181) (o := .cells #[.slice A0_0 l0_0.length c0_0, .int .i64 a0_1] 67 (0, 0)) (by (with_reducible repeat (first | apply bN | apply bD | apply bA)); exact BK181.out) hb); have n1_ := Aside0.mk (below_step (by repeat (first | (with_reducible first | exact HB.out | apply below_alloc | apply pw_below_drewN | apply below_drew1 | refine below_set ?_ GE181.out) | exact HB.out)) hb); have n2_ := Aside0.mk (hbox); have n3_ := Aside0.mk ((by rw [hg]; exact (below_size (by repeat (first | (with_reducible first | exact HB.out | apply below_alloc | apply pw_below_drewN | apply below_drew1 | refine below_set ?_ GE181.out) | exact HB.out))) : w.heap.size ≤ gb182)); have n4_ := Aside0.mk ((by rw [hg]; exact (below_size (by repeat (first | (with_reducible first | exact HB.out | apply below_alloc | apply pw_below_drewN | apply below_drew1 | refine below_set ?_ GE181.out) | exact HB.out))) : w.heap.size ≤ gb182)); have n5_ := Aside0.mk ((by rw [hg]; exact Nat.ne_of_lt (blk_lt (g := gb181) (o := .cells #[.slice A0_0 l0_0.length c0_0, .int .i64 a0_1] 67 (0, 0)) (by (with_reducible repeat (first | apply bN | apply bD | apply bA)); exact BK181.out)) : gb181 ≠ gb182)); have n6_ := Aside0.mk ((by rw [hg]; exact Nat.ne_of_gt (blk_lt (g := gb181) (o := .cells #[.slice A0_0 l0_0.length c0_0, .int .i64 a0_1] 67 (0, 0)) (by (with_reducible repeat (first | apply bN | apply bD | apply bA)); exact BK181.out)) : gb182 ≠ gb181)); clear BK181; clear HB; have BK181 := n0_; have HB := n1_; have BK182 := n2_; have GW182 := n3_; have GE182 := n4_; have NB181_182 := n5_; have NB182_181 := n6_; clear n0_ n1_ n2_ n3_ n4_ n5_ n6_; clear hb hbox hg)); go_upto_region 1 with (first | ((with_reducible refine gate_dst (N := 2) rfl ?_); (try (refine gate_guard (by rfl) ?_; dsimp only)); refine box_event ?hg (N := 2) ?hd (cs := #[.slice A0_0 l0_0.length c0_0, .int .i64 a0_1]) (t := 67) ?hr ?_; (case hd => rfl); (case hg => rfl); (case hr => first | (go_simp; done) | (go_simp; rfl)); intro gb181 hg w4 hbox hb; have n0_ := Aside0.mk (below_step (by repeat (first | (with_reducible first | exact HB.out | apply below_alloc | apply pw_below_drewN | apply below_drew1) | exact HB.out)) hb); have n1_ := Aside0.mk (hbox); have n2_ := Aside0.mk ((by rw [hg]; exact (below_size (by repeat (first | (with_reducible first | exact HB.out | apply below_alloc | apply pw_below_drewN | apply below_drew1) | exact HB.out))) : w.heap.size ≤ gb181)); have n3_ := Aside0.mk ((by rw [hg]; exact (below_size (by repeat (first | (with_reducible first | exact HB.out | apply below_alloc | apply pw_below_drewN | apply below_drew1) | exact HB.out))) : w.heap.size ≤ gb181)); clear HB; have HB := n0_; have BK181 := n1_; have GW181 := n2_; have GE181 := n3_; clear n0_ n1_ n2_ n3_; clear hb hbox hg) | ((with_reducible refine gate_dst (N := 3) rfl ?_); (try (refine gate_guard (by rfl) ?_; dsimp only)); refine box_event ?hg (N := 3) ?hd (cs := #[.slice A1_0 l1_0.length c1_0, .int .i64 a1_1]) (t := 67) ?hr ?_; (case hd => rfl); (case hg => rfl); (case hr => first | (go_simp; done) | (go_simp; rfl)); intro gb182 hg w5 hbox hb; have n0_ := Aside0.mk (blk_below (g := gb181) (o := .cells #[.slice A0_0 l0_0.length c0_0, .int .i64 a0_1] 67 (0, 0)) (by (with_reducible repeat (first | apply bN | apply bD | apply bA)); exact BK181.out) hb); have n1_ := Aside0.mk (below_step (by repeat (first | (with_reducible first | exact HB.out | apply below_alloc | apply pw_below_drewN | apply below_drew1 | refine below_set ?_ GE181.out) | exact HB.out)) hb); have n2_ := Aside0.mk (hbox); have n3_ := Aside0.mk ((by rw [hg]; exact (below_size (by repeat (first | (with_reducible first | exact HB.out | apply below_alloc | apply pw_below_drewN | apply below_drew1 | refine below_set ?_ GE181.out) | exact HB.out))) : w.heap.size ≤ gb182)); have n4_ := Aside0.mk ((by rw [hg]; exact (below_size (by repeat (first | (with_reducible first | exact HB.out | apply below_alloc | apply pw_below_drewN | apply below_drew1 | refine below_set ?_ GE181.out) | exact HB.out))) : w.heap.size ≤ gb182)); have n5_ := Aside0.mk ((by rw [hg]; exact Nat.ne_of_lt (blk_lt (g := gb181) (o := .cells #[.slice A0_0 l0_0.length c0_0, .int .i64 a0_1] 67 (0, 0)) (by (with_reducible repeat (first | apply bN | apply bD | apply bA)); exact BK181.out)) : gb181 ≠ gb182)); have n6_ := Aside0.mk ((by rw [hg]; exact Nat.ne_of_gt (blk_lt (g := gb181) (o := .cells #[.slice A0_0 l0_0.length c0_0, .int .i64 a0_1] 67 (0, 0)) (by (with_reducible repeat (first | apply bN | apply bD | apply bA)); exact BK181.out)) : gb182 ≠ gb181)); clear BK181; clear HB; have BK181 := n0_; have HB := n1_; have BK182 := n2_; have GW182 := n3_; have GE182 := n4_; have NB181_182 := n5_; have NB182_181 := n6_; clear n0_ n1_ n2_ n3_ n4_ n5_ n6_; clear hb hbox hg)))
 (try simp only [Act.put, List.setIfInBounds_toArray, List.set_cons_zero, List.set_cons_succ])
 go_cut [22] (fun v22 wc => ∃ (kq : Nat) (x22_2 : Bool), v22 = .bool x22_2 ∧ Aside0 (spec_EqualDisks.j0 kq x22_2 l0_0 a0_1 l1_0 a1_1 = some r) ∧ Aside0 (kq ≤ k) ∧ Aside0 (wc.heap[gb181]? = some (.cells #[(.slice A0_0 l0_0.length c0_0), .int .i64 a0_1] 67 (0, 0))) ∧ Aside0 (wc.heap[gb182]? = some (.cells #[(.slice A1_0 l1_0.length c1_0), .int .i64 a1_1] 67 (0, 0))) ∧ Aside0 (Below w.heap.size w wc))
 case first =>
  have H := HC3.out
  clear HC3
  by_cases c6 : a0_1 = a1_1
  ·rw [if_pos c6] at H
   have c6b0 : (a0_1 == a1_1) = true := beq_iff_eq.mpr c6
   have c6b1 : (a0_1 != a1_1) = false := bne_eq_false_iff_eq.mpr c6
   clear c6
   (first | rw [c6b0] | (simp only [i64_w, i32_w]; rw [c6b0]) | skip)
   have H' := Aside0.mk H
   clear H
   have hnb7 := NB181_182.out
   have hnc7 := NB182_181.out
   have hcz8_0 : w5.cell? ⟨gb181, 0, none⟩ = some (.slice A0_0 l0_0.length c0_0) := (blk_cell BK181.out 0).trans rfl
   have hcz8_1 : w5.cell? ⟨gb181, 1, none⟩ = some (.int .i64 a0_1) := (blk_cell BK181.out 1).trans rfl
   have hfz8_0 := blk_frozen BK181.out 0
   have hfz8_1 := blk_frozen BK181.out 1
   have hcz9_0 : w5.cell? ⟨gb182, 0, none⟩ = some (.slice A1_0 l1_0.length c1_0) := (blk_cell BK182.out 0).trans rfl
   have hcz9_1 : w5.cell? ⟨gb182, 1, none⟩ = some (.int .i64 a1_1) := (blk_cell BK182.out 1).trans rfl
   have hfz9_0 := blk_frozen BK182.out 0
   have hfz9_1 := blk_frozen BK182.out 1
   go_wp2
   repeat (go_quiet (fail); try go_wp2)
   go_meet
   case rel => exact ⟨_, (((l0_0.length : Int) != (l1_0.length : Int))), (by first | rfl | (simp; done) | (simp [*]; done)), H', ⟨by first | omega | exact Nat.le_refl _⟩, ⟨by (with_reducible repeat (first | apply bN | apply bD | apply bA)); exact BK181.out⟩, ⟨by (with_reducible repeat (first | apply bN | apply bD | apply bA)); exact BK182.out⟩, ⟨by repeat (first | (with_reducible first | exact HB.out | apply below_alloc | apply pw_below_drewN | apply below_drew1 | refine below_set ?_ GE181.out | refine below_set ?_ GE182.out) | exact HB.out)⟩⟩
  ·rw [if_neg c6] at H
   have c6b0 : (a0_1 == a1_1) = false := beq_eq_false_iff_ne.mpr c6
   have c6b1 : (a0_1 != a1_1) = true := bne_iff_ne.mpr c6
   (first | rw [c6b0] | (simp only [i64_w, i32_w]; rw [c6b0]) | skip)
   have H' := Aside0.mk H
   clear H
   have hnb10 := NB181_182.out
   have hnc10 := NB182_181.out
   have hcz11_0 : w5.cell? ⟨gb181, 0, none⟩ = some (.slice A0_0 l0_0.length c0_0) := (blk_cell BK181.out 0).trans rfl
   have hcz11_1 : w5.cell? ⟨gb181, 1, none⟩ = some (.int .i64 a0_1) := (blk_cell BK181.out 1).trans rfl
   have hfz11_0 := blk_frozen BK181.out 0
   have hfz11_1 := blk_frozen BK181.out 1
   have hcz12_0 : w5.cell? ⟨gb182, 0, none⟩ = some (.slice A1_0 l1_0.length c1_0) := (blk_cell BK182.out 0).trans rfl
   have hcz12_1 : w5.cell? ⟨gb182, 1, none⟩ = some (.int .i64 a1_1) := (blk_cell BK182.out 1).trans rfl
   have hfz12_0 := blk_frozen BK182.out 0
   have hfz12_1 := blk_frozen BK182.out 1
   go_wp2
   repeat (go_quiet (fail); try go_wp2)
   go_meet
   case rel => exact ⟨_, (true), (by first | rfl | (simp; done) | (simp [*]; done)), H', ⟨by first | omega | exact Nat.le_refl _⟩, ⟨by (with_reducible repeat (first | apply bN | apply bD | apply bA)); exact BK181.out⟩, ⟨by (with_reducible repeat (first | apply bN | apply bD | apply bA)); exact BK182.out⟩, ⟨by repeat (first | (with_reducible first | exact HB.out | apply below_alloc | apply pw_below_drewN | apply below_drew1 | refine below_set ?_ GE181.out | refine below_set ?_ GE182.out) | exact HB.out)⟩⟩
 case rest =>
  clear HC3
  try clear c1
  try clear p2
  try clear c6
  try clear c6b0
  try clear c6b1
  try clear c7
  try clear c10
  try clear hcz11_0
  try clear hcz11_1
  try clear hcz12_0
  try clear hcz12_1
  try clear hcz8_0
  try clear hcz8_1
  try clear hcz9_0
  try clear hcz9_1
  try clear hfz11_0
  try clear hfz11_1
  try clear hfz12_0
  try clear hfz12_1
  try clear hfz8_0
  try clear hfz8_1
  try clear hfz9_0
  try clear hfz9_1
  obtain ⟨kq, x22_2, rfl, HA, HJ2, BK181, BK182, HB⟩ := hcut
  cases kq with
  | zero => exact absurd HA.out (by simp [spec_EqualDisks.j0])
  | succ kj2 =>
   have H := HA.out
   clear HA
   simp only [spec_EqualDisks.j0] at H
   by_cases c13 : x22_2 = true
   ·subst c13
    have H1 : (some false) = some r := by rw [if_pos rfl] at H; exact H
    clear H
    have H := H1
    clear H1
    obtain rfl := Option.some.inj H
    go_wp2
    repeat (go_quiet (fail); try go_wp2)
    go_ret
    exact ⟨by first | rfl | (simp [errW_none, errW_some] <;> rfl) | (simp [*, errW_none, errW_some] <;> rfl), by repeat (first | (with_reducible first | exact HB.out | apply below_alloc | apply pw_below_drewN | apply below_drew1 | refine below_set ?_ GE181.out | refine below_set ?_ GE182.out) | exact HB.out)⟩
   ·replace c13 := Bool.eq_false_iff.mpr c13
    subst c13
    have H1 : (spec_EqualDisks.l0 kj2 0 l0_0 a0_1 l1_0 a1_1) = some r := by rw [if_neg (show ¬ (false = true) by decide)] at H; exact H
    clear H
    have H := H1
    clear H1
    have H' := Aside0.mk H
    clear H
    go_wp2
    repeat (go_quiet (fail); try go_wp2)
    go_loopg [5] kj2 (fun kq v5 w' => ∃ (x5_2 : Int), v5 = .int .i64 x5_2 ∧ Aside0 (spec_EqualDisks.l0 kq x5_2 l0_0 a0_1 l1_0 a1_1 = some r) ∧ Aside0 (kq ≤ kj2) ∧ Aside0 (w'.heap[gb181]? = some (.cells #[(.slice A0_0 l0_0.length c0_0), .int .i64 a0_1] 67 (0, 0))) ∧ Aside0 (w'.heap[gb182]? = some (.cells #[(.slice A1_0 l1_0.length c1_0), .int .i64 a1_1] 67 (0, 0))) ∧ Aside0 (Below w.heap.size w w'))
    case atStart => exact ⟨(0), (by first | rfl | (simp; done) | (simp [*]; done)), H', ⟨Nat.le_refl _⟩, ⟨by (with_reducible repeat (first | apply bN | apply bD | apply bA)); exact BK181.out⟩, ⟨by (with_reducible repeat (first | apply bN | apply bD | apply bA)); exact BK182.out⟩, ⟨by repeat (first | (with_reducible first | exact HB.out | apply below_alloc | apply pw_below_drewN | apply below_drew1 | refine below_set ?_ GE181.out | refine below_set ?_ GE182.out) | exact HB.out)⟩⟩
    case round =>
     clear H'
     try clear c1
     try clear p2
     try clear c6
     try clear c6b0
     try clear c6b1
     try clear c7
     try clear c10
     try clear c13
     try clear hcz11_0
     try clear hcz11_1
     try clear hcz12_0
     try clear hcz12_1
     try clear hcz8_0
     try clear hcz8_1
     try clear hcz9_0
     try clear hcz9_1
     try clear hfz11_0
     try clear hfz11_1
     try clear hfz12_0
     try clear hfz12_1
     try clear hfz8_0
     try clear hfz8_1
     try clear hfz9_0
     try clear hfz9_1
     try clear p2
     obtain ⟨x5_2, rfl, HA, HK2, BK181, BK182, HB⟩ := hrel
     cases gk with
     | zero => exact absurd HA.out (by simp [spec_EqualDisks.l0])
     | succ k2 =>
      have H := HA.out
      clear HA
      simp only [spec_EqualDisks.l0] at H
      by_cases c14 : x5_2 < (l0_0.length : Int)
      ·rw [if_pos c14] at H
       have c14b0 : decide (x5_2 < (l0_0.length : Int)) = true := decide_eq_true c14
       clear c14
       by_cases c15 : 0 ≤ x5_2
       ·rw [if_pos c15] at H
        have c15b0 : decide (0 ≤ x5_2) = true := decide_eq_true c15
        clear c15
        by_cases c16 : x5_2 < (l1_0.length : Int)
        ·rw [if_pos c16] at H
         have c16b0 : decide (x5_2 < (l1_0.length : Int)) = true := decide_eq_true c16
         clear c16
         have HC17 := Aside0.mk H
         clear H
         have hnb18 := NB181_182.out
         have hnc18 := NB182_181.out
         have hcz19_0 : wr.cell? ⟨gb181, 0, none⟩ = some (.slice A0_0 l0_0.length c0_0) := (blk_cell BK181.out 0).trans rfl
         have hcz19_1 : wr.cell? ⟨gb181, 1, none⟩ = some (.int .i64 a0_1) := (blk_cell BK181.out 1).trans rfl
         have hfz19_0 := blk_frozen BK181.out 0
         have hfz19_1 := blk_frozen BK181.out 1
         have p183 : 0 ≤ (x5_2 : Int) := of_decide_eq_true (by first | (with_reducible assumption) | assumption)
         have q183 : x5_2 < (l0_0.length : Int) := of_decide_eq_true (by first | (with_reducible assumption) | assumption)
         obtain ⟨ad183, A183_1, c183_1, e183, hx183_0, hx183_1, hx183_2, hx183_3, hl183_1, hi183_1⟩ := at_T104 HR0_0.out x5_2 p183 q183
         cases e183
         replace hx183_0 := (HB.out.cell (World.block_lt_of_cell? w _ hx183_0)).trans hx183_0
         replace hx183_1 := (HB.out.cell (World.block_lt_of_cell? w _ hx183_1)).trans hx183_1
         replace hx183_2 := (HB.out.cell (World.block_lt_of_cell? w _ hx183_2)).trans hx183_2
         replace hx183_3 := (HB.out.cell (World.block_lt_of_cell? w _ hx183_3)).trans hx183_3
         have HR183_1 := Aside0.mk hi183_1
         have HC183_1 := Aside0.mk hl183_1
         clear hi183_1 hl183_1
         replace p183 := eq_true p183
         replace q183 := eq_true q183
         go_upto_region 8 with (first | ((with_reducible refine gate_dst (N := 6) rfl ?_); (try (refine gate_guard (by rfl) ?_; dsimp only)); refine box_event ?hg (N := 6) ?hd (cs := #[.int .i64 0, .slice none 0 0, .int .i64 0, .bool false]) (t := 104) ?hr ?_; (case hd => rfl); (case hg => rfl); (case hr => first | (go_simp; done) | (go_simp; rfl)); intro gb184 hg w20 hbox hb; have n0_ := Aside0.mk (blk_below (g := gb181) (o := .cells #[.slice (some ad183) l0_0.length c0_0, .int .i64 a0_1] 67 (0, 0)) (by (with_reducible repeat (first | apply bN | apply bD | apply bA)); exact BK181.out) hb); have n1_ := Aside0.mk (blk_below (g := gb182) (o := .cells #[.slice A1_0 l1_0.length c1_0, .int .i64 a1_1] 67 (0, 0)) (by (with_reducible repeat (first | apply bN | apply bD | apply bA)); exact BK182.out) hb); have n2_ := Aside0.mk (below_step (by repeat (first | (with_reducible first | exact HB.out | apply below_alloc | apply pw_below_drewN | apply below_drew1 | refine below_set ?_ GE181.out | refine below_set ?_ GE182.out) | exact HB.out)) hb); have n3_ := Aside0.mk (hbox); have n4_ := Aside0.mk ((by rw [hg]; exact (below_size (by repeat (first | (with_reducible first | exact HB.out | apply below_alloc | apply pw_below_drewN | apply below_drew1 | refine below_set ?_ GE181.out | refine below_set ?_ GE182.out) | exact HB.out))) : w.heap.size ≤ gb184)); have n5_ := Aside0.mk ((by rw [hg]; exact (below_size (by repeat (first | (with_reducible first | exact HB.out | apply below_alloc | apply pw_below_drewN | apply below_drew1 | refine below_set ?_ GE181.out | refine below_set ?_ GE182.out) | exact HB.out))) : w.heap.size ≤ gb184)); have n6_ := Aside0.mk ((by rw [hg]; exact Nat.ne_of_lt (blk_lt (g := gb181) (o := .cells #[.slice (some ad183) l0_0.length c0_0, .int .i64 a0_1] 67 (0, 0)) (by (with_reducible repeat (first | apply bN | apply bD | apply bA)); exact BK181.out)) : gb181 ≠ gb184)); have n7_ := Aside0.mk ((by rw [hg]; exact Nat.ne_of_gt (blk_lt (g := gb181) (o := .cells #[.slice (some ad183) l0_0.length c0_0, .int .i64 a0_1] 67 (0, 0)) (by (with_reducible repeat (first | apply bN | apply bD | apply bA)); exact BK181.out)) : gb184 ≠ gb181)); have n8_ := Aside0.mk ((by rw [hg]; exact Nat.ne_of_lt (blk_lt (g := gb182) (o := .cells #[.slice A1_0 l1_0.length c1_0, .int .i64 a1_1] 67 (0, 0)) (by (with_reducible repeat (first | apply bN | apply bD | apply bA)); exact BK182.out)) : gb182 ≠ gb184)); have n9_ := Aside0.mk ((by rw [hg]; exact Nat.ne_of_gt (blk_lt (g := gb182) (o := .cells #[.slice A1_0 l1_0.length c1_0, .int .i64 a1_1] 67 (0, 0)) (by (with_reducible repeat (first | apply bN | apply bD | apply bA)); exact BK182.out)) : gb184 ≠ gb182)); clear BK181; clear BK182; clear HB; have BK181 := n0_; have BK182 := n1_; have HB := n2_; have BK184 := n3_; have GW184 := n4_; have GE184 := n5_; have NB181_184 := n6_; have NB184_181 := n7_; have NB182_184 := n8_; have NB184_182 := n9_; clear n0_ n1_ n2_ n3_ n4_ n5_ n6_ n7_ n8_ n9_; clear hb hbox hg; have hnb21 := NB184_181.out; have hnc21 := NB181_184.out; have hnb22 := NB184_182.out; have hnc22 := NB182_184.out; have hcz23_0 : w20.cell? ⟨gb184, 0, none⟩ = some (.int .i64 0) := (blk_cell BK184.out 0).trans rfl; have hcz23_1 : w20.cell? ⟨gb184, 1, none⟩ = some (.slice none 0 0) := (blk_cell BK184.out 1).trans rfl; have hcz23_2 : w20.cell? ⟨gb184, 2, none⟩ = some (.int .i64 0) := (blk_cell BK184.out 2).trans rfl; have hcz23_3 : w20.cell? ⟨gb184, 3, none⟩ = some (.bool false) := (blk_cell BK184.out 3).trans rfl; have hfz23_0 := blk_frozen BK184.out 0; have hfz23_1 := blk_frozen BK184.out 1; have hfz23_2 := blk_frozen BK184.out 2; have hfz23_3 := blk_frozen BK184.out 3; have hcz24_0 : w20.cell? ⟨gb182, 0, none⟩ = some (.slice A1_0 l1_0.length c1_0) := (blk_cell BK182.out 0).trans rfl; have hcz24_1 : w20.cell? ⟨gb182, 1, none⟩ = some (.int .i64 a1_1) := (blk_cell BK182.out 1).trans rfl; have hfz24_0 := blk_frozen BK182.out 0; have hfz24_1 := blk_frozen BK182.out 1; have p185 : 0 ≤ (x5_2 : Int) := of_decide_eq_true (by first | (with_reducible assumption) | assumption); have q185 : x5_2 < (l1_0.length : Int) := of_decide_eq_true (by first | (with_reducible assumption) | assumption); obtain ⟨ad185, A185_1, c185_1, e185, hx185_0, hx185_1, hx185_2, hx185_3, hl185_1, hi185_1⟩ := at_T104 HR1_0.out x5_2 p185 q185; cases e185; have hn185_0 : ad185.block ≠ gb184 := Nat.ne_of_lt (Nat.lt_of_lt_of_le (by have := World.block_lt_of_cell? _ _ hx185_0; first | rwa [add_block] at this | exact this) GW184.out); have hn185_1 : ad185.block ≠ gb184 := Nat.ne_of_lt (Nat.lt_of_lt_of_le (by have := World.block_lt_of_cell? _ _ hx185_0; first | rwa [add_block] at this | exact this) GW184.out); have hn185_2 : ad185.block ≠ gb184 := Nat.ne_of_lt (Nat.lt_of_lt_of_le (by have := World.block_lt_of_cell? _ _ hx185_0; first | rwa [add_block] at this | exact this) GW184.out); have hn185_3 : ad185.block ≠ gb184 := Nat.ne_of_lt (Nat.lt_of_lt_of_le (by have := World.block_lt_of_cell? _ _ hx185_0; first | rwa [add_block] at this | exact this) GW184.out); replace hx185_0 := (HB.out.cell (World.block_lt_of_cell? w _ hx185_0)).trans hx185_0; replace hx185_1 := (HB.out.cell (World.block_lt_of_cell? w _ hx185_1)).trans hx185_1; replace hx185_2 := (HB.out.cell (World.block_lt_of_cell? w _ hx185_2)).trans hx185_2; replace hx185_3 := (HB.out.cell (World.block_lt_of_cell? w _ hx185_3)).trans hx185_3; have HR185_1 := Aside0.mk hi185_1; have HC185_1 := Aside0.mk hl185_1; clear hi185_1 hl185_1; replace hx185_0 := (cell_far (p := ⟨gb184, 0, none⟩) (by first | (rw [add_block]; exact hn185_0) | (show (Addr.add _ _).block ≠ _; rw [add_block]; exact hn185_0) | exact hn185_0) (.int .i64 ((rd_T104 l0_0 x5_2).f0))).trans hx185_0; replace hx185_1 := (cell_far (p := ⟨gb184, 0, none⟩) (by first | (rw [add_block]; exact hn185_0) | (show (Addr.add _ _).block ≠ _; rw [add_block]; exact hn185_0) | exact hn185_0) (.int .i64 ((rd_T104 l0_0 x5_2).f0))).trans hx185_1; replace hx185_2 := (cell_far (p := ⟨gb184, 0, none⟩) (by first | (rw [add_block]; exact hn185_0) | (show (Addr.add _ _).block ≠ _; rw [add_block]; exact hn185_0) | exact hn185_0) (.int .i64 ((rd_T104 l0_0 x5_2).f0))).trans hx185_2; replace hx185_3 := (cell_far (p := ⟨gb184, 0, none⟩) (by first | (rw [add_block]; exact hn185_0) | (show (Addr.add _ _).block ≠ _; rw [add_block]; exact hn185_0) | exact hn185_0) (.int .i64 ((rd_T104 l0_0 x5_2).f0))).trans hx185_3; replace hx185_0 := (cell_far (p := ⟨gb184, 1, none⟩) (by first | (rw [add_block]; exact hn185_1) | (show (Addr.add _ _).block ≠ _; rw [add_block]; exact hn185_1) | exact hn185_1) (.slice A183_1 ((rd_T104 l0_0 x5_2).f1).length c183_1)).trans hx185_0; replace hx185_1 := (cell_far (p := ⟨gb184, 1, none⟩) (by first | (rw [add_block]; exact hn185_1) | (show (Addr.add _ _).block ≠ _; rw [add_block]; exact hn185_1) | exact hn185_1) (.slice A183_1 ((rd_T104 l0_0 x5_2).f1).length c183_1)).trans hx185_1; replace hx185_2 := (cell_far (p := ⟨gb184, 1, none⟩) (by first | (rw [add_block]; exact hn185_1) | (show (Addr.add _ _).block ≠ _; rw [add_block]; exact hn185_1) | exact hn185_1) (.slice A183_1 ((rd_T104 l0_0 x5_2).f1).length c183_1)).trans hx185_2; replace hx185_3 := (cell_far (p := ⟨gb184, 1, none⟩) (by first | (rw [add_block]; exact hn185_1) | (show (Addr.add _ _).block ≠ _; rw [add_block]; exact hn185_1) | exact hn185_1) (.slice A183_1 ((rd_T104 l0_0 x5_2).f1).length c183_1)).trans hx185_3; replace hx185_0 := (cell_far (p := ⟨gb184, 2, none⟩) (by first | (rw [add_block]; exact hn185_2) | (show (Addr.add _ _).block ≠ _; rw [add_block]; exact hn185_2) | exact hn185_2) (.int .i64 ((rd_T104 l0_0 x5_2).f2))).trans hx185_0; replace hx185_1 := (cell_far (p := ⟨gb184, 2, none⟩) (by first | (rw [add_block]; exact hn185_2) | (show (Addr.add _ _).block ≠ _; rw [add_block]; exact hn185_2) | exact hn185_2) (.int .i64 ((rd_T104 l0_0 x5_2).f2))).trans hx185_1; replace hx185_2 := (cell_far (p := ⟨gb184, 2, none⟩) (by first | (rw [add_block]; exact hn185_2) | (show (Addr.add _ _).block ≠ _; rw [add_block]; exact hn185_2) | exact hn185_2) (.int .i64 ((rd_T104 l0_0 x5_2).f2))).trans hx185_2; replace hx185_3 := (cell_far (p := ⟨gb184, 2, none⟩) (by first | (rw [add_block]; exact hn185_2) | (show (Addr.add _ _).block ≠ _; rw [add_block]; exact hn185_2) | exact hn185_2) (.int .i64 ((rd_T104 l0_0 x5_2).f2))).trans hx185_3; replace hx185_0 := (cell_far (p := ⟨gb184, 3, none⟩) (by first | (rw [add_block]; exact hn185_3) | (show (Addr.add _ _).block ≠ _; rw [add_block]; exact hn185_3) | exact hn185_3) (.bool ((rd_T104 l0_0 x5_2).f3))).trans hx185_0; replace hx185_1 := (cell_far (p := ⟨gb184, 3, none⟩) (by first | (rw [add_block]; exact hn185_3) | (show (Addr.add _ _).block ≠ _; rw [add_block]; exact hn185_3) | exact hn185_3) (.bool ((rd_T104 l0_0 x5_2).f3))).trans hx185_1; replace hx185_2 := (cell_far (p := ⟨gb184, 3, none⟩) (by first | (rw [add_block]; exact hn185_3) | (show (Addr.add _ _).block ≠ _; rw [add_block]; exact hn185_3) | exact hn185_3) (.bool ((rd_T104 l0_0 x5_2).f3))).trans hx185_2; replace hx185_3 := (cell_far (p := ⟨gb184, 3, none⟩) (by first | (rw [add_block]; exact hn185_3) | (show (Addr.add _ _).block ≠ _; rw [add_block]; exact hn185_3) | exact hn185_3) (.bool ((rd_T104 l0_0 x5_2).f3))).trans hx185_3; (try have hy185_0 := fun (n_ : Nat) => (show ((((((w20.drewN n_).setCell ⟨gb184, 0, none⟩ (.int .i64 ((rd_T104 l0_0 x5_2).f0))).setCell ⟨gb184, 1, none⟩ (.slice A183_1 ((rd_T104 l0_0 x5_2).f1).length c183_1)).setCell ⟨gb184, 2, none⟩ (.int .i64 ((rd_T104 l0_0 x5_2).f2))).setCell ⟨gb184, 3, none⟩ (.bool ((rd_T104 l0_0 x5_2).f3)))).cell? _ = some _ from hx185_0)); (try have hy185_1 := fun (n_ : Nat) => (show ((((((w20.drewN n_).setCell ⟨gb184, 0, none⟩ (.int .i64 ((rd_T104 l0_0 x5_2).f0))).setCell ⟨gb184, 1, none⟩ (.slice A183_1 ((rd_T104 l0_0 x5_2).f1).length c183_1)).setCell ⟨gb184, 2, none⟩ (.int .i64 ((rd_T104 l0_0 x5_2).f2))).setCell ⟨gb184, 3, none⟩ (.bool ((rd_T104 l0_0 x5_2).f3)))).cell? _ = some _ from hx185_1)); (try have hy185_2 := fun (n_ : Nat) => (show ((((((w20.drewN n_).setCell ⟨gb184, 0, none⟩ (.int .i64 ((rd_T104 l0_0 x5_2).f0))).setCell ⟨gb184, 1, none⟩ (.slice A183_1 ((rd_T104 l0_0 x5_2).f1).length c183_1)).setCell ⟨gb184, 2, none⟩ (.int .i64 ((rd_T104 l0_0 x5_2).f2))).setCell ⟨gb184, 3, none⟩ (.bool ((rd_T104 l0_0 x5_2).f3)))).cell? _ = some _ from hx185_2)); (try have hy185_3 := fun (n_ : Nat) => (show ((((((w20.drewN n_).setCell ⟨gb184, 0, none⟩ (.int .i64 ((rd_T104 l0_0 x5_2).f0))).setCell ⟨gb184, 1, none⟩ (.slice A183_1 ((rd_T104 l0_0 x5_2).f1).length c183_1)).setCell ⟨gb184, 2, none⟩ (.int .i64 ((rd_T104 l0_0 x5_2).f2))).setCell ⟨gb184, 3, none⟩ (.bool ((rd_T104 l0_0 x5_2).f3)))).cell? _ = some _ from hx185_3)); clear hn185_0; clear hn185_1; clear hn185_2; clear hn185_3; replace p185 := eq_true p185; replace q185 := eq_true q185) | ((with_reducible refine gate_dst (N := 7) rfl ?_); (try (refine gate_guard (by rfl) ?_; dsimp only)); refine box_event ?hg (N := 7) ?hd (cs := #[.int .i64 0, .slice none 0 0, .int .i64 0, .bool false]) (t := 104) ?hr ?_; (case hd => rfl); (case hg => rfl); (case hr => first | (go_simp; done) | (go_simp; rfl)); intro gb186 hg w25 hbox hb; have n0_ := Aside0.mk (blk_below (g := gb181) (o := .cells #[.slice (some ad183) l0_0.length c0_0, .int .i64 a0_1] 67 (0, 0)) (by (with_reducible repeat (first | apply bN | apply bD | apply bA)); refine blk_far ?_ NB181_184.out _; (with_reducible repeat (first | apply bN | apply bD | apply bA)); refine blk_far ?_ NB181_184.out _; (with_reducible repeat (first | apply bN | apply bD | apply bA)); refine blk_far ?_ NB181_184.out _; (with_reducible repeat (first | apply bN | apply bD | apply bA)); refine blk_far ?_ NB181_184.out _; (with_reducible repeat (first | apply bN | apply bD | apply bA)); exact BK181.out) hb); have n1_ := Aside0.mk (blk_below (g := gb182) (o := .cells #[.slice (some ad185) l1_0.length c1_0, .int .i64 a1_1] 67 (0, 0)) (by (with_reducible repeat (first | apply bN | apply bD | apply bA)); refine blk_far ?_ NB182_184.out _; (with_reducible repeat (first | apply bN | apply bD | apply bA)); refine blk_far ?_ NB182_184.out _; (with_reducible repeat (first | apply bN | apply bD | apply bA)); refine blk_far ?_ NB182_184.out _; (with_reducible repeat (first | apply bN | apply bD | apply bA)); refine blk_far ?_ NB182_184.out _; (with_reducible repeat (first | apply bN | apply bD | apply bA)); exact BK182.out) hb); have n2_ := Aside0.mk (blk_below (g := gb184) (o := .cells #[.int .i64 ((rd_T104 l0_0 x5_2).f0), .slice A183_1 ((rd_T104 l0_0 x5_2).f1).length c183_1, .int .i64 ((rd_T104 l0_0 x5_2).f2), .bool ((rd_T104 l0_0 x5_2).f3)] 104 (0, 0)) (by (with_reducible repeat (first | apply bN | apply bD | apply bA)); refine blk_put (cs := #[.int .i64 ((rd_T104 l0_0 x5_2).f0), .slice A183_1 ((rd_T104 l0_0 x5_2).f1).length c183_1, .int .i64 ((rd_T104 l0_0 x5_2).f2), .bool false]) ?_ 3 _ rfl; (with_reducible repeat (first | apply bN | apply bD | apply bA)); refine blk_put (cs := #[.int .i64 ((rd_T104 l0_0 x5_2).f0), .slice A183_1 ((rd_T104 l0_0 x5_2).f1).length c183_1, .int .i64 0, .bool false]) ?_ 2 _ rfl; (with_reducible repeat (first | apply bN | apply bD | apply bA)); refine blk_put (cs := #[.int .i64 ((rd_T104 l0_0 x5_2).f0), .slice none 0 0, .int .i64 0, .bool false]) ?_ 1 _ rfl; (with_reducible repeat (first | apply bN | apply bD | apply bA)); refine blk_put (cs := #[.int .i64 0, .slice none 0 0, .int .i64 0, .bool false]) ?_ 0 _ rfl; (with_reducible repeat (first | apply bN | apply bD | apply bA)); exact BK184.out) hb); have n3_ := Aside0.mk (below_step (by repeat (first | (with_reducible first | exact HB.out | apply below_alloc | apply pw_below_drewN | apply below_drew1 | refine below_set ?_ GE181.out | refine below_set ?_ GE182.out | refine below_set ?_ GE184.out) | exact HB.out)) hb); have n4_ := Aside0.mk (hbox); have n5_ := Aside0.mk ((by rw [hg]; exact (below_size (by repeat (first | (with_reducible first | exact HB.out | apply below_alloc | apply pw_below_drewN | apply below_drew1 | refine below_set ?_ GE181.out | refine below_set ?_ GE182.out | refine below_set ?_ GE184.out) | exact HB.out))) : w.heap.size ≤ gb186)); have n6_ := Aside0.mk ((by rw [hg]; exact (below_size (by repeat (first | (with_reducible first | exact HB.out | apply below_alloc | apply pw_below_drewN | apply below_drew1 | refine below_set ?_ GE181.out | refine below_set ?_ GE182.out | refine below_set ?_ GE184.out) | exact HB.out))) : w.heap.size ≤ gb186)); have n7_ := Aside0.mk ((by rw [hg]; exact Nat.ne_of_lt (blk_lt (g := gb181) (o := .cells #[.slice (some ad183) l0_0.length c0_0, .int .i64 a0_1] 67 (0, 0)) (by (with_reducible repeat (first | apply bN | apply bD | apply bA)); refine blk_far ?_ NB181_184.out _; (with_reducible repeat (first | apply bN | apply bD | apply bA)); refine blk_far ?_ NB181_184.out _; (with_reducible repeat (first | apply bN | apply bD | apply bA)); refine blk_far ?_ NB181_184.out _; (with_reducible repeat (first | apply bN | apply bD | apply bA)); refine blk_far ?_ NB181_184.out _; (with_reducible repeat (first | apply bN | apply bD | apply bA)); exact BK181.out)) : gb181 ≠ gb186)); have n8_ := Aside0.mk ((by rw [hg]; exact Nat.ne_of_gt (blk_lt (g := gb181) (o := .cells #[.slice (some ad183) l0_0.length c0_0, .int .i64 a0_1] 67 (0, 0)) (by (with_reducible repeat (first | apply bN | apply bD | apply bA)); refine blk_far ?_ NB181_184.out _; (with_reducible repeat (first | apply bN | apply bD | apply bA)); refine blk_far ?_ NB181_184.out _; (with_reducible repeat (first | apply bN | apply bD | apply bA)); refine blk_far ?_ NB181_184.out _; (with_reducible repeat (first | apply bN | apply bD | apply bA)); refine blk_far ?_ NB181_184.out _; (with_reducible repeat (first | apply bN | apply bD | apply bA)); exact BK181.out)) : gb186 ≠ gb181)); have n9_ := Aside0.mk ((by rw [hg]; exact Nat.ne_of_lt (blk_lt (g := gb182) (o := .cells #[.slice (some ad185) l1_0.length c1_0, .int .i64 a1_1] 67 (0, 0)) (by (with_reducible repeat (first | apply bN | apply bD | apply bA)); refine blk_far ?_ NB182_184.out _; (with_reducible repeat (first | apply bN | apply bD | apply bA)); refine blk_far ?_ NB182_184.out _; (with_reducible repeat (first | apply bN | apply bD | apply bA)); refine blk_far ?_ NB182_184.out _; (with_reducible repeat (first | apply bN | apply bD | apply bA)); refine blk_far ?_ NB182_184.out _; (with_reducible repeat (first | apply bN | apply bD | apply bA)); exact BK182.out)) : gb182 ≠ gb186)); have n10_ := Aside0.mk ((by rw [hg]; exact Nat.ne_of_gt (blk_lt (g := gb182) (o := .cells #[.slice (some ad185) l1_0.length c1_0, .int .i64 a1_1] 67 (0, 0)) (by (with_reducible repeat (first | apply bN | apply bD | apply bA)); refine blk_far ?_ NB182_184.out _; (with_reducible repeat (first | apply bN | apply bD | apply bA)); refine blk_far ?_ NB182_184.out _; (with_reducible repeat (first | apply bN | apply bD | apply bA)); refine blk_far ?_ NB182_184.out _; (with_reducible repeat (first | apply bN | apply bD | apply bA)); refine blk_far ?_ NB182_184.out _; (with_reducible repeat (first | apply bN | apply bD | apply bA)); exact BK182.out)) : gb186 ≠ gb182)); have n11_ := Aside0.mk ((by rw [hg]; exact Nat.ne_of_lt (blk_lt (g := gb184) (o := .cells #[.int .i64 ((rd_T104 l0_0 x5_2).f0), .slice A183_1 ((rd_T104 l0_0 x5_2).f1).length c183_1, .int .i64 ((rd_T104 l0_0 x5_2).f2), .bool ((rd_T104 l0_0 x5_2).f3)] 104 (0, 0)) (by (with_reducible repeat (first | apply bN | apply bD | apply bA)); refine blk_put (cs := #[.int .i64 ((rd_T104 l0_0 x5_2).f0), .slice A183_1 ((rd_T104 l0_0 x5_2).f1).length c183_1, .int .i64 ((rd_T104 l0_0 x5_2).f2), .bool false]) ?_ 3 _ rfl; (with_reducible repeat (first | apply bN | apply bD | apply bA)); refine blk_put (cs := #[.int .i64 ((rd_T104 l0_0 x5_2).f0), .slice A183_1 ((rd_T104 l0_0 x5_2).f1).length c183_1, .int .i64 0, .bool false]) ?_ 2 _ rfl; (with_reducible repeat (first | apply bN | apply bD | apply bA)); refine blk_put (cs := #[.int .i64 ((rd_T104 l0_0 x5_2).f0), .slice none 0 0, .int .i64 0, .bool false]) ?_ 1 _ rfl; (with_reducible repeat (first | apply bN | apply bD | apply bA)); refine blk_put (cs := #[.int .i64 0, .slice none 0 0, .int .i64 0, .bool false]) ?_ 0 _ rfl; (with_reducible repeat (first | apply bN | apply bD | apply bA)); exact BK184.out)) : gb184 ≠ gb186)); have n12_ := Aside0.mk ((by rw [hg]; exact Nat.ne_of_gt (blk_lt (g := gb184) (o := .cells #[.int .i64 ((rd_T104 l0_0 x5_2).f0), .slice A183_1 ((rd_T104 l0_0 x5_2).f1).length c183_1, .int .i64 ((rd_T104 l0_0 x5_2).f2), .bool ((rd_T104 l0_0 x5_2).f3)] 104 (0, 0)) (by (with_reducible repeat (first | apply bN | apply bD | apply bA)); refine blk_put (cs := #[.int .i64 ((rd_T104 l0_0 x5_2).f0), .slice A183_1 ((rd_T104 l0_0 x5_2).f1).length c183_1, .int .i64 ((rd_T104 l0_0 x5_2).f2), .bool false]) ?_ 3 _ rfl; (with_reducible repeat (first | apply bN | apply bD | apply bA)); refine blk_put (cs := #[.int .i64 ((rd_T104 l0_0 x5_2).f0), .slice A183_1 ((rd_T104 l0_0 x5_2).f1).length c183_1, .int .i64 0, .bool false]) ?_ 2 _ rfl; (with_reducible repeat (first | apply bN | apply bD | apply bA)); refine blk_put (cs := #[.int .i64 ((rd_T104 l0_0 x5_2).f0), .slice none 0 0, .int .i64 0, .bool false]) ?_ 1 _ rfl; (with_reducible repeat (first | apply bN | apply bD | apply bA)); refine blk_put (cs := #[.int .i64 0, .slice none 0 0, .int .i64 0, .bool false]) ?_ 0 _ rfl; (with_reducible repeat (first | apply bN | apply bD | apply bA)); exact BK184.out)) : gb186 ≠ gb184)); clear BK181; clear BK182; clear BK184; clear HB; have BK181 := n0_; have BK182 := n1_; have BK184 := n2_; have HB := n3_; have BK186 := n4_; have GW186 := n5_; have GE186 := n6_; have NB181_186 := n7_; have NB186_181 := n8_; have NB182_186 := n9_; have NB186_182 := n10_; have NB184_186 := n11_; have NB186_184 := n12_; clear n0_ n1_ n2_ n3_ n4_ n5_ n6_ n7_ n8_ n9_ n10_ n11_ n12_; clear hb hbox hg; have hnb26 := NB186_181.out; have hnc26 := NB181_186.out; have hnb27 := NB186_182.out; have hnc27 := NB182_186.out; have hnb28 := NB186_184.out; have hnc28 := NB184_186.out; have hcz29_0 : w25.cell? ⟨gb186, 0, none⟩ = some (.int .i64 0) := (blk_cell BK186.out 0).trans rfl; have hcz29_1 : w25.cell? ⟨gb186, 1, none⟩ = some (.slice none 0 0) := (blk_cell BK186.out 1).trans rfl; have hcz29_2 : w25.cell? ⟨gb186, 2, none⟩ = some (.int .i64 0) := (blk_cell BK186.out 2).trans rfl; have hcz29_3 : w25.cell? ⟨gb186, 3, none⟩ = some (.bool false) := (blk_cell BK186.out 3).trans rfl; have hfz29_0 := blk_frozen BK186.out 0; have hfz29_1 := blk_frozen BK186.out 1; have hfz29_2 := blk_frozen BK186.out 2; have hfz29_3 := blk_frozen BK186.out 3))
         repeat (go_quiet (first | ((with_reducible refine gate_dst (N := 6) rfl ?_); (try (refine gate_guard (by rfl) ?_; dsimp only)); refine box_event ?hg (N := 6) ?hd (cs := #[.int .i64 0, .slice none 0 0, .int .i64 0, .bool false]) (t := 104) ?hr ?_; (case hd => rfl); (case hg => rfl); (case hr => first | (go_simp; done) | (go_simp; rfl)); intro gb184 hg w20 hbox hb; have n0_ := Aside0.mk (blk_below (g := gb181) (o := .cells #[.slice (some ad183) l0_0.length c0_0, .int .i64 a0_1] 67 (0, 0)) (by (with_reducible repeat (first | apply bN | apply bD | apply bA)); exact BK181.out) hb); have n1_ := Aside0.mk (blk_below (g := gb182) (o := .cells #[.slice A1_0 l1_0.length c1_0, .int .i64 a1_1] 67 (0, 0)) (by (with_reducible repeat (first | apply bN | apply bD | apply bA)); exact BK182.out) hb); have n2_ := Aside0.mk (below_step (by repeat (first | (with_reducible first | exact HB.out | apply below_alloc | apply pw_below_drewN | apply below_drew1 | refine below_set ?_ GE181.out | refine below_set ?_ GE182.out) | exact HB.out)) hb); have n3_ := Aside0.mk (hbox); have n4_ := Aside0.mk ((by rw [hg]; exact (below_size (by repeat (first | (with_reducible first | exact HB.out | apply below_alloc | apply pw_below_drewN | apply below_drew1 | refine below_set ?_ GE181.out | refine below_set ?_ GE182.out) | exact HB.out))) : w.heap.size ≤ gb184)); have n5_ := Aside0.mk ((by rw [hg]; exact (below_size (by repeat (first | (with_reducible first | exact HB.out | apply below_alloc | apply pw_below_drewN | apply below_drew1 | refine below_set ?_ GE181.out | refine below_set ?_ GE182.out) | exact HB.out))) : w.heap.size ≤ gb184)); have n6_ := Aside0.mk ((by rw [hg]; exact Nat.ne_of_lt (blk_lt (g := gb181) (o := .cells #[.slice (some ad183) l0_0.length c0_0, .int .i64 a0_1] 67 (0, 0)) (by (with_reducible repeat (first | apply bN | apply bD | apply bA)); exact BK181.out)) : gb181 ≠ gb184)); have n7_ := Aside0.mk ((by rw [hg]; exact Nat.ne_of_gt (blk_lt (g := gb181) (o := .cells #[.slice (some ad183) l0_0.length c0_0, .int .i64 a0_1] 67 (0, 0)) (by (with_reducible repeat (first | apply bN | apply bD | apply bA)); exact BK181.out)) : gb184 ≠ gb181)); have n8_ := Aside0.mk ((by rw [hg]; exact Nat.ne_of_lt (blk_lt (g := gb182) (o := .cells #[.slice A1_0 l1_0.length c1_0, .int .i64 a1_1] 67 (0, 0)) (by (with_reducible repeat (first | apply bN | apply bD | apply bA)); exact BK182.out)) : gb182 ≠ gb184)); have n9_ := Aside0.mk ((by rw [hg]; exact Nat.ne_of_gt (blk_lt (g := gb182) (o := .cells #[.slice A1_0 l1_0.length c1_0, .int .i64 a1_1] 67 (0, 0)) (by (with_reducible repeat (first | apply bN | apply bD | apply bA)); exact BK182.out)) : gb184 ≠ gb182)); clear BK181; clear BK182; clear HB; have BK181 := n0_; have BK182 := n1_; have HB := n2_; have BK184 := n3_; have GW184 := n4_; have GE184 := n5_; have NB181_184 := n6_; have NB184_181 := n7_; have NB182_184 := n8_; have NB184_182 := n9_; clear n0_ n1_ n2_ n3_ n4_ n5_ n6_ n7_ n8_ n9_; clear hb hbox hg; have hnb21 := NB184_181.out; have hnc21 := NB181_184.out; have hnb22 := NB184_182.out; have hnc22 := NB182_184.out; have hcz23_0 : w20.cell? ⟨gb184, 0, none⟩ = some (.int .i64 0) := (blk_cell BK184.out 0).trans rfl; have hcz23_1 : w20.cell? ⟨gb184, 1, none⟩ = some (.slice none 0 0) := (blk_cell BK184.out 1).trans rfl; have hcz23_2 : w20.cell? ⟨gb184, 2, none⟩ = some (.int .i64 0) := (blk_cell BK184.out 2).trans rfl; have hcz23_3 : w20.cell? ⟨gb184, 3, none⟩ = some (.bool false) := (blk_cell BK184.out 3).trans rfl; have hfz23_0 := blk_frozen BK184.out 0; have hfz23_1 := blk_frozen BK184.out 1; have hfz23_2 := blk_frozen BK184.out 2; have hfz23_3 := blk_frozen BK184.out 3; have hcz24_0 : w20.cell? ⟨gb182, 0, none⟩ = some (.slice A1_0 l1_0.length c1_0) := (blk_cell BK182.out 0).trans rfl; have hcz24_1 : w20.cell? ⟨gb182, 1, none⟩ = some (.int .i64 a1_1) := (blk_cell BK182.out 1).trans rfl; have hfz24_0 := blk_frozen BK182.out 0; have hfz24_1 := blk_frozen BK182.out 1; have p185 : 0 ≤ (x5_2 : Int) := of_decide_eq_true (by first | (with_reducible assumption) | assumption); have q185 : x5_2 < (l1_0.length : Int) := of_decide_eq_true (by first | (with_reducible assumption) | assumption); obtain ⟨ad185, A185_1, c185_1, e185, hx185_0, hx185_1, hx185_2, hx185_3, hl185_1, hi185_1⟩ := at_T104 HR1_0.out x5_2 p185 q185; cases e185; have hn185_0 : ad185.block ≠ gb184 := Nat.ne_of_lt (Nat.lt_of_lt_of_le (by have := World.block_lt_of_cell? _ _ hx185_0; first | rwa [add_block] at this | exact this) GW184.out); have hn185_1 : ad185.block ≠ gb184 := Nat.ne_of_lt (Nat.lt_of_lt_of_le (by have := World.block_lt_of_cell? _ _ hx185_0; first | rwa [add_block] at this | exact this) GW184.out); have hn185_2 : ad185.block ≠ gb184 := Nat.ne_of_lt (Nat.lt_of_lt_of_le (by have := World.block_lt_of_cell? _ _ hx185_0; first | rwa [add_block] at this | exact this) GW184.out); have hn185_3 : ad185.block ≠ gb184 := Nat.ne_of_lt (Nat.lt_of_lt_of_le (by have := World.block_lt_of_cell? _ _ hx185_0; first | rwa [add_block] at this | exact this) GW184.out); replace hx185_0 := (HB.out.cell (World.block_lt_of_cell? w _ hx185_0)).trans hx185_0; replace hx185_1 := (HB.out.cell (World.block_lt_of_cell? w _ hx185_1)).trans hx185_1; replace hx185_2 := (HB.out.cell (World.block_lt_of_cell? w _ hx185_2)).trans hx185_2; replace hx185_3 := (HB.out.cell (World.block_lt_of_cell? w _ hx185_3)).trans hx185_3; have HR185_1 := Aside0.mk hi185_1; have HC185_1 := Aside0.mk hl185_1; clear hi185_1 hl185_1; replace hx185_0 := (cell_far (p := ⟨gb184, 0, none⟩) (by first | (rw [add_block]; exact hn185_0) | (show (Addr.add _ _).block ≠ _; rw [add_block]; exact hn185_0) | exact hn185_0) (.int .i64 ((rd_T104 l0_0 x5_2).f0))).trans hx185_0; replace hx185_1 := (cell_far (p := ⟨gb184, 0, none⟩) (by first | (rw [add_block]; exact hn185_0) | (show (Addr.add _ _).block ≠ _; rw [add_block]; exact hn185_0) | exact hn185_0) (.int .i64 ((rd_T104 l0_0 x5_2).f0))).trans hx185_1; replace hx185_2 := (cell_far (p := ⟨gb184, 0, none⟩) (by first | (rw [add_block]; exact hn185_0) | (show (Addr.add _ _).block ≠ _; rw [add_block]; exact hn185_0) | exact hn185_0) (.int .i64 ((rd_T104 l0_0 x5_2).f0))).trans hx185_2; replace hx185_3 := (cell_far (p := ⟨gb184, 0, none⟩) (by first | (rw [add_block]; exact hn185_0) | (show (Addr.add _ _).block ≠ _; rw [add_block]; exact hn185_0) | exact hn185_0) (.int .i64 ((rd_T104 l0_0 x5_2).f0))).trans hx185_3; replace hx185_0 := (cell_far (p := ⟨gb184, 1, none⟩) (by first | (rw [add_block]; exact hn185_1) | (show (Addr.add _ _).block ≠ _; rw [add_block]; exact hn185_1) | exact hn185_1) (.slice A183_1 ((rd_T104 l0_0 x5_2).f1).length c183_1)).trans hx185_0; replace hx185_1 := (cell_far (p := ⟨gb184, 1, none⟩) (by first | (rw [add_block]; exact hn185_1) | (show (Addr.add _ _).block ≠ _; rw [add_block]; exact hn185_1) | exact hn185_1) (.slice A183_1 ((rd_T104 l0_0 x5_2).f1).length c183_1)).trans hx185_1; replace hx185_2 := (cell_far (p := ⟨gb184, 1, none⟩) (by first | (rw [add_block]; exact hn185_1) | (show (Addr.add _ _).block ≠ _; rw [add_block]; exact hn185_1) | exact hn185_1) (.slice A183_1 ((rd_T104 l0_0 x5_2).f1).length c183_1)).trans hx185_2; replace hx185_3 := (cell_far (p := ⟨gb184, 1, none⟩) (by first | (rw [add_block]; exact hn185_1) | (show (Addr.add _ _).block ≠ _; rw [add_block]; exact hn185_1) | exact hn185_1) (.slice A183_1 ((rd_T104 l0_0 x5_2).f1).length c183_1)).trans hx185_3; replace hx185_0 := (cell_far (p := ⟨gb184, 2, none⟩) (by first | (rw [add_block]; exact hn185_2) | (show (Addr.add _ _).block ≠ _; rw [add_block]; exact hn185_2) | exact hn185_2) (.int .i64 ((rd_T104 l0_0 x5_2).f2))).trans hx185_0; replace hx185_1 := (cell_far (p := ⟨gb184, 2, none⟩) (by first | (rw [add_block]; exact hn185_2) | (show (Addr.add _ _).block ≠ _; rw [add_block]; exact hn185_2) | exact hn185_2) (.int .i64 ((rd_T104 l0_0 x5_2).f2))).trans hx185_1; replace hx185_2 := (cell_far (p := ⟨gb184, 2, none⟩) (by first | (rw [add_block]; exact hn185_2) | (show (Addr.add _ _).block ≠ _; rw [add_block]; exact hn185_2) | exact hn185_2) (.int .i64 ((rd_T104 l0_0 x5_2).f2))).trans hx185_2; replace hx185_3 := (cell_far (p := ⟨gb184, 2, none⟩) (by first | (rw [add_block]; exact hn185_2) | (show (Addr.add _ _).block ≠ _; rw [add_block]; exact hn185_2) | exact hn185_2) (.int .i64 ((rd_T104 l0_0 x5_2).f2))).trans hx185_3; replace hx185_0 := (cell_far (p := ⟨gb184, 3, none⟩) (by first | (rw [add_block]; exact hn185_3) | (show (Addr.add _ _).block ≠ _; rw [add_block]; exact hn185_3) | exact hn185_3) (.bool ((rd_T104 l0_0 x5_2).f3))).trans hx185_0; replace hx185_1 := (cell_far (p := ⟨gb184, 3, none⟩) (by first | (rw [add_block]; exact hn185_3) | (show (Addr.add _ _).block ≠ _; rw [add_block]; exact hn185_3) | exact hn185_3) (.bool ((rd_T104 l0_0 x5_2).f3))).trans hx185_1; replace hx185_2 := (cell_far (p := ⟨gb184, 3, none⟩) (by first | (rw [add_block]; exact hn185_3) | (show (Addr.add _ _).block ≠ _; rw [add_block]; exact hn185_3) | exact hn185_3) (.bool ((rd_T104 l0_0 x5_2).f3))).trans hx185_2; replace hx185_3 := (cell_far (p := ⟨gb184, 3, none⟩) (by first | (rw [add_block]; exact hn185_3) | (show (Addr.add _ _).block ≠ _; rw [add_block]; exact hn185_3) | exact hn185_3) (.bool ((rd_T104 l0_0 x5_2).f3))).trans hx185_3; (try have hy185_0 := fun (n_ : Nat) => (show ((((((w20.drewN n_).setCell ⟨gb184, 0, none⟩ (.int .i64 ((rd_T104 l0_0 x5_2).f0))).setCell ⟨gb184, 1, none⟩ (.slice A183_1 ((rd_T104 l0_0 x5_2).f1).length c183_1)).setCell ⟨gb184, 2, none⟩ (.int .i64 ((rd_T104 l0_0 x5_2).f2))).setCell ⟨gb184, 3, none⟩ (.bool ((rd_T104 l0_0 x5_2).f3)))).cell? _ = some _ from hx185_0)); (try have hy185_1 := fun (n_ : Nat) => (show ((((((w20.drewN n_).setCell ⟨gb184, 0, none⟩ (.int .i64 ((rd_T104 l0_0 x5_2).f0))).setCell ⟨gb184, 1, none⟩ (.slice A183_1 ((rd_T104 l0_0 x5_2).f1).length c183_1)).setCell ⟨gb184, 2, none⟩ (.int .i64 ((rd_T104 l0_0 x5_2).f2))).setCell ⟨gb184, 3, none⟩ (.bool ((rd_T104 l0_0 x5_2).f3)))).cell? _ = some _ from hx185_1)); (try have hy185_2 := fun (n_ : Nat) => (show ((((((w20.drewN n_).setCell ⟨gb184, 0, none⟩ (.int .i64 ((rd_T104 l0_0 x5_2).f0))).setCell ⟨gb184, 1, none⟩ (.slice A183_1 ((rd_T104 l0_0 x5_2).f1).length c183_1)).setCell ⟨gb184, 2, none⟩ (.int .i64 ((rd_T104 l0_0 x5_2).f2))).setCell ⟨gb184, 3, none⟩ (.bool ((rd_T104 l0_0 x5_2).f3)))).cell? _ = some _ from hx185_2)); (try have hy185_3 := fun (n_ : Nat) => (show ((((((w20.drewN n_).setCell ⟨gb184, 0, none⟩ (.int .i64 ((rd_T104 l0_0 x5_2).f0))).setCell ⟨gb184, 1, none⟩ (.slice A183_1 ((rd_T104 l0_0 x5_2).f1).length c183_1)).setCell ⟨gb184, 2, none⟩ (.int .i64 ((rd_T104 l0_0 x5_2).f2))).setCell ⟨gb184, 3, none⟩ (.bool ((rd_T104 l0_0 x5_2).f3)))).cell? _ = some _ from hx185_3)); clear hn185_0; clear hn185_1; clear hn185_2; clear hn185_3; replace p185 := eq_true p185; replace q185 := eq_true q185) | ((with_reducible refine gate_dst (N := 7) rfl ?_); (try (refine gate_guard (by rfl) ?_; dsimp only)); refine box_event ?hg (N := 7) ?hd (cs := #[.int .i64 0, .slice none 0 0, .int .i64 0, .bool false]) (t := 104) ?hr ?_; (case hd => rfl); (case hg => rfl); (case hr => first | (go_simp; done) | (go_simp; rfl)); intro gb186 hg w25 hbox hb; have n0_ := Aside0.mk (blk_below (g := gb181) (o := .cells #[.slice (some ad183) l0_0.length c0_0, .int .i64 a0_1] 67 (0, 0)) (by (with_reducible repeat (first | apply bN | apply bD | apply bA)); refine blk_far ?_ NB181_184.out _; (with_reducible repeat (first | apply bN | apply bD | apply bA)); refine blk_far ?_ NB181_184.out _; (with_reducible repeat (first | apply bN | apply bD | apply bA)); refine blk_far ?_ NB181_184.out _; (with_reducible repeat (first | apply bN | apply bD | apply bA)); refine blk_far ?_ NB181_184.out _; (with_reducible repeat (first | apply bN | apply bD | apply bA)); exact BK181.out) hb); have n1_ := Aside0.mk (blk_below (g := gb182) (o := .cells #[.slice (some ad185) l1_0.length c1_0, .int .i64 a1_1] 67 (0, 0)) (by (with_reducible repeat (first | apply bN | apply bD | apply bA)); refine blk_far ?_ NB182_184.out _; (with_reducible repeat (first | apply bN | apply bD | apply bA)); refine blk_far ?_ NB182_184.out _; (with_reducible repeat (first | apply bN | apply bD | apply bA)); refine blk_far ?_ NB182_184.out _; (with_reducible repeat (first | apply bN | apply bD | apply bA)); refine blk_far ?_ NB182_184.out _; (with_reducible repeat (first | apply bN | apply bD | apply bA)); exact BK182.out) hb); have n2_ := Aside0.mk (blk_below (g := gb184) (o := .cells #[.int .i64 ((rd_T104 l0_0 x5_2).f0), .slice A183_1 ((rd_T104 l0_0 x5_2).f1).length c183_1, .int .i64 ((rd_T104 l0_0 x5_2).f2), .bool ((rd_T104 l0_0 x5_2).f3)] 104 (0, 0)) (by (with_reducible repeat (first | apply bN | apply bD | apply bA)); refine blk_put (cs := #[.int .i64 ((rd_T104 l0_0 x5_2).f0), .slice A183_1 ((rd_T104 l0_0 x5_2).f1).length c183_1, .int .i64 ((rd_T104 l0_0 x5_2).f2), .bool false]) ?_ 3 _ rfl; (with_reducible repeat (first | apply bN | apply bD | apply bA)); refine blk_put (cs := #[.int .i64 ((rd_T104 l0_0 x5_2).f0), .slice A183_1 ((rd_T104 l0_0 x5_2).f1).length c183_1, .int .i64 0, .bool false]) ?_ 2 _ rfl; (with_reducible repeat (first | apply bN | apply bD | apply bA)); refine blk_put (cs := #[.int .i64 ((rd_T104 l0_0 x5_2).f0), .slice none 0 0, .int .i64 0, .bool false]) ?_ 1 _ rfl; (with_reducible repeat (first | apply bN | apply bD | apply bA)); refine blk_put (cs := #[.int .i64 0, .slice none 0 0, .int .i64 0, .bool false]) ?_ 0 _ rfl; (with_reducible repeat (first | apply bN | apply bD | apply bA)); exact BK184.out) hb); have n3_ := Aside0.mk (below_step (by repeat (first | (with_reducible first | exact HB.out | apply below_alloc | apply pw_below_drewN | apply below_drew1 | refine below_set ?_ GE181.out | refine below_set ?_ GE182.out | refine below_set ?_ GE184.out) | exact HB.out)) hb); have n4_ := Aside0.mk (hbox); have n5_ := Aside0.mk ((by rw [hg]; exact (below_size (by repeat (first | (with_reducible first | exact HB.out | apply below_alloc | apply pw_below_drewN | apply below_drew1 | refine below_set ?_ GE181.out | refine below_set ?_ GE182.out | refine below_set ?_ GE184.out) | exact HB.out))) : w.heap.size ≤ gb186)); have n6_ := Aside0.mk ((by rw [hg]; exact (below_size (by repeat (first | (with_reducible first | exact HB.out | apply below_alloc | apply pw_below_drewN | apply below_drew1 | refine below_set ?_ GE181.out | refine below_set ?_ GE182.out | refine below_set ?_ GE184.out) | exact HB.out))) : w.heap.size ≤ gb186)); have n7_ := Aside0.mk ((by rw [hg]; exact Nat.ne_of_lt (blk_lt (g := gb181) (o := .cells #[.slice (some ad183) l0_0.length c0_0, .int .i64 a0_1] 67 (0, 0)) (by (with_reducible repeat (first | apply bN | apply bD | apply bA)); refine blk_far ?_ NB181_184.out _; (with_reducible repeat (first | apply bN | apply bD | apply bA)); refine blk_far ?_ NB181_184.out _; (with_reducible repeat (first | apply bN | apply bD | apply bA)); refine blk_far ?_ NB181_184.out _; (with_reducible repeat (first | apply bN | apply bD | apply bA)); refine blk_far ?_ NB181_184.out _; (with_reducible repeat (first | apply bN | apply bD | apply bA)); exact BK181.out)) : gb181 ≠ gb186)); have n8_ := Aside0.mk ((by rw [hg]; exact Nat.ne_of_gt (blk_lt (g := gb181) (o := .cells #[.slice (some ad183) l0_0.length c0_0, .int .i64 a0_1] 67 (0, 0)) (by (with_reducible repeat (first | apply bN | apply bD | apply bA)); refine blk_far ?_ NB181_184.out _; (with_reducible repeat (first | apply bN | apply bD | apply bA)); refine blk_far ?_ NB181_184.out _; (with_reducible repeat (first | apply bN | apply bD | apply bA)); refine blk_far ?_ NB181_184.out _; (with_reducible repeat (first | apply bN | apply bD | apply bA)); refine blk_far ?_ NB181_184.out _; (with_reducible repeat (first | apply bN | apply bD | apply bA)); exact BK181.out)) : gb186 ≠ gb181)); have n9_ := Aside0.mk ((by rw [hg]; exact Nat.ne_of_lt (blk_lt (g := gb182) (o := .cells #[.slice (some ad185) l1_0.length c1_0, .int .i64 a1_1] 67 (0, 0)) (by (with_reducible repeat (first | apply bN | apply bD | apply bA)); refine blk_far ?_ NB182_184.out _; (with_reducible repeat (first | apply bN | apply bD | apply bA)); refine blk_far ?_ NB182_184.out _; (with_reducible repeat (first | apply bN | apply bD | apply bA)); refine blk_far ?_ NB182_184.out _; (with_reducible repeat (first | apply bN | apply bD | apply bA)); refine blk_far ?_ NB182_184.out _; (with_reducible repeat (first | apply bN | apply bD | apply bA)); exact BK182.out)) : gb182 ≠ gb186)); have n10_ := Aside0.mk ((by rw [hg]; exact Nat.ne_of_gt (blk_lt (g := gb182) (o := .cells #[.slice (some ad185) l1_0.length c1_0, .int .i64 a1_1] 67 (0, 0)) (by (with_reducible repeat (first | apply bN | apply bD | apply bA)); refine blk_far ?_ NB182_184.out _; (with_reducible repeat (first | apply bN | apply bD | apply bA)); refine blk_far ?_ NB182_184.out _; (with_reducible repeat (first | apply bN | apply bD | apply bA)); refine blk_far ?_ NB182_184.out _; (with_reducible repeat (first | apply bN | apply bD | apply bA)); refine blk_far ?_ NB182_184.out _; (with_reducible repeat (first | apply bN | apply bD | apply bA)); exact BK182.out)) : gb186 ≠ gb182)); have n11_ := Aside0.mk ((by rw [hg]; exact Nat.ne_of_lt (blk_lt (g := gb184) (o := .cells #[.int .i64 ((rd_T104 l0_0 x5_2).f0), .slice A183_1 ((rd_T104 l0_0 x5_2).f1).length c183_1, .int .i64 ((rd_T104 l0_0 x5_2).f2), .bool ((rd_T104 l0_0 x5_2).f3)] 104 (0, 0)) (by (with_reducible repeat (first | apply bN | apply bD | apply bA)); refine blk_put (cs := #[.int .i64 ((rd_T104 l0_0 x5_2).f0), .slice A183_1 ((rd_T104 l0_0 x5_2).f1).length c183_1, .int .i64 ((rd_T104 l0_0 x5_2).f2), .bool false]) ?_ 3 _ rfl; (with_reducible repeat (first | apply bN | apply bD | apply bA)); refine blk_put (cs := #[.int .i64 ((rd_T104 l0_0 x5_2).f0), .slice A183_1 ((rd_T104 l0_0 x5_2).f1).length c183_1, .int .i64 0, .bool false]) ?_ 2 _ rfl; (with_reducible repeat (first | apply bN | apply bD | apply bA)); refine blk_put (cs := #[.int .i64 ((rd_T104 l0_0 x5_2).f0), .slice none 0 0, .int .i64 0, .bool false]) ?_ 1 _ rfl; (with_reducible repeat (first | apply bN | apply bD | apply bA)); refine blk_put (cs := #[.int .i64 0, .slice none 0 0, .int .i64 0, .bool false]) ?_ 0 _ rfl; (with_reducible repeat (first | apply bN | apply bD | apply bA)); exact BK184.out)) : gb184 ≠ gb186)); have n12_ := Aside0.mk ((by rw [hg]; exact Nat.ne_of_gt (blk_lt (g := gb184) (o := .cells #[.int .i64 ((rd_T104 l0_0 x5_2).f0), .slice A183_1 ((rd_T104 l0_0 x5_2).f1).length c183_1, .int .i64 ((rd_T104 l0_0 x5_2).f2), .bool ((rd_T104 l0_0 x5_2).f3)] 104 (0, 0)) (by (with_reducible repeat (first | apply bN | apply bD | apply bA)); refine blk_put (cs := #[.int .i64 ((rd_T104 l0_0 x5_2).f0), .slice A183_1 ((rd_T104 l0_0 x5_2).f1).length c183_1, .int .i64 ((rd_T104 l0_0 x5_2).f2), .bool false]) ?_ 3 _ rfl; (with_reducible repeat (first | apply bN | apply bD | apply bA)); refine blk_put (cs := #[.int .i64 ((rd_T104 l0_0 x5_2).f0), .slice A183_1 ((rd_T104 l0_0 x5_2).f1).length c183_1, .int .i64 0, .bool false]) ?_ 2 _ rfl; (with_reducible repeat (first | apply bN | apply bD | apply bA)); refine blk_put (cs := #[.int .i64 ((rd_T104 l0_0 x5_2).f0), .slice none 0 0, .int .i64 0, .bool false]) ?_ 1 _ rfl; (with_reducible repeat (first | apply bN | apply bD | apply bA)); refine blk_put (cs := #[.int .i64 0, .slice none 0 0, .int .i64 0, .bool false]) ?_ 0 _ rfl; (with_reducible repeat (first | apply bN | apply bD | apply bA)); exact BK184.out)) : gb186 ≠ gb184)); clear BK181; clear BK182; clear BK184; clear HB; have BK181 := n0_; have BK182 := n1_; have BK184 := n2_; have HB := n3_; have BK186 := n4_; have GW186 := n5_; have GE186 := n6_; have NB181_186 := n7_; have NB186_181 := n8_; have NB182_186 := n9_; have NB186_182 := n10_; have NB184_186 := n11_; have NB186_184 := n12_; clear n0_ n1_ n2_ n3_ n4_ n5_ n6_ n7_ n8_ n9_ n10_ n11_ n12_; clear hb hbox hg; have hnb26 := NB186_181.out; have hnc26 := NB181_186.out; have hnb27 := NB186_182.out; have hnc27 := NB182_186.out; have hnb28 := NB186_184.out; have hnc28 := NB184_186.out; have hcz29_0 : w25.cell? ⟨gb186, 0, none⟩ = some (.int .i64 0) := (blk_cell BK186.out 0).trans rfl; have hcz29_1 : w25.cell? ⟨gb186, 1, none⟩ = some (.slice none 0 0) := (blk_cell BK186.out 1).trans rfl; have hcz29_2 : w25.cell? ⟨gb186, 2, none⟩ = some (.int .i64 0) := (blk_cell BK186.out 2).trans rfl; have hcz29_3 : w25.cell? ⟨gb186, 3, none⟩ = some (.bool false) := (blk_cell BK186.out 3).trans rfl; have hfz29_0 := blk_frozen BK186.out 0; have hfz29_1 := blk_frozen BK186.out 1; have hfz29_2 := blk_frozen BK186.out 2; have hfz29_3 := blk_frozen BK186.out 3)); go_upto_region 8 with (first | ((with_reducible refine gate_dst (N := 6) rfl ?_); (try (refine gate_guard (by rfl) ?_; dsimp only)); refine box_event ?hg (N := 6) ?hd (cs := #[.int .i64 0, .slice none 0 0, .int .i64 0, .bool false]) (t := 104) ?hr ?_; (case hd => rfl); (case hg => rfl); (case hr => first | (go_simp; done) | (go_simp; rfl)); intro gb184 hg w20 hbox hb; have n0_ := Aside0.mk (blk_below (g := gb181) (o := .cells #[.slice (some ad183) l0_0.length c0_0, .int .i64 a0_1] 67 (0, 0)) (by (with_reducible repeat (first | apply bN | apply bD | apply bA)); exact BK181.out) hb); have n1_ := Aside0.mk (blk_below (g := gb182) (o := .cells #[.slice A1_0 l1_0.length c1_0, .int .i64 a1_1] 67 (0, 0)) (by (with_reducible repeat (first | apply bN | apply bD | apply bA)); exact BK182.out) hb); have n2_ := Aside0.mk (below_step (by repeat (first | (with_reducible first | exact HB.out | apply below_alloc | apply pw_below_drewN | apply below_drew1 | refine below_set ?_ GE181.out | refine below_set ?_ GE182.out) | exact HB.out)) hb); have n3_ := Aside0.mk (hbox); have n4_ := Aside0.mk ((by rw [hg]; exact (below_size (by repeat (first | (with_reducible first | exact HB.out | apply below_alloc | apply pw_below_drewN | apply below_drew1 | refine below_set ?_ GE181.out | refine below_set ?_ GE182.out) | exact HB.out))) : w.heap.size ≤ gb184)); have n5_ := Aside0.mk ((by rw [hg]; exact (below_size (by repeat (first | (with_reducible first | exact HB.out | apply below_alloc | apply pw_below_drewN | apply below_drew1 | refine below_set ?_ GE181.out | refine below_set ?_ GE182.out) | exact HB.out))) : w.heap.size ≤ gb184)); have n6_ := Aside0.mk ((by rw [hg]; exact Nat.ne_of_lt (blk_lt (g := gb181) (o := .cells #[.slice (some ad183) l0_0.length c0_0, .int .i64 a0_1] 67 (0, 0)) (by (with_reducible repeat (first | apply bN | apply bD | apply bA)); exact BK181.out)) : gb181 ≠ gb184)); have n7_ := Aside0.mk ((by rw [hg]; exact Nat.ne_of_gt (blk_lt (g := gb181) (o := .cells #[.slice (some ad183) l0_0.length c0_0, .int .i64 a0_1] 67 (0, 0)) (by (with_reducible repeat (first | apply bN | apply bD | apply bA)); exact BK181.out)) : gb184 ≠ gb181)); have n8_ := Aside0.mk ((by rw [hg]; exact Nat.ne_of_lt (blk_lt (g := gb182) (o := .cells #[.slice A1_0 l1_0.length c1_0, .int .i64 a1_1] 67 (0, 0)) (by (with_reducible repeat (first | apply bN | apply bD | apply bA)); exact BK182.out)) : gb182 ≠ gb184)); have n9_ := Aside0.mk ((by rw [hg]; exact Nat.ne_of_gt (blk_lt (g := gb182) (o := .cells #[.slice A1_0 l1_0.length c1_0, .int .i64 a1_1] 67 (0, 0)) (by (with_reducible repeat (first | apply bN | apply bD | apply bA)); exact BK182.out)) : gb184 ≠ gb182)); clear BK181; clear BK182; clear HB; have BK181 := n0_; have BK182 := n1_; have HB := n2_; have BK184 := n3_; have GW184 := n4_; have GE184 := n5_; have NB181_184 := n6_; have NB184_181 := n7_; have NB182_184 := n8_; have NB184_182 := n9_; clear n0_ n1_ n2_ n3_ n4_ n5_ n6_ n7_ n8_ n9_; clear hb hbox hg; have hnb21 := NB184_181.out; have hnc21 := NB181_184.out; have hnb22 := NB184_182.out; have hnc22 := NB182_184.out; have hcz23_0 : w20.cell? ⟨gb184, 0, none⟩ = some (.int .i64 0) := (blk_cell BK184.out 0).trans rfl; have hcz23_1 : w20.cell? ⟨gb184, 1, none⟩ = some (.slice none 0 0) := (blk_cell BK184.out 1).trans rfl; have hcz23_2 : w20.cell? ⟨gb184, 2, none⟩ = some (.int .i64 0) := (blk_cell BK184.out 2).trans rfl; have hcz23_3 : w20.cell? ⟨gb184, 3, none⟩ = some (.bool false) := (blk_cell BK184.out 3).trans rfl; have hfz23_0 := blk_frozen BK184.out 0; have hfz23_1 := blk_frozen BK184.out 1; have hfz23_2 := blk_frozen BK184.out 2; have hfz23_3 := blk_frozen BK184.out 3; have hcz24_0 : w20.cell? ⟨gb182, 0, none⟩ = some (.slice A1_0 l1_0.length c1_0) := (blk_cell BK182.out 0).trans rfl; have hcz24_1 : w20.cell? ⟨gb182, 1, none⟩ = some (.int .i64 a1_1) := (blk_cell BK182.out 1).trans rfl; have hfz24_0 := blk_frozen BK182.out 0; have hfz24_1 := blk_frozen BK182.out 1; have p185 : 0 ≤ (x5_2 : Int) := of_decide_eq_true (by first | (with_reducible assumption) | assumption); have q185 : x5_2 < (l1_0.length : Int) := of_decide_eq_true (by first | (with_reducible assumption) | assumption); obtain ⟨ad185, A185_1, c185_1, e185, hx185_0, hx185_1, hx185_2, hx185_3, hl185_1, hi185_1⟩ := at_T104 HR1_0.out x5_2 p185 q185; cases e185; have hn185_0 : ad185.block ≠ gb184 := Nat.ne_of_lt (Nat.lt_of_lt_of_le (by have := World.block_lt_of_cell? _ _ hx185_0; first | rwa [add_block] at this | exact this) GW184.out); have hn185_1 : ad185.block ≠ gb184 := Nat.ne_of_lt (Nat.lt_of_lt_of_le (by have := World.block_lt_of_cell? _ _ hx185_0; first | rwa [add_block] at this | exact this) GW184.out); have hn185_2 : ad185.block ≠ gb184 := Nat.ne_of_lt (Nat.lt_of_lt_of_le (by have := World.block_lt_of_cell? _ _ hx185_0; first | rwa [add_block] at this | exact this) GW184.out); have hn185_3 : ad185.block ≠ gb184 := Nat.ne_of_lt (Nat.lt_of_lt_of_le (by have := World.block_lt_of_cell? _ _ hx185_0; first | rwa [add_block] at this | exact this) GW184.out); replace hx185_0 := (HB.out.cell (World.block_lt_of_cell? w _ hx185_0)).trans hx185_0; replace hx185_1 := (HB.out.cell (World.block_lt_of_cell? w _ hx185_1)).trans hx185_1; replace hx185_2 := (HB.out.cell (World.block_lt_of_cell? w _ hx185_2)).trans hx185_2; replace hx185_3 := (HB.out.cell (World.block_lt_of_cell? w _ hx185_3)).trans hx185_3; have HR185_1 := Aside0.mk hi185_1; have HC185_1 := Aside0.mk hl185_1; clear hi185_1 hl185_1; replace hx185_0 := (cell_far (p := ⟨gb184, 0, none⟩) (by first | (rw [add_block]; exact hn185_0) | (show (Addr.add _ _).block ≠ _; rw [add_block]; exact hn185_0) | exact hn185_0) (.int .i64 ((rd_T104 l0_0 x5_2).f0))).trans hx185_0; replace hx185_1 := (cell_far (p := ⟨gb184, 0, none⟩) (by first | (rw [add_block]; exact hn185_0) | (show (Addr.add _ _).block ≠ _; rw [add_block]; exact hn185_0) | exact hn185_0) (.int .i64 ((rd_T104 l0_0 x5_2).f0))).trans hx185_1; replace hx185_2 := (cell_far (p := ⟨gb184, 0, none⟩) (by first | (rw [add_block]; exact hn185_0) | (show (Addr.add _ _).block ≠ _; rw [add_block]; exact hn185_0) | exact hn185_0) (.int .i64 ((rd_T104 l0_0 x5_2).f0))).trans hx185_2; replace hx185_3 := (cell_far (p := ⟨gb184, 0, none⟩) (by first | (rw [add_block]; exact hn185_0) | (show (Addr.add _ _).block ≠ _; rw [add_block]; exact hn185_0) | exact hn185_0) (.int .i64 ((rd_T104 l0_0 x5_2).f0))).trans hx185_3; replace hx185_0 := (cell_far (p := ⟨gb184, 1, none⟩) (by first | (rw [add_block]; exact hn185_1) | (show (Addr.add _ _).block ≠ _; rw [add_block]; exact hn185_1) | exact hn185_1) (.slice A183_1 ((rd_T104 l0_0 x5_2).f1).length c183_1)).trans hx185_0; replace hx185_1 := (cell_far (p := ⟨gb184, 1, none⟩) (by first | (rw [add_block]; exact hn185_1) | (show (Addr.add _ _).block ≠ _; rw [add_block]; exact hn185_1) | exact hn185_1) (.slice A183_1 ((rd_T104 l0_0 x5_2).f1).length c183_1)).trans hx185_1; replace hx185_2 := (cell_far (p := ⟨gb184, 1, none⟩) (by first | (rw [add_block]; exact hn185_1) | (show (Addr.add _ _).block ≠ _; rw [add_block]; exact hn185_1) | exact hn185_1) (.slice A183_1 ((rd_T104 l0_0 x5_2).f1).length c183_1)).trans hx185_2; replace hx185_3 := (cell_far (p := ⟨gb184, 1, none⟩) (by first | (rw [add_block]; exact hn185_1) | (show (Addr.add _ _).block ≠ _; rw [add_block]; exact hn185_1) | exact hn185_1) (.slice A183_1 ((rd_T104 l0_0 x5_2).f1).length c183_1)).trans hx185_3; replace hx185_0 := (cell_far (p := ⟨gb184, 2, none⟩) (by first | (rw [add_block]; exact hn185_2) | (show (Addr.add _ _).block ≠ _; rw [add_block]; exact hn185_2) | exact hn185_2) (.int .i64 ((rd_T104 l0_0 x5_2).f2))).trans hx185_0; replace hx185_1 := (cell_far (p := ⟨gb184, 2, none⟩) (by first | (rw [add_block]; exact hn185_2) | (show (Addr.add _ _).block ≠ _; rw [add_block]; exact hn185_2) | exact hn185_2) (.int .i64 ((rd_T104 l0_0 x5_2).f2))).trans hx185_1; replace hx185_2 := (cell_far (p := ⟨gb184, 2, none⟩) (by first | (rw [add_block]; exact hn185_2) | (show (Addr.add _ _).block ≠ _; rw [add_block]; exact hn185_2) | exact hn185_2) (.int .i64 ((rd_T104 l0_0 x5_2).f2))).trans hx185_2; replace hx185_3 := (cell_far (p := ⟨gb184, 2, none⟩) (by first | (rw [add_block]; exact hn185_2) | (show (Addr.add _ _).block ≠ _; rw [add_block]; exact hn185_2) | exact hn185_2) (.int .i64 ((rd_T104 l0_0 x5_2).f2))).trans hx185_3; replace hx185_0 := (cell_far (p := ⟨gb184, 3, none⟩) (by first | (rw [add_block]; exact hn185_3) | (show (Addr.add _ _).block ≠ _; rw [add_block]; exact hn185_3) | exact hn185_3) (.bool ((rd_T104 l0_0 x5_2).f3))).trans hx185_0; replace hx185_1 := (cell_far (p := ⟨gb184, 3, none⟩) (by first | (rw [add_block]; exact hn185_3) | (show (Addr.add _ _).block ≠ _; rw [add_block]; exact hn185_3) | exact hn185_3) (.bool ((rd_T104 l0_0 x5_2).f3))).trans hx185_1; replace hx185_2 := (cell_far (p := ⟨gb184, 3, none⟩) (by first | (rw [add_block]; exact hn185_3) | (show (Addr.add _ _).block ≠ _; rw [add_block]; exact hn185_3) | exact hn185_3) (.bool ((rd_T104 l0_0 x5_2).f3))).trans hx185_2; replace hx185_3 := (cell_far (p := ⟨gb184, 3, none⟩) (by first | (rw [add_block]; exact hn185_3) | (show (Addr.add _ _).block ≠ _; rw [add_block]; exact hn185_3) | exact hn185_3) (.bool ((rd_T104 l0_0 x5_2).f3))).trans hx185_3; (try have hy185_0 := fun (n_ : Nat) => (show ((((((w20.drewN n_).setCell ⟨gb184, 0, none⟩ (.int .i64 ((rd_T104 l0_0 x5_2).f0))).setCell ⟨gb184, 1, none⟩ (.slice A183_1 ((rd_T104 l0_0 x5_2).f1).length c183_1)).setCell ⟨gb184, 2, none⟩ (.int .i64 ((rd_T104 l0_0 x5_2).f2))).setCell ⟨gb184, 3, none⟩ (.bool ((rd_T104 l0_0 x5_2).f3)))).cell? _ = some _ from hx185_0)); (try have hy185_1 := fun (n_ : Nat) => (show ((((((w20.drewN n_).setCell ⟨gb184, 0, none⟩ (.int .i64 ((rd_T104 l0_0 x5_2).f0))).setCell ⟨gb184, 1, none⟩ (.slice A183_1 ((rd_T104 l0_0 x5_2).f1).length c183_1)).setCell ⟨gb184, 2, none⟩ (.int .i64 ((rd_T104 l0_0 x5_2).f2))).setCell ⟨gb184, 3, none⟩ (.bool ((rd_T104 l0_0 x5_2).f3)))).cell? _ = some _ from hx185_1)); (try have hy185_2 := fun (n_ : Nat) => (show ((((((w20.drewN n_).setCell ⟨gb184, 0, none⟩ (.int .i64 ((rd_T104 l0_0 x5_2).f0))).setCell ⟨gb184, 1, none⟩ (.slice A183_1 ((rd_T104 l0_0 x5_2).f1).length c183_1)).setCell ⟨gb184, 2, none⟩ (.int .i64 ((rd_T104 l0_0 x5_2).f2))).setCell ⟨gb184, 3, none⟩ (.bool ((rd_T104 l0_0 x5_2).f3)))).cell? _ = some _ from hx185_2)); (try have hy185_3 := fun (n_ : Nat) => (show ((((((w20.drewN n_).setCell ⟨gb184, 0, none⟩ (.int .i64 ((rd_T104 l0_0 x5_2).f0))).setCell ⟨gb184, 1, none⟩ (.slice A183_1 ((rd_T104 l0_0 x5_2).f1).length c183_1)).setCell ⟨gb184, 2, none⟩ (.int .i64 ((rd_T104 l0_0 x5_2).f2))).setCell ⟨gb184, 3, none⟩ (.bool ((rd_T104 l0_0 x5_2).f3)))).cell? _ = some _ from hx185_3)); clear hn185_0; clear hn185_1; clear hn185_2; clear hn185_3; replace p185 := eq_true p185; replace q185 := eq_true q185) | ((with_reducible refine gate_dst (N := 7) rfl ?_); (try (refine gate_guard (by rfl) ?_; dsimp only)); refine box_event ?hg (N := 7) ?hd (cs := #[.int .i64 0, .slice none 0 0, .int .i64 0, .bool false]) (t := 104) ?hr ?_; (case hd => rfl); (case hg => rfl); (case hr => first | (go_simp; done) | (go_simp; rfl)); intro gb186 hg w25 hbox hb; have n0_ := Aside0.mk (blk_below (g := gb181) (o := .cells #[.slice (some ad183) l0_0.length c0_0, .int .i64 a0_1] 67 (0, 0)) (by (with_reducible repeat (first | apply bN | apply bD | apply bA)); refine blk_far ?_ NB181_184.out _; (with_reducible repeat (first | apply bN | apply bD | apply bA)); refine blk_far ?_ NB181_184.out _; (with_reducible repeat (first | apply bN | apply bD | apply bA)); refine blk_far ?_ NB181_184.out _; (with_reducible repeat (first | apply bN | apply bD | apply bA)); refine blk_far ?_ NB181_184.out _; (with_reducible repeat (first | apply bN | apply bD | apply bA)); exact BK181.out) hb); have n1_ := Aside0.mk (blk_below (g := gb182) (o := .cells #[.slice (some ad185) l1_0.length c1_0, .int .i64 a1_1] 67 (0, 0)) (by (with_reducible repeat (first | apply bN | apply bD | apply bA)); refine blk_far ?_ NB182_184.out _; (with_reducible repeat (first | apply bN | apply bD | apply bA)); refine blk_far ?_ NB182_184.out _; (with_reducible repeat (first | apply bN | apply bD | apply bA)); refine blk_far ?_ NB182_184.out _; (with_reducible repeat (first | apply bN | apply bD | apply bA)); refine blk_far ?_ NB182_184.out _; (with_reducible repeat (first | apply bN | apply bD | apply bA)); exact BK182.out) hb); have n2_ := Aside0.mk (blk_below (g := gb184) (o := .cells #[.int .i64 ((rd_T104 l0_0 x5_2).f0), .slice A183_1 ((rd_T104 l0_0 x5_2).f1).length c183_1, .int .i64 ((rd_T104 l0_0 x5_2).f2), .bool ((rd_T104 l0_0 x5_2).f3)] 104 (0, 0)) (by (with_reducible repeat (first | apply bN | apply bD | apply bA)); refine blk_put (cs := #[.int .i64 ((rd_T104 l0_0 x5_2).f0), .slice A183_1 ((rd_T104 l0_0 x5_2).f1).length c183_1, .int .i64 ((rd_T104 l0_0 x5_2).f2), .bool false]) ?_ 3 _ rfl; (with_reducible repeat (first | apply bN | apply bD | apply bA)); refine blk_put (cs := #[.int .i64 ((rd_T104 l0_0 x5_2).f0), .slice A183_1 ((rd_T104 l0_0 x5_2).f1).length c183_1, .int .i64 0, .bool false]) ?_ 2 _ rfl; (with_reducible repeat (first | apply bN | apply bD | apply bA)); refine blk_put (cs := #[.int .i64 ((rd_T104 l0_0 x5_2).f0), .slice none 0 0, .int .i64 0, .bool false]) ?_ 1 _ rfl; (with_reducible repeat (first | apply bN | apply bD | apply bA)); refine blk_put (cs := #[.int .i64 0, .slice none 0 0, .int .i64 0, .bool false]) ?_ 0 _ rfl; (with_reducible repeat (first | apply bN | apply bD | apply bA)); exact BK184.out) hb); have n3_ := Aside0.mk (below_step (by repeat (first | (with_reducible first | exact HB.out | apply below_alloc | apply pw_below_drewN | apply below_drew1 | refine below_set ?_ GE181.out | refine below_set ?_ GE182.out | refine below_set ?_ GE184.out) | exact HB.out)) hb); have n4_ := Aside0.mk (hbox); have n5_ := Aside0.mk ((by rw [hg]; exact (below_size (by repeat (first | (with_reducible first | exact HB.out | apply below_alloc | apply pw_below_drewN | apply below_drew1 | refine below_set ?_ GE181.out | refine below_set ?_ GE182.out | refine below_set ?_ GE184.out) | exact HB.out))) : w.heap.size ≤ gb186)); have n6_ := Aside0.mk ((by rw [hg]; exact (below_size (by repeat (first | (with_reducible first | exact HB.out | apply below_alloc | apply pw_below_drewN | apply below_drew1 | refine below_set ?_ GE181.out | refine below_set ?_ GE182.out | refine below_set ?_ GE184.out) | exact HB.out))) : w.heap.size ≤ gb186)); have n7_ := Aside0.mk ((by rw [hg]; exact Nat.ne_of_lt (blk_lt (g := gb181) (o := .cells #[.slice (some ad183) l0_0.length c0_0, .int .i64 a0_1] 67 (0, 0)) (by (with_reducible repeat (first | apply bN | apply bD | apply bA)); refine blk_far ?_ NB181_184.out _; (with_reducible repeat (first | apply bN | apply bD | apply bA)); refine blk_far ?_ NB181_184.out _; (with_reducible repeat (first | apply bN | apply bD | apply bA)); refine blk_far ?_ NB181_184.out _; (with_reducible repeat (first | apply bN | apply bD | apply bA)); refine blk_far ?_ NB181_184.out _; (with_reducible repeat (first | apply bN | apply bD | apply bA)); exact BK181.out)) : gb181 ≠ gb186)); have n8_ := Aside0.mk ((by rw [hg]; exact Nat.ne_of_gt (blk_lt (g := gb181) (o := .cells #[.slice (some ad183) l0_0.length c0_0, .int .i64 a0_1] 67 (0, 0)) (by (with_reducible repeat (first | apply bN | apply bD | apply bA)); refine blk_far ?_ NB181_184.out _; (with_reducible repeat (first | apply bN | apply bD | apply bA)); refine blk_far ?_ NB181_184.out _; (with_reducible repeat (first | apply bN | apply bD | apply bA)); refine blk_far ?_ NB181_184.out _; (with_reducible repeat (first | apply bN | apply bD | apply bA)); refine blk_far ?_ NB181_184.out _; (with_reducible repeat (first | apply bN | apply bD | apply bA)); exact BK181.out)) : gb186 ≠ gb181)); have n9_ := Aside0.mk ((by rw [hg]; exact Nat.ne_of_lt (blk_lt (g := gb182) (o := .cells #[.slice (some ad185) l1_0.length c1_0, .int .i64 a1_1] 67 (0, 0)) (by (with_reducible repeat (first | apply bN | apply bD | apply bA)); refine blk_far ?_ NB182_184.out _; (with_reducible repeat (first | apply bN | apply bD | apply bA)); refine blk_far ?_ NB182_184.out _; (with_reducible repeat (first | apply bN | apply bD | apply bA)); refine blk_far ?_ NB182_184.out _; (with_reducible repeat (first | apply bN | apply bD | apply bA)); refine blk_far ?_ NB182_184.out _; (with_reducible repeat (first | apply bN | apply bD | apply bA)); exact BK182.out)) : gb182 ≠ gb186)); have n10_ := Aside0.mk ((by rw [hg]; exact Nat.ne_of_gt (blk_lt (g := gb182) (o := .cells #[.slice (some ad185) l1_0.length c1_0, .int .i64 a1_1] 67 (0, 0)) (by (with_reducible repeat (first | apply bN | apply bD | apply bA)); refine blk_far ?_ NB182_184.out _; (with_reducible repeat (first | apply bN | apply bD | apply bA)); refine blk_far ?_ NB182_184.out _; (with_reducible repeat (first | apply bN | apply bD | apply bA)); refine blk_far ?_ NB182_184.out _; (with_reducible repeat (first | apply bN | apply bD | apply bA)); refine blk_far ?_ NB182_184.out _; (with_reducible repeat (first | apply bN | apply bD | apply bA)); exact BK182.out)) : gb186 ≠ gb182)); have n11_ := Aside0.mk ((by rw [hg]; exact Nat.ne_of_lt (blk_lt (g := gb184) (o := .cells #[.int .i64 ((rd_T104 l0_0 x5_2).f0), .slice A183_1 ((rd_T104 l0_0 x5_2).f1).length c183_1, .int .i64 ((rd_T104 l0_0 x5_2).f2), .bool ((rd_T104 l0_0 x5_2).f3)] 104 (0, 0)) (by (with_reducible repeat (first | apply bN | apply bD | apply bA)); refine blk_put (cs := #[.int .i64 ((rd_T104 l0_0 x5_2).f0), .slice A183_1 ((rd_T104 l0_0 x5_2).f1).length c183_1, .int .i64 ((rd_T104 l0_0 x5_2).f2), .bool false]) ?_ 3 _ rfl; (with_reducible repeat (first | apply bN | apply bD | apply bA)); refine blk_put (cs := #[.int .i64 ((rd_T104 l0_0 x5_2).f0), .slice A183_1 ((rd_T104 l0_0 x5_2).f1).length c183_1, .int .i64 0, .bool false]) ?_ 2 _ rfl; (with_reducible repeat (first | apply bN | apply bD | apply bA)); refine blk_put (cs := #[.int .i64 ((rd_T104 l0_0 x5_2).f0), .slice none 0 0, .int .i64 0, .bool false]) ?_ 1 _ rfl; (with_reducible repeat (first | apply bN | apply bD | apply bA)); refine blk_put (cs := #[.int .i64 0, .slice none 0 0, .int .i64 0, .bool false]) ?_ 0 _ rfl; (with_reducible repeat (first | apply bN | apply bD | apply bA)); exact BK184.out)) : gb184 ≠ gb186)); have n12_ := Aside0.mk ((by rw [hg]; exact Nat.ne_of_gt (blk_lt (g := gb184) (o := .cells #[.int .i64 ((rd_T104 l0_0 x5_2).f0), .slice A183_1 ((rd_T104 l0_0 x5_2).f1).length c183_1, .int .i64 ((rd_T104 l0_0 x5_2).f2), .bool ((rd_T104 l0_0 x5_2).f3)] 104 (0, 0)) (by (with_reducible repeat (first | apply bN | apply bD | apply bA)); refine blk_put (cs := #[.int .i64 ((rd_T104 l0_0 x5_2).f0), .slice A183_1 ((rd_T104 l0_0 x5_2).f1).length c183_1, .int .i64 ((rd_T104 l0_0 x5_2).f2), .bool false]) ?_ 3 _ rfl; (with_reducible repeat (first | apply bN | apply bD | apply bA)); refine blk_put (cs := #[.int .i64 ((rd_T104 l0_0 x5_2).f0), .slice A183_1 ((rd_T104 l0_0 x5_2).f1).length c183_1, .int .i64 0, .bool false]) ?_ 2 _ rfl; (with_reducible repeat (first | apply bN | apply bD | apply bA)); refine blk_put (cs := #[.int .i64 ((rd_T104 l0_0 x5_2).f0), .slice none 0 0, .int .i64 0, .bool false]) ?_ 1 _ rfl; (with_reducible repeat (first | apply bN | apply bD | apply bA)); refine blk_put (cs := #[.int .i64 0, .slice none 0 0, .int .i64 0, .bool false]) ?_ 0 _ rfl; (with_reducible repeat (first | apply bN | apply bD | apply bA)); exact BK184.out)) : gb186 ≠ gb184)); clear BK181; clear BK182; clear BK184; clear HB; have BK181 := n0_; have BK182 := n1_; have BK184 := n2_; have HB := n3_; have BK186 := n4_; have GW186 := n5_; have GE186 := n6_; have NB181_186 := n7_; have NB186_181 := n8_; have NB182_186 := n9_; have NB186_182 := n10_; have NB184_186 := n11_; have NB186_184 := n12_; clear n0_ n1_ n2_ n3_ n4_ n5_ n6_ n7_ n8_ n9_ n10_ n11_ n12_; clear hb hbox hg; have hnb26 := NB186_181.out; have hnc26 := NB181_186.out; have hnb27 := NB186_182.out; have hnc27 := NB182_186.out; have hnb28 := NB186_184.out; have hnc28 := NB184_186.out; have hcz29_0 : w25.cell? ⟨gb186, 0, none⟩ = some (.int .i64 0) := (blk_cell BK186.out 0).trans rfl; have hcz29_1 : w25.cell? ⟨gb186, 1, none⟩ = some (.slice none 0 0) := (blk_cell BK186.out 1).trans rfl; have hcz29_2 : w25.cell? ⟨gb186, 2, none⟩ = some (.int .i64 0) := (blk_cell BK186.out 2).trans rfl; have hcz29_3 : w25.cell? ⟨gb186, 3, none⟩ = some (.bool false) := (blk_cell BK186.out 3).trans rfl; have hfz29_0 := blk_frozen BK186.out 0; have hfz29_1 := blk_frozen BK186.out 1; have hfz29_2 := blk_frozen BK186.out 2; have hfz29_3 := blk_frozen BK186.out 3)))
         (try simp only [Act.put, List.setIfInBounds_toArray, List.set_cons_zero, List.set_cons_succ])
         go_cut [67] (fun v67 wc => ∃ (kq : Nat) (x67_16 : Bool), v67 = .bool x67_16 ∧ Aside0 (spec_EqualDisks.j2 kq x5_2 x67_16 l0_0 a0_1 l1_0 a1_1 ((rd_T104 l0_0 x5_2).f0) ((rd_T104 l0_0 x5_2).f1) ((rd_T104 l0_0 x5_2).f2) ((rd_T104 l0_0 x5_2).f3) ((rd_T104 l1_0 x5_2).f0) ((rd_T104 l1_0 x5_2).f1) ((rd_T104 l1_0 x5_2).f2) ((rd_T104 l1_0 x5_2).f3) = some r) ∧ Aside0 (kq ≤ k2) ∧ Aside0 (wc.heap[gb181]? = some (.cells #[(.slice (some ad183) l0_0.length c0_0), .int .i64 a0_1] 67 (0, 0))) ∧ Aside0 (wc.heap[gb182]? = some (.cells #[(.slice (some ad185) l1_0.length c1_0), .int .i64 a1_1] 67 (0, 0))) ∧ Aside0 (wc.heap[gb184]? = some (.cells #[.int .i64 ((rd_T104 l0_0 x5_2).f0), (.slice A183_1 ((rd_T104 l0_0 x5_2).f1).length c183_1), .int .i64 ((rd_T104 l0_0 x5_2).f2), .bool ((rd_T104 l0_0 x5_2).f3)] 104 (0, 0))) ∧ Aside0 (wc.heap[gb186]? = some (.cells #[.int .i64 ((rd_T104 l1_0 x5_2).f0), (.slice A185_1 ((rd_T104 l1_0 x5_2).f1).length c185_1), .int .i64 ((rd_T104 l1_0 x5_2).f2), .bool ((rd_T104 l1_0 x5_2).f3)] 104 (0, 0))) ∧ Aside0 (Below w.heap.size w wc))
         case first =>
          have H := HC17.out
          clear HC17
          by_cases c30 : ((rd_T104 l0_0 x5_2).f0) = ((rd_T104 l1_0 x5_2).f0)
          ·rw [if_pos c30] at H
           have c30b0 : (((rd_T104 l0_0 x5_2).f0) == ((rd_T104 l1_0 x5_2).f0)) = true := beq_iff_eq.mpr c30
           have c30b1 : (((rd_T104 l0_0 x5_2).f0) != ((rd_T104 l1_0 x5_2).f0)) = false := bne_eq_false_iff_eq.mpr c30
           clear c30
           (first | rw [c30b0] | (simp only [i64_w, i32_w]; rw [c30b0]) | skip)
           by_cases c31 : ((rd_T104 l0_0 x5_2).f2) = ((rd_T104 l1_0 x5_2).f2)
           ·rw [if_pos c31] at H
            have c31b0 : (((rd_T104 l0_0 x5_2).f2) == ((rd_T104 l1_0 x5_2).f2)) = true := beq_iff_eq.mpr c31
            have c31b1 : (((rd_T104 l0_0 x5_2).f2) != ((rd_T104 l1_0 x5_2).f2)) = false := bne_eq_false_iff_eq.mpr c31
            clear c31
            by_cases c32 : (((rd_T104 l0_0 x5_2).f3) != ((rd_T104 l1_0 x5_2).f3)) = true
            ·rw [if_pos c32] at H
             have c32b0 : (((rd_T104 l0_0 x5_2).f3) != ((rd_T104 l1_0 x5_2).f3)) = true := c32
             (try (have c32b1 : decide (((rd_T104 l0_0 x5_2).f3) = ((rd_T104 l1_0 x5_2).f3)) = false := by simpa using c32))
             (try (have c32b2 : (((rd_T104 l0_0 x5_2).f3) == ((rd_T104 l1_0 x5_2).f3)) = false := by simpa using c32))
             (try (have c32b3 : ¬ (((rd_T104 l0_0 x5_2).f3) = ((rd_T104 l1_0 x5_2).f3)) := by simpa using c32))
             clear c32
             have H' := Aside0.mk H
             clear H
             have hnb33 := NB184_181.out
             have hnc33 := NB181_184.out
             have hnb34 := NB184_182.out
             have hnc34 := NB182_184.out
             have hnb35 := NB184_186.out
             have hnc35 := NB186_184.out
             have hcz36_0 : w25.cell? ⟨gb184, 0, none⟩ = some (.int .i64 ((rd_T104 l0_0 x5_2).f0)) := (blk_cell BK184.out 0).trans rfl
             have hcz36_1 : w25.cell? ⟨gb184, 1, none⟩ = some (.slice A183_1 ((rd_T104 l0_0 x5_2).f1).length c183_1) := (blk_cell BK184.out 1).trans rfl
             have hcz36_2 : w25.cell? ⟨gb184, 2, none⟩ = some (.int .i64 ((rd_T104 l0_0 x5_2).f2)) := (blk_cell BK184.out 2).trans rfl
             have hcz36_3 : w25.cell? ⟨gb184, 3, none⟩ = some (.bool ((rd_T104 l0_0 x5_2).f3)) := (blk_cell BK184.out 3).trans rfl
             have hfz36_0 := blk_frozen BK184.out 0
             have hfz36_1 := blk_frozen BK184.out 1
             have hfz36_2 := blk_frozen BK184.out 2
             have hfz36_3 := blk_frozen BK184.out 3
             have hnb37 := NB186_181.out
             have hnc37 := NB181_186.out
             have hnb38 := NB186_182.out
             have hnc38 := NB182_186.out
             have hcz39_0 : w25.cell? ⟨gb186, 0, none⟩ = some (.int .i64 0) := (blk_cell BK186.out 0).trans rfl
             have hcz39_1 : w25.cell? ⟨gb186, 1, none⟩ = some (.slice none 0 0) := (blk_cell BK186.out 1).trans rfl
             have hcz39_2 : w25.cell? ⟨gb186, 2, none⟩ = some (.int .i64 0) := (blk_cell BK186.out 2).trans rfl
             have hcz39_3 : w25.cell? ⟨gb186, 3, none⟩ = some (.bool false) := (blk_cell BK186.out 3).trans rfl
             have hfz39_0 := blk_frozen BK186.out 0
             have hfz39_1 := blk_frozen BK186.out 1
             have hfz39_2 := blk_frozen BK186.out 2
             have hfz39_3 := blk_frozen BK186.out 3
             go_wp2
             repeat (go_quiet (fail); try go_wp2)
             go_meet
             case rel => exact ⟨_, (true), (by first | rfl | (simp; done) | (simp [*]; done)), H', ⟨by have := HJ2.out; have := HK2.out; first | omega | exact Nat.le_refl _⟩, ⟨by (with_reducible repeat (first | apply bN | apply bD | apply bA)); refine blk_far ?_ NB181_186.out _; (with_reducible repeat (first | apply bN | apply bD | apply bA)); refine blk_far ?_ NB181_186.out _; (with_reducible repeat (first | apply bN | apply bD | apply bA)); refine blk_far ?_ NB181_186.out _; (with_reducible repeat (first | apply bN | apply bD | apply bA)); refine blk_far ?_ NB181_186.out _; (with_reducible repeat (first | apply bN | apply bD | apply bA)); exact BK181.out⟩, ⟨by (with_reducible repeat (first | apply bN | apply bD | apply bA)); refine blk_far ?_ NB182_186.out _; (with_reducible repeat (first | apply bN | apply bD | apply bA)); refine blk_far ?_ NB182_186.out _; (with_reducible repeat (first | apply bN | apply bD | apply bA)); refine blk_far ?_ NB182_186.out _; (with_reducible repeat (first | apply bN | apply bD | apply bA)); refine blk_far ?_ NB182_186.out _; (with_reducible repeat (first | apply bN | apply bD | apply bA)); exact BK182.out⟩, ⟨by (with_reducible repeat (first | apply bN | apply bD | apply bA)); refine blk_far ?_ NB184_186.out _; (with_reducible repeat (first | apply bN | apply bD | apply bA)); refine blk_far ?_ NB184_186.out _; (with_reducible repeat (first | apply bN | apply bD | apply bA)); refine blk_far ?_ NB184_186.out _; (with_reducible repeat (first | apply bN | apply bD | apply bA)); refine blk_far ?_ NB184_186.out _; (with_reducible repeat (first | apply bN | apply bD | apply bA)); exact BK184.out⟩, ⟨by (with_reducible repeat (first | apply bN | apply bD | apply bA)); refine blk_put (cs := #[.int .i64 ((rd_T104 l1_0 x5_2).f0), .slice A185_1 ((rd_T104 l1_0 x5_2).f1).length c185_1, .int .i64 ((rd_T104 l1_0 x5_2).f2), .bool false]) ?_ 3 _ rfl; (with_reducible repeat (first | apply bN | apply bD | apply bA)); refine blk_put (cs := #[.int .i64 ((rd_T104 l1_0 x5_2).f0), .slice A185_1 ((rd_T104 l1_0 x5_2).f1).length c185_1, .int .i64 0, .bool false]) ?_ 2 _ rfl; (with_reducible repeat (first | apply bN | apply bD | apply bA)); refine blk_put (cs := #[.int .i64 ((rd_T104 l1_0 x5_2).f0), .slice none 0 0, .int .i64 0, .bool false]) ?_ 1 _ rfl; (with_reducible repeat (first | apply bN | apply bD | apply bA)); refine blk_put (cs := #[.int .i64 0, .slice none 0 0, .int .i64 0, .bool false]) ?_ 0 _ rfl; (with_reducible repeat (first | apply bN | apply bD | apply bA)); exact BK186.out⟩, ⟨by repeat (first | (with_reducible first | exact HB.out | apply below_alloc | apply pw_below_drewN | apply below_drew1 | refine below_set ?_ GE181.out | refine below_set ?_ GE182.out | refine below_set ?_ GE184.out | refine below_set ?_ GE186.out) | exact HB.out)⟩⟩
            ·rw [if_neg c32] at H
             have c32b0 : (((rd_T104 l0_0 x5_2).f3) != ((rd_T104 l1_0 x5_2).f3)) = false := by simpa using c32
             (try (have c32b1 : decide (((rd_T104 l0_0 x5_2).f3) = ((rd_T104 l1_0 x5_2).f3)) = true := by simpa using c32))
             (try (have c32b2 : (((rd_T104 l0_0 x5_2).f3) == ((rd_T104 l1_0 x5_2).f3)) = true := by simpa using c32))
             clear c32
             have H' := Aside0.mk H
             clear H
             have hnb40 := NB184_181.out
             have hnc40 := NB181_184.out
             have hnb41 := NB184_182.out
             have hnc41 := NB182_184.out
             have hnb42 := NB184_186.out
             have hnc42 := NB186_184.out
             have hcz43_0 : w25.cell? ⟨gb184, 0, none⟩ = some (.int .i64 ((rd_T104 l0_0 x5_2).f0)) := (blk_cell BK184.out 0).trans rfl
             have hcz43_1 : w25.cell? ⟨gb184, 1, none⟩ = some (.slice A183_1 ((rd_T104 l0_0 x5_2).f1).length c183_1) := (blk_cell BK184.out 1).trans rfl
             have hcz43_2 : w25.cell? ⟨gb184, 2, none⟩ = some (.int .i64 ((rd_T104 l0_0 x5_2).f2)) := (blk_cell BK184.out 2).trans rfl
             have hcz43_3 : w25.cell? ⟨gb184, 3, none⟩ = some (.bool ((rd_T104 l0_0 x5_2).f3)) := (blk_cell BK184.out 3).trans rfl
             have hfz43_0 := blk_frozen BK184.out 0
             have hfz43_1 := blk_frozen BK184.out 1
             have hfz43_2 := blk_frozen BK184.out 2
             have hfz43_3 := blk_frozen BK184.out 3
             have hnb44 := NB186_181.out
             have hnc44 := NB181_186.out
             have hnb45 := NB186_182.out
             have hnc45 := NB182_186.out
             have hcz46_0 : w25.cell? ⟨gb186, 0, none⟩ = some (.int .i64 0) := (blk_cell BK186.out 0).trans rfl
             have hcz46_1 : w25.cell? ⟨gb186, 1, none⟩ = some (.slice none 0 0) := (blk_cell BK186.out 1).trans rfl
             have hcz46_2 : w25.cell? ⟨gb186, 2, none⟩ = some (.int .i64 0) := (blk_cell BK186.out 2).trans rfl
             have hcz46_3 : w25.cell? ⟨gb186, 3, none⟩ = some (.bool false) := (blk_cell BK186.out 3).trans rfl
             have hfz46_0 := blk_frozen BK186.out 0
             have hfz46_1 := blk_frozen BK186.out 1
             have hfz46_2 := blk_frozen BK186.out 2
             have hfz46_3 := blk_frozen BK186.out 3
             go_wp2
             repeat (go_quiet (fail); try go_wp2)
             go_meet
             case rel => exact ⟨_, (((((rd_T104 l0_0 x5_2).f1).length : Int) != (((rd_T104 l1_0 x5_2).f1).length : Int))), (by first | rfl | (simp; done) | (simp [*]; done)), H', ⟨by have := HJ2.out; have := HK2.out; first | omega | exact Nat.le_refl _⟩, ⟨by (with_reducible repeat (first | apply bN | apply bD | apply bA)); refine blk_far ?_ NB181_186.out _; (with_reducible repeat (first | apply bN | apply bD | apply bA)); refine blk_far ?_ NB181_186.out _; (with_reducible repeat (first | apply bN | apply bD | apply bA)); refine blk_far ?_ NB181_186.out _; (with_reducible repeat (first | apply bN | apply bD | apply bA)); refine blk_far ?_ NB181_186.out _; (with_reducible repeat (first | apply bN | apply bD | apply bA)); exact BK181.out⟩, ⟨by (with_reducible repeat (first | apply bN | apply bD | apply bA)); refine blk_far ?_ NB182_186.out _; (with_reducible repeat (first | apply bN | apply bD | apply bA)); refine blk_far ?_ NB182_186.out _; (with_reducible repeat (first | apply bN | apply bD | apply bA)); refine blk_far ?_ NB182_186.out _; (with_reducible repeat (first | apply bN | apply bD | apply bA)); refine blk_far ?_ NB182_186.out _; (with_reducible repeat (first | apply bN | apply bD | apply bA)); exact BK182.out⟩, ⟨by (with_reducible repeat (first | apply bN | apply bD | apply bA)); refine blk_far ?_ NB184_186.out _; (with_reducible repeat (first | apply bN | apply bD | apply bA)); refine blk_far ?_ NB184_186.out _; (with_reducible repeat (first | apply bN | apply bD | apply bA)); refine blk_far ?_ NB184_186.out _; (with_reducible repeat (first | apply bN | apply bD | apply bA)); refine blk_far ?_ NB184_186.out _; (with_reducible repeat (first | apply bN | apply bD | apply bA)); exact BK184.out⟩, ⟨by (with_reducible repeat (first | apply bN | apply bD | apply bA)); refine blk_put (cs := #[.int .i64 ((rd_T104 l1_0 x5_2).f0), .slice A185_1 ((rd_T104 l1_0 x5_2).f1).length c185_1, .int .i64 ((rd_T104 l1_0 x5_2).f2), .bool false]) ?_ 3 _ rfl; (with_reducible repeat (first | apply bN | apply bD | apply bA)); refine blk_put (cs := #[.int .i64 ((rd_T104 l1_0 x5_2).f0), .slice A185_1 ((rd_T104 l1_0 x5_2).f1).length c185_1, .int .i64 0, .bool false]) ?_ 2 _ rfl; (with_reducible repeat (first | apply bN | apply bD | apply bA)); refine blk_put (cs := #[.int .i64 ((rd_T104 l1_0 x5_2).f0), .slice none 0 0, .int .i64 0, .bool false]) ?_ 1 _ rfl; (with_reducible repeat (first | apply bN | apply bD | apply bA)); refine blk_put (cs := #[.int .i64 0, .slice none 0 0, .int .i64 0, .bool false]) ?_ 0 _ rfl; (with_reducible repeat (first | apply bN | apply bD | apply bA)); exact BK186.out⟩, ⟨by repeat (first | (with_reducible first | exact HB.out | apply below_alloc | apply pw_below_drewN | apply below_drew1 | refine below_set ?_ GE181.out | refine below_set ?_ GE182.out | refine below_set ?_ GE184.out | refine below_set ?_ GE186.out) | exact HB.out)⟩⟩
           ·rw [if_neg c31] at H
            have c31b0 : (((rd_T104 l0_0 x5_2).f2) == ((rd_T104 l1_0 x5_2).f2)) = false := beq_eq_false_iff_ne.mpr c31
            have c31b1 : (((rd_T104 l0_0 x5_2).f2) != ((rd_T104 l1_0 x5_2).f2)) = true := bne_iff_ne.mpr c31
            have H' := Aside0.mk H
            clear H
            have hnb47 := NB184_181.out
            have hnc47 := NB181_184.out
            have hnb48 := NB184_182.out
            have hnc48 := NB182_184.out
            have hnb49 := NB184_186.out
            have hnc49 := NB186_184.out
            have hcz50_0 : w25.cell? ⟨gb184, 0, none⟩ = some (.int .i64 ((rd_T104 l0_0 x5_2).f0)) := (blk_cell BK184.out 0).trans rfl
            have hcz50_1 : w25.cell? ⟨gb184, 1, none⟩ = some (.slice A183_1 ((rd_T104 l0_0 x5_2).f1).length c183_1) := (blk_cell BK184.out 1).trans rfl
            have hcz50_2 : w25.cell? ⟨gb184, 2, none⟩ = some (.int .i64 ((rd_T104 l0_0 x5_2).f2)) := (blk_cell BK184.out 2).trans rfl
            have hcz50_3 : w25.cell? ⟨gb184, 3, none⟩ = some (.bool ((rd_T104 l0_0 x5_2).f3)) := (blk_cell BK184.out 3).trans rfl
            have hfz50_0 := blk_frozen BK184.out 0
            have hfz50_1 := blk_frozen BK184.out 1
            have hfz50_2 := blk_frozen BK184.out 2
            have hfz50_3 := blk_frozen BK184.out 3
            have hnb51 := NB186_181.out
            have hnc51 := NB181_186.out
            have hnb52 := NB186_182.out
            have hnc52 := NB182_186.out
            have hcz53_0 : w25.cell? ⟨gb186, 0, none⟩ = some (.int .i64 0) := (blk_cell BK186.out 0).trans rfl
            have hcz53_1 : w25.cell? ⟨gb186, 1, none⟩ = some (.slice none 0 0) := (blk_cell BK186.out 1).trans rfl
            have hcz53_2 : w25.cell? ⟨gb186, 2, none⟩ = some (.int .i64 0) := (blk_cell BK186.out 2).trans rfl
            have hcz53_3 : w25.cell? ⟨gb186, 3, none⟩ = some (.bool false) := (blk_cell BK186.out 3).trans rfl
            have hfz53_0 := blk_frozen BK186.out 0
            have hfz53_1 := blk_frozen BK186.out 1
            have hfz53_2 := blk_frozen BK186.out 2
            have hfz53_3 := blk_frozen BK186.out 3
            go_wp2
            repeat (go_quiet (fail); try go_wp2)
            go_meet
            case rel => exact ⟨_, (true), (by first | rfl | (simp; done) | (simp [*]; done)), H', ⟨by have := HJ2.out; have := HK2.out; first | omega | exact Nat.le_refl _⟩, ⟨by (with_reducible repeat (first | apply bN | apply bD | apply bA)); refine blk_far ?_ NB181_186.out _; (with_reducible repeat (first | apply bN | apply bD | apply bA)); refine blk_far ?_ NB181_186.out _; (with_reducible repeat (first | apply bN | apply bD | apply bA)); refine blk_far ?_ NB181_186.out _; (with_reducible repeat (first | apply bN | apply bD | apply bA)); refine blk_far ?_ NB181_186.out _; (with_reducible repeat (first | apply bN | apply bD | apply bA)); exact BK181.out⟩, ⟨by (with_reducible repeat (first | apply bN | apply bD | apply bA)); refine blk_far ?_ NB182_186.out _; (with_reducible repeat (first | apply bN | apply bD | apply bA)); refine blk_far ?_ NB182_186.out _; (with_reducible repeat (first | apply bN | apply bD | apply bA)); refine blk_far ?_ NB182_186.out _; (with_reducible repeat (first | apply bN | apply bD | apply bA)); refine blk_far ?_ NB182_186.out _; (with_reducible repeat (first | apply bN | apply bD | apply bA)); exact BK182.out⟩, ⟨by (with_reducible repeat (first | apply bN | apply bD | apply bA)); refine blk_far ?_ NB184_186.out _; (with_reducible repeat (first | apply bN | apply bD | apply bA)); refine blk_far ?_ NB184_186.out _; (with_reducible repeat (first | apply bN | apply bD | apply bA)); refine blk_far ?_ NB184_186.out _; (with_reducible repeat (first | apply bN | apply bD | apply bA)); refine blk_far ?_ NB184_186.out _; (with_reducible repeat (first | apply bN | apply bD | apply bA)); exact BK184.out⟩, ⟨by (with_reducible repeat (first | apply bN | apply bD | apply bA)); refine blk_put (cs := #[.int .i64 ((rd_T104 l1_0 x5_2).f0), .slice A185_1 ((rd_T104 l1_0 x5_2).f1).length c185_1, .int .i64 ((rd_T104 l1_0 x5_2).f2), .bool false]) ?_ 3 _ rfl; (with_reducible repeat (first | apply bN | apply bD | apply bA)); refine blk_put (cs := #[.int .i64 ((rd_T104 l1_0 x5_2).f0), .slice A185_1 ((rd_T104 l1_0 x5_2).f1).length c185_1, .int .i64 0, .bool false]) ?_ 2 _ rfl; (with_reducible repeat (first | apply bN | apply bD | apply bA)); refine blk_put (cs := #[.int .i64 ((rd_T104 l1_0 x5_2).f0), .slice none 0 0, .int .i64 0, .bool false]) ?_ 1 _ rfl; (with_reducible repeat (first | apply bN | apply bD | apply bA)); refine blk_put (cs := #[.int .i64 0, .slice none 0 0, .int .i64 0, .bool false]) ?_ 0 _ rfl; (with_reducible repeat (first | apply bN | apply bD | apply bA)); exact BK186.out⟩, ⟨by repeat (first | (with_reducible first | exact HB.out | apply below_alloc | apply pw_below_drewN | apply below_drew1 | refine below_set ?_ GE181.out | refine below_set ?_ GE182.out | refine below_set ?_ GE184.out | refine below_set ?_ GE186.out) | exact HB.out)⟩⟩
          ·rw [if_neg c30] at H
           have c30b0 : (((rd_T104 l0_0 x5_2).f0) == ((rd_T104 l1_0 x5_2).f0)) = false := beq_eq_false_iff_ne.mpr c30
           have c30b1 : (((rd_T104 l0_0 x5_2).f0) != ((rd_T104 l1_0 x5_2).f0)) = true := bne_iff_ne.mpr c30
           (first | rw [c30b0] | (simp only [i64_w, i32_w]; rw [c30b0]) | skip)
           have H' := Aside0.mk H
           clear H
           have hnb54 := NB184_181.out
           have hnc54 := NB181_184.out
           have hnb55 := NB184_182.out
           have hnc55 := NB182_184.out
           have hnb56 := NB184_186.out
           have hnc56 := NB186_184.out
           have hcz57_0 : w25.cell? ⟨gb184, 0, none⟩ = some (.int .i64 ((rd_T104 l0_0 x5_2).f0)) := (blk_cell BK184.out 0).trans rfl
           have hcz57_1 : w25.cell? ⟨gb184, 1, none⟩ = some (.slice A183_1 ((rd_T104 l0_0 x5_2).f1).length c183_1) := (blk_cell BK184.out 1).trans rfl
           have hcz57_2 : w25.cell? ⟨gb184, 2, none⟩ = some (.int .i64 ((rd_T104 l0_0 x5_2).f2)) := (blk_cell BK184.out 2).trans rfl
           have hcz57_3 : w25.cell? ⟨gb184, 3, none⟩ = some (.bool ((rd_T104 l0_0 x5_2).f3)) := (blk_cell BK184.out 3).trans rfl
           have hfz57_0 := blk_frozen BK184.out 0
           have hfz57_1 := blk_frozen BK184.out 1
           have hfz57_2 := blk_frozen BK184.out 2
           have hfz57_3 := blk_frozen BK184.out 3
           have hnb58 := NB186_181.out
           have hnc58 := NB181_186.out
           have hnb59 := NB186_182.out
           have hnc59 := NB182_186.out
           have hcz60_0 : w25.cell? ⟨gb186, 0, none⟩ = some (.int .i64 0) := (blk_cell BK186.out 0).trans rfl
           have hcz60_1 : w25.cell? ⟨gb186, 1, none⟩ = some (.slice none 0 0) := (blk_cell BK186.out 1).trans rfl
           have hcz60_2 : w25.cell? ⟨gb186, 2, none⟩ = some (.int .i64 0) := (blk_cell BK186.out 2).trans rfl
           have hcz60_3 : w25.cell? ⟨gb186, 3, none⟩ = some (.bool false) := (blk_cell BK186.out 3).trans rfl
           have hfz60_0 := blk_frozen BK186.out 0
           have hfz60_1 := blk_frozen BK186.out 1
           have hfz60_2 := blk_frozen BK186.out 2
           have hfz60_3 := blk_frozen BK186.out 3
           go_wp2
           repeat (go_quiet (fail); try go_wp2)
           go_meet
           case rel => exact ⟨_, (true), (by first | rfl | (simp; done) | (simp [*]; done)), H', ⟨by have := HJ2.out; have := HK2.out; first | omega | exact Nat.le_refl _⟩, ⟨by (with_reducible repeat (first | apply bN | apply bD | apply bA)); refine blk_far ?_ NB181_186.out _; (with_reducible repeat (first | apply bN | apply bD | apply bA)); refine blk_far ?_ NB181_186.out _; (with_reducible repeat (first | apply bN | apply bD | apply bA)); refine blk_far ?_ NB181_186.out _; (with_reducible repeat (first | apply bN | apply bD | apply bA)); refine blk_far ?_ NB181_186.out _; (with_reducible repeat (first | apply bN | apply bD | apply bA)); exact BK181.out⟩, ⟨by (with_reducible repeat (first | apply bN | apply bD | apply bA)); refine blk_far ?_ NB182_186.out _; (with_reducible repeat (first | apply bN | apply bD | apply bA)); refine blk_far ?_ NB182_186.out _; (with_reducible repeat (first | apply bN | apply bD | apply bA)); refine blk_far ?_ NB182_186.out _; (with_reducible repeat (first | apply bN | apply bD | apply bA)); refine blk_far ?_ NB182_186.out _; (with_reducible repeat (first | apply bN | apply bD | apply bA)); exact BK182.out⟩, ⟨by (with_reducible repeat (first | apply bN | apply bD | apply bA)); refine blk_far ?_ NB184_186.out _; (with_reducible repeat (first | apply bN | apply bD | apply bA)); refine blk_far ?_ NB184_186.out _; (with_reducible repeat (first | apply bN | apply bD | apply bA)); refine blk_far ?_ NB184_186.out _; (with_reducible repeat (first | apply bN | apply bD | apply bA)); refine blk_far ?_ NB184_186.out _; (with_reducible repeat (first | apply bN | apply bD | apply bA)); exact BK184.out⟩, ⟨by (with_reducible repeat (first | apply bN | apply bD | apply bA)); refine blk_put (cs := #[.int .i64 ((rd_T104 l1_0 x5_2).f0), .slice A185_1 ((rd_T104 l1_0 x5_2).f1).length c185_1, .int .i64 ((rd_T104 l1_0 x5_2).f2), .bool false]) ?_ 3 _ rfl; (with_reducible repeat (first | apply bN | apply bD | apply bA)); refine blk_put (cs := #[.int .i64 ((rd_T104 l1_0 x5_2).f0), .slice A185_1 ((rd_T104 l1_0 x5_2).f1).length c185_1, .int .i64 0, .bool false]) ?_ 2 _ rfl; (with_reducible repeat (first | apply bN | apply bD | apply bA)); refine blk_put (cs := #[.int .i64 ((rd_T104 l1_0 x5_2).f0), .slice none 0 0, .int .i64 0, .bool false]) ?_ 1 _ rfl; (with_reducible repeat (first | apply bN | apply bD | apply bA)); refine blk_put (cs := #[.int .i64 0, .slice none 0 0, .int .i64 0, .bool false]) ?_ 0 _ rfl; (with_reducible repeat (first | apply bN | apply bD | apply bA)); exact BK186.out⟩, ⟨by repeat (first | (with_reducible first | exact HB.out | apply below_alloc | apply pw_below_drewN | apply below_drew1 | refine below_set ?_ GE181.out | refine below_set ?_ GE182.out | refine below_set ?_ GE184.out | refine below_set ?_ GE186.out) | exact HB.out)⟩⟩
         case rest =>
          clear HC17
          try clear c1
          try clear p1
          try clear q1
          try clear hx1
          try clear c2
          try clear p2
          try clear c3
          try clear c4
          try clear c5
          try clear c6
          try clear c6b0
          try clear c6b1
          try clear c7
          try clear c10
          try clear c13
          try clear c14
          try clear c14b0
          try clear c15
          try clear c15b0
          try clear c16
          try clear c16b0
          try clear c18
          try clear p18
          try clear q18
          try clear hx18
          try clear c21
          try clear c22
          try clear c26
          try clear c27
          try clear c28
          try clear c30
          try clear c30b0
          try clear c30b1
          try clear c31
          try clear c31b0
          try clear c31b1
          try clear c32
          try clear c32b0
          try clear c32b1
          try clear c32b2
          try clear c33
          try clear c34
          try clear c35
          try clear c37
          try clear c38
          try clear c40
          try clear c41
          try clear c42
          try clear c44
          try clear c45
          try clear c47
          try clear c48
          try clear c49
          try clear c51
          try clear c52
          try clear c54
          try clear c55
          try clear c56
          try clear c58
          try clear c59
          try clear hcz11_0
          try clear hcz11_1
          try clear hcz12_0
          try clear hcz12_1
          try clear hcz19_0
          try clear hcz19_1
          try clear hcz23_0
          try clear hcz23_1
          try clear hcz23_2
          try clear hcz23_3
          try clear hcz24_0
          try clear hcz24_1
          try clear hcz29_0
          try clear hcz29_1
          try clear hcz29_2
          try clear hcz29_3
          try clear hcz36_0
          try clear hcz36_1
          try clear hcz36_2
          try clear hcz36_3
          try clear hcz39_0
          try clear hcz39_1
          try clear hcz39_2
          try clear hcz39_3
          try clear hcz43_0
          try clear hcz43_1
          try clear hcz43_2
          try clear hcz43_3
          try clear hcz46_0
          try clear hcz46_1
          try clear hcz46_2
          try clear hcz46_3
          try clear hcz50_0
          try clear hcz50_1
          try clear hcz50_2
          try clear hcz50_3
          try clear hcz53_0
          try clear hcz53_1
          try clear hcz53_2
          try clear hcz53_3
          try clear hcz57_0
          try clear hcz57_1
          try clear hcz57_2
          try clear hcz57_3
          try clear hcz60_0
          try clear hcz60_1
          try clear hcz60_2
          try clear hcz60_3
          try clear hcz8_0
          try clear hcz8_1
          try clear hcz9_0
          try clear hcz9_1
          try clear hfz11_0
          try clear hfz11_1
          try clear hfz12_0
          try clear hfz12_1
          try clear hfz19_0
          try clear hfz19_1
          try clear hfz23_0
          try clear hfz23_1
          try clear hfz23_2
          try clear hfz23_3
          try clear hfz24_0
          try clear hfz24_1
          try clear hfz29_0
          try clear hfz29_1
          try clear hfz29_2
          try clear hfz29_3
          try clear hfz36_0
          try clear hfz36_1
          try clear hfz36_2
          try clear hfz36_3
          try clear hfz39_0
          try clear hfz39_1
          try clear hfz39_2
          try clear hfz39_3
          try clear hfz43_0
          try clear hfz43_1
          try clear hfz43_2
          try clear hfz43_3
          try clear hfz46_0
          try clear hfz46_1
          try clear hfz46_2
          try clear hfz46_3
          try clear hfz50_0
          try clear hfz50_1
          try clear hfz50_2
          try clear hfz50_3
          try clear hfz53_0
          try clear hfz53_1
          try clear hfz53_2
          try clear hfz53_3
          try clear hfz57_0
          try clear hfz57_1
          try clear hfz57_2
          try clear hfz57_3
          try clear hfz60_0
          try clear hfz60_1
          try clear hfz60_2
          try clear hfz60_3
          try clear hfz8_0
          try clear hfz8_1
          try clear hfz9_0
          try clear hfz9_1
          try clear hx183_0
          try clear hx183_1
          try clear hx183_2
          try clear hx183_3
          try clear hx185_0
          try clear hx185_1
          try clear hx185_2
          try clear hx185_3
          try clear p183
          try clear p185
          try clear p2
          try clear q183
          try clear q185
          obtain ⟨kq, x67_16, rfl, HA, HJ16, BK181, BK182, BK184, BK186, HB⟩ := hcut
          cases kq with
          | zero => exact absurd HA.out (by simp [spec_EqualDisks.j2])
          | succ kj16 =>
           have H := HA.out
           clear HA
           simp only [spec_EqualDisks.j2] at H
           by_cases c61 : x67_16 = true
           ·subst c61
            have H1 : (some false) = some r := by rw [if_pos rfl] at H; exact H
            clear H
            have H := H1
            clear H1
            obtain rfl := Option.some.inj H
            go_wp2
            repeat (go_quiet (fail); try go_wp2)
            go_ret
            exact ⟨by first | rfl | (simp [errW_none, errW_some] <;> rfl) | (simp [*, errW_none, errW_some] <;> rfl), by repeat (first | (with_reducible first | exact HB.out | apply below_alloc | apply pw_below_drewN | apply below_drew1 | refine below_set ?_ GE181.out | refine below_set ?_ GE182.out | refine below_set ?_ GE184.out | refine below_set ?_ GE186.out) | exact HB.out)⟩
           ·replace c61 := Bool.eq_false_iff.mpr c61
            subst c61
            have H1 : (spec_EqualDisks.l1 kj16 x5_2 0 l0_0 a0_1 l1_0 a1_1 ((rd_T104 l0_0 x5_2).f0) ((rd_T104 l0_0 x5_2).f1) ((rd_T104 l0_0 x5_2).f2) ((rd_T104 l0_0 x5_2).f3) ((rd_T104 l1_0 x5_2).f0) ((rd_T104 l1_0 x5_2).f1) ((rd_T104 l1_0 x5_2).f2) ((rd_T104 l1_0 x5_2).f3)) = some r := by rw [if_neg (show ¬ (false = true) by decide)] at H; exact H
            clear H
            have H := H1
            clear H1
            have H' := Aside0.mk H
            clear H
            go_wp2
            repeat (go_quiet (fail); try go_wp2)
            go_loopg [8] kj16 (fun kq v8 w' => ∃ (x8_4 : Int), v8 = .int .i64 x8_4 ∧ Aside0 (spec_EqualDisks.l1 kq x5_2 x8_4 l0_0 a0_1 l1_0 a1_1 ((rd_T104 l0_0 x5_2).f0) ((rd_T104 l0_0 x5_2).f1) ((rd_T104 l0_0 x5_2).f2) ((rd_T104 l0_0 x5_2).f3) ((rd_T104 l1_0 x5_2).f0) ((rd_T104 l1_0 x5_2).f1) ((rd_T104 l1_0 x5_2).f2) ((rd_T104 l1_0 x5_2).f3) = some r) ∧ Aside0 (kq ≤ kj16) ∧ Aside0 (w'.heap[gb181]? = some (.cells #[(.slice (some ad183) l0_0.length c0_0), .int .i64 a0_1] 67 (0, 0))) ∧ Aside0 (w'.heap[gb182]? = some (.cells #[(.slice (some ad185) l1_0.length c1_0), .int .i64 a1_1] 67 (0, 0))) ∧ Aside0 (w'.heap[gb184]? = some (.cells #[.int .i64 ((rd_T104 l0_0 x5_2).f0), (.slice A183_1 ((rd_T104 l0_0 x5_2).f1).length c183_1), .int .i64 ((rd_T104 l0_0 x5_2).f2), .bool ((rd_T104 l0_0 x5_2).f3)] 104 (0, 0))) ∧ Aside0 (w'.heap[gb186]? = some (.cells #[.int .i64 ((rd_T104 l1_0 x5_2).f0), (.slice A185_1 ((rd_T104 l1_0 x5_2).f1).length c185_1), .int .i64 ((rd_T104 l1_0 x5_2).f2), .bool ((rd_T104 l1_0 x5_2).f3)] 104 (0, 0))) ∧ Aside0 (Below w.heap.size w w'))
            case atStart => exact ⟨(0), (by first | rfl | (simp; done) | (simp [*]; done)), H', ⟨Nat.le_refl _⟩, ⟨by (with_reducible repeat (first | apply bN | apply bD | apply bA)); exact BK181.out⟩, ⟨by (with_reducible repeat (first | apply bN | apply bD | apply bA)); exact BK182.out⟩, ⟨by (with_reducible repeat (first | apply bN | apply bD | apply bA)); exact BK184.out⟩, ⟨by (with_reducible repeat (first | apply bN | apply bD | apply bA)); exact BK186.out⟩, ⟨by repeat (first | (with_reducible first | exact HB.out | apply below_alloc | apply pw_below_drewN | apply below_drew1 | refine below_set ?_ GE181.out | refine below_set ?_ GE182.out | refine below_set ?_ GE184.out | refine below_set ?_ GE186.out) | exact HB.out)⟩⟩
            case round =>
             clear H'
             try clear c1
             try clear p1
             try clear q1
             try clear hx1
             try clear c2
             try clear p2
             try clear c3
             try clear c4
             try clear c5
             try clear c6
             try clear c6b0
             try clear c6b1
             try clear c7
             try clear c10
             try clear c13
             try clear c14
             try clear c14b0
             try clear c15
             try clear c15b0
             try clear c16
             try clear c16b0
             try clear c18
             try clear p18
             try clear q18
             try clear hx18
             try clear c21
             try clear c22
             try clear c26
             try clear c27
             try clear c28
             try clear c30
             try clear c30b0
             try clear c30b1
             try clear c31
             try clear c31b0
             try clear c31b1
             try clear c32
             try clear c32b0
             try clear c32b1
             try clear c32b2
             try clear c33
             try clear c34
             try clear c35
             try clear c37
             try clear c38
             try clear c40
             try clear c41
             try clear c42
             try clear c44
             try clear c45
             try clear c47
             try clear c48
             try clear c49
             try clear c51
             try clear c52
             try clear c54
             try clear c55
             try clear c56
             try clear c58
             try clear c59
             try clear c61
             try clear hcz11_0
             try clear hcz11_1
             try clear hcz12_0
             try clear hcz12_1
             try clear hcz19_0
             try clear hcz19_1
             try clear hcz23_0
             try clear hcz23_1
             try clear hcz23_2
             try clear hcz23_3
             try clear hcz24_0
             try clear hcz24_1
             try clear hcz29_0
             try clear hcz29_1
             try clear hcz29_2
             try clear hcz29_3
             try clear hcz36_0
             try clear hcz36_1
             try clear hcz36_2
             try clear hcz36_3
             try clear hcz39_0
             try clear hcz39_1
             try clear hcz39_2
             try clear hcz39_3
             try clear hcz43_0
             try clear hcz43_1
             try clear hcz43_2
             try clear hcz43_3
             try clear hcz46_0
             try clear hcz46_1
             try clear hcz46_2
             try clear hcz46_3
             try clear hcz50_0
             try clear hcz50_1
             try clear hcz50_2
             try clear hcz50_3
             try clear hcz53_0
             try clear hcz53_1
             try clear hcz53_2
             try clear hcz53_3
             try clear hcz57_0
             try clear hcz57_1
             try clear hcz57_2
             try clear hcz57_3
             try clear hcz60_0
             try clear hcz60_1
             try clear hcz60_2
             try clear hcz60_3
             try clear hcz8_0
             try clear hcz8_1
             try clear hcz9_0
             try clear hcz9_1
             try clear hfz11_0
             try clear hfz11_1
             try clear hfz12_0
             try clear hfz12_1
             try clear hfz19_0
             try clear hfz19_1
             try clear hfz23_0
             try clear hfz23_1
             try clear hfz23_2
             try clear hfz23_3
             try clear hfz24_0
             try clear hfz24_1
             try clear hfz29_0
             try clear hfz29_1
             try clear hfz29_2
             try clear hfz29_3
             try clear hfz36_0
             try clear hfz36_1
             try clear hfz36_2
             try clear hfz36_3
             try clear hfz39_0
             try clear hfz39_1
             try clear hfz39_2
             try clear hfz39_3
             try clear hfz43_0
             try clear hfz43_1
             try clear hfz43_2
             try clear hfz43_3
             try clear hfz46_0
             try clear hfz46_1
             try clear hfz46_2
             try clear hfz46_3
             try clear hfz50_0
             try clear hfz50_1
             try clear hfz50_2
             try clear hfz50_3
             try clear hfz53_0
             try clear hfz53_1
             try clear hfz53_2
             try clear hfz53_3
             try clear hfz57_0
             try clear hfz57_1
             try clear hfz57_2
             try clear hfz57_3
             try clear hfz60_0
             try clear hfz60_1
             try clear hfz60_2
             try clear hfz60_3
             try clear hfz8_0
             try clear hfz8_1
             try clear hfz9_0
             try clear hfz9_1
             try clear hx183_0
             try clear hx183_1
             try clear hx183_2
             try clear hx183_3
             try clear hx185_0
             try clear hx185_1
             try clear hx185_2
             try clear hx185_3
             try clear p1
             try clear p18
             try clear p183
             try clear p185
             try clear p2
             try clear q1
             try clear q18
             try clear q183
             try clear q185
             obtain ⟨x8_4, rfl, HA, HK4, BK181, BK182, BK184, BK186, HB⟩ := hrel
             cases gk with
             | zero => exact absurd HA.out (by simp [spec_EqualDisks.l1])
             | succ k4 =>
              have H := HA.out
              clear HA
              simp only [spec_EqualDisks.l1] at H
              by_cases c62 : x8_4 < (((rd_T104 l0_0 x5_2).f1).length : Int)
              ·rw [if_pos c62] at H
               have c62b0 : decide (x8_4 < (((rd_T104 l0_0 x5_2).f1).length : Int)) = true := decide_eq_true c62
               clear c62
               by_cases c63 : 0 ≤ x8_4
               ·rw [if_pos c63] at H
                have c63b0 : decide (0 ≤ x8_4) = true := decide_eq_true c63
                clear c63
                by_cases c64 : x8_4 < (((rd_T104 l1_0 x5_2).f1).length : Int)
                ·rw [if_pos c64] at H
                 have c64b0 : decide (x8_4 < (((rd_T104 l1_0 x5_2).f1).length : Int)) = true := decide_eq_true c64
                 clear c64
                 replace H := Option.bind_eq_some_iff.mp H
                 obtain ⟨t189, A650, H⟩ := H
                 replace H : (if t189 = true then (spec_EqualDisks.l1 k4 x5_2 (wrap64 (x8_4 + 1)) l0_0 a0_1 l1_0 a1_1 ((rd_T104 l0_0 x5_2).f0) ((rd_T104 l0_0 x5_2).f1) ((rd_T104 l0_0 x5_2).f2) ((rd_T104 l0_0 x5_2).f3) ((rd_T104 l1_0 x5_2).f0) ((rd_T104 l1_0 x5_2).f1) ((rd_T104 l1_0 x5_2).f2) ((rd_T104 l1_0 x5_2).f3)) else (some false)) = some r := H
                 have A65 := Aside0.mk A650
                 clear A650
                 by_cases c66 : t189 = true
                 ·subst c66
                  have H1 : (spec_EqualDisks.l1 k4 x5_2 (wrap64 (x8_4 + 1)) l0_0 a0_1 l1_0 a1_1 ((rd_T104 l0_0 x5_2).f0) ((rd_T104 l0_0 x5_2).f1) ((rd_T104 l0_0 x5_2).f2) ((rd_T104 l0_0 x5_2).f3) ((rd_T104 l1_0 x5_2).f0) ((rd_T104 l1_0 x5_2).f1) ((rd_T104 l1_0 x5_2).f2) ((rd_T104 l1_0 x5_2).f3)) = some r := by rw [if_pos rfl] at H; exact H
                  clear H
                  have H := H1
                  clear H1
                  have H' := Aside0.mk H
                  clear H
                  have hnb67 := NB184_181.out
                  have hnc67 := NB181_184.out
                  have hnb68 := NB184_182.out
                  have hnc68 := NB182_184.out
                  have hnb69 := NB184_186.out
                  have hnc69 := NB186_184.out
                  have hcz70_0 : wr.cell? ⟨gb184, 0, none⟩ = some (.int .i64 ((rd_T104 l0_0 x5_2).f0)) := (blk_cell BK184.out 0).trans rfl
                  have hcz70_1 : wr.cell? ⟨gb184, 1, none⟩ = some (.slice A183_1 ((rd_T104 l0_0 x5_2).f1).length c183_1) := (blk_cell BK184.out 1).trans rfl
                  have hcz70_2 : wr.cell? ⟨gb184, 2, none⟩ = some (.int .i64 ((rd_T104 l0_0 x5_2).f2)) := (blk_cell BK184.out 2).trans rfl
                  have hcz70_3 : wr.cell? ⟨gb184, 3, none⟩ = some (.bool ((rd_T104 l0_0 x5_2).f3)) := (blk_cell BK184.out 3).trans rfl
                  have hfz70_0 := blk_frozen BK184.out 0
                  have hfz70_1 := blk_frozen BK184.out 1
                  have hfz70_2 := blk_frozen BK184.out 2
                  have hfz70_3 := blk_frozen BK184.out 3
                  have p187 : 0 ≤ (x8_4 : Int) := of_decide_eq_true (by first | (with_reducible assumption) | assumption)
                  have q187 : x8_4 < (((rd_T104 l0_0 x5_2).f1).length : Int) := of_decide_eq_true (by first | (with_reducible assumption) | assumption)
                  obtain ⟨ad187, A187_0, c187_0, e187, hx187_0, hl187_0, hi187_0⟩ := at_T31 HR183_1.out x8_4 p187 q187
                  cases e187
                  replace hx187_0 := (HB.out.cell (World.block_lt_of_cell? w _ hx187_0)).trans hx187_0
                  have HR187_0 := Aside0.mk hi187_0
                  have HC187_0 := Aside0.mk hl187_0
                  clear hi187_0 hl187_0
                  replace p187 := eq_true p187
                  replace q187 := eq_true q187
                  have hnb71 := NB186_181.out
                  have hnc71 := NB181_186.out
                  have hnb72 := NB186_182.out
                  have hnc72 := NB182_186.out
                  have hcz73_0 : wr.cell? ⟨gb186, 0, none⟩ = some (.int .i64 ((rd_T104 l1_0 x5_2).f0)) := (blk_cell BK186.out 0).trans rfl
                  have hcz73_1 : wr.cell? ⟨gb186, 1, none⟩ = some (.slice A185_1 ((rd_T104 l1_0 x5_2).f1).length c185_1) := (blk_cell BK186.out 1).trans rfl
                  have hcz73_2 : wr.cell? ⟨gb186, 2, none⟩ = some (.int .i64 ((rd_T104 l1_0 x5_2).f2)) := (blk_cell BK186.out 2).trans rfl
                  have hcz73_3 : wr.cell? ⟨gb186, 3, none⟩ = some (.bool ((rd_T104 l1_0 x5_2).f3)) := (blk_cell BK186.out 3).trans rfl
                  have hfz73_0 := blk_frozen BK186.out 0
                  have hfz73_1 := blk_frozen BK186.out 1
                  have hfz73_2 := blk_frozen BK186.out 2
                  have hfz73_3 := blk_frozen BK186.out 3
                  have p188 : 0 ≤ (x8_4 : Int) := of_decide_eq_true (by first | (with_reducible assumption) | assumption)
                  have q188 : x8_4 < (((rd_T104 l1_0 x5_2).f1).length : Int) := of_decide_eq_true (by first | (with_reducible assumption) | assumption)
                  obtain ⟨ad188, A188_0, c188_0, e188, hx188_0, hl188_0, hi188_0⟩ := at_T31 HR185_1.out x8_4 p188 q188
                  cases e188
                  replace hx188_0 := (HB.out.cell (World.block_lt_of_cell? w _ hx188_0)).trans hx188_0
                  have HR188_0 := Aside0.mk hi188_0
                  have HC188_0 := Aside0.mk hl188_0
                  clear hi188_0 hl188_0
                  replace p188 := eq_true p188
                  replace q188 := eq_true q188
                  go_wp2_with (first | (go_at_call 107; (with_reducible refine (spec_l6Rows.calls k4 _ _ ((rd_T31 ((rd_T104 l0_0 x5_2).f1) x8_4).f0) _ _ ((rd_T31 ((rd_T104 l1_0 x5_2).f1) x8_4).f0) true _ ?side1 ?side2 ?side3 ?side4 A65.out).mono ?_); (case side1 => repeat (first | exact (Kd.C_below HR187_0.out HB.out) | (with_reducible refine Kd.C_alloc ?_ _) | (with_reducible refine Kd.C_drewN ?_ _) | (with_reducible refine Kd.C_drew ?_))); (case side2 => exact HC187_0.out); (case side3 => repeat (first | exact (Kd.C_below HR188_0.out HB.out) | (with_reducible refine Kd.C_alloc ?_ _) | (with_reducible refine Kd.C_drewN ?_ _) | (with_reducible refine Kd.C_drew ?_))); (case side4 => exact HC188_0.out); rintro e w' ⟨rfl, ⟨nd, rfl⟩⟩; (try first | exact ⟨rfl, _, World.drewN_drewN _ _ _⟩ | exact ⟨rfl, _, Eq.trans (World.drewN_drewN _ _ _) (congrArg (World.drewN _) (Nat.add_assoc _ _ _))⟩)))
                  repeat (go_quiet (first | (go_at_call 107; (with_reducible refine (spec_l6Rows.calls k4 _ _ ((rd_T31 ((rd_T104 l0_0 x5_2).f1) x8_4).f0) _ _ ((rd_T31 ((rd_T104 l1_0 x5_2).f1) x8_4).f0) true _ ?side1 ?side2 ?side3 ?side4 A65.out).mono ?_); (case side1 => repeat (first | exact (Kd.C_below HR187_0.out HB.out) | (with_reducible refine Kd.C_alloc ?_ _) | (with_reducible refine Kd.C_drewN ?_ _) | (with_reducible refine Kd.C_drew ?_))); (case side2 => exact HC187_0.out); (case side3 => repeat (first | exact (Kd.C_below HR188_0.out HB.out) | (with_reducible refine Kd.C_alloc ?_ _) | (with_reducible refine Kd.C_drewN ?_ _) | (with_reducible refine Kd.C_drew ?_))); (case side4 => exact HC188_0.out); rintro e w' ⟨rfl, ⟨nd, rfl⟩⟩; (try first | exact ⟨rfl, _, World.drewN_drewN _ _ _⟩ | exact ⟨rfl, _, Eq.trans (World.drewN_drewN _ _ _) (congrArg (World.drewN _) (Nat.add_assoc _ _ _))⟩))); try go_wp2_with (first | (go_at_call 107; (with_reducible refine (spec_l6Rows.calls k4 _ _ ((rd_T31 ((rd_T104 l0_0 x5_2).f1) x8_4).f0) _ _ ((rd_T31 ((rd_T104 l1_0 x5_2).f1) x8_4).f0) true _ ?side1 ?side2 ?side3 ?side4 A65.out).mono ?_); (case side1 => repeat (first | exact (Kd.C_below HR187_0.out HB.out) | (with_reducible refine Kd.C_alloc ?_ _) | (with_reducible refine Kd.C_drewN ?_ _) | (with_reducible refine Kd.C_drew ?_))); (case side2 => exact HC187_0.out); (case side3 => repeat (first | exact (Kd.C_below HR188_0.out HB.out) | (with_reducible refine Kd.C_alloc ?_ _) | (with_reducible refine Kd.C_drewN ?_ _) | (with_reducible refine Kd.C_drew ?_))); (case side4 => exact HC188_0.out); rintro e w' ⟨rfl, ⟨nd, rfl⟩⟩; (try first | exact ⟨rfl, _, World.drewN_drewN _ _ _⟩ | exact ⟨rfl, _, Eq.trans (World.drewN_drewN _ _ _) (congrArg (World.drewN _) (Nat.add_assoc _ _ _))⟩))))
                  go_roundg k4
                  case measure => have := HJ2.out; have := HK2.out; have := HJ16.out; have := HK4.out; omega
                  case rel => exact ⟨(wrap64 (x8_4 + 1)), (by first | rfl | (simp; done) | (simp [*]; done)), H', ⟨by have := HJ2.out; have := HK2.out; have := HJ16.out; have := HK4.out; omega⟩, ⟨by (with_reducible repeat (first | apply bN | apply bD | apply bA)); exact BK181.out⟩, ⟨by (with_reducible repeat (first | apply bN | apply bD | apply bA)); exact BK182.out⟩, ⟨by (with_reducible repeat (first | apply bN | apply bD | apply bA)); exact BK184.out⟩, ⟨by (with_reducible repeat (first | apply bN | apply bD | apply bA)); exact BK186.out⟩, ⟨by repeat (first | (with_reducible first | exact HB.out | apply below_alloc | apply pw_below_drewN | apply below_drew1 | refine below_set ?_ GE181.out | refine below_set ?_ GE182.out | refine below_set ?_ GE184.out | refine below_set ?_ GE186.out) | exact HB.out)⟩⟩
                 ·replace c66 := Bool.eq_false_iff.mpr c66
                  subst c66
                  have H1 : (some false) = some r := by rw [if_neg (show ¬ (false = true) by decide)] at H; exact H
                  clear H
                  have H := H1
                  clear H1
                  obtain rfl := Option.some.inj H
                  have hnb74 := NB184_181.out
                  have hnc74 := NB181_184.out
                  have hnb75 := NB184_182.out
                  have hnc75 := NB182_184.out
                  have hnb76 := NB184_186.out
                  have hnc76 := NB186_184.out
                  have hcz77_0 : wr.cell? ⟨gb184, 0, none⟩ = some (.int .i64 ((rd_T104 l0_0 x5_2).f0)) := (blk_cell BK184.out 0).trans rfl
                  have hcz77_1 : wr.cell? ⟨gb184, 1, none⟩ = some (.slice A183_1 ((rd_T104 l0_0 x5_2).f1).length c183_1) := (blk_cell BK184.out 1).trans rfl
                  have hcz77_2 : wr.cell? ⟨gb184, 2, none⟩ = some (.int .i64 ((rd_T104 l0_0 x5_2).f2)) := (blk_cell BK184.out 2).trans rfl
                  have hcz77_3 : wr.cell? ⟨gb184, 3, none⟩ = some (.bool ((rd_T104 l0_0 x5_2).f3)) := (blk_cell BK184.out 3).trans rfl
                  have hfz77_0 := blk_frozen BK184.out 0
                  have hfz77_1 := blk_frozen BK184.out 1
                  have hfz77_2 := blk_frozen BK184.out 2
                  have hfz77_3 := blk_frozen BK184.out 3
                  have p187 : 0 ≤ (x8_4 : Int) := of_decide_eq_true (by first | (with_reducible assumption) | assumption)
                  have q187 : x8_4 < (((rd_T104 l0_0 x5_2).f1).length : Int) := of_decide_eq_true (by first | (with_reducible assumption) | assumption)
                  obtain ⟨ad187, A187_0, c187_0, e187, hx187_0, hl187_0, hi187_0⟩ := at_T31 HR183_1.out x8_4 p187 q187
                  cases e187
                  replace hx187_0 := (HB.out.cell (World.block_lt_of_cell? w _ hx187_0)).trans hx187_0
                  have HR187_0 := Aside0.mk hi187_0
                  have HC187_0 := Aside0.mk hl187_0
                  clear hi187_0 hl187_0
                  replace p187 := eq_true p187
                  replace q187 := eq_true q187
                  have hnb78 := NB186_181.out
                  have hnc78 := NB181_186.out
                  have hnb79 := NB186_182.out
                  have hnc79 := NB182_186.out
                  have hcz80_0 : wr.cell? ⟨gb186, 0, none⟩ = some (.int .i64 ((rd_T104 l1_0 x5_2).f0)) := (blk_cell BK186.out 0).trans rfl
                  have hcz80_1 : wr.cell? ⟨gb186, 1, none⟩ = some (.slice A185_1 ((rd_T104 l1_0 x5_2).f1).length c185_1) := (blk_cell BK186.out 1).trans rfl
                  have hcz80_2 : wr.cell? ⟨gb186, 2, none⟩ = some (.int .i64 ((rd_T104 l1_0 x5_2).f2)) := (blk_cell BK186.out 2).trans rfl
                  have hcz80_3 : wr.cell? ⟨gb186, 3, none⟩ = some (.bool ((rd_T104 l1_0 x5_2).f3)) := (blk_cell BK186.out 3).trans rfl
                  have hfz80_0 := blk_frozen BK186.out 0
                  have hfz80_1 := blk_frozen BK186.out 1
                  have hfz80_2 := blk_frozen BK186.out 2
                  have hfz80_3 := blk_frozen BK186.out 3
                  have p188 : 0 ≤ (x8_4 : Int) := of_decide_eq_true (by first | (with_reducible assumption) | assumption)
                  have q188 : x8_4 < (((rd_T104 l1_0 x5_2).f1).length : Int) := of_decide_eq_true (by first | (with_reducible assumption) | assumption)
                  obtain ⟨ad188, A188_0, c188_0, e188, hx188_0, hl188_0, hi188_0⟩ := at_T31 HR185_1.out x8_4 p188 q188
                  cases e188
                  replace hx188_0 := (HB.out.cell (World.block_lt_of_cell? w _ hx188_0)).trans hx188_0
                  have HR188_0 := Aside0.mk hi188_0
                  have HC188_0 := Aside0.mk hl188_0
                  clear hi188_0 hl188_0
                  replace p188 := eq_true p188
                  replace q188 := eq_true q188
                  go_wp2_with (first | (go_at_call 107; (with_reducible refine (spec_l6Rows.calls k4 _ _ ((rd_T31 ((rd_T104 l0_0 x5_2).f1) x8_4).f0) _ _ ((rd_T31 ((rd_T104 l1_0 x5_2).f1) x8_4).f0) false _ ?side1 ?side2 ?side3 ?side4 A65.out).mono ?_); (case side1 => repeat (first | exact (Kd.C_below HR187_0.out HB.out) | (with_reducible refine Kd.C_alloc ?_ _) | (with_reducible refine Kd.C_drewN ?_ _) | (with_reducible refine Kd.C_drew ?_))); (case side2 => exact HC187_0.out); (case side3 => repeat (first | exact (Kd.C_below HR188_0.out HB.out) | (with_reducible refine Kd.C_alloc ?_ _) | (with_reducible refine Kd.C_drewN ?_ _) | (with_reducible refine Kd.C_drew ?_))); (case side4 => exact HC188_0.out); rintro e w' ⟨rfl, ⟨nd, rfl⟩⟩; (try first | exact ⟨rfl, _, World.drewN_drewN _ _ _⟩ | exact ⟨rfl, _, Eq.trans (World.drewN_drewN _ _ _) (congrArg (World.drewN _) (Nat.add_assoc _ _ _))⟩)))
                  repeat (go_quiet (first | (go_at_call 107; (with_reducible refine (spec_l6Rows.calls k4 _ _ ((rd_T31 ((rd_T104 l0_0 x5_2).f1) x8_4).f0) _ _ ((rd_T31 ((rd_T104 l1_0 x5_2).f1) x8_4).f0) false _ ?side1 ?side2 ?side3 ?side4 A65.out).mono ?_); (case side1 => repeat (first | exact (Kd.C_below HR187_0.out HB.out) | (with_reducible refine Kd.C_alloc ?_ _) | (with_reducible refine Kd.C_drewN ?_ _) | (with_reducible refine Kd.C_drew ?_))); (case side2 => exact HC187_0.out); (case side3 => repeat (first | exact (Kd.C_below HR188_0.out HB.out) | (with_reducible refine Kd.C_alloc ?_ _) | (with_reducible refine Kd.C_drewN ?_ _) | (with_reducible refine Kd.C_drew ?_))); (case side4 => exact HC188_0.out); rintro e w' ⟨rfl, ⟨nd, rfl⟩⟩; (try first | exact ⟨rfl, _, World.drewN_drewN _ _ _⟩ | exact ⟨rfl, _, Eq.trans (World.drewN_drewN _ _ _) (congrArg (World.drewN _) (Nat.add_assoc _ _ _))⟩))); try go_wp2_with (first | (go_at_call 107; (with_reducible refine (spec_l6Rows.calls k4 _ _ ((rd_T31 ((rd_T104 l0_0 x5_2).f1) x8_4).f0) _ _ ((rd_T31 ((rd_T104 l1_0 x5_2).f1) x8_4).f0) false _ ?side1 ?side2 ?side3 ?side4 A65.out).mono ?_); (case side1 => repeat (first | exact (Kd.C_below HR187_0.out HB.out) | (with_reducible refine Kd.C_alloc ?_ _) | (with_reducible refine Kd.C_drewN ?_ _) | (with_reducible refine Kd.C_drew ?_))); (case side2 => exact HC187_0.out); (case side3 => repeat (first | exact (Kd.C_below HR188_0.out HB.out) | (with_reducible refine Kd.C_alloc ?_ _) | (with_reducible refine Kd.C_drewN ?_ _) | (with_reducible refine Kd.C_drew ?_))); (case side4 => exact HC188_0.out); rintro e w' ⟨rfl, ⟨nd, rfl⟩⟩; (try first | exact ⟨rfl, _, World.drewN_drewN _ _ _⟩ | exact ⟨rfl, _, Eq.trans (World.drewN_drewN _ _ _) (congrArg (World.drewN _) (Nat.add_assoc _ _ _))⟩))))
                  go_ret
                  exact ⟨by first | rfl | (simp [errW_none, errW_some] <;> rfl) | (simp [*, errW_none, errW_some] <;> rfl), by repeat (first | (with_reducible first | exact HB.out | apply below_alloc | apply pw_below_drewN | apply below_drew1 | refine below_set ?_ GE181.out | refine below_set ?_ GE182.out | refine below_set ?_ GE184.out | refine below_set ?_ GE186.out) | exact HB.out)⟩
                ·rw [if_neg c64] at H
                 exact absurd H (by simp)
               ·rw [if_neg c63] at H
                exact absurd H (by simp)
              ·rw [if_neg c62] at H
               have c62b0 : decide (x8_4 < (((rd_T104 l0_0 x5_2).f1).length : Int)) = false := decide_eq_false c62
               clear c62
               have H' := Aside0.mk H
               clear H
               have hnb81 := NB184_181.out
               have hnc81 := NB181_184.out
               have hnb82 := NB184_182.out
               have hnc82 := NB182_184.out
               have hnb83 := NB184_186.out
               have hnc83 := NB186_184.out
               have hcz84_0 : wr.cell? ⟨gb184, 0, none⟩ = some (.int .i64 ((rd_T104 l0_0 x5_2).f0)) := (blk_cell BK184.out 0).trans rfl
               have hcz84_1 : wr.cell? ⟨gb184, 1, none⟩ = some (.slice A183_1 ((rd_T104 l0_0 x5_2).f1).length c183_1) := (blk_cell BK184.out 1).trans rfl
               have hcz84_2 : wr.cell? ⟨gb184, 2, none⟩ = some (.int .i64 ((rd_T104 l0_0 x5_2).f2)) := (blk_cell BK184.out 2).trans rfl
               have hcz84_3 : wr.cell? ⟨gb184, 3, none⟩ = some (.bool ((rd_T104 l0_0 x5_2).f3)) := (blk_cell BK184.out 3).trans rfl
               have hfz84_0 := blk_frozen BK184.out 0
               have hfz84_1 := blk_frozen BK184.out 1
               have hfz84_2 := blk_frozen BK184.out 2
               have hfz84_3 := blk_frozen BK184.out 3
               go_wp2
               repeat (go_quiet (fail); try go_wp2)
               go_roundg k4
               case measure => have := HJ2.out; have := HK2.out; have := HJ16.out; have := HK4.out; omega
               case rel => exact ⟨(wrap64 (x5_2 + 1)), (by first | rfl | (simp; done) | (simp [*]; done)), H', ⟨by have := HJ2.out; have := HK2.out; have := HJ16.out; have := HK4.out; omega⟩, ⟨by (with_reducible repeat (first | apply bN | apply bD | apply bA)); exact BK181.out⟩, ⟨by (with_reducible repeat (first | apply bN | apply bD | apply bA)); exact BK182.out⟩, ⟨by repeat (first | (with_reducible first | exact HB.out | apply below_alloc | apply pw_below_drewN | apply below_drew1 | refine below_set ?_ GE181.out | refine below_set ?_ GE182.out | refine below_set ?_ GE184.out | refine below_set ?_ GE186.out) | exact HB.out)⟩⟩
        ·rw [if_neg c16] at H
         exact absurd H (by simp)
       ·rw [if_neg c15] at H
        exact absurd H (by simp)
      ·rw [if_neg c14] at H
       have c14b0 : decide (x5_2 < (l0_0.length : Int)) = false := decide_eq_false c14
       clear c14
       obtain rfl := Option.some.inj H
       have hnb85 := NB181_182.out
       have hnc85 := NB182_181.out
       have hcz86_0 : wr.cell? ⟨gb181, 0, none⟩ = some (.slice A0_0 l0_0.length c0_0) := (blk_cell BK181.out 0).trans rfl
       have hcz86_1 : wr.cell? ⟨gb181, 1, none⟩ = some (.int .i64 a0_1) := (blk_cell BK181.out 1).trans rfl
       have hfz86_0 := blk_frozen BK181.out 0
       have hfz86_1 := blk_frozen BK181.out 1
       go_wp2
       repeat (go_quiet (fail); try go_wp2)
       go_ret
       exact ⟨by first | rfl | (simp [errW_none, errW_some] <;> rfl) | (simp [*, errW_none, errW_some] <;> rfl), by repeat (first | (with_reducible first | exact HB.out | apply below_alloc | apply pw_below_drewN | apply below_drew1 | refine below_set ?_ GE181.out | refine below_set ?_ GE182.out) | exact HB.out)⟩

end Go.Proofs.Ytkipmmkjbeeemaa.PFnExactEqualDisks
