/- Out of the print of this law's functions, with the contracts of some of them proved otherwise; nothing is claimed here. -/
/- Out of the print of this law's functions, its regions' steps said shorter; nothing is claimed here. -/
import Derived.Test.YtkipmmkjbeeemaaPFnExactEqualDisksx0
import Derived.Test.YtkipmmkjbeeemaaPFnExactEqualDisksx7
import Derived.Test.YtkipmmkjbeeemaaShort
namespace Go.Proofs.Ytkipmmkjbeeemaa.PFnExactEqualDisks
open Go.RowKit Go.Proofs.YtkipmmkjbeeemaaW.PrintWords Go.Proofs.YtkipmmkjbeeemaaW.PrintLast Go.Proofs.YtkipmmkjbeeemaaW.PrintMore Go.Proofs.Ytkipmmkjbeeemaa.Short
attribute [local go_sem] max2_int min2_int max_two min_two max_three min_three max_four min_four   -- for this text's walks alone
set_option linter.unusedVariables false
set_option linter.unusedSimpArgs false

/-! ### impl_EqualDisks: function 71 -/
mutual
def impl_EqualDisks.j0 : Nat → Bool → List (S104) → Int → List (S104) → Int → Option (Bool)
 | 0, _, _, _, _, _ => none
 | k + 1, x22, x193000, x193001, x194000, x194001 => if x22 = true then (some false) else (impl_EqualDisks.l0 k x193000 (x193000.length : Int) 0 x194000 x194001)
def impl_EqualDisks.l0 : Nat → List (S104) → Int → Int → List (S104) → Int → Option (Bool)
 | 0, _, _, _, _, _ => none
 | k + 1, x24, x25, x26, x194000, x194001 => if x26 < x25 then (if 0 ≤ x26 then (if x26 < (x24.length : Int) then (if x26 < (x194000.length : Int) then (if ((rd_T104 x24 x26).f0) = ((rd_T104 x194000 x26).f0) then (if ((rd_T104 x24 x26).f2) = ((rd_T104 x194000 x26).f2) then (if (((rd_T104 x24 x26).f3) != ((rd_T104 x194000 x26).f3)) = true then (impl_EqualDisks.j2 k x24 x25 x26 true x194000 x194001 ((rd_T104 x24 x26).f0) ((rd_T104 x24 x26).f1) ((rd_T104 x24 x26).f2) ((rd_T104 x24 x26).f3) ((rd_T104 x194000 x26).f0) ((rd_T104 x194000 x26).f1) ((rd_T104 x194000 x26).f2) ((rd_T104 x194000 x26).f3)) else (impl_EqualDisks.j2 k x24 x25 x26 ((((rd_T104 x24 x26).f1).length : Int) != (((rd_T104 x194000 x26).f1).length : Int)) x194000 x194001 ((rd_T104 x24 x26).f0) ((rd_T104 x24 x26).f1) ((rd_T104 x24 x26).f2) ((rd_T104 x24 x26).f3) ((rd_T104 x194000 x26).f0) ((rd_T104 x194000 x26).f1) ((rd_T104 x194000 x26).f2) ((rd_T104 x194000 x26).f3))) else (impl_EqualDisks.j2 k x24 x25 x26 true x194000 x194001 ((rd_T104 x24 x26).f0) ((rd_T104 x24 x26).f1) ((rd_T104 x24 x26).f2) ((rd_T104 x24 x26).f3) ((rd_T104 x194000 x26).f0) ((rd_T104 x194000 x26).f1) ((rd_T104 x194000 x26).f2) ((rd_T104 x194000 x26).f3))) else (impl_EqualDisks.j2 k x24 x25 x26 true x194000 x194001 ((rd_T104 x24 x26).f0) ((rd_T104 x24 x26).f1) ((rd_T104 x24 x26).f2) ((rd_T104 x24 x26).f3) ((rd_T104 x194000 x26).f0) ((rd_T104 x194000 x26).f1) ((rd_T104 x194000 x26).f2) ((rd_T104 x194000 x26).f3))) else (none)) else (none)) else (none)) else (some true)
def impl_EqualDisks.j2 : Nat → List (S104) → Int → Int → Bool → List (S104) → Int → Int → List (S31) → Int → Bool → Int → List (S31) → Int → Bool → Option (Bool)
 | 0, _, _, _, _, _, _, _, _, _, _, _, _, _, _ => none
 | k + 1, x24, x25, x26, x63, x194000, x194001, x196000, x196001, x196002, x196003, x198000, x198001, x198002, x198003 => if x63 = true then (some false) else (impl_EqualDisks.l1 k x24 x25 x26 (x196001.length : Int) 0 x194000 x194001 x196000 x196001 x196002 x196003 x198000 x198001 x198002 x198003)
def impl_EqualDisks.l1 : Nat → List (S104) → Int → Int → Int → Int → List (S104) → Int → Int → List (S31) → Int → Bool → Int → List (S31) → Int → Bool → Option (Bool)
 | 0, _, _, _, _, _, _, _, _, _, _, _, _, _, _, _ => none
 | k + 1, x24, x25, x26, x66, x67, x194000, x194001, x196000, x196001, x196002, x196003, x198000, x198001, x198002, x198003 => if x67 < x66 then (if 0 ≤ x67 then (if x67 < (x196001.length : Int) then (if x67 < (x198001.length : Int) then ((impl_equal.f k ((rd_T31 x196001 x67).f0) ((rd_T31 x198001 x67).f0)).bind fun t200 => (if t200 = true then (impl_EqualDisks.l1 k x24 x25 x26 x66 (wrap64 (x67 + 1)) x194000 x194001 x196000 x196001 x196002 x196003 x198000 x198001 x198002 x198003) else (some false))) else (none)) else (none)) else (none)) else (impl_EqualDisks.l0 k x24 x25 (wrap64 (x26 + 1)) x194000 x194001)
end
def impl_EqualDisks.f (k : Nat) (l0_0 : List (S104)) (a0_1 : Int) (l1_0 : List (S104)) (a1_1 : Int) : Option (Bool) := if a0_1 = a1_1 then (impl_EqualDisks.j0 k ((l0_0.length : Int) != (l1_0.length : Int)) l0_0 a0_1 l1_0 a1_1) else (impl_EqualDisks.j0 k true l0_0 a0_1 l1_0 a1_1)
theorem impl_EqualDisks.mono_l : ∀ k, (∀ y0 y1 y2 y3 y4, LeO (impl_EqualDisks.j0 k y0 y1 y2 y3 y4) (impl_EqualDisks.j0 (k + 1) y0 y1 y2 y3 y4)) ∧ (∀ y0 y1 y2 y3 y4, LeO (impl_EqualDisks.l0 k y0 y1 y2 y3 y4) (impl_EqualDisks.l0 (k + 1) y0 y1 y2 y3 y4)) ∧ (∀ y0 y1 y2 y3 y4 y5 y6 y7 y8 y9 y10 y11 y12 y13, LeO (impl_EqualDisks.j2 k y0 y1 y2 y3 y4 y5 y6 y7 y8 y9 y10 y11 y12 y13) (impl_EqualDisks.j2 (k + 1) y0 y1 y2 y3 y4 y5 y6 y7 y8 y9 y10 y11 y12 y13)) ∧ (∀ y0 y1 y2 y3 y4 y5 y6 y7 y8 y9 y10 y11 y12 y13 y14, LeO (impl_EqualDisks.l1 k y0 y1 y2 y3 y4 y5 y6 y7 y8 y9 y10 y11 y12 y13 y14) (impl_EqualDisks.l1 (k + 1) y0 y1 y2 y3 y4 y5 y6 y7 y8 y9 y10 y11 y12 y13 y14))
 | 0 => ⟨fun _ _ _ _ _ r h => by simp [impl_EqualDisks.j0] at h, fun _ _ _ _ _ r h => by simp [impl_EqualDisks.l0] at h, fun _ _ _ _ _ _ _ _ _ _ _ _ _ _ r h => by simp [impl_EqualDisks.j2] at h, fun _ _ _ _ _ _ _ _ _ _ _ _ _ _ _ r h => by simp [impl_EqualDisks.l1] at h⟩
 | k + 1 => by
  obtain ⟨ih0, ih1, ih2, ih3⟩ := impl_EqualDisks.mono_l k
  refine ⟨?_, ?_, ?_, ?_⟩
  ·intro y0 y1 y2 y3 y4
   unfold impl_EqualDisks.j0
   repeat' first
   | (with_reducible exact ih0 _ _ _ _ _)
   | (with_reducible exact ih1 _ _ _ _ _)
   | (with_reducible exact ih2 _ _ _ _ _ _ _ _ _ _ _ _ _ _)
   | (with_reducible exact ih3 _ _ _ _ _ _ _ _ _ _ _ _ _ _ _)
   | (with_reducible exact impl_equal.mono _ _ _)
   | (with_reducible exact LeO.refl _)
   | (with_reducible exact LeO.none _)
   | (with_reducible refine LeO.ite ?_ ?_)
   | (with_reducible refine LeO.bind ?_ (fun _ => ?_))
   | exact ih0 _ _ _ _ _
   | exact ih1 _ _ _ _ _
   | exact ih2 _ _ _ _ _ _ _ _ _ _ _ _ _ _
   | exact ih3 _ _ _ _ _ _ _ _ _ _ _ _ _ _ _
   | exact impl_equal.mono _ _ _
   | exact LeO.none _
   | refine LeO.ite ?_ ?_
   | refine LeO.bind ?_ (fun _ => ?_)
  ·intro y0 y1 y2 y3 y4
   unfold impl_EqualDisks.l0
   repeat' first
   | (with_reducible exact ih0 _ _ _ _ _)
   | (with_reducible exact ih1 _ _ _ _ _)
   | (with_reducible exact ih2 _ _ _ _ _ _ _ _ _ _ _ _ _ _)
   | (with_reducible exact ih3 _ _ _ _ _ _ _ _ _ _ _ _ _ _ _)
   | (with_reducible exact impl_equal.mono _ _ _)
   | (with_reducible exact LeO.refl _)
   | (with_reducible exact LeO.none _)
   | (with_reducible refine LeO.ite ?_ ?_)
   | (with_reducible refine LeO.bind ?_ (fun _ => ?_))
   | exact ih0 _ _ _ _ _
   | exact ih1 _ _ _ _ _
   | exact ih2 _ _ _ _ _ _ _ _ _ _ _ _ _ _
   | exact ih3 _ _ _ _ _ _ _ _ _ _ _ _ _ _ _
   | exact impl_equal.mono _ _ _
   | exact LeO.none _
   | refine LeO.ite ?_ ?_
   | refine LeO.bind ?_ (fun _ => ?_)
  ·intro y0 y1 y2 y3 y4 y5 y6 y7 y8 y9 y10 y11 y12 y13
   unfold impl_EqualDisks.j2
   repeat' first
   | (with_reducible exact ih0 _ _ _ _ _)
   | (with_reducible exact ih1 _ _ _ _ _)
   | (with_reducible exact ih2 _ _ _ _ _ _ _ _ _ _ _ _ _ _)
   | (with_reducible exact ih3 _ _ _ _ _ _ _ _ _ _ _ _ _ _ _)
   | (with_reducible exact impl_equal.mono _ _ _)
   | (with_reducible exact LeO.refl _)
   | (with_reducible exact LeO.none _)
   | (with_reducible refine LeO.ite ?_ ?_)
   | (with_reducible refine LeO.bind ?_ (fun _ => ?_))
   | exact ih0 _ _ _ _ _
   | exact ih1 _ _ _ _ _
   | exact ih2 _ _ _ _ _ _ _ _ _ _ _ _ _ _
   | exact ih3 _ _ _ _ _ _ _ _ _ _ _ _ _ _ _
   | exact impl_equal.mono _ _ _
   | exact LeO.none _
   | refine LeO.ite ?_ ?_
   | refine LeO.bind ?_ (fun _ => ?_)
  ·intro y0 y1 y2 y3 y4 y5 y6 y7 y8 y9 y10 y11 y12 y13 y14
   unfold impl_EqualDisks.l1
   repeat' first
   | (with_reducible exact ih0 _ _ _ _ _)
   | (with_reducible exact ih1 _ _ _ _ _)
   | (with_reducible exact ih2 _ _ _ _ _ _ _ _ _ _ _ _ _ _)
   | (with_reducible exact ih3 _ _ _ _ _ _ _ _ _ _ _ _ _ _ _)
   | (with_reducible exact impl_equal.mono _ _ _)
   | (with_reducible exact LeO.refl _)
   | (with_reducible exact LeO.none _)
   | (with_reducible refine LeO.ite ?_ ?_)
   | (with_reducible refine LeO.bind ?_ (fun _ => ?_))
   | exact ih0 _ _ _ _ _
   | exact ih1 _ _ _ _ _
   | exact ih2 _ _ _ _ _ _ _ _ _ _ _ _ _ _
   | exact ih3 _ _ _ _ _ _ _ _ _ _ _ _ _ _ _
   | exact impl_equal.mono _ _ _
   | exact LeO.none _
   | refine LeO.ite ?_ ?_
   | refine LeO.bind ?_ (fun _ => ?_)
theorem impl_EqualDisks.mono : ∀ a0 a1 a2 a3 k, LeO (impl_EqualDisks.f k a0 a1 a2 a3) (impl_EqualDisks.f (k + 1) a0 a1 a2 a3) := by
 intro a0 a1 a2 a3 k
 obtain ⟨ih0, ih1, ih2, ih3⟩ := impl_EqualDisks.mono_l k
 unfold impl_EqualDisks.f
 repeat' first
   | (with_reducible exact ih0 _ _ _ _ _)
   | (with_reducible exact ih1 _ _ _ _ _)
   | (with_reducible exact ih2 _ _ _ _ _ _ _ _ _ _ _ _ _ _)
   | (with_reducible exact ih3 _ _ _ _ _ _ _ _ _ _ _ _ _ _ _)
   | (with_reducible exact impl_equal.mono _ _ _)
   | (with_reducible exact LeO.refl _)
   | (with_reducible exact LeO.none _)
   | (with_reducible refine LeO.ite ?_ ?_)
   | (with_reducible refine LeO.bind ?_ (fun _ => ?_))
   | exact ih0 _ _ _ _ _
   | exact ih1 _ _ _ _ _
   | exact ih2 _ _ _ _ _ _ _ _ _ _ _ _ _ _
   | exact ih3 _ _ _ _ _ _ _ _ _ _ _ _ _ _ _
   | exact impl_equal.mono _ _ _
   | exact LeO.none _
   | refine LeO.ite ?_ ?_
   | refine LeO.bind ?_ (fun _ => ?_)
set_option maxHeartbeats 8000000 in
set_option maxRecDepth 100000 in
theorem impl_EqualDisks.calls (k : Nat) (A0_0 : Option Addr) (c0_0 : Nat) (l0_0 : List (S104)) (a0_1 : Int) (A1_0 : Option Addr) (c1_0 : Nat) (l1_0 : List (S104)) (a1_1 : Int) (r : Bool) (w : World) (hr0_0 : Kd.C k104 w A0_0 l0_0.length l0_0) (hc0_0 : l0_0.length ≤ c0_0) (hr1_0 : Kd.C k104 w A1_0 l1_0.length l1_0) (hc1_0 : l1_0.length ≤ c1_0) (h : impl_EqualDisks.f k l0_0 a0_1 l1_0 a1_1 = some r) :
  Calls Try.prog 71 #[.agg #[.slice A0_0 l0_0.length c0_0, .int .i64 a0_1], .agg #[.slice A1_0 l1_0.length c1_0, .int .i64 a1_1]] w fun e w' => e = .returned (.bool r) ∧ Below w.heap.size w w' := by
 have hu67 := Try.underlying67
 have hu104 := Try.underlying104
 have HR0_0 := Aside0.mk hr0_0
 have HC0_0 := Aside0.mk hc0_0
 clear hr0_0 hc0_0
 have HR1_0 := Aside0.mk hr1_0
 have HC1_0 := Aside0.mk hc1_0
 clear hr1_0 hc1_0
 have HB := Aside0.mk (Below.refl w.heap.size w)
 have H : (if a0_1 = a1_1 then (impl_EqualDisks.j0 k ((l0_0.length : Int) != (l1_0.length : Int)) l0_0 a0_1 l1_0 a1_1) else (impl_EqualDisks.j0 k true l0_0 a0_1 l1_0 a1_1)) = some r := h
 clear h
 have HC3 := Aside0.mk H
 clear H
 go_enter Try.func71, Try.ntmps71
 go_upto_region 1 with (first | ((with_reducible refine gate_dst (N := 2) rfl ?_); (try (refine gate_guard (by rfl) ?_; dsimp only)); refine box_event ?hg (N := 2) ?hd (cs := #[.slice A0_0 l0_0.length c0_0, .int .i64 a0_1]) (t := 67) ?hr ?_; (case hd => rfl); (case hg => rfl); (case hr => first | (go_simp; done) | (go_simp; rfl)); intro gb192 hg w4 hbox hb; have n0_ := Aside0.mk (below_step (by repeat (first | (with_reducible first | exact HB.out | apply below_alloc | apply pw_below_drewN | apply below_drew1) | exact HB.out)) hb); have n1_ := Aside0.mk (hbox); have n2_ := Aside0.mk ((by rw [hg]; exact (below_size (by repeat (first | (with_reducible first | exact HB.out | apply below_alloc | apply pw_below_drewN | apply below_drew1) | exact HB.out))) : w.heap.size ≤ gb192)); have n3_ := Aside0.mk ((by rw [hg]; exact (below_size (by repeat (first | (with_reducible first | exact HB.out | apply below_alloc | apply pw_below_drewN | apply below_drew1) | exact HB.out))) : w.heap.size ≤ gb192)); clear HB; have HB := n0_; have BK192 := n1_; have GW192 := n2_; have GE192 := n3_; clear n0_ n1_ n2_ n3_; clear hb hbox hg) | ((with_reducible refine gate_dst (N := 3) rfl ?_); (try (refine gate_guard (by rfl) ?_; dsimp only)); refine box_event ?hg (N := 3) ?hd (cs := #[.slice A1_0 l1_0.length c1_0, .int .i64 a1_1]) (t := 67) ?hr ?_; (case hd => rfl); (case hg => rfl); (case hr => first | (go_simp; done) | (go_simp; rfl)); intro gb193 hg w5 hbox hb; have n0_ := Aside0.mk (blk_below (g := gb192) (o := .cells #[.slice A0_0 l0_0.length c0_0, .int .i64 a0_1] 67 (0, 0)) (by (with_reducible repeat (first | apply bN | apply bD | apply bA)); exact BK192.out) hb); have n1_ := Aside0.mk (below_step (by repeat (first | (with_reducible first | exact HB.out | apply below_alloc | apply pw_below_drewN | apply below_drew1 | refine below_set ?_ GE192.out) | exact HB.out)) hb); have n2_ := Aside0.mk (hbox); have n3_ := Aside0.mk ((by rw [hg]; exact (below_size (by repeat (first | (with_reducible first | exact HB.out | apply below_alloc | apply pw_below_drewN | apply below_drew1 | refine below_set ?_ GE192.out) | exact HB.out))) : w.heap.size ≤ gb193)); have n4_ := Aside0.mk ((by rw [hg]; exact (below_size (by repeat (first | (with_reducible first | exact HB.out | apply below_alloc | apply pw_below_drewN | apply below_drew1 | refine below_set ?_ GE192.out) | exact HB.out))) : w.heap.size ≤ gb193)); have n5_ := Aside0.mk ((by rw [hg]; exact Nat.ne_of_lt (blk_lt (g := gb192) (o := .cells #[.slice A0_0 l0_0.length c0_0, .int .i64 a0_1] 67 (0, 0)) (by (with_reducible repeat (first | apply bN | apply bD | apply bA)); exact BK192.out)) : gb192 ≠ gb193)); have n6_ := Aside0.mk ((by rw [hg]; exact Nat.ne_of_gt (blk_lt (g := gb192) (o := .cells #[.slice A0_0 l0_0.length c0_0, .int .i64 a0_1] 67 (0, 0)) (by (with_reducible repeat (first | apply bN | apply bD | apply bA)); exact BK192.out)) : gb193 ≠ gb192)); clear BK192; clear HB; have BK192 := n0_; have HB := n1_; have BK193 := n2_; have GW193 := n3_; have GE193 := n4_; have NB192_193 := n5_; have NB193_192 := n6_; clear n0_ n1_ n2_ n3_ n4_ n5_ n6_; clear hb hbox hg))
 repeat (go_quiet (first | ((with_reducible refine gate_dst (N := 2) rfl ?_); (try (refine gate_guard (by rfl) ?_; dsimp only)); refine box_event ?hg (N := 2) ?hd (cs := #[.slice A0_0 l0_0.length c0_0, .int .i64 a0_1]) (t := 67) ?hr ?_; (case hd => rfl); (case hg => rfl); (case hr => first | (go_simp; done) | (go_simp; rfl)); intro gb192 hg w4 hbox hb; have n0_ := Aside0.mk (below_step (by repeat (first | (with_reducible first | exact HB.out | apply below_alloc | apply pw_below_drewN | apply below_drew1) | exact HB.out)) hb); have n1_ := Aside0.mk (hbox); have n2_ := Aside0.mk ((by rw [hg]; exact (below_size (by repeat (first | (with_reducible first | exact HB.out | apply below_alloc | apply pw_below_drewN | apply below_drew1) | exact HB.out))) : w.heap.size ≤ gb192)); have n3_ := Aside0.mk ((by rw [hg]; exact (below_size (by repeat (first | (with_reducible first | exact HB.out | apply below_alloc | apply pw_below_drewN | apply below_drew1) | exact HB.out))) : w.heap.size ≤ gb192)); clear HB; have HB := n0_; have BK192 := n1_; have GW192 := n2_; have GE192 := n3_; clear n0_ n1_ n2_ n3_; clear hb hbox hg) | ((with_reducible refine gate_dst (N := 3) rfl ?_); (try (refine gate_guard (by rfl) ?_; dsimp only)); refine box_event ?hg (N := 3) ?hd (cs := #[.slice A1_0 l1_0.length c1_0, .int .i64 a1_1]) (t := 67) ?hr ?_; (case hd => rfl); (case hg => rfl); (case hr => first | (go_simp; done) | (go_simp; rfl)); intro gb193 hg w5 hbox hb; have n0_ := Aside0.mk (blk_below (g := gb192) (o := .cells #[.slice A0_0 l0_0.length c0_0, .int .i64 a0_1] 67 (0, 0)) (by (with_reducible repeat (first | apply bN | apply bD | apply bA)); exact BK192.out) hb); have n1_ := Aside0.mk (below_step (by repeat (first | (with_reducible first | exact HB.out | apply below_alloc | apply pw_below_drewN | apply below_drew1 | refine below_set ?_ GE192.out) | exact HB.out)) hb); have n2_ := Aside0.mk (hbox); have n3_ := Aside0.mk ((by rw [hg]; exact (below_size (by repeat (first | (with_reducible first | exact HB.out | apply below_alloc | apply pw_below_drewN | apply below_drew1 | refine below_set ?_ GE192.out) | exact HB.out))) : w.heap.size ≤ gb193)); have n4_ := Aside0.mk ((by rw [hg]; exact (below_size (by repeat (first | (with_reducible first | exact HB.out | apply below_alloc | apply pw_below_drewN | apply below_drew1 | refine below_set ?_ GE192.out) | exact HB.out))) : w.heap.size ≤ gb193)); have n5_ := Aside0.mk ((by rw [hg]; exact Nat.ne_of_lt (blk_lt (g := gb192) (o := .cells #[.slice A0_0 l0_0.length c0_0, .int .i64 a0_1] 67 (0, 0)) (by (with_reducible repeat (first | apply bN | apply bD | apply bA)); exact BK192.out)) : gb192 ≠ gb193)); have n6_ := Aside0.mk ((by rw [hg]; exact Nat.ne_of_gt (blk_lt (g := gb192) (o := .cells #[.slice A0_0 l0_0.length c0_0, .int .i64 a0_1] 67 (0, 0)) (by (with_reducible repeat (first | apply bN | apply bD | apply bA)); exact BK192.out)) : gb193 ≠ gb192)); clear BK192; clear HB; have BK192 := n0_; have HB := n1_; have BK193 := n2_; have GW193 := n3_; have GE193 := n4_; have NB192_193 := n5_; have NB193_192 := n6_; clear n0_ n1_ n2_ n3_ n4_ n5_ n6_; clear hb hbox hg)); go_upto_region 1 with (first | ((with_reducible refine gate_dst (N := 2) rfl ?_); (try (refine gate_guard (by rfl) ?_; dsimp only)); refine box_event ?hg (N := 2) ?hd (cs := #[.slice A0_0 l0_0.length c0_0, .int .i64 a0_1]) (t := 67) ?hr ?_; (case hd => rfl); (case hg => rfl); (case hr => first | (go_simp; done) | (go_simp; rfl)); intro gb192 hg w4 hbox hb; have n0_ := Aside0.mk (below_step (by repeat (first | (with_reducible first | exact HB.out | apply below_alloc | apply pw_below_drewN | apply below_drew1) | exact HB.out)) hb); have n1_ := Aside0.mk (hbox); have n2_ := Aside0.mk ((by rw [hg]; exact (below_size (by repeat (first | (with_reducible first | exact HB.out | apply below_alloc | apply pw_below_drewN | apply below_drew1) | exact HB.out))) : w.heap.size ≤ gb192)); have n3_ := Aside0.mk ((by rw [hg]; exact (below_size (by repeat (first | (with_reducible first | exact HB.out | apply below_alloc | apply pw_below_drewN | apply below_drew1) | exact HB.out))) : w.heap.size ≤ gb192)); clear HB; have HB := n0_; have BK192 := n1_; have GW192 := n2_; have GE192 := n3_; clear n0_ n1_ n2_ n3_; clear hb hbox hg) | ((with_reducible refine gate_dst (N := 3) rfl ?_); (try (refine gate_guard (by rfl) ?_; dsimp only)); refine box_event ?hg (N := 3) ?hd (cs := #[.slice A1_0 l1_0.length c1_0, .int .i64 a1_1]) (t := 67) ?hr ?_; (case hd => rfl); (case hg => rfl); (case hr => first | (go_simp; done) | (go_simp; rfl)); intro gb193 hg w5 hbox hb; have n0_ := Aside0.mk (blk_below (g := gb192) (o := .cells #[.slice A0_0 l0_0.length c0_0, .int .i64 a0_1] 67 (0, 0)) (by (with_reducible repeat (first | apply bN | apply bD | apply bA)); exact BK192.out) hb); have n1_ := Aside0.mk (below_step (by repeat (first | (with_reducible first | exact HB.out | apply below_alloc | apply pw_below_drewN | apply below_drew1 | refine below_set ?_ GE192.out) | exact HB.out)) hb); have n2_ := Aside0.mk (hbox); have n3_ := Aside0.mk ((by rw [hg]; exact (below_size (by repeat (first | (with_reducible first | exact HB.out | apply below_alloc | apply pw_below_drewN | apply below_drew1 | refine below_set ?_ GE192.out) | exact HB.out))) : w.heap.size ≤ gb193)); have n4_ := Aside0.mk ((by rw [hg]; exact (below_size (by repeat (first | (with_reducible first | exact HB.out | apply below_alloc | apply pw_below_drewN | apply below_drew1 | refine below_set ?_ GE192.out) | exact HB.out))) : w.heap.size ≤ gb193)); have n5_ := Aside0.mk ((by rw [hg]; exact Nat.ne_of_lt (blk_lt (g := gb192) (o := .cells #[.slice A0_0 l0_0.length c0_0, .int .i64 a0_1] 67 (0, 0)) (by (with_reducible repeat (first | apply bN | apply bD | apply bA)); exact BK192.out)) : gb192 ≠ gb193)); have n6_ := Aside0.mk ((by rw [hg]; exact Nat.ne_of_gt (blk_lt (g := gb192) (o := .cells #[.slice A0_0 l0_0.length c0_0, .int .i64 a0_1] 67 (0, 0)) (by (with_reducible repeat (first | apply bN | apply bD | apply bA)); exact BK192.out)) : gb193 ≠ gb192)); clear BK192; clear HB; have BK192 := n0_; have HB := n1_; have BK193 := n2_; have GW193 := n3_; have GE193 := n4_; have NB192_193 := n5_; have NB193_192 := n6_; clear n0_ n1_ n2_ n3_ n4_ n5_ n6_; clear hb hbox hg)))
 (try simp only [Act.put, List.setIfInBounds_toArray, List.set_cons_zero, List.set_cons_succ])
 go_cut [22] (fun v22 wc => ∃ (kq : Nat) (x22_2 : Bool), v22 = .bool x22_2 ∧ Aside0 (impl_EqualDisks.j0 kq x22_2 l0_0 a0_1 l1_0 a1_1 = some r) ∧ Aside0 (kq ≤ k) ∧ Aside0 (wc.heap[gb192]? = some (.cells #[(.slice A0_0 l0_0.length c0_0), .int .i64 a0_1] 67 (0, 0))) ∧ Aside0 (wc.heap[gb193]? = some (.cells #[(.slice A1_0 l1_0.length c1_0), .int .i64 a1_1] 67 (0, 0))) ∧ Aside0 (Below w.heap.size w wc))
 case first =>
  have H := HC3.out
  clear HC3
  by_cases c6 : a0_1 = a1_1
  ·rw [if_pos c6] at H
   have c6b0 : (a0_1 == a1_1) = true := beq_iff_eq.mpr c6
   have c6b1 : (a0_1 != a1_1) = false := bne_eq_false_iff_eq.mpr c6
   clear c6
   (first | rw [c6b0] | (simp only [i64_w, i32_w]; rw [c6b0]) | skip)
   have H' := Aside0.mk H
   clear H
   have hnb7 := NB192_193.out
   have hnc7 := NB193_192.out
   have hcz8_0 : w5.cell? ⟨gb192, 0, none⟩ = some (.slice A0_0 l0_0.length c0_0) := (blk_cell BK192.out 0).trans rfl
   have hcz8_1 : w5.cell? ⟨gb192, 1, none⟩ = some (.int .i64 a0_1) := (blk_cell BK192.out 1).trans rfl
   have hfz8_0 := blk_frozen BK192.out 0
   have hfz8_1 := blk_frozen BK192.out 1
   have hcz9_0 : w5.cell? ⟨gb193, 0, none⟩ = some (.slice A1_0 l1_0.length c1_0) := (blk_cell BK193.out 0).trans rfl
   have hcz9_1 : w5.cell? ⟨gb193, 1, none⟩ = some (.int .i64 a1_1) := (blk_cell BK193.out 1).trans rfl
   have hfz9_0 := blk_frozen BK193.out 0
   have hfz9_1 := blk_frozen BK193.out 1
   go_wp2
   repeat (go_quiet (fail); try go_wp2)
   go_meet
   case rel => exact ⟨_, (((l0_0.length : Int) != (l1_0.length : Int))), (by first | rfl | (simp; done) | (simp [*]; done)), H', ⟨by first | omega | exact Nat.le_refl _⟩, ⟨by (with_reducible repeat (first | apply bN | apply bD | apply bA)); exact BK192.out⟩, ⟨by (with_reducible repeat (first | apply bN | apply bD | apply bA)); exact BK193.out⟩, ⟨by repeat (first | (with_reducible first | exact HB.out | apply below_alloc | apply pw_below_drewN | apply below_drew1 | refine below_set ?_ GE192.out | refine below_set ?_ GE193.out) | exact HB.out)⟩⟩
  ·rw [if_neg c6] at H
   have c6b0 : (a0_1 == a1_1) = false := beq_eq_false_iff_ne.mpr c6
   have c6b1 : (a0_1 != a1_1) = true := bne_iff_ne.mpr c6
   (first | rw [c6b0] | (simp only [i64_w, i32_w]; rw [c6b0]) | skip)
   have H' := Aside0.mk H
   clear H
   have hnb10 := NB192_193.out
   have hnc10 := NB193_192.out
   have hcz11_0 : w5.cell? ⟨gb192, 0, none⟩ = some (.slice A0_0 l0_0.length c0_0) := (blk_cell BK192.out 0).trans rfl
   have hcz11_1 : w5.cell? ⟨gb192, 1, none⟩ = some (.int .i64 a0_1) := (blk_cell BK192.out 1).trans rfl
   have hfz11_0 := blk_frozen BK192.out 0
   have hfz11_1 := blk_frozen BK192.out 1
   have hcz12_0 : w5.cell? ⟨gb193, 0, none⟩ = some (.slice A1_0 l1_0.length c1_0) := (blk_cell BK193.out 0).trans rfl
   have hcz12_1 : w5.cell? ⟨gb193, 1, none⟩ = some (.int .i64 a1_1) := (blk_cell BK193.out 1).trans rfl
   have hfz12_0 := blk_frozen BK193.out 0
   have hfz12_1 := blk_frozen BK193.out 1
   go_wp2
   repeat (go_quiet (fail); try go_wp2)
   go_meet
   case rel => exact ⟨_, (true), (by first | rfl | (simp; done) | (simp [*]; done)), H', ⟨by first | omega | exact Nat.le_refl _⟩, ⟨by (with_reducible repeat (first | apply bN | apply bD | apply bA)); exact BK192.out⟩, ⟨by (with_reducible repeat (first | apply bN | apply bD | apply bA)); exact BK193.out⟩, ⟨by repeat (first | (with_reducible first | exact HB.out | apply below_alloc | apply pw_below_drewN | apply below_drew1 | refine below_set ?_ GE192.out | refine below_set ?_ GE193.out) | exact HB.out)⟩⟩
 case rest =>
  clear HC3
  try clear c1
  try clear p2
  try clear c6
  try clear c6b0
  try clear c6b1
  try clear c7
  try clear c10
  try clear hcz11_0
  try clear hcz11_1
  try clear hcz12_0
  try clear hcz12_1
  try clear hcz8_0
  try clear hcz8_1
  try clear hcz9_0
  try clear hcz9_1
  try clear hfz11_0
  try clear hfz11_1
  try clear hfz12_0
  try clear hfz12_1
  try clear hfz8_0
  try clear hfz8_1
  try clear hfz9_0
  try clear hfz9_1
  obtain ⟨kq, x22_2, rfl, HA, HJ2, BK192, BK193, HB⟩ := hcut
  cases kq with
  | zero => exact absurd HA.out (by simp [impl_EqualDisks.j0])
  | succ kj2 =>
   have H := HA.out
   clear HA
   simp only [impl_EqualDisks.j0] at H
   by_cases c13 : x22_2 = true
   ·subst c13
    have H1 : (some false) = some r := by rw [if_pos rfl] at H; exact H
    clear H
    have H := H1
    clear H1
    obtain rfl := Option.some.inj H
    go_wp2
    repeat (go_quiet (fail); try go_wp2)
    go_ret
    exact ⟨by first | rfl | (simp [errW_none, errW_some] <;> rfl) | (simp [*, errW_none, errW_some] <;> rfl), by repeat (first | (with_reducible first | exact HB.out | apply below_alloc | apply pw_below_drewN | apply below_drew1 | refine below_set ?_ GE192.out | refine below_set ?_ GE193.out) | exact HB.out)⟩
   ·replace c13 := Bool.eq_false_iff.mpr c13
    subst c13
    have H1 : (impl_EqualDisks.l0 kj2 l0_0 (l0_0.length : Int) 0 l1_0 a1_1) = some r := by rw [if_neg (show ¬ (false = true) by decide)] at H; exact H
    clear H
    have H := H1
    clear H1
    have H' := Aside0.mk H
    clear H
    have hnb14 := NB192_193.out
    have hnc14 := NB193_192.out
    have hcz15_0 : wc.cell? ⟨gb192, 0, none⟩ = some (.slice A0_0 l0_0.length c0_0) := (blk_cell BK192.out 0).trans rfl
    have hcz15_1 : wc.cell? ⟨gb192, 1, none⟩ = some (.int .i64 a0_1) := (blk_cell BK192.out 1).trans rfl
    have hfz15_0 := blk_frozen BK192.out 0
    have hfz15_1 := blk_frozen BK192.out 1
    go_wp2
    repeat (go_quiet (fail); try go_wp2)
    go_loopg [26] kj2 (fun kq v26 w' => ∃ (x26_2 : Int), v26 = .int .i64 x26_2 ∧ Aside0 (impl_EqualDisks.l0 kq l0_0 (l0_0.length : Int) x26_2 l1_0 a1_1 = some r) ∧ Aside0 (kq ≤ kj2) ∧ Aside0 (w'.heap[gb192]? = some (.cells #[(.slice A0_0 l0_0.length c0_0), .int .i64 a0_1] 67 (0, 0))) ∧ Aside0 (w'.heap[gb193]? = some (.cells #[(.slice A1_0 l1_0.length c1_0), .int .i64 a1_1] 67 (0, 0))) ∧ Aside0 (Below w.heap.size w w'))
    case atStart => exact ⟨(0), (by first | rfl | (simp; done) | (simp [*]; done)), H', ⟨Nat.le_refl _⟩, ⟨by (with_reducible repeat (first | apply bN | apply bD | apply bA)); exact BK192.out⟩, ⟨by (with_reducible repeat (first | apply bN | apply bD | apply bA)); exact BK193.out⟩, ⟨by repeat (first | (with_reducible first | exact HB.out | apply below_alloc | apply pw_below_drewN | apply below_drew1 | refine below_set ?_ GE192.out | refine below_set ?_ GE193.out) | exact HB.out)⟩⟩
    case round =>
     clear H'
     try clear c1
     try clear p2
     try clear c6
     try clear c6b0
     try clear c6b1
     try clear c7
     try clear c10
     try clear c13
     try clear c14
     try clear hcz11_0
     try clear hcz11_1
     try clear hcz12_0
     try clear hcz12_1
     try clear hcz15_0
     try clear hcz15_1
     try clear hcz8_0
     try clear hcz8_1
     try clear hcz9_0
     try clear hcz9_1
     try clear hfz11_0
     try clear hfz11_1
     try clear hfz12_0
     try clear hfz12_1
     try clear hfz15_0
     try clear hfz15_1
     try clear hfz8_0
     try clear hfz8_1
     try clear hfz9_0
     try clear hfz9_1
     try clear p2
     obtain ⟨x26_2, rfl, HA, HK2, BK192, BK193, HB⟩ := hrel
     cases gk with
     | zero => exact absurd HA.out (by simp [impl_EqualDisks.l0])
     | succ k2 =>
      have H := HA.out
      clear HA
      simp only [impl_EqualDisks.l0] at H
      by_cases c16 : x26_2 < (l0_0.length : Int)
      ·rw [if_pos c16] at H
       have c16b0 : decide (x26_2 < (l0_0.length : Int)) = true := decide_eq_true c16
       clear c16
       by_cases c17 : 0 ≤ x26_2
       ·rw [if_pos c17] at H
        have c17b0 : decide (0 ≤ x26_2) = true := decide_eq_true c17
        clear c17
        by_cases c18 : x26_2 < (l0_0.length : Int)
        ·rw [if_pos c18] at H
         have c18b0 : decide (x26_2 < (l0_0.length : Int)) = true := decide_eq_true c18
         clear c18
         by_cases c19 : x26_2 < (l1_0.length : Int)
         ·rw [if_pos c19] at H
          have c19b0 : decide (x26_2 < (l1_0.length : Int)) = true := decide_eq_true c19
          clear c19
          have HC20 := Aside0.mk H
          clear H
          have p194 : 0 ≤ (x26_2 : Int) := of_decide_eq_true (by first | (with_reducible assumption) | assumption)
          have q194 : x26_2 < (l0_0.length : Int) := of_decide_eq_true (by first | (with_reducible assumption) | assumption)
          obtain ⟨ad194, A194_1, c194_1, e194, hx194_0, hx194_1, hx194_2, hx194_3, hl194_1, hi194_1⟩ := at_T104 HR0_0.out x26_2 p194 q194
          cases e194
          replace hx194_0 := (HB.out.cell (World.block_lt_of_cell? w _ hx194_0)).trans hx194_0
          replace hx194_1 := (HB.out.cell (World.block_lt_of_cell? w _ hx194_1)).trans hx194_1
          replace hx194_2 := (HB.out.cell (World.block_lt_of_cell? w _ hx194_2)).trans hx194_2
          replace hx194_3 := (HB.out.cell (World.block_lt_of_cell? w _ hx194_3)).trans hx194_3
          have HR194_1 := Aside0.mk hi194_1
          have HC194_1 := Aside0.mk hl194_1
          clear hi194_1 hl194_1
          replace p194 := eq_true p194
          replace q194 := eq_true q194
          go_upto_region 7 with (first | ((with_reducible refine gate_dst (N := 6) rfl ?_); (try (refine gate_guard (by rfl) ?_; dsimp only)); refine box_event ?hg (N := 6) ?hd (cs := #[.int .i64 0, .slice none 0 0, .int .i64 0, .bool false]) (t := 104) ?hr ?_; (case hd => rfl); (case hg => rfl); (case hr => first | (go_simp; done) | (go_simp; rfl)); intro gb195 hg w21 hbox hb; have n0_ := Aside0.mk (blk_below (g := gb192) (o := .cells #[.slice (some ad194) l0_0.length c0_0, .int .i64 a0_1] 67 (0, 0)) (by (with_reducible repeat (first | apply bN | apply bD | apply bA)); exact BK192.out) hb); have n1_ := Aside0.mk (blk_below (g := gb193) (o := .cells #[.slice A1_0 l1_0.length c1_0, .int .i64 a1_1] 67 (0, 0)) (by (with_reducible repeat (first | apply bN | apply bD | apply bA)); exact BK193.out) hb); have n2_ := Aside0.mk (below_step (by repeat (first | (with_reducible first | exact HB.out | apply below_alloc | apply pw_below_drewN | apply below_drew1 | refine below_set ?_ GE192.out | refine below_set ?_ GE193.out) | exact HB.out)) hb); have n3_ := Aside0.mk (hbox); have n4_ := Aside0.mk ((by rw [hg]; exact (below_size (by repeat (first | (with_reducible first | exact HB.out | apply below_alloc | apply pw_below_drewN | apply below_drew1 | refine below_set ?_ GE192.out | refine below_set ?_ GE193.out) | exact HB.out))) : w.heap.size ≤ gb195)); have n5_ := Aside0.mk ((by rw [hg]; exact (below_size (by repeat (first | (with_reducible first | exact HB.out | apply below_alloc | apply pw_below_drewN | apply below_drew1 | refine below_set ?_ GE192.out | refine below_set ?_ GE193.out) | exact HB.out))) : w.heap.size ≤ gb195)); have n6_ := Aside0.mk ((by rw [hg]; exact Nat.ne_of_lt (blk_lt (g := gb192) (o := .cells #[.slice (some ad194) l0_0.length c0_0, .int .i64 a0_1] 67 (0, 0)) (by (with_reducible repeat (first | apply bN | apply bD | apply bA)); exact BK192.out)) : gb192 ≠ gb195)); have n7_ := Aside0.mk ((by rw [hg]; exact Nat.ne_of_gt (blk_lt (g := gb192) (o := .cells #[.slice (some ad194) l0_0.length c0_0, .int .i64 a0_1] 67 (0, 0)) (by (with_reducible repeat (first | apply bN | apply bD | apply bA)); exact BK192.out)) : gb195 ≠ gb192)); have n8_ := Aside0.mk ((by rw [hg]; exact Nat.ne_of_lt (blk_lt (g := gb193) (o := .cells #[.slice A1_0 l1_0.length c1_0, .int .i64 a1_1] 67 (0, 0)) (by (with_reducible repeat (first | apply bN | apply bD | apply bA)); exact BK193.out)) : gb193 ≠ gb195)); have n9_ := Aside0.mk ((by rw [hg]; exact Nat.ne_of_gt (blk_lt (g := gb193) (o := .cells #[.slice A1_0 l1_0.length c1_0, .int .i64 a1_1] 67 (0, 0)) (by (with_reducible repeat (first | apply bN | apply bD | apply bA)); exact BK193.out)) : gb195 ≠ gb193)); clear BK192; clear BK193; clear HB; have BK192 := n0_; have BK193 := n1_; have HB := n2_; have BK195 := n3_; have GW195 := n4_; have GE195 := n5_; have NB192_195 := n6_; have NB195_192 := n7_; have NB193_195 := n8_; have NB195_193 := n9_; clear n0_ n1_ n2_ n3_ n4_ n5_ n6_ n7_ n8_ n9_; clear hb hbox hg; have hnb22 := NB195_192.out; have hnc22 := NB192_195.out; have hnb23 := NB195_193.out; have hnc23 := NB193_195.out; have hcz24_0 : w21.cell? ⟨gb195, 0, none⟩ = some (.int .i64 0) := (blk_cell BK195.out 0).trans rfl; have hcz24_1 : w21.cell? ⟨gb195, 1, none⟩ = some (.slice none 0 0) := (blk_cell BK195.out 1).trans rfl; have hcz24_2 : w21.cell? ⟨gb195, 2, none⟩ = some (.int .i64 0) := (blk_cell BK195.out 2).trans rfl; have hcz24_3 : w21.cell? ⟨gb195, 3, none⟩ = some (.bool false) := (blk_cell BK195.out 3).trans rfl; have hfz24_0 := blk_frozen BK195.out 0; have hfz24_1 := blk_frozen BK195.out 1; have hfz24_2 := blk_frozen BK195.out 2; have hfz24_3 := blk_frozen BK195.out 3; have hnb25 := NB193_192.out; have hnc25 := NB192_193.out; have hcz26_0 : w21.cell? ⟨gb193, 0, none⟩ = some (.slice A1_0 l1_0.length c1_0) := (blk_cell BK193.out 0).trans rfl; have hcz26_1 : w21.cell? ⟨gb193, 1, none⟩ = some (.int .i64 a1_1) := (blk_cell BK193.out 1).trans rfl; have hfz26_0 := blk_frozen BK193.out 0; have hfz26_1 := blk_frozen BK193.out 1; have p196 : 0 ≤ (x26_2 : Int) := of_decide_eq_true (by first | (with_reducible assumption) | assumption); have q196 : x26_2 < (l1_0.length : Int) := of_decide_eq_true (by first | (with_reducible assumption) | assumption); obtain ⟨ad196, A196_1, c196_1, e196, hx196_0, hx196_1, hx196_2, hx196_3, hl196_1, hi196_1⟩ := at_T104 HR1_0.out x26_2 p196 q196; cases e196; have hn196_0 : ad196.block ≠ gb195 := Nat.ne_of_lt (Nat.lt_of_lt_of_le (by have := World.block_lt_of_cell? _ _ hx196_0; first | rwa [add_block] at this | exact this) GW195.out); have hn196_1 : ad196.block ≠ gb195 := Nat.ne_of_lt (Nat.lt_of_lt_of_le (by have := World.block_lt_of_cell? _ _ hx196_0; first | rwa [add_block] at this | exact this) GW195.out); have hn196_2 : ad196.block ≠ gb195 := Nat.ne_of_lt (Nat.lt_of_lt_of_le (by have := World.block_lt_of_cell? _ _ hx196_0; first | rwa [add_block] at this | exact this) GW195.out); have hn196_3 : ad196.block ≠ gb195 := Nat.ne_of_lt (Nat.lt_of_lt_of_le (by have := World.block_lt_of_cell? _ _ hx196_0; first | rwa [add_block] at this | exact this) GW195.out); replace hx196_0 := (HB.out.cell (World.block_lt_of_cell? w _ hx196_0)).trans hx196_0; replace hx196_1 := (HB.out.cell (World.block_lt_of_cell? w _ hx196_1)).trans hx196_1; replace hx196_2 := (HB.out.cell (World.block_lt_of_cell? w _ hx196_2)).trans hx196_2; replace hx196_3 := (HB.out.cell (World.block_lt_of_cell? w _ hx196_3)).trans hx196_3; have HR196_1 := Aside0.mk hi196_1; have HC196_1 := Aside0.mk hl196_1; clear hi196_1 hl196_1; replace hx196_0 := (cell_far (p := ⟨gb195, 0, none⟩) (by first | (rw [add_block]; exact hn196_0) | (show (Addr.add _ _).block ≠ _; rw [add_block]; exact hn196_0) | exact hn196_0) (.int .i64 ((rd_T104 l0_0 x26_2).f0))).trans hx196_0; replace hx196_1 := (cell_far (p := ⟨gb195, 0, none⟩) (by first | (rw [add_block]; exact hn196_0) | (show (Addr.add _ _).block ≠ _; rw [add_block]; exact hn196_0) | exact hn196_0) (.int .i64 ((rd_T104 l0_0 x26_2).f0))).trans hx196_1; replace hx196_2 := (cell_far (p := ⟨gb195, 0, none⟩) (by first | (rw [add_block]; exact hn196_0) | (show (Addr.add _ _).block ≠ _; rw [add_block]; exact hn196_0) | exact hn196_0) (.int .i64 ((rd_T104 l0_0 x26_2).f0))).trans hx196_2; replace hx196_3 := (cell_far (p := ⟨gb195, 0, none⟩) (by first | (rw [add_block]; exact hn196_0) | (show (Addr.add _ _).block ≠ _; rw [add_block]; exact hn196_0) | exact hn196_0) (.int .i64 ((rd_T104 l0_0 x26_2).f0))).trans hx196_3; replace hx196_0 := (cell_far (p := ⟨gb195, 1, none⟩) (by first | (rw [add_block]; exact hn196_1) | (show (Addr.add _ _).block ≠ _; rw [add_block]; exact hn196_1) | exact hn196_1) (.slice A194_1 ((rd_T104 l0_0 x26_2).f1).length c194_1)).trans hx196_0; replace hx196_1 := (cell_far (p := ⟨gb195, 1, none⟩) (by first | (rw [add_block]; exact hn196_1) | (show (Addr.add _ _).block ≠ _; rw [add_block]; exact hn196_1) | exact hn196_1) (.slice A194_1 ((rd_T104 l0_0 x26_2).f1).length c194_1)).trans hx196_1; replace hx196_2 := (cell_far (p := ⟨gb195, 1, none⟩) (by first | (rw [add_block]; exact hn196_1) | (show (Addr.add _ _).block ≠ _; rw [add_block]; exact hn196_1) | exact hn196_1) (.slice A194_1 ((rd_T104 l0_0 x26_2).f1).length c194_1)).trans hx196_2; replace hx196_3 := (cell_far (p := ⟨gb195, 1, none⟩) (by first | (rw [add_block]; exact hn196_1) | (show (Addr.add _ _).block ≠ _; rw [add_block]; exact hn196_1) | exact hn196_1) (.slice A194_1 ((rd_T104 l0_0 x26_2).f1).length c194_1)).trans hx196_3; replace hx196_0 := (cell_far (p := ⟨gb195, 2, none⟩) (by first | (rw [add_block]; exact hn196_2) | (show (Addr.add _ _).block ≠ _; rw [add_block]; exact hn196_2) | exact hn196_2) (.int .i64 ((rd_T104 l0_0 x26_2).f2))).trans hx196_0; replace hx196_1 := (cell_far (p := ⟨gb195, 2, none⟩) (by first | (rw [add_block]; exact hn196_2) | (show (Addr.add _ _).block ≠ _; rw [add_block]; exact hn196_2) | exact hn196_2) (.int .i64 ((rd_T104 l0_0 x26_2).f2))).trans hx196_1; replace hx196_2 := (cell_far (p := ⟨gb195, 2, none⟩) (by first | (rw [add_block]; exact hn196_2) | (show (Addr.add _ _).block ≠ _; rw [add_block]; exact hn196_2) | exact hn196_2) (.int .i64 ((rd_T104 l0_0 x26_2).f2))).trans hx196_2; replace hx196_3 := (cell_far (p := ⟨gb195, 2, none⟩) (by first | (rw [add_block]; exact hn196_2) | (show (Addr.add _ _).block ≠ _; rw [add_block]; exact hn196_2) | exact hn196_2) (.int .i64 ((rd_T104 l0_0 x26_2).f2))).trans hx196_3; replace hx196_0 := (cell_far (p := ⟨gb195, 3, none⟩) (by first | (rw [add_block]; exact hn196_3) | (show (Addr.add _ _).block ≠ _; rw [add_block]; exact hn196_3) | exact hn196_3) (.bool ((rd_T104 l0_0 x26_2).f3))).trans hx196_0; replace hx196_1 := (cell_far (p := ⟨gb195, 3, none⟩) (by first | (rw [add_block]; exact hn196_3) | (show (Addr.add _ _).block ≠ _; rw [add_block]; exact hn196_3) | exact hn196_3) (.bool ((rd_T104 l0_0 x26_2).f3))).trans hx196_1; replace hx196_2 := (cell_far (p := ⟨gb195, 3, none⟩) (by first | (rw [add_block]; exact hn196_3) | (show (Addr.add _ _).block ≠ _; rw [add_block]; exact hn196_3) | exact hn196_3) (.bool ((rd_T104 l0_0 x26_2).f3))).trans hx196_2; replace hx196_3 := (cell_far (p := ⟨gb195, 3, none⟩) (by first | (rw [add_block]; exact hn196_3) | (show (Addr.add _ _).block ≠ _; rw [add_block]; exact hn196_3) | exact hn196_3) (.bool ((rd_T104 l0_0 x26_2).f3))).trans hx196_3; (try have hy196_0 := fun (n_ : Nat) => (show ((((((w21.drewN n_).setCell ⟨gb195, 0, none⟩ (.int .i64 ((rd_T104 l0_0 x26_2).f0))).setCell ⟨gb195, 1, none⟩ (.slice A194_1 ((rd_T104 l0_0 x26_2).f1).length c194_1)).setCell ⟨gb195, 2, none⟩ (.int .i64 ((rd_T104 l0_0 x26_2).f2))).setCell ⟨gb195, 3, none⟩ (.bool ((rd_T104 l0_0 x26_2).f3)))).cell? _ = some _ from hx196_0)); (try have hy196_1 := fun (n_ : Nat) => (show ((((((w21.drewN n_).setCell ⟨gb195, 0, none⟩ (.int .i64 ((rd_T104 l0_0 x26_2).f0))).setCell ⟨gb195, 1, none⟩ (.slice A194_1 ((rd_T104 l0_0 x26_2).f1).length c194_1)).setCell ⟨gb195, 2, none⟩ (.int .i64 ((rd_T104 l0_0 x26_2).f2))).setCell ⟨gb195, 3, none⟩ (.bool ((rd_T104 l0_0 x26_2).f3)))).cell? _ = some _ from hx196_1)); (try have hy196_2 := fun (n_ : Nat) => (show ((((((w21.drewN n_).setCell ⟨gb195, 0, none⟩ (.int .i64 ((rd_T104 l0_0 x26_2).f0))).setCell ⟨gb195, 1, none⟩ (.slice A194_1 ((rd_T104 l0_0 x26_2).f1).length c194_1)).setCell ⟨gb195, 2, none⟩ (.int .i64 ((rd_T104 l0_0 x26_2).f2))).setCell ⟨gb195, 3, none⟩ (.bool ((rd_T104 l0_0 x26_2).f3)))).cell? _ = some _ from hx196_2)); (try have hy196_3 := fun (n_ : Nat) => (show ((((((w21.drewN n_).setCell ⟨gb195, 0, none⟩ (.int .i64 ((rd_T104 l0_0 x26_2).f0))).setCell ⟨gb195, 1, none⟩ (.slice A194_1 ((rd_T104 l0_0 x26_2).f1).length c194_1)).setCell ⟨gb195, 2, none⟩ (.int .i64 ((rd_T104 l0_0 x26_2).f2))).setCell ⟨gb195, 3, none⟩ (.bool ((rd_T104 l0_0 x26_2).f3)))).cell? _ = some _ from hx196_3)); clear hn196_0; clear hn196_1; clear hn196_2; clear hn196_3; replace p196 := eq_true p196; replace q196 := eq_true q196) | ((with_reducible refine gate_dst (N := 7) rfl ?_); (try (refine gate_guard (by rfl) ?_; dsimp only)); refine box_event ?hg (N := 7) ?hd (cs := #[.int .i64 0, .slice none 0 0, .int .i64 0, .bool false]) (t := 104) ?hr ?_; (case hd => rfl); (case hg => rfl); (case hr => first | (go_simp; done) | (go_simp; rfl)); intro gb197 hg w27 hbox hb; have n0_ := Aside0.mk (blk_below (g := gb192) (o := .cells #[.slice (some ad194) l0_0.length c0_0, .int .i64 a0_1] 67 (0, 0)) (by (with_reducible repeat (first | apply bN | apply bD | apply bA)); refine blk_far ?_ NB192_195.out _; (with_reducible repeat (first | apply bN | apply bD | apply bA)); refine blk_far ?_ NB192_195.out _; (with_reducible repeat (first | apply bN | apply bD | apply bA)); refine blk_far ?_ NB192_195.out _; (with_reducible repeat (first | apply bN | apply bD | apply bA)); refine blk_far ?_ NB192_195.out _; (with_reducible repeat (first | apply bN | apply bD | apply bA)); exact BK192.out) hb); have n1_ := Aside0.mk (blk_below (g := gb193) (o := .cells #[.slice (some ad196) l1_0.length c1_0, .int .i64 a1_1] 67 (0, 0)) (by (with_reducible repeat (first | apply bN | apply bD | apply bA)); refine blk_far ?_ NB193_195.out _; (with_reducible repeat (first | apply bN | apply bD | apply bA)); refine blk_far ?_ NB193_195.out _; (with_reducible repeat (first | apply bN | apply bD | apply bA)); refine blk_far ?_ NB193_195.out _; (with_reducible repeat (first | apply bN | apply bD | apply bA)); refine blk_far ?_ NB193_195.out _; (with_reducible repeat (first | apply bN | apply bD | apply bA)); exact BK193.out) hb); have n2_ := Aside0.mk (blk_below (g := gb195) (o := .cells #[.int .i64 ((rd_T104 l0_0 x26_2).f0), .slice A194_1 ((rd_T104 l0_0 x26_2).f1).length c194_1, .int .i64 ((rd_T104 l0_0 x26_2).f2), .bool ((rd_T104 l0_0 x26_2).f3)] 104 (0, 0)) (by (with_reducible repeat (first | apply bN | apply bD | apply bA)); refine blk_put (cs := #[.int .i64 ((rd_T104 l0_0 x26_2).f0), .slice A194_1 ((rd_T104 l0_0 x26_2).f1).length c194_1, .int .i64 ((rd_T104 l0_0 x26_2).f2), .bool false]) ?_ 3 _ rfl; (with_reducible repeat (first | apply bN | apply bD | apply bA)); refine blk_put (cs := #[.int .i64 ((rd_T104 l0_0 x26_2).f0), .slice A194_1 ((rd_T104 l0_0 x26_2).f1).length c194_1, .int .i64 0, .bool false]) ?_ 2 _ rfl; (with_reducible repeat (first | apply bN | apply bD | apply bA)); refine blk_put (cs := #[.int .i64 ((rd_T104 l0_0 x26_2).f0), .slice none 0 0, .int .i64 0, .bool false]) ?_ 1 _ rfl; (with_reducible repeat (first | apply bN | apply bD | apply bA)); refine blk_put (cs := #[.int .i64 0, .slice none 0 0, .int .i64 0, .bool false]) ?_ 0 _ rfl; (with_reducible repeat (first | apply bN | apply bD | apply bA)); exact BK195.out) hb); have n3_ := Aside0.mk (below_step (by repeat (first | (with_reducible first | exact HB.out | apply below_alloc | apply pw_below_drewN | apply below_drew1 | refine below_set ?_ GE192.out | refine below_set ?_ GE193.out | refine below_set ?_ GE195.out) | exact HB.out)) hb); have n4_ := Aside0.mk (hbox); have n5_ := Aside0.mk ((by rw [hg]; exact (below_size (by repeat (first | (with_reducible first | exact HB.out | apply below_alloc | apply pw_below_drewN | apply below_drew1 | refine below_set ?_ GE192.out | refine below_set ?_ GE193.out | refine below_set ?_ GE195.out) | exact HB.out))) : w.heap.size ≤ gb197)); have n6_ := Aside0.mk ((by rw [hg]; exact (below_size (by repeat (first | (with_reducible first | exact HB.out | apply below_alloc | apply pw_below_drewN | apply below_drew1 | refine below_set ?_ GE192.out | refine below_set ?_ GE193.out | refine below_set ?_ GE195.out) | exact HB.out))) : w.heap.size ≤ gb197)); have n7_ := Aside0.mk ((by rw [hg]; exact Nat.ne_of_lt (blk_lt (g := gb192) (o := .cells #[.slice (some ad194) l0_0.length c0_0, .int .i64 a0_1] 67 (0, 0)) (by (with_reducible repeat (first | apply bN | apply bD | apply bA)); refine blk_far ?_ NB192_195.out _; (with_reducible repeat (first | apply bN | apply bD | apply bA)); refine blk_far ?_ NB192_195.out _; (with_reducible repeat (first | apply bN | apply bD | apply bA)); refine blk_far ?_ NB192_195.out _; (with_reducible repeat (first | apply bN | apply bD | apply bA)); refine blk_far ?_ NB192_195.out _; (with_reducible repeat (first | apply bN | apply bD | apply bA)); exact BK192.out)) : gb192 ≠ gb197)); have n8_ := Aside0.mk ((by rw [hg]; exact Nat.ne_of_gt (blk_lt (g := gb192) (o := .cells #[.slice (some ad194) l0_0.length c0_0, .int .i64 a0_1] 67 (0, 0)) (by (with_reducible repeat (first | apply bN | apply bD | apply bA)); refine blk_far ?_ NB192_195.out _; (with_reducible repeat (first | apply bN | apply bD | apply bA)); refine blk_far ?_ NB192_195.out _; (with_reducible repeat (first | apply bN | apply bD | apply bA)); refine blk_far ?_ NB192_195.out _; (with_reducible repeat (first | apply bN | apply bD | apply bA)); refine blk_far ?_ NB192_195.out _; (with_reducible repeat (first | apply bN | apply bD | apply bA)); exact BK192.out)) : gb197 ≠ gb192)); have n9_ := Aside0.mk ((by rw [hg]; exact Nat.ne_of_lt (blk_lt (g := gb193) (o := .cells #[.slice (some ad196) l1_0.length c1_0, .int .i64 a1_1] 67 (0, 0)) (by (with_reducible repeat (first | apply bN | apply bD | apply bA)); refine blk_far ?_ NB193_195.out _; (with_reducible repeat (first | apply bN | apply bD | apply bA)); refine blk_far ?_ NB193_195.out _; (with_reducible repeat (first | apply bN | apply bD | apply bA)); refine blk_far ?_ NB193_195.out _; (with_reducible repeat (first | apply bN | apply bD | apply bA)); refine blk_far ?_ NB193_195.out _; (with_reducible repeat (first | apply bN | apply bD | apply bA)); exact BK193.out)) : gb193 ≠ gb197)); have n10_ := Aside0.mk ((by rw [hg]; exact Nat.ne_of_gt (blk_lt (g := gb193) (o := .cells #[.slice (some ad196) l1_0.length c1_0, .int .i64 a1_1] 67 (0, 0)) (by (with_reducible repeat (first | apply bN | apply bD | apply bA)); refine blk_far ?_ NB193_195.out _; (with_reducible repeat (first | apply bN | apply bD | apply bA)); refine blk_far ?_ NB193_195.out _; (with_reducible repeat (first | apply bN | apply bD | apply bA)); refine blk_far ?_ NB193_195.out _; (with_reducible repeat (first | apply bN | apply bD | apply bA)); refine blk_far ?_ NB193_195.out _; (with_reducible repeat (first | apply bN | apply bD | apply bA)); exact BK193.out)) : gb197 ≠ gb193)); have n11_ := Aside0.mk ((by rw [hg]; exact Nat.ne_of_lt (blk_lt (g := gb195) (o := .cells #[.int .i64 ((rd_T104 l0_0 x26_2).f0), .slice A194_1 ((rd_T104 l0_0 x26_2).f1).length c194_1, .int .i64 ((rd_T104 l0_0 x26_2).f2), .bool ((rd_T104 l0_0 x26_2).f3)] 104 (0, 0)) (by (with_reducible repeat (first | apply bN | apply bD | apply bA)); refine blk_put (cs := #[.int .i64 ((rd_T104 l0_0 x26_2).f0), .slice A194_1 ((rd_T104 l0_0 x26_2).f1).length c194_1, .int .i64 ((rd_T104 l0_0 x26_2).f2), .bool false]) ?_ 3 _ rfl; (with_reducible repeat (first | apply bN | apply bD | apply bA)); refine blk_put (cs := #[.int .i64 ((rd_T104 l0_0 x26_2).f0), .slice A194_1 ((rd_T104 l0_0 x26_2).f1).length c194_1, .int .i64 0, .bool false]) ?_ 2 _ rfl; (with_reducible repeat (first | apply bN | apply bD | apply bA)); refine blk_put (cs := #[.int .i64 ((rd_T104 l0_0 x26_2).f0), .slice none 0 0, .int .i64 0, .bool false]) ?_ 1 _ rfl; (with_reducible repeat (first | apply bN | apply bD | apply bA)); refine blk_put (cs := #[.int .i64 0, .slice none 0 0, .int .i64 0, .bool false]) ?_ 0 _ rfl; (with_reducible repeat (first | apply bN | apply bD | apply bA)); exact BK195.out)) : gb195 ≠ gb197)); have n12_ := Aside0.mk ((by rw [hg]; exact Nat.ne_of_gt (blk_lt (g := gb195) (o := .cells #[.int .i64 ((rd_T104 l0_0 x26_2).f0), .slice A194_1 ((rd_T104 l0_0 x26_2).f1).length c194_1, .int .i64 ((rd_T104 l0_0 x26_2).f2), .bool ((rd_T104 l0_0 x26_2).f3)] 104 (0, 0)) (by (with_reducible repeat (first | apply bN | apply bD | apply bA)); refine blk_put (cs := #[.int .i64 ((rd_T104 l0_0 x26_2).f0), .slice A194_1 ((rd_T104 l0_0 x26_2).f1).length c194_1, .int .i64 ((rd_T104 l0_0 x26_2).f2), .bool false]) ?_ 3 _ rfl; (with_reducible repeat (first | apply bN | apply bD | apply bA)); refine blk_put (cs := #[.int .i64 ((rd_T104 l0_0 x26_2).f0), .slice A194_1 ((rd_T104 l0_0 x26_2).f1).length c194_1, .int .i64 0, .bool false]) ?_ 2 _ rfl; (with_reducible repeat (first | apply bN | apply bD | apply bA)); refine blk_put (cs := #[.int .i64 ((rd_T104 l0_0 x26_2).f0), .slice none 0 0, .int .i64 0, .bool false]) ?_ 1 _ rfl; (with_reducible repeat (first | apply bN | apply bD | apply bA)); refine blk_put (cs := #[.int .i64 0, .slice none 0 0, .int .i64 0, .bool false]) ?_ 0 _ rfl; (with_reducible repeat (first | apply bN | apply bD | apply bA)); exact BK195.out)) : gb197 ≠ gb195)); clear BK192; clear BK193; clear BK195; clear HB; have BK192 := n0_; have BK193 := n1_; have BK195 := n2_; have HB := n3_; have BK197 := n4_; have GW197 := n5_; have GE197 := n6_; have NB192_197 := n7_; have NB197_192 := n8_; have NB193_197 := n9_; have NB197_193 := n10_; have NB195_197 := n11_; have NB197_195 := n12_; clear n0_ n1_ n2_ n3_ n4_ n5_ n6_ n7_ n8_ n9_ n10_ n11_ n12_; clear hb hbox hg; have hnb28 := NB197_192.out; have hnc28 := NB192_197.out; have hnb29 := NB197_193.out; have hnc29 := NB193_197.out; have hnb30 := NB197_195.out; have hnc30 := NB195_197.out; have hcz31_0 : w27.cell? ⟨gb197, 0, none⟩ = some (.int .i64 0) := (blk_cell BK197.out 0).trans rfl; have hcz31_1 : w27.cell? ⟨gb197, 1, none⟩ = some (.slice none 0 0) := (blk_cell BK197.out 1).trans rfl; have hcz31_2 : w27.cell? ⟨gb197, 2, none⟩ = some (.int .i64 0) := (blk_cell BK197.out 2).trans rfl; have hcz31_3 : w27.cell? ⟨gb197, 3, none⟩ = some (.bool false) := (blk_cell BK197.out 3).trans rfl; have hfz31_0 := blk_frozen BK197.out 0; have hfz31_1 := blk_frozen BK197.out 1; have hfz31_2 := blk_frozen BK197.out 2; have hfz31_3 := blk_frozen BK197.out 3))
          repeat (go_quiet (first | ((with_reducible refine gate_dst (N := 6) rfl ?_); (try (refine gate_guard (by rfl) ?_; dsimp only)); refine box_event ?hg (N := 6) ?hd (cs := #[.int .i64 0, .slice none 0 0, .int .i64 0, .bool false]) (t := 104) ?hr ?_; (case hd => rfl); (case hg => rfl); (case hr => first | (go_simp; done) | (go_simp; rfl)); intro gb195 hg w21 hbox hb; have n0_ := Aside0.mk (blk_below (g := gb192) (o := .cells #[.slice (some ad194) l0_0.length c0_0, .int .i64 a0_1] 67 (0, 0)) (by (with_reducible repeat (first | apply bN | apply bD | apply bA)); exact BK192.out) hb); have n1_ := Aside0.mk (blk_below (g := gb193) (o := .cells #[.slice A1_0 l1_0.length c1_0, .int .i64 a1_1] 67 (0, 0)) (by (with_reducible repeat (first | apply bN | apply bD | apply bA)); exact BK193.out) hb); have n2_ := Aside0.mk (below_step (by repeat (first | (with_reducible first | exact HB.out | apply below_alloc | apply pw_below_drewN | apply below_drew1 | refine below_set ?_ GE192.out | refine below_set ?_ GE193.out) | exact HB.out)) hb); have n3_ := Aside0.mk (hbox); have n4_ := Aside0.mk ((by rw [hg]; exact (below_size (by repeat (first | (with_reducible first | exact HB.out | apply below_alloc | apply pw_below_drewN | apply below_drew1 | refine below_set ?_ GE192.out | refine below_set ?_ GE193.out) | exact HB.out))) : w.heap.size ≤ gb195)); have n5_ := Aside0.mk ((by rw [hg]; exact (below_size (by repeat (first | (with_reducible first | exact HB.out | apply below_alloc | apply pw_below_drewN | apply below_drew1 | refine below_set ?_ GE192.out | refine below_set ?_ GE193.out) | exact HB.out))) : w.heap.size ≤ gb195)); have n6_ := Aside0.mk ((by rw [hg]; exact Nat.ne_of_lt (blk_lt (g := gb192) (o := .cells #[.slice (some ad194) l0_0.length c0_0, .int .i64 a0_1] 67 (0, 0)) (by (with_reducible repeat (first | apply bN | apply bD | apply bA)); exact BK192.out)) : gb192 ≠ gb195)); have n7_ := Aside0.mk ((by rw [hg]; exact Nat.ne_of_gt (blk_lt (g := gb192) (o := .cells #[.slice (some ad194) l0_0.length c0_0, .int .i64 a0_1] 67 (0, 0)) (by (with_reducible repeat (first | apply bN | apply bD | apply bA)); exact BK192.out)) : gb195 ≠ gb192)); have n8_ := Aside0.mk ((by rw [hg]; exact Nat.ne_of_lt (blk_lt (g := gb193) (o := .cells #[.slice A1_0 l1_0.length c1_0, .int .i64 a1_1] 67 (0, 0)) (by (with_reducible repeat (first | apply bN | apply bD | apply bA)); exact BK193.out)) : gb193 ≠ gb195)); have n9_ := Aside0.mk ((by rw [hg]; exact Nat.ne_of_gt (blk_lt (g := gb193) (o := .cells #[.slice A1_0 l1_0.length c1_0, .int .i64 a1_1] 67 (0, 0)) (by (with_reducible repeat (first | apply bN | apply bD | apply bA)); exact BK193.out)) : gb195 ≠ gb193)); clear BK192; clear BK193; clear HB; have BK192 := n0_; have BK193 := n1_; have HB := n2_; have BK195 := n3_; have GW195 := n4_; have GE195 := n5_; have NB192_195 := n6_; have NB195_192 := n7_; have NB193_195 := n8_; have NB195_193 := n9_; clear n0_ n1_ n2_ n3_ n4_ n5_ n6_ n7_ n8_ n9_; clear hb hbox hg; have hnb22 := NB195_192.out; have hnc22 := NB192_195.out; have hnb23 := NB195_193.out; have hnc23 := NB193_195.out; have hcz24_0 : w21.cell? ⟨gb195, 0, none⟩ = some (.int .i64 0) := (blk_cell BK195.out 0).trans rfl; have hcz24_1 : w21.cell? ⟨gb195, 1, none⟩ = some (.slice none 0 0) := (blk_cell BK195.out 1).trans rfl; have hcz24_2 : w21.cell? ⟨gb195, 2, none⟩ = some (.int .i64 0) := (blk_cell BK195.out 2).trans rfl; have hcz24_3 : w21.cell? ⟨gb195, 3, none⟩ = some (.bool false) := (blk_cell BK195.out 3).trans rfl; have hfz24_0 := blk_frozen BK195.out 0; have hfz24_1 := blk_frozen BK195.out 1; have hfz24_2 := blk_frozen BK195.out 2; have hfz24_3 := blk_frozen BK195.out 3; have hnb25 := NB193_192.out; have hnc25 := NB192_193.out; have hcz26_0 : w21.cell? ⟨gb193, 0, none⟩ = some (.slice A1_0 l1_0.length c1_0) := (blk_cell BK193.out 0).trans rfl; have hcz26_1 : w21.cell? ⟨gb193, 1, none⟩ = some (.int .i64 a1_1) := (blk_cell BK193.out 1).trans rfl; have hfz26_0 := blk_frozen BK193.out 0; have hfz26_1 := blk_frozen BK193.out 1; have p196 : 0 ≤ (x26_2 : Int) := of_decide_eq_true (by first | (with_reducible assumption) | assumption); have q196 : x26_2 < (l1_0.length : Int) := of_decide_eq_true (by first | (with_reducible assumption) | assumption); obtain ⟨ad196, A196_1, c196_1, e196, hx196_0, hx196_1, hx196_2, hx196_3, hl196_1, hi196_1⟩ := at_T104 HR1_0.out x26_2 p196 q196; cases e196; have hn196_0 : ad196.block ≠ gb195 := Nat.ne_of_lt (Nat.lt_of_lt_of_le (by have := World.block_lt_of_cell? _ _ hx196_0; first | rwa [add_block] at this | exact this) GW195.out); have hn196_1 : ad196.block ≠ gb195 := Nat.ne_of_lt (Nat.lt_of_lt_of_le (by have := World.block_lt_of_cell? _ _ hx196_0; first | rwa [add_block] at this | exact this) GW195.out); have hn196_2 : ad196.block ≠ gb195 := Nat.ne_of_lt (Nat.lt_of_lt_of_le (by have := World.block_lt_of_cell? _ _ hx196_0; first | rwa [add_block] at this | exact this) GW195.out); have hn196_3 : ad196.block ≠ gb195 := Nat.ne_of_lt (Nat.lt_of_lt_of_le (by have := World.block_lt_of_cell? _ _ hx196_0; first | rwa [add_block] at this | exact this) GW195.out); replace hx196_0 := (HB.out.cell (World.block_lt_of_cell? w _ hx196_0)).trans hx196_0; replace hx196_1 := (HB.out.cell (World.block_lt_of_cell? w _ hx196_1)).trans hx196_1; replace hx196_2 := (HB.out.cell (World.block_lt_of_cell? w _ hx196_2)).trans hx196_2; replace hx196_3 := (HB.out.cell (World.block_lt_of_cell? w _ hx196_3)).trans hx196_3; have HR196_1 := Aside0.mk hi196_1; have HC196_1 := Aside0.mk hl196_1; clear hi196_1 hl196_1; replace hx196_0 := (cell_far (p := ⟨gb195, 0, none⟩) (by first | (rw [add_block]; exact hn196_0) | (show (Addr.add _ _).block ≠ _; rw [add_block]; exact hn196_0) | exact hn196_0) (.int .i64 ((rd_T104 l0_0 x26_2).f0))).trans hx196_0; replace hx196_1 := (cell_far (p := ⟨gb195, 0, none⟩) (by first | (rw [add_block]; exact hn196_0) | (show (Addr.add _ _).block ≠ _; rw [add_block]; exact hn196_0) | exact hn196_0) (.int .i64 ((rd_T104 l0_0 x26_2).f0))).trans hx196_1; replace hx196_2 := (cell_far (p := ⟨gb195, 0, none⟩) (by first | (rw [add_block]; exact hn196_0) | (show (Addr.add _ _).block ≠ _; rw [add_block]; exact hn196_0) | exact hn196_0) (.int .i64 ((rd_T104 l0_0 x26_2).f0))).trans hx196_2; replace hx196_3 := (cell_far (p := ⟨gb195, 0, none⟩) (by first | (rw [add_block]; exact hn196_0) | (show (Addr.add _ _).block ≠ _; rw [add_block]; exact hn196_0) | exact hn196_0) (.int .i64 ((rd_T104 l0_0 x26_2).f0))).trans hx196_3; replace hx196_0 := (cell_far (p := ⟨gb195, 1, none⟩) (by first | (rw [add_block]; exact hn196_1) | (show (Addr.add _ _).block ≠ _; rw [add_block]; exact hn196_1) | exact hn196_1) (.slice A194_1 ((rd_T104 l0_0 x26_2).f1).length c194_1)).trans hx196_0; replace hx196_1 := (cell_far (p := ⟨gb195, 1, none⟩) (by first | (rw [add_block]; exact hn196_1) | (show (Addr.add _ _).block ≠ _; rw [add_block]; exact hn196_1) | exact hn196_1) (.slice A194_1 ((rd_T104 l0_0 x26_2).f1).length c194_1)).trans hx196_1; replace hx196_2 := (cell_far (p := ⟨gb195, 1, none⟩) (by first | (rw [add_block]; exact hn196_1) | (show (Addr.add _ _).block ≠ _; rw [add_block]; exact hn196_1) | exact hn196_1) (.slice A194_1 ((rd_T104 l0_0 x26_2).f1).length c194_1)).trans hx196_2; replace hx196_3 := (cell_far (p := ⟨gb195, 1, none⟩) (by first | (rw [add_block]; exact hn196_1) | (show (Addr.add _ _).block ≠ _; rw [add_block]; exact hn196_1) | exact hn196_1) (.slice A194_1 ((rd_T104 l0_0 x26_2).f1).length c194_1)).trans hx196_3; replace hx196_0 := (cell_far (p := ⟨gb195, 2, none⟩) (by first | (rw [add_block]; exact hn196_2) | (show (Addr.add _ _).block ≠ _; rw [add_block]; exact hn196_2) | exact hn196_2) (.int .i64 ((rd_T104 l0_0 x26_2).f2))).trans hx196_0; replace hx196_1 := (cell_far (p := ⟨gb195, 2, none⟩) (by first | (rw [add_block]; exact hn196_2) | (show (Addr.add _ _).block ≠ _; rw [add_block]; exact hn196_2) | exact hn196_2) (.int .i64 ((rd_T104 l0_0 x26_2).f2))).trans hx196_1; replace hx196_2 := (cell_far (p := ⟨gb195, 2, none⟩) (by first | (rw [add_block]; exact hn196_2) | (show (Addr.add _ _).block ≠ _; rw [add_block]; exact hn196_2) | exact hn196_2) (.int .i64 ((rd_T104 l0_0 x26_2).f2))).trans hx196_2; replace hx196_3 := (cell_far (p := ⟨gb195, 2, none⟩) (by first | (rw [add_block]; exact hn196_2) | (show (Addr.add _ _).block ≠ _; rw [add_block]; exact hn196_2) | exact hn196_2) (.int .i64 ((rd_T104 l0_0 x26_2).f2))).trans hx196_3; replace hx196_0 := (cell_far (p := ⟨gb195, 3, none⟩) (by first | (rw [add_block]; exact hn196_3) | (show (Addr.add _ _).block ≠ _; rw [add_block]; exact hn196_3) | exact hn196_3) (.bool ((rd_T104 l0_0 x26_2).f3))).trans hx196_0; replace hx196_1 := (cell_far (p := ⟨gb195, 3, none⟩) (by first | (rw [add_block]; exact hn196_3) | (show (Addr.add _ _).block ≠ _; rw [add_block]; exact hn196_3) | exact hn196_3) (.bool ((rd_T104 l0_0 x26_2).f3))).trans hx196_1; replace hx196_2 := (cell_far (p := ⟨gb195, 3, none⟩) (by first | (rw [add_block]; exact hn196_3) | (show (Addr.add _ _).block ≠ _; rw [add_block]; exact hn196_3) | exact hn196_3) (.bool ((rd_T104 l0_0 x26_2).f3))).trans hx196_2; replace hx196_3 := (cell_far (p := ⟨gb195, 3, none⟩) (by first | (rw [add_block]; exact hn196_3) | (show (Addr.add _ _).block ≠ _; rw [add_block]; exact hn196_3) | exact hn196_3) (.bool ((rd_T104 l0_0 x26_2).f3))).trans hx196_3; (try have hy196_0 := fun (n_ : Nat) => (show ((((((w21.drewN n_).setCell ⟨gb195, 0, none⟩ (.int .i64 ((rd_T104 l0_0 x26_2).f0))).setCell ⟨gb195, 1, none⟩ (.slice A194_1 ((rd_T104 l0_0 x26_2).f1).length c194_1)).setCell ⟨gb195, 2, none⟩ (.int .i64 ((rd_T104 l0_0 x26_2).f2))).setCell ⟨gb195, 3, none⟩ (.bool ((rd_T104 l0_0 x26_2).f3)))).cell? _ = some _ from hx196_0)); (try have hy196_1 := fun (n_ : Nat) => (show ((((((w21.drewN n_).setCell ⟨gb195, 0, none⟩ (.int .i64 ((rd_T104 l0_0 x26_2).f0))).setCell ⟨gb195, 1, none⟩ (.slice A194_1 ((rd_T104 l0_0 x26_2).f1).length c194_1)).setCell ⟨gb195, 2, none⟩ (.int .i64 ((rd_T104 l0_0 x26_2).f2))).setCell ⟨gb195, 3, none⟩ (.bool ((rd_T104 l0_0 x26_2).f3)))).cell? _ = some _ from hx196_1)); (try have hy196_2 := fun (n_ : Nat) => (show ((((((w21.drewN n_).setCell ⟨gb195, 0, none⟩ (.int .i64 ((rd_T104 l0_0 x26_2).f0))).setCell ⟨gb195, 1, none⟩ (.slice A194_1 ((rd_T104 l0_0 x26_2).f1).length c194_1)).setCell ⟨gb195, 2, none⟩ (.int .i64 ((rd_T104 l0_0 x26_2).f2))).setCell ⟨gb195, 3, none⟩ (.bool ((rd_T104 l0_0 x26_2).f3)))).cell? _ = some _ from hx196_2)); (try have hy196_3 := fun (n_ : Nat) => (show ((((((w21.drewN n_).setCell ⟨gb195, 0, none⟩ (.int .i64 ((rd_T104 l0_0 x26_2).f0))).setCell ⟨gb195, 1, none⟩ (.slice A194_1 ((rd_T104 l0_0 x26_2).f1).length c194_1)).setCell ⟨gb195, 2, none⟩ (.int .i64 ((rd_T104 l0_0 x26_2).f2))).setCell ⟨gb195, 3, none⟩ (.bool ((rd_T104 l0_0 x26_2).f3)))).cell? _ = some _ from hx196_3)); clear hn196_0; clear hn196_1; clear hn196_2; clear hn196_3; replace p196 := eq_true p196; replace q196 := eq_true q196) | ((with_reducible refine gate_dst (N := 7) rfl ?_); (try (refine gate_guard (by rfl) ?_; dsimp only)); refine box_event ?hg (N := 7) ?hd (cs := #[.int .i64 0, .slice none 0 0, .int .i64 0, .bool false]) (t := 104) ?hr ?_; (case hd => rfl); (case hg => rfl); (case hr => first | (go_simp; done) | (go_simp; rfl)); intro gb197 hg w27 hbox hb; have n0_ := Aside0.mk (blk_below (g := gb192) (o := .cells #[.slice (some ad194) l0_0.length c0_0, .int .i64 a0_1] 67 (0, 0)) (by (with_reducible repeat (first | apply bN | apply bD | apply bA)); refine blk_far ?_ NB192_195.out _; (with_reducible repeat (first | apply bN | apply bD | apply bA)); refine blk_far ?_ NB192_195.out _; (with_reducible repeat (first | apply bN | apply bD | apply bA)); refine blk_far ?_ NB192_195.out _; (with_reducible repeat (first | apply bN | apply bD | apply bA)); refine blk_far ?_ NB192_195.out _; (with_reducible repeat (first | apply bN | apply bD | apply bA)); exact BK192.out) hb); have n1_ := Aside0.mk (blk_below (g := gb193) (o := .cells #[.slice (some ad196) l1_0.length c1_0, .int .i64 a1_1] 67 (0, 0)) (by (with_reducible repeat (first | apply bN | apply bD | apply bA)); refine blk_far ?_ NB193_195.out _; (with_reducible repeat (first | apply bN | apply bD | apply bA)); refine blk_far ?_ NB193_195.out _; (with_reducible repeat (first | apply bN | apply bD | apply bA)); refine blk_far ?_ NB193_195.out _; (with_reducible repeat (first | apply bN | apply bD | apply bA)); refine blk_far ?_ NB193_195.out _; (with_reducible repeat (first | apply bN | apply bD | apply bA)); exact BK193.out) hb); have n2_ := Aside0.mk (blk_below (g := gb195) (o := .cells #[.int .i64 ((rd_T104 l0_0 x26_2).f0), .slice A194_1 ((rd_T104 l0_0 x26_2).f1).length c194_1, .int .i64 ((rd_T104 l0_0 x26_2).f2), .bool ((rd_T104 l0_0 x26_2).f3)] 104 (0, 0)) (by (with_reducible repeat (first | apply bN | apply bD | apply bA)); refine blk_put (cs := #[.int .i64 ((rd_T104 l0_0 x26_2).f0), .slice A194_1 ((rd_T104 l0_0 x26_2).f1).length c194_1, .int .i64 ((rd_T104 l0_0 x26_2).f2), .bool false]) ?_ 3 _ rfl; (with_reducible repeat (first | apply bN | apply bD | apply bA)); refine blk_put (cs := #[.int .i64 ((rd_T104 l0_0 x26_2).f0), .slice A194_1 ((rd_T104 l0_0 x26_2).f1).length c194_1, .int .i64 0, .bool false]) ?_ 2 _ rfl; (with_reducible repeat (first | apply bN | apply bD | apply bA)); refine blk_put (cs := #[.int .i64 ((rd_T104 l0_0 x26_2).f0), .slice none 0 0, .int .i64 0, .bool false]) ?_ 1 _ rfl; (with_reducible repeat (first | apply bN | apply bD | apply bA)); refine blk_put (cs := #[.int .i64 0, .slice none 0 0, .int .i64 0, .bool false]) ?_ 0 _ rfl; (with_reducible repeat (first | apply bN | apply bD | apply bA)); exact BK195.out) hb); have n3_ := Aside0.mk (below_step (by repeat (first | (with_reducible first | exact HB.out | apply below_alloc | apply pw_below_drewN | apply below_drew1 | refine below_set ?_ GE192.out | refine below_set ?_ GE193.out | refine below_set ?_ GE195.out) | exact HB.out)) hb); have n4_ := Aside0.mk (hbox); have n5_ := Aside0.mk ((by rw [hg]; exact (below_size (by repeat (first | (with_reducible first | exact HB.out | apply below_alloc | apply pw_below_drewN | apply below_drew1 | refine below_set ?_ GE192.out | refine below_set ?_ GE193.out | refine below_set ?_ GE195.out) | exact HB.out))) : w.heap.size ≤ gb197)); have n6_ := Aside0.mk ((by rw [hg]; exact (below_size (by repeat (first | (with_reducible first | exact HB.out | apply below_alloc | apply pw_below_drewN | apply below_drew1 | refine below_set ?_ GE192.out | refine below_set ?_ GE193.out | refine below_set ?_ GE195.out) | exact HB.out))) : w.heap.size ≤ gb197)); have n7_ := Aside0.mk ((by rw [hg]; exact Nat.ne_of_lt (blk_lt (g := gb192) (o := .cells #[.slice (some ad194) l0_0.length c0_0, .int .i64 a0_1] 67 (0, 0)) (by (with_reducible repeat (first | apply bN | apply bD | apply bA)); refine blk_far ?_ NB192_195.out _; (with_reducible repeat (first | apply bN | apply bD | apply bA)); refine blk_far ?_ NB192_195.out _; (with_reducible repeat (first | apply bN | apply bD | apply bA)); refine blk_far ?_ NB192_195.out _; (with_reducible repeat (first | apply bN | apply bD | apply bA)); refine blk_far ?_ NB192_195.out _; (with_reducible repeat (first | apply bN | apply bD | apply bA)); exact BK192.out)) : gb192 ≠ gb197)); have n8_ := Aside0.mk ((by rw [hg]; exact Nat.ne_of_gt (blk_lt (g := gb192) (o := .cells #[.slice (some ad194) l0_0.length c0_0, .int .i64 a0_1] 67 (0, 0)) (by (with_reducible repeat (first | apply bN | apply bD | apply bA)); refine blk_far ?_ NB192_195.out _; (with_reducible repeat (first | apply bN | apply bD | apply bA)); refine blk_far ?_ NB192_195.out _; (with_reducible repeat (first | apply bN | apply bD | apply bA)); refine blk_far ?_ NB192_195.out _; (with_reducible repeat (first | apply bN | apply bD | apply bA)); refine blk_far ?_ NB192_195.out _; (with_reducible repeat (first | apply bN | apply bD | apply bA)); exact BK192.out)) : gb197 ≠ gb192)); have n9_ := Aside0.mk ((by rw [hg]; exact Nat.ne_of_lt (blk_lt (g := gb193) (o := .cells #[.slice (some ad196) l1_0.length c1_0, .int .i64 a1_1] 67 (0, 0)) (by (with_reducible repeat (first | apply bN | apply bD | apply bA)); refine blk_far ?_ NB193_195.out _; (with_reducible repeat (first | apply bN | apply bD | apply bA)); refine blk_far ?_ NB193_195.out _; (with_reducible repeat (first | apply bN | apply bD | apply bA)); refine blk_far ?_ NB193_195.out _; (with_reducible repeat (first | apply bN | apply bD | apply bA)); refine blk_far ?_ NB193_195.out _; (with_reducible repeat (first | apply bN | apply bD | apply bA)); exact BK193.out)) : gb193 ≠ gb197)); have n10_ := Aside0.mk ((by rw [hg]; exact Nat.ne_of_gt (blk_lt (g := gb193) (o := .cells #[.slice (some ad196) l1_0.length c1_0, .int .i64 a1_1] 67 (0, 0)) (by (with_reducible repeat (first | apply bN | apply bD | apply bA)); refine blk_far ?_ NB193_195.out _; (with_reducible repeat (first | apply bN | apply bD | apply bA)); refine blk_far ?_ NB193_195.out _; (with_reducible repeat (first | apply bN | apply bD | apply bA)); refine blk_far ?_ NB193_195.out _; (with_reducible repeat (first | apply bN | apply bD | apply bA)); refine blk_far ?_ NB193_195.out _; (with_reducible repeat (first | apply bN | apply bD | apply bA)); exact BK193.out)) : gb197 ≠ gb193)); have n11_ := Aside0.mk ((by rw [hg]; exact Nat.ne_of_lt (blk_lt (g := gb195) (o := .cells #[.int .i64 ((rd_T104 l0_0 x26_2).f0), .slice A194_1 ((rd_T104 l0_0 x26_2).f1).length c194_1, .int .i64 ((rd_T104 l0_0 x26_2).f2), .bool ((rd_T104 l0_0 x26_2).f3)] 104 (0, 0)) (by (with_reducible repeat (first | apply bN | apply bD | apply bA)); refine blk_put (cs := #[.int .i64 ((rd_T104 l0_0 x26_2).f0), .slice A194_1 ((rd_T104 l0_0 x26_2).f1).length c194_1, .int .i64 ((rd_T104 l0_0 x26_2).f2), .bool false]) ?_ 3 _ rfl; (with_reducible repeat (first | apply bN | apply bD | apply bA)); refine blk_put (cs := #[.int .i64 ((rd_T104 l0_0 x26_2).f0), .slice A194_1 ((rd_T104 l0_0 x26_2).f1).length c194_1, .int .i64 0, .bool false]) ?_ 2 _ rfl; (with_reducible repeat (first | apply bN | apply bD | apply bA)); refine blk_put (cs := #[.int .i64 ((rd_T104 l0_0 x26_2).f0), .slice none 0 0, .int .i64 0, .bool false]) ?_ 1 _ rfl; (with_reducible repeat (first | apply bN | apply bD | apply bA)); refine blk_put (cs := #[.int .i64 0, .slice none 0 0, .int .i64 0, .bool false]) ?_ 0 _ rfl; (with_reducible repeat (first | apply bN | apply bD | apply bA)); exact BK195.out)) : gb195 ≠ gb197)); have n12_ := Aside0.mk ((by rw [hg]; exact Nat.ne_of_gt (blk_lt (g := gb195) (o := .cells #[.int .i64 ((rd_T104 l0_0 x26_2).f0), .slice A194_1 ((rd_T104 l0_0 x26_2).f1).length c194_1, .int .i64 ((rd_T104 l0_0 x26_2).f2), .bool ((rd_T104 l0_0 x26_2).f3)] 104 (0, 0)) (by (with_reducible repeat (first | apply bN | apply bD | apply bA)); refine blk_put (cs := #[.int .i64 ((rd_T104 l0_0 x26_2).f0), .slice A194_1 ((rd_T104 l0_0 x26_2).f1).length c194_1, .int .i64 ((rd_T104 l0_0 x26_2).f2), .bool false]) ?_ 3 _ rfl; (with_reducible repeat (first | apply bN | apply bD | apply bA)); refine blk_put (cs := #[.int .i64 ((rd_T104 l0_0 x26_2).f0), .slice A194_1 ((rd_T104 l0_0 x26_2).f1).length c194_1, .int .i64 0, .bool false]) ?_ 2 _ rfl; (with_reducible repeat (first | apply bN | apply bD | apply bA)); refine blk_put (cs := #[.int .i64 ((rd_T104 l0_0 x26_2).f0), .slice none 0 0, .int .i64 0, .bool false]) ?_ 1 _ rfl; (with_reducible repeat (first | apply bN | apply bD | apply bA)); refine blk_put (cs := #[.int .i64 0, .slice none 0 0, .int .i64 0, .bool false]) ?_ 0 _ rfl; (with_reducible repeat (first | apply bN | apply bD | apply bA)); exact BK195.out)) : gb197 ≠ gb195)); clear BK192; clear BK193; clear BK195; clear HB; have BK192 := n0_; have BK193 := n1_; have BK195 := n2_; have HB := n3_; have BK197 := n4_; have GW197 := n5_; have GE197 := n6_; have NB192_197 := n7_; have NB197_192 := n8_; have NB193_197 := n9_; have NB197_193 := n10_; have NB195_197 := n11_; have NB197_195 := n12_; clear n0_ n1_ n2_ n3_ n4_ n5_ n6_ n7_ n8_ n9_ n10_ n11_ n12_; clear hb hbox hg; have hnb28 := NB197_192.out; have hnc28 := NB192_197.out; have hnb29 := NB197_193.out; have hnc29 := NB193_197.out; have hnb30 := NB197_195.out; have hnc30 := NB195_197.out; have hcz31_0 : w27.cell? ⟨gb197, 0, none⟩ = some (.int .i64 0) := (blk_cell BK197.out 0).trans rfl; have hcz31_1 : w27.cell? ⟨gb197, 1, none⟩ = some (.slice none 0 0) := (blk_cell BK197.out 1).trans rfl; have hcz31_2 : w27.cell? ⟨gb197, 2, none⟩ = some (.int .i64 0) := (blk_cell BK197.out 2).trans rfl; have hcz31_3 : w27.cell? ⟨gb197, 3, none⟩ = some (.bool false) := (blk_cell BK197.out 3).trans rfl; have hfz31_0 := blk_frozen BK197.out 0; have hfz31_1 := blk_frozen BK197.out 1; have hfz31_2 := blk_frozen BK197.out 2; have hfz31_3 := blk_frozen BK197.out 3)); go_upto_region 7 with (first | ((with_reducible refine gate_dst (N := 6) rfl ?_); (try (refine gate_guard (by rfl) ?_; dsimp only)); refine box_event ?hg (N := 6) ?hd (cs := #[.int .i64 0, .slice none 0 0, .int .i64 0, .bool false]) (t := 104) ?hr ?_; (case hd => rfl); (case hg => rfl); (case hr => first | (go_simp; done) | (go_simp; rfl)); intro gb195 hg w21 hbox hb; have n0_ := Aside0.mk (blk_below (g := gb192) (o := .cells #[.slice (some ad194) l0_0.length c0_0, .int .i64 a0_1] 67 (0, 0)) (by (with_reducible repeat (first | apply bN | apply bD | apply bA)); exact BK192.out) hb); have n1_ := Aside0.mk (blk_below (g := gb193) (o := .cells #[.slice A1_0 l1_0.length c1_0, .int .i64 a1_1] 67 (0, 0)) (by (with_reducible repeat (first | apply bN | apply bD | apply bA)); exact BK193.out) hb); have n2_ := Aside0.mk (below_step (by repeat (first | (with_reducible first | exact HB.out | apply below_alloc | apply pw_below_drewN | apply below_drew1 | refine below_set ?_ GE192.out | refine below_set ?_ GE193.out) | exact HB.out)) hb); have n3_ := Aside0.mk (hbox); have n4_ := Aside0.mk ((by rw [hg]; exact (below_size (by repeat (first | (with_reducible first | exact HB.out | apply below_alloc | apply pw_below_drewN | apply below_drew1 | refine below_set ?_ GE192.out | refine below_set ?_ GE193.out) | exact HB.out))) : w.heap.size ≤ gb195)); have n5_ := Aside0.mk ((by rw [hg]; exact (below_size (by repeat (first | (with_reducible first | exact HB.out | apply below_alloc | apply pw_below_drewN | apply below_drew1 | refine below_set ?_ GE192.out | refine below_set ?_ GE193.out) | exact HB.out))) : w.heap.size ≤ gb195)); have n6_ := Aside0.mk ((by rw [hg]; exact Nat.ne_of_lt (blk_lt (g := gb192) (o := .cells #[.slice (some ad194) l0_0.length c0_0, .int .i64 a0_1] 67 (0, 0)) (by (with_reducible repeat (first | apply bN | apply bD | apply bA)); exact BK192.out)) : gb192 ≠ gb195)); have n7_ := Aside0.mk ((by rw [hg]; exact Nat.ne_of_gt (blk_lt (g := gb192) (o := .cells #[.slice (some ad194) l0_0.length c0_0, .int .i64 a0_1] 67 (0, 0)) (by (with_reducible repeat (first | apply bN | apply bD | apply bA)); exact BK192.out)) : gb195 ≠ gb192)); have n8_ := Aside0.mk ((by rw [hg]; exact Nat.ne_of_lt (blk_lt (g := gb193) (o := .cells #[.slice A1_0 l1_0.length c1_0, .int .i64 a1_1] 67 (0, 0)) (by (with_reducible repeat (first | apply bN | apply bD | apply bA)); exact BK193.out)) : gb193 ≠ gb195)); have n9_ := Aside0.mk ((by rw [hg]; exact Nat.ne_of_gt (blk_lt (g := gb193) (o := .cells #[.slice A1_0 l1_0.length c1_0, .int .i64 a1_1] 67 (0, 0)) (by (with_reducible repeat (first | apply bN | apply bD | apply bA)); exact BK193.out)) : gb195 ≠ gb193)); clear BK192; clear BK193; clear HB; have BK192 := n0_; have BK193 := n1_; have HB := n2_; have BK195 := n3_; have GW195 := n4_; have GE195 := n5_; have NB192_195 := n6_; have NB195_192 := n7_; have NB193_195 := n8_; have NB195_193 := n9_; clear n0_ n1_ n2_ n3_ n4_ n5_ n6_ n7_ n8_ n9_; clear hb hbox hg; have hnb22 := NB195_192.out; have hnc22 := NB192_195.out; have hnb23 := NB195_193.out; have hnc23 := NB193_195.out; have hcz24_0 : w21.cell? ⟨gb195, 0, none⟩ = some (.int .i64 0) := (blk_cell BK195.out 0).trans rfl; have hcz24_1 : w21.cell? ⟨gb195, 1, none⟩ = some (.slice none 0 0) := (blk_cell BK195.out 1).trans rfl; have hcz24_2 : w21.cell? ⟨gb195, 2, none⟩ = some (.int .i64 0) := (blk_cell BK195.out 2).trans rfl; have hcz24_3 : w21.cell? ⟨gb195, 3, none⟩ = some (.bool false) := (blk_cell BK195.out 3).trans rfl; have hfz24_0 := blk_frozen BK195.out 0; have hfz24_1 := blk_frozen BK195.out 1; have hfz24_2 := blk_frozen BK195.out 2; have hfz24_3 := blk_frozen BK195.out 3; have hnb25 := NB193_192.out; have hnc25 := NB192_193.out; have hcz26_0 : w21.cell? ⟨gb193, 0, none⟩ = some (.slice A1_0 l1_0.length c1_0) := (blk_cell BK193.out 0).trans rfl; have hcz26_1 : w21.cell? ⟨gb193, 1, none⟩ = some (.int .i64 a1_1) := (blk_cell BK193.out 1).trans rfl; have hfz26_0 := blk_frozen BK193.out 0; have hfz26_1 := blk_frozen BK193.out 1; have p196 : 0 ≤ (x26_2 : Int) := of_decide_eq_true (by first | (with_reducible assumption) | assumption); have q196 : x26_2 < (l1_0.length : Int) := of_decide_eq_true (by first | (with_reducible assumption) | assumption); obtain ⟨ad196, A196_1, c196_1, e196, hx196_0, hx196_1, hx196_2, hx196_3, hl196_1, hi196_1⟩ := at_T104 HR1_0.out x26_2 p196 q196; cases e196; have hn196_0 : ad196.block ≠ gb195 := Nat.ne_of_lt (Nat.lt_of_lt_of_le (by have := World.block_lt_of_cell? _ _ hx196_0; first | rwa [add_block] at this | exact this) GW195.out); have hn196_1 : ad196.block ≠ gb195 := Nat.ne_of_lt (Nat.lt_of_lt_of_le (by have := World.block_lt_of_cell? _ _ hx196_0; first | rwa [add_block] at this | exact this) GW195.out); have hn196_2 : ad196.block ≠ gb195 := Nat.ne_of_lt (Nat.lt_of_lt_of_le (by have := World.block_lt_of_cell? _ _ hx196_0; first | rwa [add_block] at this | exact this) GW195.out); have hn196_3 : ad196.block ≠ gb195 := Nat.ne_of_lt (Nat.lt_of_lt_of_le (by have := World.block_lt_of_cell? _ _ hx196_0; first | rwa [add_block] at this | exact this) GW195.out); replace hx196_0 := (HB.out.cell (World.block_lt_of_cell? w _ hx196_0)).trans hx196_0; replace hx196_1 := (HB.out.cell (World.block_lt_of_cell? w _ hx196_1)).trans hx196_1; replace hx196_2 := (HB.out.cell (World.block_lt_of_cell? w _ hx196_2)).trans hx196_2; replace hx196_3 := (HB.out.cell (World.block_lt_of_cell? w _ hx196_3)).trans hx196_3; have HR196_1 := Aside0.mk hi196_1; have HC196_1 := Aside0.mk hl196_1; clear hi196_1 hl196_1; replace hx196_0 := (cell_far (p := ⟨gb195, 0, none⟩) (by first | (rw [add_block]; exact hn196_0) | (show (Addr.add _ _).block ≠ _; rw [add_block]; exact hn196_0) | exact hn196_0) (.int .i64 ((rd_T104 l0_0 x26_2).f0))).trans hx196_0; replace hx196_1 := (cell_far (p := ⟨gb195, 0, none⟩) (by first | (rw [add_block]; exact hn196_0) | (show (Addr.add _ _).block ≠ _; rw [add_block]; exact hn196_0) | exact hn196_0) (.int .i64 ((rd_T104 l0_0 x26_2).f0))).trans hx196_1; replace hx196_2 := (cell_far (p := ⟨gb195, 0, none⟩) (by first | (rw [add_block]; exact hn196_0) | (show (Addr.add _ _).block ≠ _; rw [add_block]; exact hn196_0) | exact hn196_0) (.int .i64 ((rd_T104 l0_0 x26_2).f0))).trans hx196_2; replace hx196_3 := (cell_far (p := ⟨gb195, 0, none⟩) (by first | (rw [add_block]; exact hn196_0) | (show (Addr.add _ _).block ≠ _; rw [add_block]; exact hn196_0) | exact hn196_0) (.int .i64 ((rd_T104 l0_0 x26_2).f0))).trans hx196_3; replace hx196_0 := (cell_far (p := ⟨gb195, 1, none⟩) (by first | (rw [add_block]; exact hn196_1) | (show (Addr.add _ _).block ≠ _; rw [add_block]; exact hn196_1) | exact hn196_1) (.slice A194_1 ((rd_T104 l0_0 x26_2).f1).length c194_1)).trans hx196_0; replace hx196_1 := (cell_far (p := ⟨gb195, 1, none⟩) (by first | (rw [add_block]; exact hn196_1) | (show (Addr.add _ _).block ≠ _; rw [add_block]; exact hn196_1) | exact hn196_1) (.slice A194_1 ((rd_T104 l0_0 x26_2).f1).length c194_1)).trans hx196_1; replace hx196_2 := (cell_far (p := ⟨gb195, 1, none⟩) (by first | (rw [add_block]; exact hn196_1) | (show (Addr.add _ _).block ≠ _; rw [add_block]; exact hn196_1) | exact hn196_1) (.slice A194_1 ((rd_T104 l0_0 x26_2).f1).length c194_1)).trans hx196_2; replace hx196_3 := (cell_far (p := ⟨gb195, 1, none⟩) (by first | (rw [add_block]; exact hn196_1) | (show (Addr.add _ _).block ≠ _; rw [add_block]; exact hn196_1) | exact hn196_1) (.slice A194_1 ((rd_T104 l0_0 x26_2).f1).length c194_1)).trans hx196_3; replace hx196_0 := (cell_far (p := ⟨gb195, 2, none⟩) (by first | (rw [add_block]; exact hn196_2) | (show (Addr.add _ _).block ≠ _; rw [add_block]; exact hn196_2) | exact hn196_2) (.int .i64 ((rd_T104 l0_0 x26_2).f2))).trans hx196_0; replace hx196_1 := (cell_far (p := ⟨gb195, 2, none⟩) (by first | (rw [add_block]; exact hn196_2) | (show (Addr.add _ _).block ≠ _; rw [add_block]; exact hn196_2) | exact hn196_2) (.int .i64 ((rd_T104 l0_0 x26_2).f2))).trans hx196_1; replace hx196_2 := (cell_far (p := ⟨gb195, 2, none⟩) (by first | (rw [add_block]; exact hn196_2) | (show (Addr.add _ _).block ≠ _; rw [add_block]; exact hn196_2) | exact hn196_2) (.int .i64 ((rd_T104 l0_0 x26_2).f2))).trans hx196_2; replace hx196_3 := (cell_far (p := ⟨gb195, 2, none⟩) (by first | (rw [add_block]; exact hn196_2) | (show (Addr.add _ _).block ≠ _; rw [add_block]; exact hn196_2) | exact hn196_2) (.int .i64 ((rd_T104 l0_0 x26_2).f2))).trans hx196_3; replace hx196_0 := (cell_far (p := ⟨gb195, 3, none⟩) (by first | (rw [add_block]; exact hn196_3) | (show (Addr.add _ _).block ≠ _; rw [add_block]; exact hn196_3) | exact hn196_3) (.bool ((rd_T104 l0_0 x26_2).f3))).trans hx196_0; replace hx196_1 := (cell_far (p := ⟨gb195, 3, none⟩) (by first | (rw [add_block]; exact hn196_3) | (show (Addr.add _ _).block ≠ _; rw [add_block]; exact hn196_3) | exact hn196_3) (.bool ((rd_T104 l0_0 x26_2).f3))).trans hx196_1; replace hx196_2 := (cell_far (p := ⟨gb195, 3, none⟩) (by first | (rw [add_block]; exact hn196_3) | (show (Addr.add _ _).block ≠ _; rw [add_block]; exact hn196_3) | exact hn196_3) (.bool ((rd_T104 l0_0 x26_2).f3))).trans hx196_2; replace hx196_3 := (cell_far (p := ⟨gb195, 3, none⟩) (by first | (rw [add_block]; exact hn196_3) | (show (Addr.add _ _).block ≠ _; rw [add_block]; exact hn196_3) | exact hn196_3) (.bool ((rd_T104 l0_0 x26_2).f3))).trans hx196_3; (try have hy196_0 := fun (n_ : Nat) => (show ((((((w21.drewN n_).setCell ⟨gb195, 0, none⟩ (.int .i64 ((rd_T104 l0_0 x26_2).f0))).setCell ⟨gb195, 1, none⟩ (.slice A194_1 ((rd_T104 l0_0 x26_2).f1).length c194_1)).setCell ⟨gb195, 2, none⟩ (.int .i64 ((rd_T104 l0_0 x26_2).f2))).setCell ⟨gb195, 3, none⟩ (.bool ((rd_T104 l0_0 x26_2).f3)))).cell? _ = some _ from hx196_0)); (try have hy196_1 := fun (n_ : Nat) => (show ((((((w21.drewN n_).setCell ⟨gb195, 0, none⟩ (.int .i64 ((rd_T104 l0_0 x26_2).f0))).setCell ⟨gb195, 1, none⟩ (.slice A194_1 ((rd_T104 l0_0 x26_2).f1).length c194_1)).setCell ⟨gb195, 2, none⟩ (.int .i64 ((rd_T104 l0_0 x26_2).f2))).setCell ⟨gb195, 3, none⟩ (.bool ((rd_T104 l0_0 x26_2).f3)))).cell? _ = some _ from hx196_1)); (try have hy196_2 := fun (n_ : Nat) => (show ((((((w21.drewN n_).setCell ⟨gb195, 0, none⟩ (.int .i64 ((rd_T104 l0_0 x26_2).f0))).setCell ⟨gb195, 1, none⟩ (.slice A194_1 ((rd_T104 l0_0 x26_2).f1).length c194_1)).setCell ⟨gb195, 2, none⟩ (.int .i64 ((rd_T104 l0_0 x26_2).f2))).setCell ⟨gb195, 3, none⟩ (.bool ((rd_T104 l0_0 x26_2).f3)))).cell? _ = some _ from hx196_2)); (try have hy196_3 := fun (n_ : Nat) => (show ((((((w21.drewN n_).setCell ⟨gb195, 0, none⟩ (.int .i64 ((rd_T104 l0_0 x26_2).f0))).setCell ⟨gb195, 1, none⟩ (.slice A194_1 ((rd_T104 l0_0 x26_2).f1).length c194_1)).setCell ⟨gb195, 2, none⟩ (.int .i64 ((rd_T104 l0_0 x26_2).f2))).setCell ⟨gb195, 3, none⟩ (.bool ((rd_T104 l0_0 x26_2).f3)))).cell? _ = some _ from hx196_3)); clear hn196_0; clear hn196_1; clear hn196_2; clear hn196_3; replace p196 := eq_true p196; replace q196 := eq_true q196) | ((with_reducible refine gate_dst (N := 7) rfl ?_); (try (refine gate_guard (by rfl) ?_; dsimp only)); refine box_event ?hg (N := 7) ?hd (cs := #[.int .i64 0, .slice none 0 0, .int .i64 0, .bool false]) (t := 104) ?hr ?_; (case hd => rfl); (case hg => rfl); (case hr => first | (go_simp; done) | (go_simp; rfl)); intro gb197 hg w27 hbox hb; have n0_ := Aside0.mk (blk_below (g := gb192) (o := .cells #[.slice (some ad194) l0_0.length c0_0, .int .i64 a0_1] 67 (0, 0)) (by (with_reducible repeat (first | apply bN | apply bD | apply bA)); refine blk_far ?_ NB192_195.out _; (with_reducible repeat (first | apply bN | apply bD | apply bA)); refine blk_far ?_ NB192_195.out _; (with_reducible repeat (first | apply bN | apply bD | apply bA)); refine blk_far ?_ NB192_195.out _; (with_reducible repeat (first | apply bN | apply bD | apply bA)); refine blk_far ?_ NB192_195.out _; (with_reducible repeat (first | apply bN | apply bD | apply bA)); exact BK192.out) hb); have n1_ := Aside0.mk (blk_below (g := gb193) (o := .cells #[.slice (some ad196) l1_0.length c1_0, .int .i64 a1_1] 67 (0, 0)) (by (with_reducible repeat (first | apply bN | apply bD | apply bA)); refine blk_far ?_ NB193_195.out _; (with_reducible repeat (first | apply bN | apply bD | apply bA)); refine blk_far ?_ NB193_195.out _; (with_reducible repeat (first | apply bN | apply bD | apply bA)); refine blk_far ?_ NB193_195.out _; (with_reducible repeat (first | apply bN | apply bD | apply bA)); refine blk_far ?_ NB193_195.out _; (with_reducible repeat (first | apply bN | apply bD | apply bA)); exact BK193.out) hb); have n2_ := Aside0.mk (blk_below (g := gb195) (o := .cells #[.int .i64 ((rd_T104 l0_0 x26_2).f0), .slice A194_1 ((rd_T104 l0_0 x26_2).f1).length c194_1, .int .i64 ((rd_T104 l0_0 x26_2).f2), .bool ((rd_T104 l0_0 x26_2).f3)] 104 (0, 0)) (by (with_reducible repeat (first | apply bN | apply bD | apply bA)); refine blk_put (cs := #[.int .i64 ((rd_T104 l0_0 x26_2).f0), .slice A194_1 ((rd_T104 l0_0 x26_2).f1).length c194_1, .int .i64 ((rd_T104 l0_0 x26_2).f2), .bool false]) ?_ 3 _ rfl; (with_reducible repeat (first | apply bN | apply bD | apply bA)); refine blk_put (cs := #[.int .i64 ((rd_T104 l0_0 x26_2).f0), .slice A194_1 ((rd_T104 l0_0 x26_2).f1).length c194_1, .int .i64 0, .bool false]) ?_ 2 _ rfl; (with_reducible repeat (first | apply bN | apply bD | apply bA)); refine blk_put (cs := #[.int .i64 ((rd_T104 l0_0 x26_2).f0), .slice none 0 0, .int .i64 0, .bool false]) ?_ 1 _ rfl; (with_reducible repeat (first | apply bN | apply bD | apply bA)); refine blk_put (cs := #[.int .i64 0, .slice none 0 0, .int .i64 0, .bool false]) ?_ 0 _ rfl; (with_reducible repeat (first | apply bN | apply bD | apply bA)); exact BK195.out) hb); have n3_ := Aside0.mk (below_step (by repeat (first | (with_reducible first | exact HB.out | apply below_alloc | apply pw_below_drewN | apply below_drew1 | refine below_set ?_ GE192.out | refine below_set ?_ GE193.out | refine below_set ?_ GE195.out) | exact HB.out)) hb); have n4_ := Aside0.mk (hbox); have n5_ := Aside0.mk ((by rw [hg]; exact (below_size (by repeat (first | (with_reducible first | exact HB.out | apply below_alloc | apply pw_below_drewN | apply below_drew1 | refine below_set ?_ GE192.out | refine below_set ?_ GE193.out | refine below_set ?_ GE195.out) | exact HB.out))) : w.heap.size ≤ gb197)); have n6_ := Aside0.mk ((by rw [hg]; exact (below_size (by repeat (first | (with_reducible first | exact HB.out | apply below_alloc | apply pw_below_drewN | apply below_drew1 | refine below_set ?_ GE192.out | refine below_set ?_ GE193.out | refine below_set ?_ GE195.out) | exact HB.out))) : w.heap.size ≤ gb197)); have n7_ := Aside0.mk ((by rw [hg]; exact Nat.ne_of_lt (blk_lt (g := gb192) (o := .cells #[.slice (some ad194) l0_0.length c0_0, .int .i64 a0_1] 67 (0, 0)) (by (with_reducible repeat (first | apply bN | apply bD | apply bA)); refine blk_far ?_ NB192_195.out _; (with_reducible repeat (first | apply bN | apply bD | apply bA)); refine blk_far ?_ NB192_195.out _; (with_reducible repeat (first | apply bN | apply bD | apply bA)); refine blk_far ?_ NB192_195.out _; (with_reducible repeat (first | apply bN | apply bD | apply bA)); refine blk_far ?_ NB192_195.out _; (with_reducible repeat (first | apply bN | apply bD | apply bA)); exact BK192.out)) : gb192 ≠ gb197)); have n8_ := Aside0.mk ((by rw [hg]; exact Nat.ne_of_gt (blk_lt (g := gb192) (o := .cells #[.slice (some ad194) l0_0.length c0_0, .int .i64 a0_1] 67 (0, 0)) (by (with_reducible repeat (first | apply bN | apply bD | apply bA)); refine blk_far ?_ NB192_195.out _; (with_reducible repeat (first | apply bN | apply bD | apply bA)); refine blk_far ?_ NB192_195.out _; (with_reducible repeat (first | apply bN | apply bD | apply bA)); refine blk_far ?_ NB192_195.out _; (with_reducible repeat (first | apply bN | apply bD | apply bA)); refine blk_far ?_ NB192_195.out _; (with_reducible repeat (first | apply bN | apply bD | apply bA)); exact BK192.out)) : gb197 ≠ gb192)); have n9_ := Aside0.mk ((by rw [hg]; exact Nat.ne_of_lt (blk_lt (g := gb193) (o := .cells #[.slice (some ad196) l1_0.length c1_0, .int .i64 a1_1] 67 (0, 0)) (by (with_reducible repeat (first | apply bN | apply bD | apply bA)); refine blk_far ?_ NB193_195.out _; (with_reducible repeat (first | apply bN | apply bD | apply bA)); refine blk_far ?_ NB193_195.out _; (with_reducible repeat (first | apply bN | apply bD | apply bA)); refine blk_far ?_ NB193_195.out _; (with_reducible repeat (first | apply bN | apply bD | apply bA)); refine blk_far ?_ NB193_195.out _; (with_reducible repeat (first | apply bN | apply bD | apply bA)); exact BK193.out)) : gb193 ≠ gb197)); have n10_ := Aside0.mk ((by rw [hg]; exact Nat.ne_of_gt (blk_lt (g := gb193) (o := .cells #[.slice (some ad196) l1_0.length c1_0, .int .i64 a1_1] 67 (0, 0)) (by (with_reducible repeat (first | apply bN | apply bD | apply bA)); refine blk_far ?_ NB193_195.out _; (with_reducible repeat (first | apply bN | apply bD | apply bA)); refine blk_far ?_ NB193_195.out _; (with_reducible repeat (first | apply bN | apply bD | apply bA)); refine blk_far ?_ NB193_195.out _; (with_reducible repeat (first | apply bN | apply bD | apply bA)); refine blk_far ?_ NB193_195.out _; (with_reducible repeat (first | apply bN | apply bD | apply bA)); exact BK193.out)) : gb197 ≠ gb193)); have n11_ := Aside0.mk ((by rw [hg]; exact Nat.ne_of_lt (blk_lt (g := gb195) (o := .cells #[.int .i64 ((rd_T104 l0_0 x26_2).f0), .slice A194_1 ((rd_T104 l0_0 x26_2).f1).length c194_1, .int .i64 ((rd_T104 l0_0 x26_2).f2), .bool ((rd_T104 l0_0 x26_2).f3)] 104 (0, 0)) (by (with_reducible repeat (first | apply bN | apply bD | apply bA)); refine blk_put (cs := #[.int .i64 ((rd_T104 l0_0 x26_2).f0), .slice A194_1 ((rd_T104 l0_0 x26_2).f1).length c194_1, .int .i64 ((rd_T104 l0_0 x26_2).f2), .bool false]) ?_ 3 _ rfl; (with_reducible repeat (first | apply bN | apply bD | apply bA)); refine blk_put (cs := #[.int .i64 ((rd_T104 l0_0 x26_2).f0), .slice A194_1 ((rd_T104 l0_0 x26_2).f1).length c194_1, .int .i64 0, .bool false]) ?_ 2 _ rfl; (with_reducible repeat (first | apply bN | apply bD | apply bA)); refine blk_put (cs := #[.int .i64 ((rd_T104 l0_0 x26_2).f0), .slice none 0 0, .int .i64 0, .bool false]) ?_ 1 _ rfl; (with_reducible repeat (first | apply bN | apply bD | apply bA)); refine blk_put (cs := #[.int .i64 0, .slice none 0 0, .int .i64 0, .bool false]) ?_ 0 _ rfl; (with_reducible repeat (first | apply bN | apply bD | apply bA)); exact BK195.out)) : gb195 ≠ gb197)); have n12_ := Aside0.mk ((by rw [hg]; exact Nat.ne_of_gt (blk_lt (g := gb195) (o := .cells #[.int .i64 ((rd_T104 l0_0 x26_2).f0), .slice A194_1 ((rd_T104 l0_0 x26_2).f1).length c194_1, .int .i64 ((rd_T104 l0_0 x26_2).f2), .bool ((rd_T104 l0_0 x26_2).f3)] 104 (0, 0)) (by (with_reducible repeat (first | apply bN | apply bD | apply bA)); refine blk_put (cs := #[.int .i64 ((rd_T104 l0_0 x26_2).f0), .slice A194_1 ((rd_T104 l0_0 x26_2).f1).length c194_1, .int .i64 ((rd_T104 l0_0 x26_2).f2), .bool false]) ?_ 3 _ rfl; (with_reducible repeat (first | apply bN | apply bD | apply bA)); refine blk_put (cs := #[.int .i64 ((rd_T104 l0_0 x26_2).f0), .slice A194_1 ((rd_T104 l0_0 x26_2).f1).length c194_1, .int .i64 0, .bool false]) ?_ 2 _ rfl; (with_reducible repeat (first | apply bN | apply bD | apply bA)); refine blk_put (cs := #[.int .i64 ((rd_T104 l0_0 x26_2).f0), .slice none 0 0, .int .i64 0, .bool false]) ?_ 1 _ rfl; (with_reducible repeat (first | apply bN | apply bD | apply bA)); refine blk_put (cs := #[.int .i64 0, .slice none 0 0, .int .i64 0, .bool false]) ?_ 0 _ rfl; (with_reducible repeat (first | apply bN | apply bD | apply bA)); exact BK195.out)) : gb197 ≠ gb195)); clear BK192; clear BK193; clear BK195; clear HB; have BK192 := n0_; have BK193 := n1_; have BK195 := n2_; have HB := n3_; have BK197 := n4_; have GW197 := n5_; have GE197 := n6_; have NB192_197 := n7_; have NB197_192 := n8_; have NB193_197 := n9_; have NB197_193 := n10_; have NB195_197 := n11_; have NB197_195 := n12_; clear n0_ n1_ n2_ n3_ n4_ n5_ n6_ n7_ n8_ n9_ n10_ n11_ n12_; clear hb hbox hg; have hnb28 := NB197_192.out; have hnc28 := NB192_197.out; have hnb29 := NB197_193.out; have hnc29 := NB193_197.out; have hnb30 := NB197_195.out; have hnc30 := NB195_197.out; have hcz31_0 : w27.cell? ⟨gb197, 0, none⟩ = some (.int .i64 0) := (blk_cell BK197.out 0).trans rfl; have hcz31_1 : w27.cell? ⟨gb197, 1, none⟩ = some (.slice none 0 0) := (blk_cell BK197.out 1).trans rfl; have hcz31_2 : w27.cell? ⟨gb197, 2, none⟩ = some (.int .i64 0) := (blk_cell BK197.out 2).trans rfl; have hcz31_3 : w27.cell? ⟨gb197, 3, none⟩ = some (.bool false) := (blk_cell BK197.out 3).trans rfl; have hfz31_0 := blk_frozen BK197.out 0; have hfz31_1 := blk_frozen BK197.out 1; have hfz31_2 := blk_frozen BK197.out 2; have hfz31_3 := blk_frozen BK197.out 3)))
          (try simp only [Act.put, List.setIfInBounds_toArray, List.set_cons_zero, List.set_cons_succ])
          go_cut [63] (fun v63 wc => ∃ (kq : Nat) (x63_19 : Bool), v63 = .bool x63_19 ∧ Aside0 (impl_EqualDisks.j2 kq l0_0 (l0_0.length : Int) x26_2 x63_19 l1_0 a1_1 ((rd_T104 l0_0 x26_2).f0) ((rd_T104 l0_0 x26_2).f1) ((rd_T104 l0_0 x26_2).f2) ((rd_T104 l0_0 x26_2).f3) ((rd_T104 l1_0 x26_2).f0) ((rd_T104 l1_0 x26_2).f1) ((rd_T104 l1_0 x26_2).f2) ((rd_T104 l1_0 x26_2).f3) = some r) ∧ Aside0 (kq ≤ k2) ∧ Aside0 (wc.heap[gb192]? = some (.cells #[(.slice (some ad194) l0_0.length c0_0), .int .i64 a0_1] 67 (0, 0))) ∧ Aside0 (wc.heap[gb193]? = some (.cells #[(.slice (some ad196) l1_0.length c1_0), .int .i64 a1_1] 67 (0, 0))) ∧ Aside0 (wc.heap[gb195]? = some (.cells #[.int .i64 ((rd_T104 l0_0 x26_2).f0), (.slice A194_1 ((rd_T104 l0_0 x26_2).f1).length c194_1), .int .i64 ((rd_T104 l0_0 x26_2).f2), .bool ((rd_T104 l0_0 x26_2).f3)] 104 (0, 0))) ∧ Aside0 (wc.heap[gb197]? = some (.cells #[.int .i64 ((rd_T104 l1_0 x26_2).f0), (.slice A196_1 ((rd_T104 l1_0 x26_2).f1).length c196_1), .int .i64 ((rd_T104 l1_0 x26_2).f2), .bool ((rd_T104 l1_0 x26_2).f3)] 104 (0, 0))) ∧ Aside0 (Below w.heap.size w wc))
          case first =>
           have H := HC20.out
           clear HC20
           by_cases c32 : ((rd_T104 l0_0 x26_2).f0) = ((rd_T104 l1_0 x26_2).f0)
           ·rw [if_pos c32] at H
            have c32b0 : (((rd_T104 l0_0 x26_2).f0) == ((rd_T104 l1_0 x26_2).f0)) = true := beq_iff_eq.mpr c32
            have c32b1 : (((rd_T104 l0_0 x26_2).f0) != ((rd_T104 l1_0 x26_2).f0)) = false := bne_eq_false_iff_eq.mpr c32
            clear c32
            (first | rw [c32b0] | (simp only [i64_w, i32_w]; rw [c32b0]) | skip)
            by_cases c33 : ((rd_T104 l0_0 x26_2).f2) = ((rd_T104 l1_0 x26_2).f2)
            ·rw [if_pos c33] at H
             have c33b0 : (((rd_T104 l0_0 x26_2).f2) == ((rd_T104 l1_0 x26_2).f2)) = true := beq_iff_eq.mpr c33
             have c33b1 : (((rd_T104 l0_0 x26_2).f2) != ((rd_T104 l1_0 x26_2).f2)) = false := bne_eq_false_iff_eq.mpr c33
             clear c33
             by_cases c34 : (((rd_T104 l0_0 x26_2).f3) != ((rd_T104 l1_0 x26_2).f3)) = true
             ·rw [if_pos c34] at H
              have c34b0 : (((rd_T104 l0_0 x26_2).f3) != ((rd_T104 l1_0 x26_2).f3)) = true := c34
              (try (have c34b1 : decide (((rd_T104 l0_0 x26_2).f3) = ((rd_T104 l1_0 x26_2).f3)) = false := by simpa using c34))
              (try (have c34b2 : (((rd_T104 l0_0 x26_2).f3) == ((rd_T104 l1_0 x26_2).f3)) = false := by simpa using c34))
              (try (have c34b3 : ¬ (((rd_T104 l0_0 x26_2).f3) = ((rd_T104 l1_0 x26_2).f3)) := by simpa using c34))
              clear c34
              have H' := Aside0.mk H
              clear H
              have hnb35 := NB195_192.out
              have hnc35 := NB192_195.out
              have hnb36 := NB195_193.out
              have hnc36 := NB193_195.out
              have hnb37 := NB195_197.out
              have hnc37 := NB197_195.out
              have hcz38_0 : w27.cell? ⟨gb195, 0, none⟩ = some (.int .i64 ((rd_T104 l0_0 x26_2).f0)) := (blk_cell BK195.out 0).trans rfl
              have hcz38_1 : w27.cell? ⟨gb195, 1, none⟩ = some (.slice A194_1 ((rd_T104 l0_0 x26_2).f1).length c194_1) := (blk_cell BK195.out 1).trans rfl
              have hcz38_2 : w27.cell? ⟨gb195, 2, none⟩ = some (.int .i64 ((rd_T104 l0_0 x26_2).f2)) := (blk_cell BK195.out 2).trans rfl
              have hcz38_3 : w27.cell? ⟨gb195, 3, none⟩ = some (.bool ((rd_T104 l0_0 x26_2).f3)) := (blk_cell BK195.out 3).trans rfl
              have hfz38_0 := blk_frozen BK195.out 0
              have hfz38_1 := blk_frozen BK195.out 1
              have hfz38_2 := blk_frozen BK195.out 2
              have hfz38_3 := blk_frozen BK195.out 3
              have hnb39 := NB197_192.out
              have hnc39 := NB192_197.out
              have hnb40 := NB197_193.out
              have hnc40 := NB193_197.out
              have hcz41_0 : w27.cell? ⟨gb197, 0, none⟩ = some (.int .i64 0) := (blk_cell BK197.out 0).trans rfl
              have hcz41_1 : w27.cell? ⟨gb197, 1, none⟩ = some (.slice none 0 0) := (blk_cell BK197.out 1).trans rfl
              have hcz41_2 : w27.cell? ⟨gb197, 2, none⟩ = some (.int .i64 0) := (blk_cell BK197.out 2).trans rfl
              have hcz41_3 : w27.cell? ⟨gb197, 3, none⟩ = some (.bool false) := (blk_cell BK197.out 3).trans rfl
              have hfz41_0 := blk_frozen BK197.out 0
              have hfz41_1 := blk_frozen BK197.out 1
              have hfz41_2 := blk_frozen BK197.out 2
              have hfz41_3 := blk_frozen BK197.out 3
              go_wp2
              repeat (go_quiet (fail); try go_wp2)
              go_meet
              case rel => exact ⟨_, (true), (by first | rfl | (simp; done) | (simp [*]; done)), H', ⟨by have := HJ2.out; have := HK2.out; first | omega | exact Nat.le_refl _⟩, ⟨by (with_reducible repeat (first | apply bN | apply bD | apply bA)); refine blk_far ?_ NB192_197.out _; (with_reducible repeat (first | apply bN | apply bD | apply bA)); refine blk_far ?_ NB192_197.out _; (with_reducible repeat (first | apply bN | apply bD | apply bA)); refine blk_far ?_ NB192_197.out _; (with_reducible repeat (first | apply bN | apply bD | apply bA)); refine blk_far ?_ NB192_197.out _; (with_reducible repeat (first | apply bN | apply bD | apply bA)); exact BK192.out⟩, ⟨by (with_reducible repeat (first | apply bN | apply bD | apply bA)); refine blk_far ?_ NB193_197.out _; (with_reducible repeat (first | apply bN | apply bD | apply bA)); refine blk_far ?_ NB193_197.out _; (with_reducible repeat (first | apply bN | apply bD | apply bA)); refine blk_far ?_ NB193_197.out _; (with_reducible repeat (first | apply bN | apply bD | apply bA)); refine blk_far ?_ NB193_197.out _; (with_reducible repeat (first | apply bN | apply bD | apply bA)); exact BK193.out⟩, ⟨by (with_reducible repeat (first | apply bN | apply bD | apply bA)); refine blk_far ?_ NB195_197.out _; (with_reducible repeat (first | apply bN | apply bD | apply bA)); refine blk_far ?_ NB195_197.out _; (with_reducible repeat (first | apply bN | apply bD | apply bA)); refine blk_far ?_ NB195_197.out _; (with_reducible repeat (first | apply bN | apply bD | apply bA)); refine blk_far ?_ NB195_197.out _; (with_reducible repeat (first | apply bN | apply bD | apply bA)); exact BK195.out⟩, ⟨by (with_reducible repeat (first | apply bN | apply bD | apply bA)); refine blk_put (cs := #[.int .i64 ((rd_T104 l1_0 x26_2).f0), .slice A196_1 ((rd_T104 l1_0 x26_2).f1).length c196_1, .int .i64 ((rd_T104 l1_0 x26_2).f2), .bool false]) ?_ 3 _ rfl; (with_reducible repeat (first | apply bN | apply bD | apply bA)); refine blk_put (cs := #[.int .i64 ((rd_T104 l1_0 x26_2).f0), .slice A196_1 ((rd_T104 l1_0 x26_2).f1).length c196_1, .int .i64 0, .bool false]) ?_ 2 _ rfl; (with_reducible repeat (first | apply bN | apply bD | apply bA)); refine blk_put (cs := #[.int .i64 ((rd_T104 l1_0 x26_2).f0), .slice none 0 0, .int .i64 0, .bool false]) ?_ 1 _ rfl; (with_reducible repeat (first | apply bN | apply bD | apply bA)); refine blk_put (cs := #[.int .i64 0, .slice none 0 0, .int .i64 0, .bool false]) ?_ 0 _ rfl; (with_reducible repeat (first | apply bN | apply bD | apply bA)); exact BK197.out⟩, ⟨by repeat (first | (with_reducible first | exact HB.out | apply below_alloc | apply pw_below_drewN | apply below_drew1 | refine below_set ?_ GE192.out | refine below_set ?_ GE193.out | refine below_set ?_ GE195.out | refine below_set ?_ GE197.out) | exact HB.out)⟩⟩
             ·rw [if_neg c34] at H
              have c34b0 : (((rd_T104 l0_0 x26_2).f3) != ((rd_T104 l1_0 x26_2).f3)) = false := by simpa using c34
              (try (have c34b1 : decide (((rd_T104 l0_0 x26_2).f3) = ((rd_T104 l1_0 x26_2).f3)) = true := by simpa using c34))
              (try (have c34b2 : (((rd_T104 l0_0 x26_2).f3) == ((rd_T104 l1_0 x26_2).f3)) = true := by simpa using c34))
              clear c34
              have H' := Aside0.mk H
              clear H
              have hnb42 := NB195_192.out
              have hnc42 := NB192_195.out
              have hnb43 := NB195_193.out
              have hnc43 := NB193_195.out
              have hnb44 := NB195_197.out
              have hnc44 := NB197_195.out
              have hcz45_0 : w27.cell? ⟨gb195, 0, none⟩ = some (.int .i64 ((rd_T104 l0_0 x26_2).f0)) := (blk_cell BK195.out 0).trans rfl
              have hcz45_1 : w27.cell? ⟨gb195, 1, none⟩ = some (.slice A194_1 ((rd_T104 l0_0 x26_2).f1).length c194_1) := (blk_cell BK195.out 1).trans rfl
              have hcz45_2 : w27.cell? ⟨gb195, 2, none⟩ = some (.int .i64 ((rd_T104 l0_0 x26_2).f2)) := (blk_cell BK195.out 2).trans rfl
              have hcz45_3 : w27.cell? ⟨gb195, 3, none⟩ = some (.bool ((rd_T104 l0_0 x26_2).f3)) := (blk_cell BK195.out 3).trans rfl
              have hfz45_0 := blk_frozen BK195.out 0
              have hfz45_1 := blk_frozen BK195.out 1
              have hfz45_2 := blk_frozen BK195.out 2
              have hfz45_3 := blk_frozen BK195.out 3
              have hnb46 := NB197_192.out
              have hnc46 := NB192_197.out
              have hnb47 := NB197_193.out
              have hnc47 := NB193_197.out
              have hcz48_0 : w27.cell? ⟨gb197, 0, none⟩ = some (.int .i64 0) := (blk_cell BK197.out 0).trans rfl
              have hcz48_1 : w27.cell? ⟨gb197, 1, none⟩ = some (.slice none 0 0) := (blk_cell BK197.out 1).trans rfl
              have hcz48_2 : w27.cell? ⟨gb197, 2, none⟩ = some (.int .i64 0) := (blk_cell BK197.out 2).trans rfl
              have hcz48_3 : w27.cell? ⟨gb197, 3, none⟩ = some (.bool false) := (blk_cell BK197.out 3).trans rfl
              have hfz48_0 := blk_frozen BK197.out 0
              have hfz48_1 := blk_frozen BK197.out 1
              have hfz48_2 := blk_frozen BK197.out 2
              have hfz48_3 := blk_frozen BK197.out 3
              go_wp2
              repeat (go_quiet (fail); try go_wp2)
              go_meet
              case rel => exact ⟨_, (((((rd_T104 l0_0 x26_2).f1).length : Int) != (((rd_T104 l1_0 x26_2).f1).length : Int))), (by first | rfl | (simp; done) | (simp [*]; done)), H', ⟨by have := HJ2.out; have := HK2.out; first | omega | exact Nat.le_refl _⟩, ⟨by (with_reducible repeat (first | apply bN | apply bD | apply bA)); refine blk_far ?_ NB192_197.out _; (with_reducible repeat (first | apply bN | apply bD | apply bA)); refine blk_far ?_ NB192_197.out _; (with_reducible repeat (first | apply bN | apply bD | apply bA)); refine blk_far ?_ NB192_197.out _; (with_reducible repeat (first | apply bN | apply bD | apply bA)); refine blk_far ?_ NB192_197.out _; (with_reducible repeat (first | apply bN | apply bD | apply bA)); exact BK192.out⟩, ⟨by (with_reducible repeat (first | apply bN | apply bD | apply bA)); refine blk_far ?_ NB193_197.out _; (with_reducible repeat (first | apply bN | apply bD | apply bA)); refine blk_far ?_ NB193_197.out _; (with_reducible repeat (first | apply bN | apply bD | apply bA)); refine blk_far ?_ NB193_197.out _; (with_reducible repeat (first | apply bN | apply bD | apply bA)); refine blk_far ?_ NB193_197.out _; (with_reducible repeat (first | apply bN | apply bD | apply bA)); exact BK193.out⟩, ⟨by (with_reducible repeat (first | apply bN | apply bD | apply bA)); refine blk_far ?_ NB195_197.out _; (with_reducible repeat (first | apply bN | apply bD | apply bA)); refine blk_far ?_ NB195_197.out _; (with_reducible repeat (first | apply bN | apply bD | apply bA)); refine blk_far ?_ NB195_197.out _; (with_reducible repeat (first | apply bN | apply bD | apply bA)); refine blk_far ?_ NB195_197.out _; (with_reducible repeat (first | apply bN | apply bD | apply bA)); exact BK195.out⟩, ⟨by (with_reducible repeat (first | apply bN | apply bD | apply bA)); refine blk_put (cs := #[.int .i64 ((rd_T104 l1_0 x26_2).f0), .slice A196_1 ((rd_T104 l1_0 x26_2).f1).length c196_1, .int .i64 ((rd_T104 l1_0 x26_2).f2), .bool false]) ?_ 3 _ rfl; (with_reducible repeat (first | apply bN | apply bD | apply bA)); refine blk_put (cs := #[.int .i64 ((rd_T104 l1_0 x26_2).f0), .slice A196_1 ((rd_T104 l1_0 x26_2).f1).length c196_1, .int .i64 0, .bool false]) ?_ 2 _ rfl; (with_reducible repeat (first | apply bN | apply bD | apply bA)); refine blk_put (cs := #[.int .i64 ((rd_T104 l1_0 x26_2).f0), .slice none 0 0, .int .i64 0, .bool false]) ?_ 1 _ rfl; (with_reducible repeat (first | apply bN | apply bD | apply bA)); refine blk_put (cs := #[.int .i64 0, .slice none 0 0, .int .i64 0, .bool false]) ?_ 0 _ rfl; (with_reducible repeat (first | apply bN | apply bD | apply bA)); exact BK197.out⟩, ⟨by repeat (first | (with_reducible first | exact HB.out | apply below_alloc | apply pw_below_drewN | apply below_drew1 | refine below_set ?_ GE192.out | refine below_set ?_ GE193.out | refine below_set ?_ GE195.out | refine below_set ?_ GE197.out) | exact HB.out)⟩⟩
            ·rw [if_neg c33] at H
             have c33b0 : (((rd_T104 l0_0 x26_2).f2) == ((rd_T104 l1_0 x26_2).f2)) = false := beq_eq_false_iff_ne.mpr c33
             have c33b1 : (((rd_T104 l0_0 x26_2).f2) != ((rd_T104 l1_0 x26_2).f2)) = true := bne_iff_ne.mpr c33
             have H' := Aside0.mk H
             clear H
             have hnb49 := NB195_192.out
             have hnc49 := NB192_195.out
             have hnb50 := NB195_193.out
             have hnc50 := NB193_195.out
             have hnb51 := NB195_197.out
             have hnc51 := NB197_195.out
             have hcz52_0 : w27.cell? ⟨gb195, 0, none⟩ = some (.int .i64 ((rd_T104 l0_0 x26_2).f0)) := (blk_cell BK195.out 0).trans rfl
             have hcz52_1 : w27.cell? ⟨gb195, 1, none⟩ = some (.slice A194_1 ((rd_T104 l0_0 x26_2).f1).length c194_1) := (blk_cell BK195.out 1).trans rfl
             have hcz52_2 : w27.cell? ⟨gb195, 2, none⟩ = some (.int .i64 ((rd_T104 l0_0 x26_2).f2)) := (blk_cell BK195.out 2).trans rfl
             have hcz52_3 : w27.cell? ⟨gb195, 3, none⟩ = some (.bool ((rd_T104 l0_0 x26_2).f3)) := (blk_cell BK195.out 3).trans rfl
             have hfz52_0 := blk_frozen BK195.out 0
             have hfz52_1 := blk_frozen BK195.out 1
             have hfz52_2 := blk_frozen BK195.out 2
             have hfz52_3 := blk_frozen BK195.out 3
             have hnb53 := NB197_192.out
             have hnc53 := NB192_197.out
             have hnb54 := NB197_193.out
             have hnc54 := NB193_197.out
             have hcz55_0 : w27.cell? ⟨gb197, 0, none⟩ = some (.int .i64 0) := (blk_cell BK197.out 0).trans rfl
             have hcz55_1 : w27.cell? ⟨gb197, 1, none⟩ = some (.slice none 0 0) := (blk_cell BK197.out 1).trans rfl
             have hcz55_2 : w27.cell? ⟨gb197, 2, none⟩ = some (.int .i64 0) := (blk_cell BK197.out 2).trans rfl
             have hcz55_3 : w27.cell? ⟨gb197, 3, none⟩ = some (.bool false) := (blk_cell BK197.out 3).trans rfl
             have hfz55_0 := blk_frozen BK197.out 0
             have hfz55_1 := blk_frozen BK197.out 1
             have hfz55_2 := blk_frozen BK197.out 2
             have hfz55_3 := blk_frozen BK197.out 3
             go_wp2
             repeat (go_quiet (fail); try go_wp2)
             go_meet
             case rel => exact ⟨_, (true), (by first | rfl | (simp; done) | (simp [*]; done)), H', ⟨by have := HJ2.out; have := HK2.out; first | omega | exact Nat.le_refl _⟩, ⟨by (with_reducible repeat (first | apply bN | apply bD | apply bA)); refine blk_far ?_ NB192_197.out _; (with_reducible repeat (first | apply bN | apply bD | apply bA)); refine blk_far ?_ NB192_197.out _; (with_reducible repeat (first | apply bN | apply bD | apply bA)); refine blk_far ?_ NB192_197.out _; (with_reducible repeat (first | apply bN | apply bD | apply bA)); refine blk_far ?_ NB192_197.out _; (with_reducible repeat (first | apply bN | apply bD | apply bA)); exact BK192.out⟩, ⟨by (with_reducible repeat (first | apply bN | apply bD | apply bA)); refine blk_far ?_ NB193_197.out _; (with_reducible repeat (first | apply bN | apply bD | apply bA)); refine blk_far ?_ NB193_197.out _; (with_reducible repeat (first | apply bN | apply bD | apply bA)); refine blk_far ?_ NB193_197.out _; (with_reducible repeat (first | apply bN | apply bD | apply bA)); refine blk_far ?_ NB193_197.out _; (with_reducible repeat (first | apply bN | apply bD | apply bA)); exact BK193.out⟩, ⟨by (with_reducible repeat (first | apply bN | apply bD | apply bA)); refine blk_far ?_ NB195_197.out _; (with_reducible repeat (first | apply bN | apply bD | apply bA)); refine blk_far ?_ NB195_197.out _; (with_reducible repeat (first | apply bN | apply bD | apply bA)); refine blk_far ?_ NB195_197.out _; (with_reducible repeat (first | apply bN | apply bD | apply bA)); refine blk_far ?_ NB195_197.out _; (with_reducible repeat (first | apply bN | apply bD | apply bA)); exact BK195.out⟩, ⟨by (with_reducible repeat (first | apply bN | apply bD | apply bA)); refine blk_put (cs := #[.int .i64 ((rd_T104 l1_0 x26_2).f0), .slice A196_1 ((rd_T104 l1_0 x26_2).f1).length c196_1, .int .i64 ((rd_T104 l1_0 x26_2).f2), .bool false]) ?_ 3 _ rfl; (with_reducible repeat (first | apply bN | apply bD | apply bA)); refine blk_put (cs := #[.int .i64 ((rd_T104 l1_0 x26_2).f0), .slice A196_1 ((rd_T104 l1_0 x26_2).f1).length c196_1, .int .i64 0, .bool false]) ?_ 2 _ rfl; (with_reducible repeat (first | apply bN | apply bD | apply bA)); refine blk_put (cs := #[.int .i64 ((rd_T104 l1_0 x26_2).f0), .slice none 0 0, .int .i64 0, .bool false]) ?_ 1 _ rfl; (with_reducible repeat (first | apply bN | apply bD | apply bA)); refine blk_put (cs := #[.int .i64 0, .slice none 0 0, .int .i64 0, .bool false]) ?_ 0 _ rfl; (with_reducible repeat (first | apply bN | apply bD | apply bA)); exact BK197.out⟩, ⟨by repeat (first | (with_reducible first | exact HB.out | apply below_alloc | apply pw_below_drewN | apply below_drew1 | refine below_set ?_ GE192.out | refine below_set ?_ GE193.out | refine below_set ?_ GE195.out | refine below_set ?_ GE197.out) | exact HB.out)⟩⟩
           ·rw [if_neg c32] at H
            have c32b0 : (((rd_T104 l0_0 x26_2).f0) == ((rd_T104 l1_0 x26_2).f0)) = false := beq_eq_false_iff_ne.mpr c32
            have c32b1 : (((rd_T104 l0_0 x26_2).f0) != ((rd_T104 l1_0 x26_2).f0)) = true := bne_iff_ne.mpr c32
            (first | rw [c32b0] | (simp only [i64_w, i32_w]; rw [c32b0]) | skip)
            have H' := Aside0.mk H
            clear H
            have hnb56 := NB195_192.out
            have hnc56 := NB192_195.out
            have hnb57 := NB195_193.out
            have hnc57 := NB193_195.out
            have hnb58 := NB195_197.out
            have hnc58 := NB197_195.out
            have hcz59_0 : w27.cell? ⟨gb195, 0, none⟩ = some (.int .i64 ((rd_T104 l0_0 x26_2).f0)) := (blk_cell BK195.out 0).trans rfl
            have hcz59_1 : w27.cell? ⟨gb195, 1, none⟩ = some (.slice A194_1 ((rd_T104 l0_0 x26_2).f1).length c194_1) := (blk_cell BK195.out 1).trans rfl
            have hcz59_2 : w27.cell? ⟨gb195, 2, none⟩ = some (.int .i64 ((rd_T104 l0_0 x26_2).f2)) := (blk_cell BK195.out 2).trans rfl
            have hcz59_3 : w27.cell? ⟨gb195, 3, none⟩ = some (.bool ((rd_T104 l0_0 x26_2).f3)) := (blk_cell BK195.out 3).trans rfl
            have hfz59_0 := blk_frozen BK195.out 0
            have hfz59_1 := blk_frozen BK195.out 1
            have hfz59_2 := blk_frozen BK195.out 2
            have hfz59_3 := blk_frozen BK195.out 3
            have hnb60 := NB197_192.out
            have hnc60 := NB192_197.out
            have hnb61 := NB197_193.out
            have hnc61 := NB193_197.out
            have hcz62_0 : w27.cell? ⟨gb197, 0, none⟩ = some (.int .i64 0) := (blk_cell BK197.out 0).trans rfl
            have hcz62_1 : w27.cell? ⟨gb197, 1, none⟩ = some (.slice none 0 0) := (blk_cell BK197.out 1).trans rfl
            have hcz62_2 : w27.cell? ⟨gb197, 2, none⟩ = some (.int .i64 0) := (blk_cell BK197.out 2).trans rfl
            have hcz62_3 : w27.cell? ⟨gb197, 3, none⟩ = some (.bool false) := (blk_cell BK197.out 3).trans rfl
            have hfz62_0 := blk_frozen BK197.out 0
            have hfz62_1 := blk_frozen BK197.out 1
            have hfz62_2 := blk_frozen BK197.out 2
            have hfz62_3 := blk_frozen BK197.out 3
            go_wp2
            repeat (go_quiet (fail); try go_wp2)
            go_meet
            case rel => exact ⟨_, (true), (by first | rfl | (simp; done) | (simp [*]; done)), H', ⟨by have := HJ2.out; have := HK2.out; first | omega | exact Nat.le_refl _⟩, ⟨by (with_reducible repeat (first | apply bN | apply bD | apply bA)); refine blk_far ?_ NB192_197.out _; (with_reducible repeat (first | apply bN | apply bD | apply bA)); refine blk_far ?_ NB192_197.out _; (with_reducible repeat (first | apply bN | apply bD | apply bA)); refine blk_far ?_ NB192_197.out _; (with_reducible repeat (first | apply bN | apply bD | apply bA)); refine blk_far ?_ NB192_197.out _; (with_reducible repeat (first | apply bN | apply bD | apply bA)); exact BK192.out⟩, ⟨by (with_reducible repeat (first | apply bN | apply bD | apply bA)); refine blk_far ?_ NB193_197.out _; (with_reducible repeat (first | apply bN | apply bD | apply bA)); refine blk_far ?_ NB193_197.out _; (with_reducible repeat (first | apply bN | apply bD | apply bA)); refine blk_far ?_ NB193_197.out _; (with_reducible repeat (first | apply bN | apply bD | apply bA)); refine blk_far ?_ NB193_197.out _; (with_reducible repeat (first | apply bN | apply bD | apply bA)); exact BK193.out⟩, ⟨by (with_reducible repeat (first | apply bN | apply bD | apply bA)); refine blk_far ?_ NB195_197.out _; (with_reducible repeat (first | apply bN | apply bD | apply bA)); refine blk_far ?_ NB195_197.out _; (with_reducible repeat (first | apply bN | apply bD | apply bA)); refine blk_far ?_ NB195_197.out _; (with_reducible repeat (first | apply bN | apply bD | apply bA)); refine blk_far ?_ NB195_197.out _; (with_reducible repeat (first | apply bN | apply bD | apply bA)); exact BK195.out⟩, ⟨by (with_reducible repeat (first | apply bN | apply bD | apply bA)); refine blk_put (cs := #[.int .i64 ((rd_T104 l1_0 x26_2).f0), .slice A196_1 ((rd_T104 l1_0 x26_2).f1).length c196_1, .int .i64 ((rd_T104 l1_0 x26_2).f2), .bool false]) ?_ 3 _ rfl; (with_reducible repeat (first | apply bN | apply bD | apply bA)); refine blk_put (cs := #[.int .i64 ((rd_T104 l1_0 x26_2).f0), .slice A196_1 ((rd_T104 l1_0 x26_2).f1).length c196_1, .int .i64 0, .bool false]) ?_ 2 _ rfl; (with_reducible repeat (first | apply bN | apply bD | apply bA)); refine blk_put (cs := #[.int .i64 ((rd_T104 l1_0 x26_2).f0), .slice none 0 0, .int .i64 0, .bool false]) ?_ 1 _ rfl; (with_reducible repeat (first | apply bN | apply bD | apply bA)); refine blk_put (cs := #[.int .i64 0, .slice none 0 0, .int .i64 0, .bool false]) ?_ 0 _ rfl; (with_reducible repeat (first | apply bN | apply bD | apply bA)); exact BK197.out⟩, ⟨by repeat (first | (with_reducible first | exact HB.out | apply below_alloc | apply pw_below_drewN | apply below_drew1 | refine below_set ?_ GE192.out | refine below_set ?_ GE193.out | refine below_set ?_ GE195.out | refine below_set ?_ GE197.out) | exact HB.out)⟩⟩
          case rest =>
           clear HC20
           try clear c1
           try clear p1
           try clear q1
           try clear hx1
           try clear c2
           try clear p2
           try clear c3
           try clear c4
           try clear c5
           try clear c6
           try clear c6b0
           try clear c6b1
           try clear c7
           try clear c10
           try clear c13
           try clear c14
           try clear c16
           try clear c16b0
           try clear c17
           try clear c17b0
           try clear c18
           try clear c18b0
           try clear c19
           try clear c19b0
           try clear p19
           try clear q19
           try clear hx19
           try clear c22
           try clear c23
           try clear c25
           try clear c28
           try clear c29
           try clear c30
           try clear c32
           try clear c32b0
           try clear c32b1
           try clear c33
           try clear c33b0
           try clear c33b1
           try clear c34
           try clear c34b0
           try clear c34b1
           try clear c34b2
           try clear c35
           try clear c36
           try clear c37
           try clear c39
           try clear c40
           try clear c42
           try clear c43
           try clear c44
           try clear c46
           try clear c47
           try clear c49
           try clear c50
           try clear c51
           try clear c53
           try clear c54
           try clear c56
           try clear c57
           try clear c58
           try clear c60
           try clear c61
           try clear hcz11_0
           try clear hcz11_1
           try clear hcz12_0
           try clear hcz12_1
           try clear hcz15_0
           try clear hcz15_1
           try clear hcz24_0
           try clear hcz24_1
           try clear hcz24_2
           try clear hcz24_3
           try clear hcz26_0
           try clear hcz26_1
           try clear hcz31_0
           try clear hcz31_1
           try clear hcz31_2
           try clear hcz31_3
           try clear hcz38_0
           try clear hcz38_1
           try clear hcz38_2
           try clear hcz38_3
           try clear hcz41_0
           try clear hcz41_1
           try clear hcz41_2
           try clear hcz41_3
           try clear hcz45_0
           try clear hcz45_1
           try clear hcz45_2
           try clear hcz45_3
           try clear hcz48_0
           try clear hcz48_1
           try clear hcz48_2
           try clear hcz48_3
           try clear hcz52_0
           try clear hcz52_1
           try clear hcz52_2
           try clear hcz52_3
           try clear hcz55_0
           try clear hcz55_1
           try clear hcz55_2
           try clear hcz55_3
           try clear hcz59_0
           try clear hcz59_1
           try clear hcz59_2
           try clear hcz59_3
           try clear hcz62_0
           try clear hcz62_1
           try clear hcz62_2
           try clear hcz62_3
           try clear hcz8_0
           try clear hcz8_1
           try clear hcz9_0
           try clear hcz9_1
           try clear hfz11_0
           try clear hfz11_1
           try clear hfz12_0
           try clear hfz12_1
           try clear hfz15_0
           try clear hfz15_1
           try clear hfz24_0
           try clear hfz24_1
           try clear hfz24_2
           try clear hfz24_3
           try clear hfz26_0
           try clear hfz26_1
           try clear hfz31_0
           try clear hfz31_1
           try clear hfz31_2
           try clear hfz31_3
           try clear hfz38_0
           try clear hfz38_1
           try clear hfz38_2
           try clear hfz38_3
           try clear hfz41_0
           try clear hfz41_1
           try clear hfz41_2
           try clear hfz41_3
           try clear hfz45_0
           try clear hfz45_1
           try clear hfz45_2
           try clear hfz45_3
           try clear hfz48_0
           try clear hfz48_1
           try clear hfz48_2
           try clear hfz48_3
           try clear hfz52_0
           try clear hfz52_1
           try clear hfz52_2
           try clear hfz52_3
           try clear hfz55_0
           try clear hfz55_1
           try clear hfz55_2
           try clear hfz55_3
           try clear hfz59_0
           try clear hfz59_1
           try clear hfz59_2
           try clear hfz59_3
           try clear hfz62_0
           try clear hfz62_1
           try clear hfz62_2
           try clear hfz62_3
           try clear hfz8_0
           try clear hfz8_1
           try clear hfz9_0
           try clear hfz9_1
           try clear hx194_0
           try clear hx194_1
           try clear hx194_2
           try clear hx194_3
           try clear hx196_0
           try clear hx196_1
           try clear hx196_2
           try clear hx196_3
           try clear p194
           try clear p196
           try clear p2
           try clear q194
           try clear q196
           obtain ⟨kq, x63_19, rfl, HA, HJ19, BK192, BK193, BK195, BK197, HB⟩ := hcut
           cases kq with
           | zero => exact absurd HA.out (by simp [impl_EqualDisks.j2])
           | succ kj19 =>
            have H := HA.out
            clear HA
            simp only [impl_EqualDisks.j2] at H
            by_cases c63 : x63_19 = true
            ·subst c63
             have H1 : (some false) = some r := by rw [if_pos rfl] at H; exact H
             clear H
             have H := H1
             clear H1
             obtain rfl := Option.some.inj H
             go_wp2
             repeat (go_quiet (fail); try go_wp2)
             go_ret
             exact ⟨by first | rfl | (simp [errW_none, errW_some] <;> rfl) | (simp [*, errW_none, errW_some] <;> rfl), by repeat (first | (with_reducible first | exact HB.out | apply below_alloc | apply pw_below_drewN | apply below_drew1 | refine below_set ?_ GE192.out | refine below_set ?_ GE193.out | refine below_set ?_ GE195.out | refine below_set ?_ GE197.out) | exact HB.out)⟩
            ·replace c63 := Bool.eq_false_iff.mpr c63
             subst c63
             have H1 : (impl_EqualDisks.l1 kj19 l0_0 (l0_0.length : Int) x26_2 (((rd_T104 l0_0 x26_2).f1).length : Int) 0 l1_0 a1_1 ((rd_T104 l0_0 x26_2).f0) ((rd_T104 l0_0 x26_2).f1) ((rd_T104 l0_0 x26_2).f2) ((rd_T104 l0_0 x26_2).f3) ((rd_T104 l1_0 x26_2).f0) ((rd_T104 l1_0 x26_2).f1) ((rd_T104 l1_0 x26_2).f2) ((rd_T104 l1_0 x26_2).f3)) = some r := by rw [if_neg (show ¬ (false = true) by decide)] at H; exact H
             clear H
             have H := H1
             clear H1
             have H' := Aside0.mk H
             clear H
             have hnb64 := NB195_192.out
             have hnc64 := NB192_195.out
             have hnb65 := NB195_193.out
             have hnc65 := NB193_195.out
             have hnb66 := NB195_197.out
             have hnc66 := NB197_195.out
             have hcz67_0 : wc.cell? ⟨gb195, 0, none⟩ = some (.int .i64 ((rd_T104 l0_0 x26_2).f0)) := (blk_cell BK195.out 0).trans rfl
             have hcz67_1 : wc.cell? ⟨gb195, 1, none⟩ = some (.slice A194_1 ((rd_T104 l0_0 x26_2).f1).length c194_1) := (blk_cell BK195.out 1).trans rfl
             have hcz67_2 : wc.cell? ⟨gb195, 2, none⟩ = some (.int .i64 ((rd_T104 l0_0 x26_2).f2)) := (blk_cell BK195.out 2).trans rfl
             have hcz67_3 : wc.cell? ⟨gb195, 3, none⟩ = some (.bool ((rd_T104 l0_0 x26_2).f3)) := (blk_cell BK195.out 3).trans rfl
             have hfz67_0 := blk_frozen BK195.out 0
             have hfz67_1 := blk_frozen BK195.out 1
             have hfz67_2 := blk_frozen BK195.out 2
             have hfz67_3 := blk_frozen BK195.out 3
             go_wp2
             repeat (go_quiet (fail); try go_wp2)
             go_loopg [67] kj19 (fun kq v67 w' => ∃ (x67_4 : Int), v67 = .int .i64 x67_4 ∧ Aside0 (impl_EqualDisks.l1 kq l0_0 (l0_0.length : Int) x26_2 (((rd_T104 l0_0 x26_2).f1).length : Int) x67_4 l1_0 a1_1 ((rd_T104 l0_0 x26_2).f0) ((rd_T104 l0_0 x26_2).f1) ((rd_T104 l0_0 x26_2).f2) ((rd_T104 l0_0 x26_2).f3) ((rd_T104 l1_0 x26_2).f0) ((rd_T104 l1_0 x26_2).f1) ((rd_T104 l1_0 x26_2).f2) ((rd_T104 l1_0 x26_2).f3) = some r) ∧ Aside0 (kq ≤ kj19) ∧ Aside0 (w'.heap[gb192]? = some (.cells #[(.slice (some ad194) l0_0.length c0_0), .int .i64 a0_1] 67 (0, 0))) ∧ Aside0 (w'.heap[gb193]? = some (.cells #[(.slice (some ad196) l1_0.length c1_0), .int .i64 a1_1] 67 (0, 0))) ∧ Aside0 (w'.heap[gb195]? = some (.cells #[.int .i64 ((rd_T104 l0_0 x26_2).f0), (.slice A194_1 ((rd_T104 l0_0 x26_2).f1).length c194_1), .int .i64 ((rd_T104 l0_0 x26_2).f2), .bool ((rd_T104 l0_0 x26_2).f3)] 104 (0, 0))) ∧ Aside0 (w'.heap[gb197]? = some (.cells #[.int .i64 ((rd_T104 l1_0 x26_2).f0), (.slice A196_1 ((rd_T104 l1_0 x26_2).f1).length c196_1), .int .i64 ((rd_T104 l1_0 x26_2).f2), .bool ((rd_T104 l1_0 x26_2).f3)] 104 (0, 0))) ∧ Aside0 (Below w.heap.size w w'))
             case atStart => exact ⟨(0), (by first | rfl | (simp; done) | (simp [*]; done)), H', ⟨Nat.le_refl _⟩, ⟨by (with_reducible repeat (first | apply bN | apply bD | apply bA)); exact BK192.out⟩, ⟨by (with_reducible repeat (first | apply bN | apply bD | apply bA)); exact BK193.out⟩, ⟨by (with_reducible repeat (first | apply bN | apply bD | apply bA)); exact BK195.out⟩, ⟨by (with_reducible repeat (first | apply bN | apply bD | apply bA)); exact BK197.out⟩, ⟨by repeat (first | (with_reducible first | exact HB.out | apply below_alloc | apply pw_below_drewN | apply below_drew1 | refine below_set ?_ GE192.out | refine below_set ?_ GE193.out | refine below_set ?_ GE195.out | refine below_set ?_ GE197.out) | exact HB.out)⟩⟩
             case round =>
              clear H'
              try clear c1
              try clear p1
              try clear q1
              try clear hx1
              try clear c2
              try clear p2
              try clear c3
              try clear c4
              try clear c5
              try clear c6
              try clear c6b0
              try clear c6b1
              try clear c7
              try clear c10
              try clear c13
              try clear c14
              try clear c16
              try clear c16b0
              try clear c17
              try clear c17b0
              try clear c18
              try clear c18b0
              try clear c19
              try clear c19b0
              try clear p19
              try clear q19
              try clear hx19
              try clear c22
              try clear c23
              try clear c25
              try clear c28
              try clear c29
              try clear c30
              try clear c32
              try clear c32b0
              try clear c32b1
              try clear c33
              try clear c33b0
              try clear c33b1
              try clear c34
              try clear c34b0
              try clear c34b1
              try clear c34b2
              try clear c35
              try clear c36
              try clear c37
              try clear c39
              try clear c40
              try clear c42
              try clear c43
              try clear c44
              try clear c46
              try clear c47
              try clear c49
              try clear c50
              try clear c51
              try clear c53
              try clear c54
              try clear c56
              try clear c57
              try clear c58
              try clear c60
              try clear c61
              try clear c63
              try clear c64
              try clear c65
              try clear c66
              try clear hcz11_0
              try clear hcz11_1
              try clear hcz12_0
              try clear hcz12_1
              try clear hcz15_0
              try clear hcz15_1
              try clear hcz24_0
              try clear hcz24_1
              try clear hcz24_2
              try clear hcz24_3
              try clear hcz26_0
              try clear hcz26_1
              try clear hcz31_0
              try clear hcz31_1
              try clear hcz31_2
              try clear hcz31_3
              try clear hcz38_0
              try clear hcz38_1
              try clear hcz38_2
              try clear hcz38_3
              try clear hcz41_0
              try clear hcz41_1
              try clear hcz41_2
              try clear hcz41_3
              try clear hcz45_0
              try clear hcz45_1
              try clear hcz45_2
              try clear hcz45_3
              try clear hcz48_0
              try clear hcz48_1
              try clear hcz48_2
              try clear hcz48_3
              try clear hcz52_0
              try clear hcz52_1
              try clear hcz52_2
              try clear hcz52_3
              try clear hcz55_0
              try clear hcz55_1
              try clear hcz55_2
              try clear hcz55_3
              try clear hcz59_0
              try clear hcz59_1
              try clear hcz59_2
              try clear hcz59_3
              try clear hcz62_0
              try clear hcz62_1
              try clear hcz62_2
              try clear hcz62_3
              try clear hcz67_0
              try clear hcz67_1
              try clear hcz67_2
              try clear hcz67_3
              try clear hcz8_0
              try clear hcz8_1
              try clear hcz9_0
              try clear hcz9_1
              try clear hfz11_0
              try clear hfz11_1
              try clear hfz12_0
              try clear hfz12_1
              try clear hfz15_0
              try clear hfz15_1
              try clear hfz24_0
              try clear hfz24_1
              try clear hfz24_2
              try clear hfz24_3
              try clear hfz26_0
              try clear hfz26_1
              try clear hfz31_0
              try clear hfz31_1
              try clear hfz31_2
              try clear hfz31_3
              try clear hfz38_0
              try clear hfz38_1
              try clear hfz38_2
              try clear hfz38_3
              try clear hfz41_0
              try clear hfz41_1
              try clear hfz41_2
              try clear hfz41_3
              try clear hfz45_0
              try clear hfz45_1
              try clear hfz45_2
              try clear hfz45_3
              try clear hfz48_0
              try clear hfz48_1
              try clear hfz48_2
              try clear hfz48_3
              try clear hfz52_0
              try clear hfz52_1
              try clear hfz52_2
              try clear hfz52_3
              try clear hfz55_0
              try clear hfz55_1
              try clear hfz55_2
              try clear hfz55_3
              try clear hfz59_0
              try clear hfz59_1
              try clear hfz59_2
              try clear hfz59_3
              try clear hfz62_0
              try clear hfz62_1
              try clear hfz62_2
              try clear hfz62_3
              try clear hfz67_0
              try clear hfz67_1
              try clear hfz67_2
              try clear hfz67_3
              try clear hfz8_0
              try clear hfz8_1
              try clear hfz9_0
              try clear hfz9_1
              try clear hx194_0
              try clear hx194_1
              try clear hx194_2
              try clear hx194_3
              try clear hx196_0
              try clear hx196_1
              try clear hx196_2
              try clear hx196_3
              try clear p1
              try clear p19
              try clear p194
              try clear p196
              try clear p2
              try clear q1
              try clear q19
              try clear q194
              try clear q196
              obtain ⟨x67_4, rfl, HA, HK4, BK192, BK193, BK195, BK197, HB⟩ := hrel
              cases gk with
              | zero => exact absurd HA.out (by simp [impl_EqualDisks.l1])
              | succ k4 =>
               have H := HA.out
               clear HA
               simp only [impl_EqualDisks.l1] at H
               by_cases c68 : x67_4 < (((rd_T104 l0_0 x26_2).f1).length : Int)
               ·rw [if_pos c68] at H
                have c68b0 : decide (x67_4 < (((rd_T104 l0_0 x26_2).f1).length : Int)) = true := decide_eq_true c68
                clear c68
                by_cases c69 : 0 ≤ x67_4
                ·rw [if_pos c69] at H
                 have c69b0 : decide (0 ≤ x67_4) = true := decide_eq_true c69
                 clear c69
                 by_cases c70 : x67_4 < (((rd_T104 l0_0 x26_2).f1).length : Int)
                 ·rw [if_pos c70] at H
                  have c70b0 : decide (x67_4 < (((rd_T104 l0_0 x26_2).f1).length : Int)) = true := decide_eq_true c70
                  clear c70
                  by_cases c71 : x67_4 < (((rd_T104 l1_0 x26_2).f1).length : Int)
                  ·rw [if_pos c71] at H
                   have c71b0 : decide (x67_4 < (((rd_T104 l1_0 x26_2).f1).length : Int)) = true := decide_eq_true c71
                   clear c71
                   replace H := Option.bind_eq_some_iff.mp H
                   obtain ⟨t200, A720, H⟩ := H
                   replace H : (if t200 = true then (impl_EqualDisks.l1 k4 l0_0 (l0_0.length : Int) x26_2 (((rd_T104 l0_0 x26_2).f1).length : Int) (wrap64 (x67_4 + 1)) l1_0 a1_1 ((rd_T104 l0_0 x26_2).f0) ((rd_T104 l0_0 x26_2).f1) ((rd_T104 l0_0 x26_2).f2) ((rd_T104 l0_0 x26_2).f3) ((rd_T104 l1_0 x26_2).f0) ((rd_T104 l1_0 x26_2).f1) ((rd_T104 l1_0 x26_2).f2) ((rd_T104 l1_0 x26_2).f3)) else (some false)) = some r := H
                   have A72 := Aside0.mk A720
                   clear A720
                   by_cases c73 : t200 = true
                   ·subst c73
                    have H1 : (impl_EqualDisks.l1 k4 l0_0 (l0_0.length : Int) x26_2 (((rd_T104 l0_0 x26_2).f1).length : Int) (wrap64 (x67_4 + 1)) l1_0 a1_1 ((rd_T104 l0_0 x26_2).f0) ((rd_T104 l0_0 x26_2).f1) ((rd_T104 l0_0 x26_2).f2) ((rd_T104 l0_0 x26_2).f3) ((rd_T104 l1_0 x26_2).f0) ((rd_T104 l1_0 x26_2).f1) ((rd_T104 l1_0 x26_2).f2) ((rd_T104 l1_0 x26_2).f3)) = some r := by rw [if_pos rfl] at H; exact H
                    clear H
                    have H := H1
                    clear H1
                    have H' := Aside0.mk H
                    clear H
                    have hnb74 := NB195_192.out
                    have hnc74 := NB192_195.out
                    have hnb75 := NB195_193.out
                    have hnc75 := NB193_195.out
                    have hnb76 := NB195_197.out
                    have hnc76 := NB197_195.out
                    have hcz77_0 : wr.cell? ⟨gb195, 0, none⟩ = some (.int .i64 ((rd_T104 l0_0 x26_2).f0)) := (blk_cell BK195.out 0).trans rfl
                    have hcz77_1 : wr.cell? ⟨gb195, 1, none⟩ = some (.slice A194_1 ((rd_T104 l0_0 x26_2).f1).length c194_1) := (blk_cell BK195.out 1).trans rfl
                    have hcz77_2 : wr.cell? ⟨gb195, 2, none⟩ = some (.int .i64 ((rd_T104 l0_0 x26_2).f2)) := (blk_cell BK195.out 2).trans rfl
                    have hcz77_3 : wr.cell? ⟨gb195, 3, none⟩ = some (.bool ((rd_T104 l0_0 x26_2).f3)) := (blk_cell BK195.out 3).trans rfl
                    have hfz77_0 := blk_frozen BK195.out 0
                    have hfz77_1 := blk_frozen BK195.out 1
                    have hfz77_2 := blk_frozen BK195.out 2
                    have hfz77_3 := blk_frozen BK195.out 3
                    have p198 : 0 ≤ (x67_4 : Int) := of_decide_eq_true (by first | (with_reducible assumption) | assumption)
                    have q198 : x67_4 < (((rd_T104 l0_0 x26_2).f1).length : Int) := of_decide_eq_true (by first | (with_reducible assumption) | assumption)
                    obtain ⟨ad198, A198_0, c198_0, e198, hx198_0, hl198_0, hi198_0⟩ := at_T31 HR194_1.out x67_4 p198 q198
                    cases e198
                    replace hx198_0 := (HB.out.cell (World.block_lt_of_cell? w _ hx198_0)).trans hx198_0
                    have HR198_0 := Aside0.mk hi198_0
                    have HC198_0 := Aside0.mk hl198_0
                    clear hi198_0 hl198_0
                    replace p198 := eq_true p198
                    replace q198 := eq_true q198
                    have hnb78 := NB197_192.out
                    have hnc78 := NB192_197.out
                    have hnb79 := NB197_193.out
                    have hnc79 := NB193_197.out
                    have hcz80_0 : wr.cell? ⟨gb197, 0, none⟩ = some (.int .i64 ((rd_T104 l1_0 x26_2).f0)) := (blk_cell BK197.out 0).trans rfl
                    have hcz80_1 : wr.cell? ⟨gb197, 1, none⟩ = some (.slice A196_1 ((rd_T104 l1_0 x26_2).f1).length c196_1) := (blk_cell BK197.out 1).trans rfl
                    have hcz80_2 : wr.cell? ⟨gb197, 2, none⟩ = some (.int .i64 ((rd_T104 l1_0 x26_2).f2)) := (blk_cell BK197.out 2).trans rfl
                    have hcz80_3 : wr.cell? ⟨gb197, 3, none⟩ = some (.bool ((rd_T104 l1_0 x26_2).f3)) := (blk_cell BK197.out 3).trans rfl
                    have hfz80_0 := blk_frozen BK197.out 0
                    have hfz80_1 := blk_frozen BK197.out 1
                    have hfz80_2 := blk_frozen BK197.out 2
                    have hfz80_3 := blk_frozen BK197.out 3
                    have p199 : 0 ≤ (x67_4 : Int) := of_decide_eq_true (by first | (with_reducible assumption) | assumption)
                    have q199 : x67_4 < (((rd_T104 l1_0 x26_2).f1).length : Int) := of_decide_eq_true (by first | (with_reducible assumption) | assumption)
                    obtain ⟨ad199, A199_0, c199_0, e199, hx199_0, hl199_0, hi199_0⟩ := at_T31 HR196_1.out x67_4 p199 q199
                    cases e199
                    replace hx199_0 := (HB.out.cell (World.block_lt_of_cell? w _ hx199_0)).trans hx199_0
                    have HR199_0 := Aside0.mk hi199_0
                    have HC199_0 := Aside0.mk hl199_0
                    clear hi199_0 hl199_0
                    replace p199 := eq_true p199
                    replace q199 := eq_true q199
                    go_wp2_with (first | (go_at_call 108; (with_reducible refine (impl_equal.calls k4 _ _ ((rd_T31 ((rd_T104 l0_0 x26_2).f1) x67_4).f0) _ _ ((rd_T31 ((rd_T104 l1_0 x26_2).f1) x67_4).f0) true _ ?side1 ?side2 ?side3 ?side4 A72.out).mono ?_); (case side1 => repeat (first | exact (Kd.C_below HR198_0.out HB.out) | (with_reducible refine Kd.C_alloc ?_ _) | (with_reducible refine Kd.C_drewN ?_ _) | (with_reducible refine Kd.C_drew ?_))); (case side2 => exact HC198_0.out); (case side3 => repeat (first | exact (Kd.C_below HR199_0.out HB.out) | (with_reducible refine Kd.C_alloc ?_ _) | (with_reducible refine Kd.C_drewN ?_ _) | (with_reducible refine Kd.C_drew ?_))); (case side4 => exact HC199_0.out); rintro e w' ⟨rfl, ⟨nd, rfl⟩⟩; (try first | exact ⟨rfl, _, World.drewN_drewN _ _ _⟩ | exact ⟨rfl, _, Eq.trans (World.drewN_drewN _ _ _) (congrArg (World.drewN _) (Nat.add_assoc _ _ _))⟩)))
                    repeat (go_quiet (first | (go_at_call 108; (with_reducible refine (impl_equal.calls k4 _ _ ((rd_T31 ((rd_T104 l0_0 x26_2).f1) x67_4).f0) _ _ ((rd_T31 ((rd_T104 l1_0 x26_2).f1) x67_4).f0) true _ ?side1 ?side2 ?side3 ?side4 A72.out).mono ?_); (case side1 => repeat (first | exact (Kd.C_below HR198_0.out HB.out) | (with_reducible refine Kd.C_alloc ?_ _) | (with_reducible refine Kd.C_drewN ?_ _) | (with_reducible refine Kd.C_drew ?_))); (case side2 => exact HC198_0.out); (case side3 => repeat (first | exact (Kd.C_below HR199_0.out HB.out) | (with_reducible refine Kd.C_alloc ?_ _) | (with_reducible refine Kd.C_drewN ?_ _) | (with_reducible refine Kd.C_drew ?_))); (case side4 => exact HC199_0.out); rintro e w' ⟨rfl, ⟨nd, rfl⟩⟩; (try first | exact ⟨rfl, _, World.drewN_drewN _ _ _⟩ | exact ⟨rfl, _, Eq.trans (World.drewN_drewN _ _ _) (congrArg (World.drewN _) (Nat.add_assoc _ _ _))⟩))); try go_wp2_with (first | (go_at_call 108; (with_reducible refine (impl_equal.calls k4 _ _ ((rd_T31 ((rd_T104 l0_0 x26_2).f1) x67_4).f0) _ _ ((rd_T31 ((rd_T104 l1_0 x26_2).f1) x67_4).f0) true _ ?side1 ?side2 ?side3 ?side4 A72.out).mono ?_); (case side1 => repeat (first | exact (Kd.C_below HR198_0.out HB.out) | (with_reducible refine Kd.C_alloc ?_ _) | (with_reducible refine Kd.C_drewN ?_ _) | (with_reducible refine Kd.C_drew ?_))); (case side2 => exact HC198_0.out); (case side3 => repeat (first | exact (Kd.C_below HR199_0.out HB.out) | (with_reducible refine Kd.C_alloc ?_ _) | (with_reducible refine Kd.C_drewN ?_ _) | (with_reducible refine Kd.C_drew ?_))); (case side4 => exact HC199_0.out); rintro e w' ⟨rfl, ⟨nd, rfl⟩⟩; (try first | exact ⟨rfl, _, World.drewN_drewN _ _ _⟩ | exact ⟨rfl, _, Eq.trans (World.drewN_drewN _ _ _) (congrArg (World.drewN _) (Nat.add_assoc _ _ _))⟩))))
                    go_roundg k4
                    case measure => have := HJ2.out; have := HK2.out; have := HJ19.out; have := HK4.out; omega
                    case rel => exact ⟨(wrap64 (x67_4 + 1)), (by first | rfl | (simp; done) | (simp [*]; done)), H', ⟨by have := HJ2.out; have := HK2.out; have := HJ19.out; have := HK4.out; omega⟩, ⟨by (with_reducible repeat (first | apply bN | apply bD | apply bA)); exact BK192.out⟩, ⟨by (with_reducible repeat (first | apply bN | apply bD | apply bA)); exact BK193.out⟩, ⟨by (with_reducible repeat (first | apply bN | apply bD | apply bA)); exact BK195.out⟩, ⟨by (with_reducible repeat (first | apply bN | apply bD | apply bA)); exact BK197.out⟩, ⟨by repeat (first | (with_reducible first | exact HB.out | apply below_alloc | apply pw_below_drewN | apply below_drew1 | refine below_set ?_ GE192.out | refine below_set ?_ GE193.out | refine below_set ?_ GE195.out | refine below_set ?_ GE197.out) | exact HB.out)⟩⟩
                   ·replace c73 := Bool.eq_false_iff.mpr c73
                    subst c73
                    have H1 : (some false) = some r := by rw [if_neg (show ¬ (false = true) by decide)] at H; exact H
                    clear H
                    have H := H1
                    clear H1
                    obtain rfl := Option.some.inj H
                    have hnb81 := NB195_192.out
                    have hnc81 := NB192_195.out
                    have hnb82 := NB195_193.out
                    have hnc82 := NB193_195.out
                    have hnb83 := NB195_197.out
                    have hnc83 := NB197_195.out
                    have hcz84_0 : wr.cell? ⟨gb195, 0, none⟩ = some (.int .i64 ((rd_T104 l0_0 x26_2).f0)) := (blk_cell BK195.out 0).trans rfl
                    have hcz84_1 : wr.cell? ⟨gb195, 1, none⟩ = some (.slice A194_1 ((rd_T104 l0_0 x26_2).f1).length c194_1) := (blk_cell BK195.out 1).trans rfl
                    have hcz84_2 : wr.cell? ⟨gb195, 2, none⟩ = some (.int .i64 ((rd_T104 l0_0 x26_2).f2)) := (blk_cell BK195.out 2).trans rfl
                    have hcz84_3 : wr.cell? ⟨gb195, 3, none⟩ = some (.bool ((rd_T104 l0_0 x26_2).f3)) := (blk_cell BK195.out 3).trans rfl
                    have hfz84_0 := blk_frozen BK195.out 0
                    have hfz84_1 := blk_frozen BK195.out 1
                    have hfz84_2 := blk_frozen BK195.out 2
                    have hfz84_3 := blk_frozen BK195.out 3
                    have p198 : 0 ≤ (x67_4 : Int) := of_decide_eq_true (by first | (with_reducible assumption) | assumption)
                    have q198 : x67_4 < (((rd_T104 l0_0 x26_2).f1).length : Int) := of_decide_eq_true (by first | (with_reducible assumption) | assumption)
                    obtain ⟨ad198, A198_0, c198_0, e198, hx198_0, hl198_0, hi198_0⟩ := at_T31 HR194_1.out x67_4 p198 q198
                    cases e198
                    replace hx198_0 := (HB.out.cell (World.block_lt_of_cell? w _ hx198_0)).trans hx198_0
                    have HR198_0 := Aside0.mk hi198_0
                    have HC198_0 := Aside0.mk hl198_0
                    clear hi198_0 hl198_0
                    replace p198 := eq_true p198
                    replace q198 := eq_true q198
                    have hnb85 := NB197_192.out
                    have hnc85 := NB192_197.out
                    have hnb86 := NB197_193.out
                    have hnc86 := NB193_197.out
                    have hcz87_0 : wr.cell? ⟨gb197, 0, none⟩ = some (.int .i64 ((rd_T104 l1_0 x26_2).f0)) := (blk_cell BK197.out 0).trans rfl
                    have hcz87_1 : wr.cell? ⟨gb197, 1, none⟩ = some (.slice A196_1 ((rd_T104 l1_0 x26_2).f1).length c196_1) := (blk_cell BK197.out 1).trans rfl
                    have hcz87_2 : wr.cell? ⟨gb197, 2, none⟩ = some (.int .i64 ((rd_T104 l1_0 x26_2).f2)) := (blk_cell BK197.out 2).trans rfl
                    have hcz87_3 : wr.cell? ⟨gb197, 3, none⟩ = some (.bool ((rd_T104 l1_0 x26_2).f3)) := (blk_cell BK197.out 3).trans rfl
                    have hfz87_0 := blk_frozen BK197.out 0
                    have hfz87_1 := blk_frozen BK197.out 1
                    have hfz87_2 := blk_frozen BK197.out 2
                    have hfz87_3 := blk_frozen BK197.out 3
                    have p199 : 0 ≤ (x67_4 : Int) := of_decide_eq_true (by first | (with_reducible assumption) | assumption)
                    have q199 : x67_4 < (((rd_T104 l1_0 x26_2).f1).length : Int) := of_decide_eq_true (by first | (with_reducible assumption) | assumption)
                    obtain ⟨ad199, A199_0, c199_0, e199, hx199_0, hl199_0, hi199_0⟩ := at_T31 HR196_1.out x67_4 p199 q199
                    cases e199
                    replace hx199_0 := (HB.out.cell (World.block_lt_of_cell? w _ hx199_0)).trans hx199_0
                    have HR199_0 := Aside0.mk hi199_0
                    have HC199_0 := Aside0.mk hl199_0
                    clear hi199_0 hl199_0
                    replace p199 := eq_true p199
                    replace q199 := eq_true q199
                    go_wp2_with (first | (go_at_call 108; (with_reducible refine (impl_equal.calls k4 _ _ ((rd_T31 ((rd_T104 l0_0 x26_2).f1) x67_4).f0) _ _ ((rd_T31 ((rd_T104 l1_0 x26_2).f1) x67_4).f0) false _ ?side1 ?side2 ?side3 ?side4 A72.out).mono ?_); (case side1 => repeat (first | exact (Kd.C_below HR198_0.out HB.out) | (with_reducible refine Kd.C_alloc ?_ _) | (with_reducible refine Kd.C_drewN ?_ _) | (with_reducible refine Kd.C_drew ?_))); (case side2 => exact HC198_0.out); (case side3 => repeat (first | exact (Kd.C_below HR199_0.out HB.out) | (with_reducible refine Kd.C_alloc ?_ _) | (with_reducible refine Kd.C_drewN ?_ _) | (with_reducible refine Kd.C_drew ?_))); (case side4 => exact HC199_0.out); rintro e w' ⟨rfl, ⟨nd, rfl⟩⟩; (try first | exact ⟨rfl, _, World.drewN_drewN _ _ _⟩ | exact ⟨rfl, _, Eq.trans (World.drewN_drewN _ _ _) (congrArg (World.drewN _) (Nat.add_assoc _ _ _))⟩)))
                    repeat (go_quiet (first | (go_at_call 108; (with_reducible refine (impl_equal.calls k4 _ _ ((rd_T31 ((rd_T104 l0_0 x26_2).f1) x67_4).f0) _ _ ((rd_T31 ((rd_T104 l1_0 x26_2).f1) x67_4).f0) false _ ?side1 ?side2 ?side3 ?side4 A72.out).mono ?_); (case side1 => repeat (first | exact (Kd.C_below HR198_0.out HB.out) | (with_reducible refine Kd.C_alloc ?_ _) | (with_reducible refine Kd.C_drewN ?_ _) | (with_reducible refine Kd.C_drew ?_))); (case side2 => exact HC198_0.out); (case side3 => repeat (first | exact (Kd.C_below HR199_0.out HB.out) | (with_reducible refine Kd.C_alloc ?_ _) | (with_reducible refine Kd.C_drewN ?_ _) | (with_reducible refine Kd.C_drew ?_))); (case side4 => exact HC199_0.out); rintro e w' ⟨rfl, ⟨nd, rfl⟩⟩; (try first | exact ⟨rfl, _, World.drewN_drewN _ _ _⟩ | exact ⟨rfl, _, Eq.trans (World.drewN_drewN _ _ _) (congrArg (World.drewN _) (Nat.add_assoc _ _ _))⟩))); try go_wp2_with (first | (go_at_call 108; (with_reducible refine (impl_equal.calls k4 _ _ ((rd_T31 ((rd_T104 l0_0 x26_2).f1) x67_4).f0) _ _ ((rd_T31 ((rd_T104 l1_0 x26_2).f1) x67_4).f0) false _ ?side1 ?side2 ?side3 ?side4 A72.out).mono ?_); (case side1 => repeat (first | exact (Kd.C_below HR198_0.out HB.out) | (with_reducible refine Kd.C_alloc ?_ _) | (with_reducible refine Kd.C_drewN ?_ _) | (with_reducible refine Kd.C_drew ?_))); (case side2 => exact HC198_0.out); (case side3 => repeat (first | exact (Kd.C_below HR199_0.out HB.out) | (with_reducible refine Kd.C_alloc ?_ _) | (with_reducible refine Kd.C_drewN ?_ _) | (with_reducible refine Kd.C_drew ?_))); (case side4 => exact HC199_0.out); rintro e w' ⟨rfl, ⟨nd, rfl⟩⟩; (try first | exact ⟨rfl, _, World.drewN_drewN _ _ _⟩ | exact ⟨rfl, _, Eq.trans (World.drewN_drewN _ _ _) (congrArg (World.drewN _) (Nat.add_assoc _ _ _))⟩))))
                    go_ret
                    exact ⟨by first | rfl | (simp [errW_none, errW_some] <;> rfl) | (simp [*, errW_none, errW_some] <;> rfl), by repeat (first | (with_reducible first | exact HB.out | apply below_alloc | apply pw_below_drewN | apply below_drew1 | refine below_set ?_ GE192.out | refine below_set ?_ GE193.out | refine below_set ?_ GE195.out | refine below_set ?_ GE197.out) | exact HB.out)⟩
                  ·rw [if_neg c71] at H
                   exact absurd H (by simp)
                 ·rw [if_neg c70] at H
                  exact absurd H (by simp)
                ·rw [if_neg c69] at H
                 exact absurd H (by simp)
               ·rw [if_neg c68] at H
                have c68b0 : decide (x67_4 < (((rd_T104 l0_0 x26_2).f1).length : Int)) = false := decide_eq_false c68
                clear c68
                have H' := Aside0.mk H
                clear H
                go_wp2
                repeat (go_quiet (fail); try go_wp2)
                go_roundg k4
                case measure => have := HJ2.out; have := HK2.out; have := HJ19.out; have := HK4.out; omega
                case rel => exact ⟨(wrap64 (x26_2 + 1)), (by first | rfl | (simp; done) | (simp [*]; done)), H', ⟨by have := HJ2.out; have := HK2.out; have := HJ19.out; have := HK4.out; omega⟩, ⟨by (with_reducible repeat (first | apply bN | apply bD | apply bA)); exact BK192.out⟩, ⟨by (with_reducible repeat (first | apply bN | apply bD | apply bA)); exact BK193.out⟩, ⟨by repeat (first | (with_reducible first | exact HB.out | apply below_alloc | apply pw_below_drewN | apply below_drew1 | refine below_set ?_ GE192.out | refine below_set ?_ GE193.out | refine below_set ?_ GE195.out | refine below_set ?_ GE197.out) | exact HB.out)⟩⟩
         ·rw [if_neg c19] at H
          exact absurd H (by simp)
        ·rw [if_neg c18] at H
         exact absurd H (by simp)
       ·rw [if_neg c17] at H
        exact absurd H (by simp)
      ·rw [if_neg c16] at H
       have c16b0 : decide (x26_2 < (l0_0.length : Int)) = false := decide_eq_false c16
       clear c16
       obtain rfl := Option.some.inj H
       go_wp2
       repeat (go_quiet (fail); try go_wp2)
       go_ret
       exact ⟨by first | rfl | (simp [errW_none, errW_some] <;> rfl) | (simp [*, errW_none, errW_some] <;> rfl), by repeat (first | (with_reducible first | exact HB.out | apply below_alloc | apply pw_below_drewN | apply below_drew1 | refine below_set ?_ GE192.out | refine below_set ?_ GE193.out) | exact HB.out)⟩

end Go.Proofs.Ytkipmmkjbeeemaa.PFnExactEqualDisks
