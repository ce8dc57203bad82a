/- Out of a copy of the print, with function values told: nothing is claimed here. -/
import Derived.Test.YtljpfogplcdcjaaQFnExactPackPagesx0
import Derived.Test.YtljpfogplcdcjaaQFnExactPackPagesx3
namespace Go.Proofs.Ytljpfogplcdcjaa.PFnExactPackPages
open Go.RowKit Go.Proofs.YtljpfogplcdcjaaW.PrintWords Go.Proofs.YtljpfogplcdcjaaW.PrintLast Go.Proofs.YtljpfogplcdcjaaW.PrintMore
attribute [local go_sem] max2_int min2_int max_two min_two max_three min_three max_four min_four   -- for this text's walks alone
set_option linter.unusedVariables false
set_option linter.unusedSimpArgs false

/-! ### impl_PackPages: function 9 -/
def impl_PackPages.l0 : Nat → List (S39) → List (S42) → Int → Int → Option ((List (S39)))
  | 0, _, _, _, _ => none
  | k + 1, x3, x12, x13, x14 => if x14 < x13 then (if 0 ≤ x14 then (if x14 < (x12.length : Int) then (if (x3.length : Int) = 0 then (if x3.length < 5864062014805 then ((some (x3 ++ [(⟨([] : List (S42))⟩ : S39)] : List (S39))).bind fun y170 => (if 0 ≤ (wrap64 ((y170.length : Int) - 1)) then (if (wrap64 ((y170.length : Int) - 1)) < (y170.length : Int) then (if ((rd_T39 y170 (wrap64 ((y170.length : Int) - 1))).f0).length < 5864062014805 then (impl_PackPages.l0 k (y170.set ((wrap64 ((y170.length : Int) - 1)) : Int).toNat (⟨(((rd_T39 y170 (wrap64 ((y170.length : Int) - 1))).f0) ++ [(⟨(rd_T42 x12 x14).f0, (rd_T42 x12 x14).f1, (rd_T42 x12 x14).f2⟩ : S42)])⟩ : S39)) x12 x13 (wrap64 (x14 + 1))) else (none)) else (none)) else (none))) else (none)) else (if 0 ≤ (wrap64 ((x3.length : Int) - 1)) then (if (wrap64 ((x3.length : Int) - 1)) < (x3.length : Int) then ((impl_WouldOverflow.f k ((rd_T39 x3 (wrap64 ((x3.length : Int) - 1))).f0) ((rd_T42 x12 x14).f0) ((rd_T42 x12 x14).f1) ((rd_T42 x12 x14).f2)).bind fun t179 => (if t179 = true then (if x3.length < 5864062014805 then ((some (x3 ++ [(⟨([] : List (S42))⟩ : S39)] : List (S39))).bind fun y180 => (if 0 ≤ (wrap64 ((y180.length : Int) - 1)) then (if (wrap64 ((y180.length : Int) - 1)) < (y180.length : Int) then (if ((rd_T39 y180 (wrap64 ((y180.length : Int) - 1))).f0).length < 5864062014805 then (impl_PackPages.l0 k (y180.set ((wrap64 ((y180.length : Int) - 1)) : Int).toNat (⟨(((rd_T39 y180 (wrap64 ((y180.length : Int) - 1))).f0) ++ [(⟨(rd_T42 x12 x14).f0, (rd_T42 x12 x14).f1, (rd_T42 x12 x14).f2⟩ : S42)])⟩ : S39)) x12 x13 (wrap64 (x14 + 1))) else (none)) else (none)) else (none))) else (none)) else (if ((rd_T39 x3 (wrap64 ((x3.length : Int) - 1))).f0).length < 5864062014805 then (impl_PackPages.l0 k (x3.set ((wrap64 ((x3.length : Int) - 1)) : Int).toNat (⟨(((rd_T39 x3 (wrap64 ((x3.length : Int) - 1))).f0) ++ [(⟨(rd_T42 x12 x14).f0, (rd_T42 x12 x14).f1, (rd_T42 x12 x14).f2⟩ : S42)])⟩ : S39)) x12 x13 (wrap64 (x14 + 1))) else (none)))) else (none)) else (none))) else (none)) else (none)) else (some x3)
def impl_PackPages.f (k : Nat) (l0 : List (S42)) : Option ((List (S39))) := (impl_AreValidRows.f k l0).bind fun t164 => (if t164 = true then (impl_PackPages.l0 k (([] : List (S39))) l0 (l0.length : Int) 0) else (some ([] : List (S39))))
theorem impl_PackPages.mono_l : ∀ k, (∀ y0 y1 y2 y3, LeO (impl_PackPages.l0 k y0 y1 y2 y3) (impl_PackPages.l0 (k + 1) y0 y1 y2 y3))
  | 0 => fun _ _ _ _ r h => by simp [impl_PackPages.l0] at h
  | k + 1 => by
    have ih0 := impl_PackPages.mono_l k
    · intro y0 y1 y2 y3
      unfold impl_PackPages.l0
      repeat' first
      | (with_reducible exact ih0 _ _ _ _)
      | (with_reducible exact impl_AreValidRows.mono _ _)
      | (with_reducible exact impl_WouldOverflow.mono _ _ _ _ _)
      | (with_reducible exact LeO.refl _)
      | (with_reducible exact LeO.none _)
      | (with_reducible refine LeO.ite ?_ ?_)
      | (with_reducible refine LeO.bind ?_ (fun _ => ?_))
      | exact ih0 _ _ _ _
      | exact impl_AreValidRows.mono _ _
      | exact impl_WouldOverflow.mono _ _ _ _ _
      | exact LeO.none _
      | refine LeO.ite ?_ ?_
      | refine LeO.bind ?_ (fun _ => ?_)
theorem impl_PackPages.mono : ∀ a0 k, LeO (impl_PackPages.f k a0) (impl_PackPages.f (k + 1) a0) := by
  intro a0 k
  have ih0 := impl_PackPages.mono_l k
  unfold impl_PackPages.f
  repeat' first
      | (with_reducible exact ih0 _ _ _ _)
      | (with_reducible exact impl_AreValidRows.mono _ _)
      | (with_reducible exact impl_WouldOverflow.mono _ _ _ _ _)
      | (with_reducible exact LeO.refl _)
      | (with_reducible exact LeO.none _)
      | (with_reducible refine LeO.ite ?_ ?_)
      | (with_reducible refine LeO.bind ?_ (fun _ => ?_))
      | exact ih0 _ _ _ _
      | exact impl_AreValidRows.mono _ _
      | exact impl_WouldOverflow.mono _ _ _ _ _
      | exact LeO.none _
      | refine LeO.ite ?_ ?_
      | refine LeO.bind ?_ (fun _ => ?_)
def impl_PackPages.T8 : Bool × List (List Nat × List Nat) := (true, [([], []), ([0], [0]), ([1], [1]), ([2], [2]), ([2], [2]), ([4, 2], [2, 4]), ([3, 5, 2], [2, 3, 5]), ([6, 2], [2, 6]), ([2], [2]), ([7, 8, 2, 2], [2, 7, 8]), ([2, 9], [2, 9])])
def impl_PackPages.B8 : List Nat := [0, 1, 3, 7, 7, 23, 63, 127, 7, 511, 1023]
theorem impl_PackPages.tab8 : rtab .any (opsOf Try.f9 8) = impl_PackPages.T8 := by kernel_rfl
theorem impl_PackPages.bits8 : waitsOk impl_PackPages.T8.2 impl_PackPages.B8 = true := by kernel_rfl
def impl_PackPages.T11 : Bool × List (List Nat × List Nat) := (true, [([], []), ([], []), ([1], [1]), ([2], [2]), ([3], [3]), ([], []), ([5], [5]), ([4, 6], [4, 6]), ([0, 0, 1, 2, 3, 4, 5, 6, 7], [0]), ([8, 0, 1, 2, 3, 4, 5, 6, 7], [8]), ([9, 7, 7, 0, 1, 2, 3, 4, 5, 6, 7], [7, 9])])
def impl_PackPages.B11 : List Nat := [0, 0, 2, 6, 14, 0, 32, 126, 255, 511, 1023]
theorem impl_PackPages.tab11 : rtab .any (opsOf Try.f9 11) = impl_PackPages.T11 := by kernel_rfl
theorem impl_PackPages.bits11 : waitsOk impl_PackPages.T11.2 impl_PackPages.B11 = true := by kernel_rfl
set_option maxHeartbeats 8000000 in
set_option maxRecDepth 100000 in
theorem impl_PackPages.calls (k : Nat) (A0 : Option Addr) (c0 : Nat) (l0 : List (S42)) (r : List (S39)) (w : World) (hr0 : Kd.C k42 w A0 l0.length l0) (hc0 : l0.length ≤ c0) (h : impl_PackPages.f k l0 = some r) :
    Calls Try.prog 9 #[.slice A0 l0.length c0] w fun e w' => ∃ v0_ : Value, e = .returned (v0_) ∧ Kd.S k39 39 w' w.heap.size (fun _ => True) v0_ r ∧ Below w.heap.size w w' := by
  have hu42 := Try.underlying42
  have hu39 := Try.underlying39
  have HR0 := Aside0.mk hr0
  have HC0 := Aside0.mk hc0
  clear hr0 hc0
  have HB := Aside0.mk (Below.refl w.heap.size w)
  have H : ((impl_AreValidRows.f k l0).bind fun t164 => (if t164 = true then (impl_PackPages.l0 k (([] : List (S39))) l0 (l0.length : Int) 0) else (some ([] : List (S39))))) = some r := h
  clear h
  replace H := Option.bind_eq_some_iff.mp H
  obtain ⟨t164, A20, H⟩ := H
  replace H : (if t164 = true then (impl_PackPages.l0 k (([] : List (S39))) l0 (l0.length : Int) 0) else (some ([] : List (S39)))) = some r := H
  have A2 := Aside0.mk A20
  clear A20
  by_cases c3 : t164 = true
  · subst c3
    have H1 : (impl_PackPages.l0 k (([] : List (S39))) l0 (l0.length : Int) 0) = some r := by rw [if_pos rfl] at H; exact H
    clear H
    have H := H1
    clear H1
    obtain ⟨y165, hy165⟩ : ∃ y_ : List (S39), y_ = (([] : List (S39))) := ⟨_, rfl⟩
    replace H : (impl_PackPages.l0 k y165 l0 (l0.length : Int) 0) = some r := by first | (rw [hy165]; with_reducible exact H) | (have H2_ := (Option.bind_some _ _).symm.trans H; rw [hy165]; with_reducible exact H2_) | (have H2_ := (Option.bind_some _ _).symm.trans H; with_reducible exact H2_) | with_reducible exact H | (rw [hy165]; exact H) | exact H
    have Ny165 := Aside0.mk hy165
    clear hy165
    have H' := Aside0.mk H
    clear H
    go_enter Try.func9, Try.ntmps9
    go_wp2_with (first | ((with_reducible refine gate_callee (f := 45) rfl ?_); refine goesL_ (some 9) rfl rfl Try.func45 (by kernel_rfl) rfl #[.slice A0 l0.length c0] rfl (by (try simp only [List.map_toArray, List.map_cons, List.map_nil]); first | done | rfl | (simp only [List.length_drop, List.length_take]; rfl)) ?_; (with_reducible refine (impl_AreValidRows.calls k _ _ l0 true _ ?side1 ?side2 A2.out).mono ?_); (case side1 => repeat (first | exact HR0.out | (with_reducible refine Kd.C_alloc ?_ _) | (with_reducible refine Kd.C_drewN ?_ _) | (with_reducible refine Kd.C_drew ?_))); (case side2 => exact HC0.out); rintro e w4 ⟨rfl, hb⟩; refine ⟨_, rfl, ?_⟩; have n0_ := Aside0.mk (below_step (by repeat (first | (with_reducible first | exact HB.out | apply below_alloc | apply pw_below_drewN | apply below_drew1) | exact HB.out)) hb); clear HB; have HB := n0_; clear n0_; (try clear hb); (try clear hb2); (try clear hk); (try clear hi)) | ((with_reducible refine gate_dst (N := 11) rfl ?_); refine Kd.S_lit k39 _ 39 ?hg (N := 11) ?hd (xs := ([] : List (S39))) (inner := []) (ok := fun _ => True) (okp := fun _ => True) ?hr ?hp (fun _ hk => hk) trivial (Below.refl _ _) (Nat.le_refl _) (by simp) ?_; (case hd => rfl); (case hg => rfl); (case hr => first | (go_simp; done) | (go_simp; rfl)); (case hp => exact (Reps.none _ _)); intro v166 w5 ho6 hb hg_ hnew_; clear hg_ hnew_; (first | rw [← Ny165.out] at ho6 | (simp only [Int.reduceToNat] at ho6; rw [← Ny165.out] at ho6)); have n0_ := Aside0.mk (Kd.S_lower ho6 (below_size (by repeat (first | (with_reducible first | exact HB.out | apply below_alloc | apply pw_below_drewN | apply below_drew1) | exact HB.out)))); have n1_ := Aside0.mk (below_step (by repeat (first | (with_reducible first | exact HB.out | apply below_alloc | apply pw_below_drewN | apply below_drew1) | exact HB.out)) hb); clear HB; have HO167 := n0_; have HB := n1_; clear n0_ n1_; clear hb ho6))
    (try simp only [Act.put, List.setIfInBounds_toArray, List.set_cons_zero, List.set_cons_succ])
    go_loopg [3, 14] k (fun kq v3 v14 w' => ∃ (x3_1 : List (S39)) (x14_1 : Int), v14 = .int .i64 x14_1 ∧ Aside0 (impl_PackPages.l0 kq x3_1 l0 (l0.length : Int) x14_1 = some r) ∧ Aside0 (kq ≤ k) ∧ Aside0 (Kd.S k39 39 w' w.heap.size (fun _ => True) v3 x3_1) ∧ Aside0 (Below w.heap.size w w'))
    case atStart => exact ⟨(y165), (0), (by first | rfl | (simp; done) | (simp [*]; done)), H', ⟨Nat.le_refl _⟩, ⟨by (with_reducible repeat (first | apply Kd.S_alloc | apply Kd.S_drewN | apply Kd.S_drew)); exact HO167.out⟩, ⟨by repeat (first | (with_reducible first | exact HB.out | apply below_alloc | apply pw_below_drewN | apply below_drew1) | exact HB.out)⟩⟩
    case round =>
      clear H'
      try clear p2
      try clear c3
      try clear c4
      obtain ⟨x3_1, x14_1, rfl, HA, HK1, HO_3, HB⟩ := hrel
      cases gk with
      | zero => exact absurd HA.out (by simp [impl_PackPages.l0])
      | succ k1 =>
        have H := HA.out
        clear HA
        simp only [impl_PackPages.l0] at H
        by_cases c7 : x14_1 < (l0.length : Int)
        · rw [if_pos c7] at H
          have c7b0 : decide (x14_1 < (l0.length : Int)) = true := decide_eq_true c7
          clear c7
          by_cases c8 : 0 ≤ x14_1
          · rw [if_pos c8] at H
            have c8b0 : decide (0 ≤ x14_1) = true := decide_eq_true c8
            clear c8
            by_cases c9 : x14_1 < (l0.length : Int)
            · rw [if_pos c9] at H
              have c9b0 : decide (x14_1 < (l0.length : Int)) = true := decide_eq_true c9
              clear c9
              by_cases c10 : (x3_1.length : Int) = 0
              · rw [if_pos c10] at H
                have c10b0 : ((x3_1.length : Int) == 0) = true := beq_iff_eq.mpr c10
                have c10b1 : ((x3_1.length : Int) != 0) = false := bne_eq_false_iff_eq.mpr c10
                clear c10
                by_cases c11 : x3_1.length < 5864062014805
                · rw [if_pos c11] at H
                  have LMc11 := Aside0.mk c11
                  clear c11
                  obtain ⟨y170, hy170⟩ : ∃ y_ : List (S39), y_ = (x3_1 ++ [(⟨([] : List (S42))⟩ : S39)]) := ⟨_, rfl⟩
                  replace H : (if 0 ≤ (wrap64 ((y170.length : Int) - 1)) then (if (wrap64 ((y170.length : Int) - 1)) < (y170.length : Int) then (if ((rd_T39 y170 (wrap64 ((y170.length : Int) - 1))).f0).length < 5864062014805 then (impl_PackPages.l0 k1 (y170.set ((wrap64 ((y170.length : Int) - 1)) : Int).toNat (⟨(((rd_T39 y170 (wrap64 ((y170.length : Int) - 1))).f0) ++ [(⟨(rd_T42 l0 x14_1).f0, (rd_T42 l0 x14_1).f1, (rd_T42 l0 x14_1).f2⟩ : S42)])⟩ : S39)) l0 (l0.length : Int) (wrap64 (x14_1 + 1))) else (none)) else (none)) else (none)) = some r := by first | (rw [hy170]; with_reducible exact H) | (have H2_ := (Option.bind_some _ _).symm.trans H; rw [hy170]; with_reducible exact H2_) | (have H2_ := (Option.bind_some _ _).symm.trans H; with_reducible exact H2_) | with_reducible exact H | (rw [hy170]; exact H) | exact H
                  have Ny170 := Aside0.mk hy170
                  clear hy170
                  obtain ⟨ji12, hji12⟩ : ∃ j_ : Int, (wrap64 ((y170.length : Int) - 1)) = j_ := ⟨_, rfl⟩
                  replace H : (if 0 ≤ (ji12) then (if (ji12) < (y170.length : Int) then (if ((rd_T39 y170 (ji12)).f0).length < 5864062014805 then (impl_PackPages.l0 k1 (y170.set ((ji12) : Int).toNat (⟨(((rd_T39 y170 (ji12)).f0) ++ [(⟨(rd_T42 l0 x14_1).f0, (rd_T42 l0 x14_1).f1, (rd_T42 l0 x14_1).f2⟩ : S42)])⟩ : S39)) l0 (l0.length : Int) (wrap64 (x14_1 + 1))) else (none)) else (none)) else (none)) = some r := by first | (rw [hji12] at H; exact H) | (simp only [hji12] at H ⊢; exact H)
                  have hji12w : (IntKind.i64.wrap ((y170.length : Int) - 1)) = ji12 := (i64_w _).trans hji12
                  by_cases c13 : 0 ≤ (ji12)
                  · rw [if_pos c13] at H
                    have c13b0 : decide (0 ≤ (ji12)) = true := decide_eq_true c13
                    clear c13
                    by_cases c14 : (ji12) < (y170.length : Int)
                    · rw [if_pos c14] at H
                      have c14b0 : decide ((ji12) < (y170.length : Int)) = true := decide_eq_true c14
                      clear c14
                      by_cases c15 : ((rd_T39 y170 (ji12)).f0).length < 5864062014805
                      · rw [if_pos c15] at H
                        have LMc15 := Aside0.mk c15
                        clear c15
                        obtain ⟨y174, hy174⟩ : ∃ y_ : List (S42), y_ = (((rd_T39 y170 (ji12)).f0) ++ [(⟨(rd_T42 l0 x14_1).f0, (rd_T42 l0 x14_1).f1, (rd_T42 l0 x14_1).f2⟩ : S42)]) := ⟨_, rfl⟩
                        replace H : (impl_PackPages.l0 k1 (y170.set ((ji12) : Int).toNat (⟨y174⟩ : S39)) l0 (l0.length : Int) (wrap64 (x14_1 + 1))) = some r := by first | (rw [hy174]; with_reducible exact H) | (have H2_ := (Option.bind_some _ _).symm.trans H; rw [hy174]; with_reducible exact H2_) | (have H2_ := (Option.bind_some _ _).symm.trans H; with_reducible exact H2_) | with_reducible exact H | (rw [hy174]; exact H) | exact H
                        have Ny174 := Aside0.mk hy174
                        clear hy174
                        obtain ⟨y177, hy177⟩ : ∃ y_ : List (S39), y_ = (y170.set ((ji12) : Int).toNat (⟨y174⟩ : S39)) := ⟨_, rfl⟩
                        replace H : (impl_PackPages.l0 k1 y177 l0 (l0.length : Int) (wrap64 (x14_1 + 1))) = some r := by first | (rw [hy177]; with_reducible exact H) | (have H2_ := (Option.bind_some _ _).symm.trans H; rw [hy177]; with_reducible exact H2_) | (have H2_ := (Option.bind_some _ _).symm.trans H; with_reducible exact H2_) | with_reducible exact H | (rw [hy177]; exact H) | exact H
                        have Ny177 := Aside0.mk hy177
                        clear hy177
                        have H' := Aside0.mk H
                        clear H
                        have p168 : 0 ≤ (x14_1 : Int) := of_decide_eq_true (by first | (with_reducible assumption) | assumption)
                        have q168 : x14_1 < (l0.length : Int) := of_decide_eq_true (by first | (with_reducible assumption) | assumption)
                        obtain ⟨ad168, e168, hx168_0, hx168_1, hx168_2⟩ := at_T42 HR0.out x14_1 p168 q168
                        cases e168
                        replace hx168_0 := (HB.out.cell (World.block_lt_of_cell? w _ hx168_0)).trans hx168_0
                        replace hx168_1 := (HB.out.cell (World.block_lt_of_cell? w _ hx168_1)).trans hx168_1
                        replace hx168_2 := (HB.out.cell (World.block_lt_of_cell? w _ hx168_2)).trans hx168_2
                        replace p168 := eq_true p168
                        replace q168 := eq_true q168
                        try go_wp2_with (first | ((with_reducible refine gate_dst (N := 5) rfl ?_); refine box_event ?hg (N := 5) ?hd (cs := #[.int .i64 0, .int .i64 0, .int .i64 0]) (t := 42) ?hr ?_; (case hd => rfl); (case hg => rfl); (case hr => first | (go_simp; done) | (go_simp; rfl)); intro gb169 hg w17 hbox hb; have n0_ := Aside0.mk (Kd.S_below (Kd.S_elderB (by (with_reducible repeat (first | apply Kd.S_alloc | apply Kd.S_drewN | apply Kd.S_drew)); exact HO_3.out) gb169 (Nat.le_of_eq hg.symm)) hb); have n1_ := Aside0.mk (below_step (by repeat (first | (with_reducible first | exact HB.out | apply below_alloc | apply pw_below_drewN | apply below_drew1) | exact HB.out)) hb); have n2_ := Aside0.mk (hbox); have n3_ := Aside0.mk ((by rw [hg]; exact (below_size (by repeat (first | (with_reducible first | exact HB.out | apply below_alloc | apply pw_below_drewN | apply below_drew1) | exact HB.out))) : w.heap.size ≤ gb169)); have n4_ := Aside0.mk ((by rw [hg]; exact (below_size (by repeat (first | (with_reducible first | exact HB.out | apply below_alloc | apply pw_below_drewN | apply below_drew1) | exact HB.out))) : w.heap.size ≤ gb169)); clear HO_3; clear HB; have HO_3 := n0_; have HB := n1_; have BK169 := n2_; have GW169 := n3_; have GE169 := n4_; clear n0_ n1_ n2_ n3_ n4_; clear hb hbox hg; have hcz18_0 : w17.cell? ⟨gb169, 0, none⟩ = some (.int .i64 0) := (blk_cell BK169.out 0).trans rfl; have hcz18_1 : w17.cell? ⟨gb169, 1, none⟩ = some (.int .i64 0) := (blk_cell BK169.out 1).trans rfl; have hcz18_2 : w17.cell? ⟨gb169, 2, none⟩ = some (.int .i64 0) := (blk_cell BK169.out 2).trans rfl; have hfz18_0 := blk_frozen BK169.out 0; have hfz18_1 := blk_frozen BK169.out 1; have hfz18_2 := blk_frozen BK169.out 2; obtain ⟨Ao19, co19, eo19⟩ := Kd.S_slice HO_3.out; subst eo19))
                        have n0_ : Aside0 (Kd.S k39 39 (((w17.setCell ⟨gb169, 0, none⟩ (.int .i64 ((rd_T42 l0 x14_1).f0))).setCell ⟨gb169, 1, none⟩ (.int .i64 ((rd_T42 l0 x14_1).f1))).setCell ⟨gb169, 2, none⟩ (.int .i64 ((rd_T42 l0 x14_1).f2))) w.heap.size (fun k_ => k_ ≠ gb169) (.slice Ao19 x3_1.length co19) x3_1) := ⟨by (with_reducible repeat (first | apply Kd.S_alloc | apply Kd.S_drewN | apply Kd.S_drew)); exact Kd.S_mono (Kd.S_far (p := ⟨gb169, 2, none⟩) (Kd.S_far (p := ⟨gb169, 1, none⟩) (Kd.S_far (p := ⟨gb169, 0, none⟩) (Kd.S_mono HO_3.out (fun k_ hk => (⟨hk, hk.2⟩ : _ ∧ k_ ≠ gb169))) (fun _ hk => hk.2) (.int .i64 ((rd_T42 l0 x14_1).f0))) (fun _ hk => hk.2) (.int .i64 ((rd_T42 l0 x14_1).f1))) (fun _ hk => hk.2) (.int .i64 ((rd_T42 l0 x14_1).f2))) (fun _ hk => hk.1.2)⟩
                        have n1_ : Aside0 ((((w17.setCell ⟨gb169, 0, none⟩ (.int .i64 ((rd_T42 l0 x14_1).f0))).setCell ⟨gb169, 1, none⟩ (.int .i64 ((rd_T42 l0 x14_1).f1))).setCell ⟨gb169, 2, none⟩ (.int .i64 ((rd_T42 l0 x14_1).f2))).heap[gb169]? = some (.cells #[.int .i64 ((rd_T42 l0 x14_1).f0), .int .i64 ((rd_T42 l0 x14_1).f1), .int .i64 ((rd_T42 l0 x14_1).f2)] 42 (0, 0))) := ⟨by (with_reducible repeat (first | refine blk_drewN ?_ _ | refine blk_drew ?_ | refine blk_alloc ?_ _)); refine blk_put (cs := #[.int .i64 ((rd_T42 l0 x14_1).f0), .int .i64 ((rd_T42 l0 x14_1).f1), .int .i64 0]) ?_ 2 _ rfl; (with_reducible repeat (first | refine blk_drewN ?_ _ | refine blk_drew ?_ | refine blk_alloc ?_ _)); refine blk_put (cs := #[.int .i64 ((rd_T42 l0 x14_1).f0), .int .i64 0, .int .i64 0]) ?_ 1 _ rfl; (with_reducible repeat (first | refine blk_drewN ?_ _ | refine blk_drew ?_ | refine blk_alloc ?_ _)); refine blk_put (cs := #[.int .i64 0, .int .i64 0, .int .i64 0]) ?_ 0 _ rfl; (with_reducible repeat (first | refine blk_drewN ?_ _ | refine blk_drew ?_ | refine blk_alloc ?_ _)); exact BK169.out⟩
                        have n2_ : Aside0 (Below w.heap.size w (((w17.setCell ⟨gb169, 0, none⟩ (.int .i64 ((rd_T42 l0 x14_1).f0))).setCell ⟨gb169, 1, none⟩ (.int .i64 ((rd_T42 l0 x14_1).f1))).setCell ⟨gb169, 2, none⟩ (.int .i64 ((rd_T42 l0 x14_1).f2)))) := ⟨by repeat (first | (with_reducible first | exact HB.out | apply below_alloc | apply pw_below_drewN | apply below_drew1 | refine below_set ?_ GE169.out) | exact HB.out)⟩
                        (try clear HO_3)
                        (try clear BK169)
                        (try clear HB)
                        generalize (((w17.setCell ⟨gb169, 0, none⟩ (.int .i64 ((rd_T42 l0 x14_1).f0))).setCell ⟨gb169, 1, none⟩ (.int .i64 ((rd_T42 l0 x14_1).f1))).setCell ⟨gb169, 2, none⟩ (.int .i64 ((rd_T42 l0 x14_1).f2))) = w20 at n0_ n1_ n2_ ⊢
                        have HO_3 := n0_
                        have BK169 := n1_
                        have HB := n2_
                        clear n0_ n1_ n2_
                        have n0_ := Aside0.mk (Kd.S_drew HO_3.out)
                        have n1_ := Aside0.mk (blk_drew BK169.out)
                        have n2_ := Aside0.mk (below_drew1 HB.out)
                        clear HO_3
                        clear BK169
                        clear HB
                        have HO_3 := n0_
                        have BK169 := n1_
                        have HB := n2_
                        clear n0_ n1_ n2_
                        go_wp2
                        refine start_ (n := 11) (S := fun w' => True) (ds := []) #[false, false, false, false, false, false, false, false, false, false, false] (by kernel_rfl) rfl rfl trivial (fun hHeld => ?_); refine with_tabW impl_PackPages.tab8 impl_PackPages.bits8 (fun HT_ HW_ => ?_)
                        generalize w20.drew = w21 at HO_3 BK169 HB hHeld ⊢
                        refine pure_ (i := 0) (N := some 20) (v := ?_) (a' := ?_) #[true, false, false, false, false, false, false, false, false, false, false] rfl rfl (any_of HT_.out (by kernel_rfl)) (fun _ _ _ h => h) (Or.inl ⟨by rfl, ?_⟩) ?_ ?_
                        rotate_left
                        · intro w'
                          go_simp
                          with_reducible rfl
                        rotate_left
                        · simp only [Act.put, List.setIfInBounds_toArray, List.set_cons_zero, List.set_cons_succ, i64_w, i32_w]
                          rfl
                        refine pure_ (i := 1) (N := some 21) (v := ?_) (a' := ?_) #[true, true, false, false, false, false, false, false, false, false, false] rfl rfl (any_of HT_.out (by kernel_rfl)) (fun _ _ _ h => h) (Or.inl ⟨by rfl, ?_⟩) ?_ ?_
                        rotate_left
                        · intro w'
                          go_simp
                          with_reducible rfl
                        rotate_left
                        · simp only [Act.put, List.setIfInBounds_toArray, List.set_cons_zero, List.set_cons_succ, i64_w, i32_w]
                          rfl
                        refine pure_ (i := 2) (N := some 22) (v := ?_) (a' := ?_) #[true, true, true, false, false, false, false, false, false, false, false] rfl rfl (any_of HT_.out (by kernel_rfl)) (fun _ _ _ h => h) (Or.inl ⟨by rfl, ?_⟩) ?_ ?_
                        rotate_left
                        · intro w'
                          go_simp
                          with_reducible rfl
                        rotate_left
                        · simp only [Act.put, List.setIfInBounds_toArray, List.set_cons_zero, List.set_cons_succ, i64_w, i32_w]
                          rfl
                        refine pure_ (i := 3) (N := some 23) (v := undef) (a' := ?_) #[true, true, true, true, false, false, false, false, false, false, false] rfl rfl (any_of HT_.out (by kernel_rfl)) (fun _ _ _ h => h) (Or.inr ⟨by rfl, rfl⟩) ?_ ?_
                        rotate_left
                        · simp only [Act.put, List.setIfInBounds_toArray, List.set_cons_zero, List.set_cons_succ, i64_w, i32_w]
                          rfl
                        refine pure_ (i := 4) (N := some 24) (v := undef) (a' := ?_) #[true, true, true, true, true, false, false, false, false, false, false] rfl rfl (any_of HT_.out (by kernel_rfl)) (fun _ _ _ h => h) (Or.inr ⟨by rfl, rfl⟩) ?_ ?_
                        rotate_left
                        · simp only [Act.put, List.setIfInBounds_toArray, List.set_cons_zero, List.set_cons_succ, i64_w, i32_w]
                          rfl
                        refine pure_ (i := 5) (N := some 25) (v := undef) (a' := ?_) #[true, true, true, true, true, true, false, false, false, false, false] rfl rfl (any_of HT_.out (by kernel_rfl)) (fun _ _ _ h => h) (Or.inr ⟨by rfl, rfl⟩) ?_ ?_
                        rotate_left
                        · simp only [Act.put, List.setIfInBounds_toArray, List.set_cons_zero, List.set_cons_succ, i64_w, i32_w]
                          rfl
                        refine pure_ (i := 6) (N := some 26) (v := undef) (a' := ?_) #[true, true, true, true, true, true, true, false, false, false, false] rfl rfl (any_of HT_.out (by kernel_rfl)) (fun _ _ _ h => h) (Or.inr ⟨by rfl, rfl⟩) ?_ ?_
                        rotate_left
                        · simp only [Act.put, List.setIfInBounds_toArray, List.set_cons_zero, List.set_cons_succ, i64_w, i32_w]
                          rfl
                        refine pure_ (i := 7) (N := some 27) (v := undef) (a' := ?_) #[true, true, true, true, true, true, true, true, false, false, false] rfl rfl (any_of HT_.out (by kernel_rfl)) (fun _ _ _ h => h) (Or.inr ⟨by rfl, rfl⟩) ?_ ?_
                        rotate_left
                        · simp only [Act.put, List.setIfInBounds_toArray, List.set_cons_zero, List.set_cons_succ, i64_w, i32_w]
                          rfl
                        refine pure_ (i := 8) (N := some 28) (v := undef) (a' := ?_) #[true, true, true, true, true, true, true, true, true, false, false] rfl rfl (any_of HT_.out (by kernel_rfl)) (fun _ _ _ h => h) (Or.inr ⟨by rfl, rfl⟩) ?_ ?_
                        rotate_left
                        · simp only [Act.put, List.setIfInBounds_toArray, List.set_cons_zero, List.set_cons_succ, i64_w, i32_w]
                          rfl
                        refine pure_ (i := 9) (N := some 29) (v := undef) (a' := ?_) #[true, true, true, true, true, true, true, true, true, true, false] rfl rfl (any_of HT_.out (by kernel_rfl)) (fun _ _ _ h => h) (Or.inr ⟨by rfl, rfl⟩) ?_ ?_
                        rotate_left
                        · simp only [Act.put, List.setIfInBounds_toArray, List.set_cons_zero, List.set_cons_succ, i64_w, i32_w]
                          rfl
                        refine pure_ (i := 10) (N := some 30) (v := ?_) (a' := ?_) #[true, true, true, true, true, true, true, true, true, true, true] rfl rfl (any_of HT_.out (by kernel_rfl)) (fun _ _ _ h => h) (Or.inl ⟨by rfl, ?_⟩) ?_ ?_
                        rotate_left
                        · intro w'
                          go_simp
                          with_reducible rfl
                        rotate_left
                        · simp only [Act.put, List.setIfInBounds_toArray, List.set_cons_zero, List.set_cons_succ, i64_w, i32_w]
                          rfl
                        refine done_ (done_of HT_.out (by kernel_rfl)) ?_
                        try go_wp2_with (first | ((with_reducible refine gate_builtin (b := .append) (xs := #[.tmp 31, .tmp 33]) rfl ?_); at_builtin; refine Kd.S_append k39 (w0 := w) w.heap.size rfl (.tmp 31) (.tmp 33) 24 39 (.agg #[(.slice none 0 0)]) 24 rfl Try.underlying24 info39 rfl (by decide) (by omega) (.slice Ao19 x3_1.length co19) x3_1 (⟨([] : List (S42))⟩ : S39) [.slice none 0 0] (fun k_ => k_ ≠ gb169) (fun _ => False) rfl rfl ?aP (fun k_ hk_ => hk_.elim) ?aF ?aO ?aB ?aS ?aL ?_; (case aP => exact k39_mkM _ _ _ (⟨([] : List (S42))⟩ : S39) (Kd.R_nil _ _ _ _ _)); (case aB => exact (by repeat (first | (with_reducible first | exact HB.out | apply below_alloc | apply pw_below_drewN | apply below_drew1 | refine below_set ?_ GE169.out) | exact HB.out))); (case aF => exact (fun k_ hk => Kd.freshB (g := gb169) (o := .cells #[.int .i64 ((rd_T42 l0 x14_1).f0), .int .i64 ((rd_T42 l0 x14_1).f1), .int .i64 ((rd_T42 l0 x14_1).f2)] 42 (0, 0)) (by (with_reducible repeat (first | refine blk_drewN ?_ _ | refine blk_drew ?_ | refine blk_alloc ?_ _)); exact BK169.out) k_ hk)); (case aO => exact (by (with_reducible repeat (first | apply Kd.S_alloc | apply Kd.S_drewN | apply Kd.S_drew)); exact Kd.S_mono HO_3.out (fun k_ hk => ⟨hk, fun e_ => e_⟩))); (case aS => exact (below_size (by repeat (first | (with_reducible first | exact HB.out | apply below_alloc | apply pw_below_drewN | apply below_drew1 | refine below_set ?_ GE169.out) | exact HB.out)))); (case aL => have := LMc11.out; omega); intro v171 w22 ho hb hg hat; rw [← Ny170.out] at ho; have n0_ := Aside0.mk (blk_grown (g := gb169) (o := .cells #[.int .i64 ((rd_T42 l0 x14_1).f0), .int .i64 ((rd_T42 l0 x14_1).f1), .int .i64 ((rd_T42 l0 x14_1).f2)] 42 (0, 0)) (by (with_reducible repeat (first | refine blk_drewN ?_ _ | refine blk_drew ?_ | refine blk_alloc ?_ _)); exact BK169.out) hg (Kd.S_ne HO_3.out BK169.out (by decide))); have n1_ := Aside0.mk (hb); have n2_ := Aside0.mk (ho); clear BK169; clear HB; clear HO_3; have BK169 := n0_; have HB := n1_; have HO172 := n2_; clear n0_ n1_ n2_; clear ho hb hg hat; obtain ⟨Ao23, co23, eo23⟩ := Kd.S_slice HO172.out; subst eo23))
                        have n0_ := Aside0.mk (Kd.S_drew HO172.out)
                        have n1_ := Aside0.mk (blk_drew BK169.out)
                        have n2_ := Aside0.mk (below_drew1 HB.out)
                        clear HO172
                        clear BK169
                        clear HB
                        have HO172 := n0_
                        have BK169 := n1_
                        have HB := n2_
                        clear n0_ n1_ n2_
                        have p173 : 0 ≤ ((ji12) : Int) := of_decide_eq_true (by first | (with_reducible assumption) | assumption)
                        have q173 : (ji12) < (y170.length : Int) := of_decide_eq_true (by first | (with_reducible assumption) | assumption)
                        obtain ⟨ad173, A173_0, c173_0, e173, hx173_0, hl173_0, hi173_0⟩ := at_T39 (Kd.S_reads' HO172.out).2.2 (ji12) p173 q173
                        cases e173
                        obtain ⟨ce173, hce173, hMe173, hcc173⟩ := Kd.S_get HO172.out z39 (ji12) p173 (by first | exact q173 | exact of_decide_eq_true (by first | (with_reducible assumption) | assumption) | (have e_ := (Kd.S_reads' HO172.out).1; omega))
                        obtain ⟨ve173_0, rfl, ge173_0⟩ := k39_openM hMe173
                        have hv173_0 := hcc173 0 _ rfl
                        rw [Nat.add_zero, show (k39).sz = 1 from rfl, Nat.mul_one] at hv173_0
                        replace hv173_0 := Option.some.inj (hv173_0.symm.trans hx173_0)
                        rw [hv173_0] at ge173_0
                        have HL173_0 := Aside0.mk (show Kd.R k42 42 _ _ _ _ ((rd_T39 y170 (ji12)).f0) from ge173_0)
                        clear hv173_0 ge173_0
                        have HX173_0 := Aside0.mk hx173_0
                        clear hcc173 hce173
                        have HR173_0 := Aside0.mk hi173_0
                        have HC173_0 := Aside0.mk hl173_0
                        clear hi173_0 hl173_0
                        replace p173 := eq_true p173
                        replace q173 := eq_true q173
                        obtain ⟨go25, co25, eo25, gb25, gl25, cl25, HG25⟩ := Kd.S_form HO172.out (by have h_ : ((ji12) : Int) < ((y170.length : Int) : Int) := of_decide_eq_true (by first | (with_reducible assumption) | assumption); have h2_ : 0 ≤ ((ji12) : Int) := (of_decide_eq_true (by first | (with_reducible assumption) | assumption)); omega)
                        (first | cases eo25 | (injection eo25 with ea_ en_ ec_; (first | subst ea_ | (injection ea_ with ea_; subst ea_)); subst ec_; clear en_))
                        have GB25 := Aside0.mk gb25
                        have GG25 := Aside0.mk HG25
                        clear gb25 gl25 HG25
                        (first | simp only [add_plain] at hx173_0 | skip)
                        obtain ⟨oki25, ce25, hcl25, hM25, hcc25, _, _, hH25⟩ := Kd.S_elem HO172.out z39 ((ji12) : Int) (of_decide_eq_true (by first | (with_reducible assumption) | assumption)) (by have h_ : ((ji12) : Int) < ((y170.length : Int) : Int) := of_decide_eq_true (by first | (with_reducible assumption) | assumption); first | exact h_ | (have e_ := (Kd.S_reads' HO172.out).1; omega) | simpa using h_)
                        obtain ⟨ve25_0, rfl, ge25_0⟩ := k39_openM hM25
                        have hv25 := hcc25 0 _ rfl
                        have hX25 := HX173_0.out
                        (try simp only [add_plain] at hX25)
                        (try simp only [Nat.add_zero] at hv25)
                        (try rw [show (k39).sz = 1 from rfl, Nat.mul_one] at hv25)
                        replace hv25 := Option.some.inj (hv25.symm.trans hX25)
                        subst hv25
                        clear hX25 hcc25 hcl25
                        have UU25 := Aside0.mk (show Kd.R k42 42 _ w.heap.size oki25 (.slice A173_0 ((rd_T39 y170 (ji12)).f0).length c173_0) ((rd_T39 y170 (ji12)).f0) from ge25_0)
                        have HH25 := Aside0.mk hH25
                        have HN25 := Aside0.mk (Kd.S_reads' HO172.out).1
                        clear hH25 ge25_0
                        go_wp2
                        refine start_ (n := 11) (S := fun w' => w'.cell? ⟨gb169, 0, none⟩ = some (.int .i64 ((rd_T42 l0 x14_1).f0)) ∧ w'.cell? ⟨gb169, 1, none⟩ = some (.int .i64 ((rd_T42 l0 x14_1).f1)) ∧ w'.cell? ⟨gb169, 2, none⟩ = some (.int .i64 ((rd_T42 l0 x14_1).f2)) ∧ w'.cell? ⟨go25, ((ji12)).toNat, none⟩ = some (.slice A173_0 ((rd_T39 y170 (ji12)).f0).length c173_0)) (ds := [10]) #[false, false, false, false, false, false, false, false, false, false, false] (by kernel_rfl) rfl rfl ⟨(blk_cell BK169.out 0).trans rfl, (blk_cell BK169.out 1).trans rfl, (blk_cell BK169.out 2).trans rfl, hx173_0⟩ (fun hHeld => ?_); refine with_tabW impl_PackPages.tab11 impl_PackPages.bits11 (fun HT_ HW_ => ?_)
                        generalize w22.drew = w24 at HO172 BK169 HB GG25 HH25 HL173_0 HR173_0 HX173_0 UU25 hx173_0 hHeld ⊢
                        refine pure_ (i := 0) (N := some 40) (v := ?_) (a' := ?_) #[true, false, false, false, false, false, false, false, false, false, false] rfl rfl (any_of HT_.out (by kernel_rfl)) (fun _ _ _ h => h) (Or.inl ⟨by rfl, ?_⟩) ?_ ?_
                        rotate_left
                        · intro w'
                          go_simp
                          with_reducible rfl
                        rotate_left
                        · simp only [Act.put, List.setIfInBounds_toArray, List.set_cons_zero, List.set_cons_succ, i64_w, i32_w]
                          rfl
                        refine pure_ (i := 1) (N := some 41) (v := ?_) (a' := ?_) #[true, true, false, false, false, false, false, false, false, false, false] rfl rfl (any_of HT_.out (by kernel_rfl)) (fun _ _ _ h => h) (Or.inl ⟨by rfl, ?_⟩) ?_ ?_
                        rotate_left
                        · intro w'
                          go_simp
                          with_reducible rfl
                        rotate_left
                        · simp only [Act.put, List.setIfInBounds_toArray, List.set_cons_zero, List.set_cons_succ, i64_w, i32_w]
                          rfl
                        refine pure_ (i := 2) (N := some 42) (v := ?_) (a' := ?_) #[true, true, true, false, false, false, false, false, false, false, false] rfl rfl (any_of HT_.out (by kernel_rfl)) (fun _ _ _ h => h) (Or.inl ⟨by rfl, ?_⟩) ?_ ?_
                        rotate_left
                        · intro w'
                          go_simp
                          with_reducible rfl
                        rotate_left
                        · simp only [Act.put, List.setIfInBounds_toArray, List.set_cons_zero, List.set_cons_succ, i64_w, i32_w]
                          rfl
                        refine pure_ (i := 3) (N := some 43) (v := ?_) (a' := ?_) #[true, true, true, true, false, false, false, false, false, false, false] rfl rfl (any_of HT_.out (by kernel_rfl)) (fun _ _ _ h => h) (Or.inl ⟨by rfl, ?_⟩) ?_ ?_
                        rotate_left
                        · intro w'
                          go_simp
                          with_reducible rfl
                        rotate_left
                        · simp only [Act.put, List.setIfInBounds_toArray, List.set_cons_zero, List.set_cons_succ, i64_w, i32_w]
                          rfl
                        refine take_ (i := 4) (N := some 44) (v := ?_) (a' := ?_) #[true, true, true, true, true, false, false, false, false, false, false] rfl rfl (take_ofW HT_.out HW_.out (by kernel_rfl)) (fun _ _ _ h => h) (Or.inl ⟨by rfl, ?_⟩) hHeld ?_ ?_
                        rotate_left
                        · rintro w' ⟨s0, s1, s2, s3⟩
                          go_simp
                          with_reducible rfl
                        rotate_left
                        · simp only [Act.put, List.setIfInBounds_toArray, List.set_cons_zero, List.set_cons_succ, i64_w, i32_w]
                          rfl
                        refine take_ (i := 5) (N := some 45) (v := ?_) (a' := ?_) #[true, true, true, true, true, true, false, false, false, false, false] rfl rfl (take_ofW HT_.out HW_.out (by kernel_rfl)) (fun _ _ _ h => h) (Or.inl ⟨by rfl, ?_⟩) hHeld ?_ ?_
                        rotate_left
                        · rintro w' ⟨s0, s1, s2, s3⟩
                          go_simp
                          with_reducible rfl
                        rotate_left
                        · simp only [Act.put, List.setIfInBounds_toArray, List.set_cons_zero, List.set_cons_succ, i64_w, i32_w]
                          rfl
                        refine one_ (i := 6) (N := some 46) #[true, true, true, true, true, true, true, false, false, false, false] rfl rfl (one_of HT_.out (by kernel_rfl)) (by decide) (fun K hK => ?_)
                        refine value_ (w1 := ?_) (v := ?_) (by rfl) rfl ?_ ?_
                        rotate_left 2
                        · go_simp
                          constructor
                          · rfl
                          · rfl
                        refine hK.out _ _ ⟨(blk_cell (blk_alloc BK169.out _) 0).trans rfl, (blk_cell (blk_alloc BK169.out _) 1).trans rfl, (blk_cell (blk_alloc BK169.out _) 2).trans rfl, (World.cell?_alloc_lt _ _ _ (World.block_lt_of_cell? _ _ (hHeld.2.2.2))).trans (hHeld.2.2.2)⟩ (fun hHeld => ?_)
                        clear hK K
                        refine norm_ (a' := ?_) ?_ ?_
                        rotate_left
                        · show Act.put _ (some 46) _ = _
                          simp only [Act.put, List.setIfInBounds_toArray, List.set_cons_zero, List.set_cons_succ, i64_w, i32_w]
                          rfl
                        refine one_ (i := 7) (N := some 47) #[true, true, true, true, true, true, true, true, false, false, false] rfl rfl (one_of HT_.out (by kernel_rfl)) (by decide) (fun K hK => ?_)
                        refine Kd.R_append_step k42 (w0 := w) w.heap.size (by rfl) (.tmp 44) (.tmp 46) 26 42 (.agg #[(.int .i64 0), (.int .i64 0), (.int .i64 0)]) 24 rfl Try.underlying26 info42 rfl (by decide) (by omega) (.slice A173_0 ((rd_T39 y170 (ji12)).f0).length c173_0) ((rd_T39 y170 (ji12)).f0) (⟨(rd_T42 l0 x14_1).f0, (rd_T42 l0 x14_1).f1, (rd_T42 l0 x14_1).f2⟩ : S42) [.int .i64 ((rd_T42 l0 x14_1).f0), .int .i64 ((rd_T42 l0 x14_1).f1), .int .i64 ((rd_T42 l0 x14_1).f2)] (fun k_ => oki25 k_ ∨ ((fun k_ => k_ ≠ gb169)) k_ ∧ w24.heap.size ≤ k_) (fun _ => False) rfl rfl ?aP (fun _ hk => hk.elim) ?aF ?aO ?aB ?aS ?aL ?_
                        (case aP => exact k42_mkM _ _ _ (⟨(rd_T42 l0 x14_1).f0, (rd_T42 l0 x14_1).f1, (rd_T42 l0 x14_1).f2⟩ : S42))
                        (case aB => exact (by repeat (first | (with_reducible first | exact HB.out | apply below_alloc | apply pw_below_drewN | apply below_drew1 | refine below_set ?_ GE169.out) | exact HB.out)))
                        (case aF => exact (fun k_ hk => .inr ⟨Kd.freshB (g := gb169) (o := .cells #[.int .i64 ((rd_T42 l0 x14_1).f0), .int .i64 ((rd_T42 l0 x14_1).f1), .int .i64 ((rd_T42 l0 x14_1).f2)] 42 (0, 0)) (by (with_reducible repeat (first | refine blk_drewN ?_ _ | refine blk_drew ?_ | refine blk_alloc ?_ _)); exact BK169.out) k_ hk, hk⟩))
                        (case aO => exact (by (with_reducible repeat (first | apply Kd.R_alloc | apply Kd.R_drewN | apply Kd.R_drew)); exact Kd.R_mono UU25.out (fun _ hk => .inl hk)))
                        (case aS => exact (below_size (by repeat (first | (with_reducible first | exact HB.out | apply below_alloc | apply pw_below_drewN | apply below_drew1 | refine below_set ?_ GE169.out) | exact HB.out))))
                        (case aL => have := LMc15.out; omega)
                        intro v175 w26 ho hb hg hat
                        (first | have HS3_ := cell_grown hg (hHeld.2.2.2) (by first | (rw [add_block]; exact (fun e_ => ((HL173_0.out.1 _ e_.symm).2) rfl)) | (show some (Addr.add _ _).block ≠ _; rw [add_block]; exact (fun e_ => ((HL173_0.out.1 _ e_.symm).2) rfl)) | exact (fun e_ => ((HL173_0.out.1 _ e_.symm).2) rfl)) | have HS3_ := cell_grown hg (cell_unalloc (hHeld.2.2.2) (by first | (rw [add_block]; exact Kd.S_lt HO172.out _ rfl) | (show (Addr.add _ _).block < _; rw [add_block]; exact Kd.S_lt HO172.out _ rfl) | exact Kd.S_lt HO172.out _ rfl)) (by first | (rw [add_block]; exact (fun e_ => ((HL173_0.out.1 _ e_.symm).2) rfl)) | (show some (Addr.add _ _).block ≠ _; rw [add_block]; exact (fun e_ => ((HL173_0.out.1 _ e_.symm).2) rfl)) | exact (fun e_ => ((HL173_0.out.1 _ e_.symm).2) rfl)))
                        rw [← Ny174.out] at ho
                        have n0_ := Aside0.mk (blk_grown (g := gb169) (o := .cells #[.int .i64 ((rd_T42 l0 x14_1).f0), .int .i64 ((rd_T42 l0 x14_1).f1), .int .i64 ((rd_T42 l0 x14_1).f2)] 42 (0, 0)) (by (with_reducible repeat (first | refine blk_drewN ?_ _ | refine blk_drew ?_ | refine blk_alloc ?_ _)); exact BK169.out) hg (Kd.R_away HL173_0.out (fun _ hk => hk.1)))
                        have n1_ := Aside0.mk (hb)
                        have n2_ := Aside0.mk (Kd.H_grown (Kd.H_widen (by repeat (first | exact HH25.out | refine Kd.H_alloc ?_ _ | refine Kd.H_drewN ?_ _ | refine Kd.H_drew ?_))) hg (fun k_ e_ => .inl (UU25.out.1 k_ e_)))
                        have n3_ := Aside0.mk (ho)
                        clear BK169
                        clear HB
                        clear HH25
                        clear HO172
                        clear UU25
                        clear HL173_0
                        have BK169 := n0_
                        have HB := n1_
                        have HH25 := n2_
                        have HO176 := n3_
                        clear n0_ n1_ n2_ n3_
                        clear ho hb hg hat
                        have p16 : 0 ≤ ((ji12) : Int) := of_decide_eq_true (by first | (with_reducible assumption) | assumption)
                        have q16 : ((ji12) : Int) < ((y170.length : Int) : Int) := of_decide_eq_true (by first | (with_reducible assumption) | assumption)
                        replace p16 := eq_true p16
                        replace q16 := eq_true q16
                        obtain ⟨Ao29, co29, eo29⟩ := Kd.R_slice HO176.out
                        (first | subst eo29 | (injection eo29 with f1_ f2_ f3_; have f4_ := f1_.symm; have f5_ := f3_.symm; clear f1_ f2_ f3_; subst f4_; subst f5_))
                        obtain ⟨_, _, hraw27, _, _, hcc27, _⟩ := Kd.H_raw HH25.out (of_decide_eq_true (by first | (with_reducible assumption) | assumption)) (by have h_ : ((ji12) : Int) < ((y170.length : Int) : Int) := of_decide_eq_true (by first | (with_reducible assumption) | assumption); first | exact h_ | (have e_ := (HN25.out); omega) | simpa using h_)
                        obtain ⟨_, hfr27⟩ := Kd.H_at HH25.out (of_decide_eq_true (by first | (with_reducible assumption) | assumption)) (by have h_ : ((ji12) : Int) < ((y170.length : Int) : Int) := of_decide_eq_true (by first | (with_reducible assumption) | assumption); first | exact h_ | (have e_ := (HN25.out); omega) | simpa using h_)
                        have hx27_0 := hcc27 0 _ rfl
                        have hf27_0 := hfr27 0
                        (try simp only [Nat.add_zero] at hx27_0 hf27_0)
                        (try rw [show (k39).sz = 1 from rfl, Nat.mul_one] at hx27_0)
                        (try rw [show (k39).sz = 1 from rfl, Nat.mul_one] at hf27_0)
                        have HP27 := Kd.S_seg0 HH25.out (of_decide_eq_true (by first | (with_reducible assumption) | assumption)) (by have h_ : ((ji12) : Int) < ((y170.length : Int) : Int) := of_decide_eq_true (by first | (with_reducible assumption) | assumption); first | exact h_ | (have e_ := (HN25.out); omega) | simpa using h_) (seg := [.slice Ao29 y174.length co29]) (j := 0) (show 1 ≤ 1 from by decide) (x' := (⟨y174⟩ : S39)) (k39_mkM _ _ _ (⟨y174⟩ : S39) HO176.out) (fun _ hk => hk)
                        (try simp only [show (k39).sz = 1 from rfl, Nat.mul_one, Nat.add_zero] at HP27)
                        clear hcc27 hfr27
                        have HNB169_go25 := Aside0.mk (show gb169 ≠ go25 from by have h_ := Kd.R_ne hraw27 BK169.out (by decide); intro e_; exact h_ (by rw [e_]; rfl))
                        have HS27 := HP27.1
                        rw [← Ny177.out] at HS27
                        have HQ27 := Aside0.mk HS27
                        obtain ⟨_, hgg27⟩ := Kd.R_typed hraw27 go25 rfl
                        have GG27_ := Aside0.mk hgg27
                        clear HP27 HS27 hgg27
                        refine hK.out _ _ ⟨(blk_cell BK169.out 0).trans rfl, (blk_cell BK169.out 1).trans rfl, (blk_cell BK169.out 2).trans rfl, HS3_⟩ (fun hHeld => ?_)
                        clear hK K
                        refine norm_ (a' := ?_) ?_ ?_
                        rotate_left
                        · show Act.put _ (some 47) _ = _
                          simp only [Act.put, List.setIfInBounds_toArray, List.set_cons_zero, List.set_cons_succ, i64_w, i32_w]
                          rfl
                        refine pure_ (i := 8) (N := some 48) (v := ?_) (a' := ?_) #[true, true, true, true, true, true, true, true, true, false, false] rfl rfl (any_of HT_.out (by kernel_rfl)) (fun _ _ _ h => h) (Or.inl ⟨by rfl, ?_⟩) ?_ ?_
                        rotate_left
                        · intro w'
                          go_simp
                          with_reducible rfl
                        rotate_left
                        · simp only [Act.put, List.setIfInBounds_toArray, List.set_cons_zero, List.set_cons_succ, i64_w, i32_w]
                          rfl
                        refine pure_ (i := 9) (N := some 49) (v := ?_) (a' := ?_) #[true, true, true, true, true, true, true, true, true, true, false] rfl rfl (any_of HT_.out (by kernel_rfl)) (fun _ _ _ h => h) (Or.inl ⟨by rfl, ?_⟩) ?_ ?_
                        rotate_left
                        · intro w'
                          go_simp
                          with_reducible rfl
                        rotate_left
                        · simp only [Act.put, List.setIfInBounds_toArray, List.set_cons_zero, List.set_cons_succ, i64_w, i32_w]
                          rfl
                        refine last_ (i := 10) (N := none) #[true, true, true, true, true, true, true, true, true, true, true] rfl rfl (one_of HT_.out (by kernel_rfl)) (by decide) (fun K hK => ?_)
                        refine skip_ (w1 := ?_) (by rfl) rfl ?_ ?_
                        rotate_left
                        · go_simp
                          rfl
                        refine hK.out _ _ ?_
                        clear hK K
                        refine done_ (done_of HT_.out (by kernel_rfl)) ?_
                        try go_wp2
                        go_roundg k1
                        case measure => have := HK1.out; omega
                        case rel => exact ⟨(y177), (wrap64 (x14_1 + 1)), (by first | rfl | (simp; done) | (simp [*]; done)), H', ⟨by have := HK1.out; omega⟩, ⟨by (with_reducible repeat (first | apply Kd.S_alloc | apply Kd.S_drewN | apply Kd.S_drew)); exact Kd.S_mono HQ27.out (fun _ hk => trivial)⟩, ⟨by repeat (first | (with_reducible first | exact HB.out | apply below_alloc | apply pw_below_drewN | apply below_drew1 | refine below_set ?_ GB25.out | refine below_set ?_ GE169.out) | exact HB.out)⟩⟩
                      · rw [if_neg c15] at H
                        exact absurd H (by simp)
                    · rw [if_neg c14] at H
                      exact absurd H (by simp)
                  · rw [if_neg c13] at H
                    exact absurd H (by simp)
                · rw [if_neg c11] at H
                  exact absurd H (by simp)
              · rw [if_neg c10] at H
                have c10b0 : ((x3_1.length : Int) == 0) = false := beq_eq_false_iff_ne.mpr c10
                have c10b1 : ((x3_1.length : Int) != 0) = true := bne_iff_ne.mpr c10
                have c10b2 : ¬ (x3_1 = []) := fun h_ => c10 (by rw [h_]; rfl)
                obtain ⟨ji30, hji30⟩ : ∃ j_ : Int, (wrap64 ((x3_1.length : Int) - 1)) = j_ := ⟨_, rfl⟩
                replace H : (if 0 ≤ (ji30) then (if (ji30) < (x3_1.length : Int) then ((impl_WouldOverflow.f k1 ((rd_T39 x3_1 (ji30)).f0) ((rd_T42 l0 x14_1).f0) ((rd_T42 l0 x14_1).f1) ((rd_T42 l0 x14_1).f2)).bind fun t179 => (if t179 = true then (if x3_1.length < 5864062014805 then ((some (x3_1 ++ [(⟨([] : List (S42))⟩ : S39)] : List (S39))).bind fun y180 => (if 0 ≤ (wrap64 ((y180.length : Int) - 1)) then (if (wrap64 ((y180.length : Int) - 1)) < (y180.length : Int) then (if ((rd_T39 y180 (wrap64 ((y180.length : Int) - 1))).f0).length < 5864062014805 then (impl_PackPages.l0 k1 (y180.set ((wrap64 ((y180.length : Int) - 1)) : Int).toNat (⟨(((rd_T39 y180 (wrap64 ((y180.length : Int) - 1))).f0) ++ [(⟨(rd_T42 l0 x14_1).f0, (rd_T42 l0 x14_1).f1, (rd_T42 l0 x14_1).f2⟩ : S42)])⟩ : S39)) l0 (l0.length : Int) (wrap64 (x14_1 + 1))) else (none)) else (none)) else (none))) else (none)) else (if ((rd_T39 x3_1 (ji30)).f0).length < 5864062014805 then (impl_PackPages.l0 k1 (x3_1.set ((ji30) : Int).toNat (⟨(((rd_T39 x3_1 (ji30)).f0) ++ [(⟨(rd_T42 l0 x14_1).f0, (rd_T42 l0 x14_1).f1, (rd_T42 l0 x14_1).f2⟩ : S42)])⟩ : S39)) l0 (l0.length : Int) (wrap64 (x14_1 + 1))) else (none)))) else (none)) else (none)) = some r := by first | (rw [hji30] at H; exact H) | (simp only [hji30] at H ⊢; exact H)
                have hji30w : (IntKind.i64.wrap ((x3_1.length : Int) - 1)) = ji30 := (i64_w _).trans hji30
                by_cases c31 : 0 ≤ (ji30)
                · rw [if_pos c31] at H
                  have c31b0 : decide (0 ≤ (ji30)) = true := decide_eq_true c31
                  clear c31
                  by_cases c32 : (ji30) < (x3_1.length : Int)
                  · rw [if_pos c32] at H
                    have c32b0 : decide ((ji30) < (x3_1.length : Int)) = true := decide_eq_true c32
                    clear c32
                    replace H := Option.bind_eq_some_iff.mp H
                    obtain ⟨t179, A330, H⟩ := H
                    replace H : (if t179 = true then (if x3_1.length < 5864062014805 then ((some (x3_1 ++ [(⟨([] : List (S42))⟩ : S39)] : List (S39))).bind fun y180 => (if 0 ≤ (wrap64 ((y180.length : Int) - 1)) then (if (wrap64 ((y180.length : Int) - 1)) < (y180.length : Int) then (if ((rd_T39 y180 (wrap64 ((y180.length : Int) - 1))).f0).length < 5864062014805 then (impl_PackPages.l0 k1 (y180.set ((wrap64 ((y180.length : Int) - 1)) : Int).toNat (⟨(((rd_T39 y180 (wrap64 ((y180.length : Int) - 1))).f0) ++ [(⟨(rd_T42 l0 x14_1).f0, (rd_T42 l0 x14_1).f1, (rd_T42 l0 x14_1).f2⟩ : S42)])⟩ : S39)) l0 (l0.length : Int) (wrap64 (x14_1 + 1))) else (none)) else (none)) else (none))) else (none)) else (if ((rd_T39 x3_1 (ji30)).f0).length < 5864062014805 then (impl_PackPages.l0 k1 (x3_1.set ((ji30) : Int).toNat (⟨(((rd_T39 x3_1 (ji30)).f0) ++ [(⟨(rd_T42 l0 x14_1).f0, (rd_T42 l0 x14_1).f1, (rd_T42 l0 x14_1).f2⟩ : S42)])⟩ : S39)) l0 (l0.length : Int) (wrap64 (x14_1 + 1))) else (none))) = some r := H
                    have A33 := Aside0.mk A330
                    clear A330
                    by_cases c34 : t179 = true
                    · subst c34
                      have H1 : (if x3_1.length < 5864062014805 then ((some (x3_1 ++ [(⟨([] : List (S42))⟩ : S39)] : List (S39))).bind fun y180 => (if 0 ≤ (wrap64 ((y180.length : Int) - 1)) then (if (wrap64 ((y180.length : Int) - 1)) < (y180.length : Int) then (if ((rd_T39 y180 (wrap64 ((y180.length : Int) - 1))).f0).length < 5864062014805 then (impl_PackPages.l0 k1 (y180.set ((wrap64 ((y180.length : Int) - 1)) : Int).toNat (⟨(((rd_T39 y180 (wrap64 ((y180.length : Int) - 1))).f0) ++ [(⟨(rd_T42 l0 x14_1).f0, (rd_T42 l0 x14_1).f1, (rd_T42 l0 x14_1).f2⟩ : S42)])⟩ : S39)) l0 (l0.length : Int) (wrap64 (x14_1 + 1))) else (none)) else (none)) else (none))) else (none)) = some r := by rw [if_pos rfl] at H; exact H
                      clear H
                      have H := H1
                      clear H1
                      by_cases c35 : x3_1.length < 5864062014805
                      · rw [if_pos c35] at H
                        have LMc35 := Aside0.mk c35
                        clear c35
                        obtain ⟨y180, hy180⟩ : ∃ y_ : List (S39), y_ = (x3_1 ++ [(⟨([] : List (S42))⟩ : S39)]) := ⟨_, rfl⟩
                        replace H : (if 0 ≤ (wrap64 ((y180.length : Int) - 1)) then (if (wrap64 ((y180.length : Int) - 1)) < (y180.length : Int) then (if ((rd_T39 y180 (wrap64 ((y180.length : Int) - 1))).f0).length < 5864062014805 then (impl_PackPages.l0 k1 (y180.set ((wrap64 ((y180.length : Int) - 1)) : Int).toNat (⟨(((rd_T39 y180 (wrap64 ((y180.length : Int) - 1))).f0) ++ [(⟨(rd_T42 l0 x14_1).f0, (rd_T42 l0 x14_1).f1, (rd_T42 l0 x14_1).f2⟩ : S42)])⟩ : S39)) l0 (l0.length : Int) (wrap64 (x14_1 + 1))) else (none)) else (none)) else (none)) = some r := by first | (rw [hy180]; with_reducible exact H) | (have H2_ := (Option.bind_some _ _).symm.trans H; rw [hy180]; with_reducible exact H2_) | (have H2_ := (Option.bind_some _ _).symm.trans H; with_reducible exact H2_) | with_reducible exact H | (rw [hy180]; exact H) | exact H
                        have Ny180 := Aside0.mk hy180
                        clear hy180
                        obtain ⟨ji36, hji36⟩ : ∃ j_ : Int, (wrap64 ((y180.length : Int) - 1)) = j_ := ⟨_, rfl⟩
                        replace H : (if 0 ≤ (ji36) then (if (ji36) < (y180.length : Int) then (if ((rd_T39 y180 (ji36)).f0).length < 5864062014805 then (impl_PackPages.l0 k1 (y180.set ((ji36) : Int).toNat (⟨(((rd_T39 y180 (ji36)).f0) ++ [(⟨(rd_T42 l0 x14_1).f0, (rd_T42 l0 x14_1).f1, (rd_T42 l0 x14_1).f2⟩ : S42)])⟩ : S39)) l0 (l0.length : Int) (wrap64 (x14_1 + 1))) else (none)) else (none)) else (none)) = some r := by first | (rw [hji36] at H; exact H) | (simp only [hji36] at H ⊢; exact H)
                        (try rw [hji36] at A33)
                        have hji36w : (IntKind.i64.wrap ((y180.length : Int) - 1)) = ji36 := (i64_w _).trans hji36
                        (try rw [hji36] at hji30)
                        (try rw [hji36] at hji30w)
                        by_cases c37 : 0 ≤ (ji36)
                        · rw [if_pos c37] at H
                          have c37b0 : decide (0 ≤ (ji36)) = true := decide_eq_true c37
                          clear c37
                          by_cases c38 : (ji36) < (y180.length : Int)
                          · rw [if_pos c38] at H
                            have c38b0 : decide ((ji36) < (y180.length : Int)) = true := decide_eq_true c38
                            clear c38
                            by_cases c39 : ((rd_T39 y180 (ji36)).f0).length < 5864062014805
                            · rw [if_pos c39] at H
                              have LMc39 := Aside0.mk c39
                              clear c39
                              obtain ⟨y184, hy184⟩ : ∃ y_ : List (S42), y_ = (((rd_T39 y180 (ji36)).f0) ++ [(⟨(rd_T42 l0 x14_1).f0, (rd_T42 l0 x14_1).f1, (rd_T42 l0 x14_1).f2⟩ : S42)]) := ⟨_, rfl⟩
                              replace H : (impl_PackPages.l0 k1 (y180.set ((ji36) : Int).toNat (⟨y184⟩ : S39)) l0 (l0.length : Int) (wrap64 (x14_1 + 1))) = some r := by first | (rw [hy184]; with_reducible exact H) | (have H2_ := (Option.bind_some _ _).symm.trans H; rw [hy184]; with_reducible exact H2_) | (have H2_ := (Option.bind_some _ _).symm.trans H; with_reducible exact H2_) | with_reducible exact H | (rw [hy184]; exact H) | exact H
                              have Ny184 := Aside0.mk hy184
                              clear hy184
                              obtain ⟨y187, hy187⟩ : ∃ y_ : List (S39), y_ = (y180.set ((ji36) : Int).toNat (⟨y184⟩ : S39)) := ⟨_, rfl⟩
                              replace H : (impl_PackPages.l0 k1 y187 l0 (l0.length : Int) (wrap64 (x14_1 + 1))) = some r := by first | (rw [hy187]; with_reducible exact H) | (have H2_ := (Option.bind_some _ _).symm.trans H; rw [hy187]; with_reducible exact H2_) | (have H2_ := (Option.bind_some _ _).symm.trans H; with_reducible exact H2_) | with_reducible exact H | (rw [hy187]; exact H) | exact H
                              have Ny187 := Aside0.mk hy187
                              clear hy187
                              have H' := Aside0.mk H
                              clear H
                              have p168 : 0 ≤ (x14_1 : Int) := of_decide_eq_true (by first | (with_reducible assumption) | assumption)
                              have q168 : x14_1 < (l0.length : Int) := of_decide_eq_true (by first | (with_reducible assumption) | assumption)
                              obtain ⟨ad168, e168, hx168_0, hx168_1, hx168_2⟩ := at_T42 HR0.out x14_1 p168 q168
                              cases e168
                              replace hx168_0 := (HB.out.cell (World.block_lt_of_cell? w _ hx168_0)).trans hx168_0
                              replace hx168_1 := (HB.out.cell (World.block_lt_of_cell? w _ hx168_1)).trans hx168_1
                              replace hx168_2 := (HB.out.cell (World.block_lt_of_cell? w _ hx168_2)).trans hx168_2
                              replace p168 := eq_true p168
                              replace q168 := eq_true q168
                              try go_wp2_with (first | ((with_reducible refine gate_dst (N := 5) rfl ?_); refine box_event ?hg (N := 5) ?hd (cs := #[.int .i64 0, .int .i64 0, .int .i64 0]) (t := 42) ?hr ?_; (case hd => rfl); (case hg => rfl); (case hr => first | (go_simp; done) | (go_simp; rfl)); intro gb169 hg w41 hbox hb; have n0_ := Aside0.mk (Kd.S_below (Kd.S_elderB (by (with_reducible repeat (first | apply Kd.S_alloc | apply Kd.S_drewN | apply Kd.S_drew)); exact HO_3.out) gb169 (Nat.le_of_eq hg.symm)) hb); have n1_ := Aside0.mk (below_step (by repeat (first | (with_reducible first | exact HB.out | apply below_alloc | apply pw_below_drewN | apply below_drew1) | exact HB.out)) hb); have n2_ := Aside0.mk (hbox); have n3_ := Aside0.mk ((by rw [hg]; exact (below_size (by repeat (first | (with_reducible first | exact HB.out | apply below_alloc | apply pw_below_drewN | apply below_drew1) | exact HB.out))) : w.heap.size ≤ gb169)); have n4_ := Aside0.mk ((by rw [hg]; exact (below_size (by repeat (first | (with_reducible first | exact HB.out | apply below_alloc | apply pw_below_drewN | apply below_drew1) | exact HB.out))) : w.heap.size ≤ gb169)); clear HO_3; clear HB; have HO_3 := n0_; have HB := n1_; have BK169 := n2_; have GW169 := n3_; have GE169 := n4_; clear n0_ n1_ n2_ n3_ n4_; clear hb hbox hg; have hcz42_0 : w41.cell? ⟨gb169, 0, none⟩ = some (.int .i64 0) := (blk_cell BK169.out 0).trans rfl; have hcz42_1 : w41.cell? ⟨gb169, 1, none⟩ = some (.int .i64 0) := (blk_cell BK169.out 1).trans rfl; have hcz42_2 : w41.cell? ⟨gb169, 2, none⟩ = some (.int .i64 0) := (blk_cell BK169.out 2).trans rfl; have hfz42_0 := blk_frozen BK169.out 0; have hfz42_1 := blk_frozen BK169.out 1; have hfz42_2 := blk_frozen BK169.out 2; obtain ⟨Ao43, co43, eo43⟩ := Kd.S_slice HO_3.out; subst eo43))
                              have n0_ : Aside0 (Kd.S k39 39 (((w41.setCell ⟨gb169, 0, none⟩ (.int .i64 ((rd_T42 l0 x14_1).f0))).setCell ⟨gb169, 1, none⟩ (.int .i64 ((rd_T42 l0 x14_1).f1))).setCell ⟨gb169, 2, none⟩ (.int .i64 ((rd_T42 l0 x14_1).f2))) w.heap.size (fun k_ => k_ ≠ gb169) (.slice Ao43 x3_1.length co43) x3_1) := ⟨by (with_reducible repeat (first | apply Kd.S_alloc | apply Kd.S_drewN | apply Kd.S_drew)); exact Kd.S_mono (Kd.S_far (p := ⟨gb169, 2, none⟩) (Kd.S_far (p := ⟨gb169, 1, none⟩) (Kd.S_far (p := ⟨gb169, 0, none⟩) (Kd.S_mono HO_3.out (fun k_ hk => (⟨hk, hk.2⟩ : _ ∧ k_ ≠ gb169))) (fun _ hk => hk.2) (.int .i64 ((rd_T42 l0 x14_1).f0))) (fun _ hk => hk.2) (.int .i64 ((rd_T42 l0 x14_1).f1))) (fun _ hk => hk.2) (.int .i64 ((rd_T42 l0 x14_1).f2))) (fun _ hk => hk.1.2)⟩
                              have n1_ : Aside0 ((((w41.setCell ⟨gb169, 0, none⟩ (.int .i64 ((rd_T42 l0 x14_1).f0))).setCell ⟨gb169, 1, none⟩ (.int .i64 ((rd_T42 l0 x14_1).f1))).setCell ⟨gb169, 2, none⟩ (.int .i64 ((rd_T42 l0 x14_1).f2))).heap[gb169]? = some (.cells #[.int .i64 ((rd_T42 l0 x14_1).f0), .int .i64 ((rd_T42 l0 x14_1).f1), .int .i64 ((rd_T42 l0 x14_1).f2)] 42 (0, 0))) := ⟨by (with_reducible repeat (first | refine blk_drewN ?_ _ | refine blk_drew ?_ | refine blk_alloc ?_ _)); refine blk_put (cs := #[.int .i64 ((rd_T42 l0 x14_1).f0), .int .i64 ((rd_T42 l0 x14_1).f1), .int .i64 0]) ?_ 2 _ rfl; (with_reducible repeat (first | refine blk_drewN ?_ _ | refine blk_drew ?_ | refine blk_alloc ?_ _)); refine blk_put (cs := #[.int .i64 ((rd_T42 l0 x14_1).f0), .int .i64 0, .int .i64 0]) ?_ 1 _ rfl; (with_reducible repeat (first | refine blk_drewN ?_ _ | refine blk_drew ?_ | refine blk_alloc ?_ _)); refine blk_put (cs := #[.int .i64 0, .int .i64 0, .int .i64 0]) ?_ 0 _ rfl; (with_reducible repeat (first | refine blk_drewN ?_ _ | refine blk_drew ?_ | refine blk_alloc ?_ _)); exact BK169.out⟩
                              have n2_ : Aside0 (Below w.heap.size w (((w41.setCell ⟨gb169, 0, none⟩ (.int .i64 ((rd_T42 l0 x14_1).f0))).setCell ⟨gb169, 1, none⟩ (.int .i64 ((rd_T42 l0 x14_1).f1))).setCell ⟨gb169, 2, none⟩ (.int .i64 ((rd_T42 l0 x14_1).f2)))) := ⟨by repeat (first | (with_reducible first | exact HB.out | apply below_alloc | apply pw_below_drewN | apply below_drew1 | refine below_set ?_ GE169.out) | exact HB.out)⟩
                              (try clear HO_3)
                              (try clear BK169)
                              (try clear HB)
                              generalize (((w41.setCell ⟨gb169, 0, none⟩ (.int .i64 ((rd_T42 l0 x14_1).f0))).setCell ⟨gb169, 1, none⟩ (.int .i64 ((rd_T42 l0 x14_1).f1))).setCell ⟨gb169, 2, none⟩ (.int .i64 ((rd_T42 l0 x14_1).f2))) = w44 at n0_ n1_ n2_ ⊢
                              have HO_3 := n0_
                              have BK169 := n1_
                              have HB := n2_
                              clear n0_ n1_ n2_
                              have n0_ := Aside0.mk (Kd.S_drew HO_3.out)
                              have n1_ := Aside0.mk (blk_drew BK169.out)
                              have n2_ := Aside0.mk (below_drew1 HB.out)
                              clear HO_3
                              clear BK169
                              clear HB
                              have HO_3 := n0_
                              have BK169 := n1_
                              have HB := n2_
                              clear n0_ n1_ n2_
                              have p178 : 0 ≤ ((ji30) : Int) := of_decide_eq_true (by first | (with_reducible assumption) | assumption)
                              have q178 : (ji30) < (x3_1.length : Int) := of_decide_eq_true (by first | (with_reducible assumption) | assumption)
                              obtain ⟨ad178, A178_0, c178_0, e178, hx178_0, hl178_0, hi178_0⟩ := at_T39 (Kd.S_reads' HO_3.out).2.2 (ji30) p178 q178
                              cases e178
                              obtain ⟨ce178, hce178, hMe178, hcc178⟩ := Kd.S_get HO_3.out z39 (ji30) p178 (by first | exact q178 | exact of_decide_eq_true (by first | (with_reducible assumption) | assumption) | (have e_ := (Kd.S_reads' HO_3.out).1; omega))
                              obtain ⟨ve178_0, rfl, ge178_0⟩ := k39_openM hMe178
                              have hv178_0 := hcc178 0 _ rfl
                              rw [Nat.add_zero, show (k39).sz = 1 from rfl, Nat.mul_one] at hv178_0
                              replace hv178_0 := Option.some.inj (hv178_0.symm.trans hx178_0)
                              rw [hv178_0] at ge178_0
                              have HL178_0 := Aside0.mk (show Kd.R k42 42 _ _ _ _ ((rd_T39 x3_1 (ji30)).f0) from ge178_0)
                              clear hv178_0 ge178_0
                              have HX178_0 := Aside0.mk hx178_0
                              clear hcc178 hce178
                              have HR178_0 := Aside0.mk hi178_0
                              have HC178_0 := Aside0.mk hl178_0
                              clear hi178_0 hl178_0
                              replace p178 := eq_true p178
                              replace q178 := eq_true q178
                              go_wp2
                              refine start_ (n := 11) (S := fun w' => w'.cell? ⟨gb169, 0, none⟩ = some (.int .i64 ((rd_T42 l0 x14_1).f0)) ∧ w'.cell? ⟨gb169, 1, none⟩ = some (.int .i64 ((rd_T42 l0 x14_1).f1)) ∧ w'.cell? ⟨gb169, 2, none⟩ = some (.int .i64 ((rd_T42 l0 x14_1).f2)) ∧ w'.cell? (ad178.add ((ji30)).toNat) = some (.slice A178_0 ((rd_T39 x3_1 (ji30)).f0).length c178_0)) (ds := []) #[false, false, false, false, false, false, false, false, false, false, false] (by kernel_rfl) rfl rfl ⟨(blk_cell BK169.out 0).trans rfl, (blk_cell BK169.out 1).trans rfl, (blk_cell BK169.out 2).trans rfl, hx178_0⟩ (fun hHeld => ?_); refine with_tabW impl_PackPages.tab8 impl_PackPages.bits8 (fun HT_ HW_ => ?_)
                              generalize w44.drew = w45 at HO_3 BK169 HB HL178_0 HR178_0 HX178_0 hx178_0 hHeld ⊢
                              refine pure_ (i := 0) (N := some 20) (v := ?_) (a' := ?_) #[true, false, false, false, false, false, false, false, false, false, false] rfl rfl (any_of HT_.out (by kernel_rfl)) (fun _ _ _ h => h) (Or.inl ⟨by rfl, ?_⟩) ?_ ?_
                              rotate_left
                              · intro w'
                                go_simp
                                with_reducible rfl
                              rotate_left
                              · simp only [Act.put, List.setIfInBounds_toArray, List.set_cons_zero, List.set_cons_succ, i64_w, i32_w]
                                rfl
                              refine pure_ (i := 1) (N := some 21) (v := ?_) (a' := ?_) #[true, true, false, false, false, false, false, false, false, false, false] rfl rfl (any_of HT_.out (by kernel_rfl)) (fun _ _ _ h => h) (Or.inl ⟨by rfl, ?_⟩) ?_ ?_
                              rotate_left
                              · intro w'
                                go_simp
                                with_reducible rfl
                              rotate_left
                              · simp only [Act.put, List.setIfInBounds_toArray, List.set_cons_zero, List.set_cons_succ, i64_w, i32_w]
                                rfl
                              refine pure_ (i := 2) (N := some 22) (v := ?_) (a' := ?_) #[true, true, true, false, false, false, false, false, false, false, false] rfl rfl (any_of HT_.out (by kernel_rfl)) (fun _ _ _ h => h) (Or.inl ⟨by rfl, ?_⟩) ?_ ?_
                              rotate_left
                              · intro w'
                                go_simp
                                with_reducible rfl
                              rotate_left
                              · simp only [Act.put, List.setIfInBounds_toArray, List.set_cons_zero, List.set_cons_succ, i64_w, i32_w]
                                rfl
                              refine pure_ (i := 3) (N := some 23) (v := ?_) (a' := ?_) #[true, true, true, true, false, false, false, false, false, false, false] rfl rfl (any_of HT_.out (by kernel_rfl)) (fun _ _ _ h => h) (Or.inl ⟨by rfl, ?_⟩) ?_ ?_
                              rotate_left
                              · intro w'
                                go_simp
                                with_reducible rfl
                              rotate_left
                              · simp only [Act.put, List.setIfInBounds_toArray, List.set_cons_zero, List.set_cons_succ, i64_w, i32_w]
                                rfl
                              refine pure_ (i := 4) (N := some 24) (v := ?_) (a' := ?_) #[true, true, true, true, true, false, false, false, false, false, false] rfl rfl (any_of HT_.out (by kernel_rfl)) (fun _ _ _ h => h) (Or.inl ⟨by rfl, ?_⟩) ?_ ?_
                              rotate_left
                              · intro w'
                                go_simp
                                with_reducible rfl
                              rotate_left
                              · simp only [Act.put, List.setIfInBounds_toArray, List.set_cons_zero, List.set_cons_succ, i64_w, i32_w]
                                rfl
                              refine pure_ (i := 5) (N := some 25) (v := ?_) (a' := ?_) #[true, true, true, true, true, true, false, false, false, false, false] rfl rfl (any_of HT_.out (by kernel_rfl)) (fun _ _ _ h => h) (Or.inl ⟨by rfl, ?_⟩) ?_ ?_
                              rotate_left
                              · intro w'
                                go_simp
                                with_reducible rfl
                              rotate_left
                              · simp only [Act.put, List.setIfInBounds_toArray, List.set_cons_zero, List.set_cons_succ, i64_w, i32_w]
                                rfl
                              refine pure_ (i := 6) (N := some 26) (v := ?_) (a' := ?_) #[true, true, true, true, true, true, true, false, false, false, false] rfl rfl (any_of HT_.out (by kernel_rfl)) (fun _ _ _ h => h) (Or.inl ⟨by rfl, ?_⟩) ?_ ?_
                              rotate_left
                              · intro w'
                                go_simp
                                with_reducible rfl
                              rotate_left
                              · simp only [Act.put, List.setIfInBounds_toArray, List.set_cons_zero, List.set_cons_succ, i64_w, i32_w]
                                rfl
                              refine take_ (i := 7) (N := some 27) (v := ?_) (a' := ?_) #[true, true, true, true, true, true, true, true, false, false, false] rfl rfl (take_ofW HT_.out HW_.out (by kernel_rfl)) (fun _ _ _ h => h) (Or.inl ⟨by rfl, ?_⟩) hHeld ?_ ?_
                              rotate_left
                              · rintro w' ⟨s0, s1, s2, s3⟩
                                go_simp
                                with_reducible rfl
                              rotate_left
                              · simp only [Act.put, List.setIfInBounds_toArray, List.set_cons_zero, List.set_cons_succ, i64_w, i32_w]
                                rfl
                              refine take_ (i := 8) (N := some 28) (v := ?_) (a' := ?_) #[true, true, true, true, true, true, true, true, true, false, false] rfl rfl (take_ofW HT_.out HW_.out (by kernel_rfl)) (fun _ _ _ h => h) (Or.inl ⟨by rfl, ?_⟩) hHeld ?_ ?_
                              rotate_left
                              · rintro w' ⟨s0, s1, s2, s3⟩
                                go_simp
                                with_reducible rfl
                              rotate_left
                              · simp only [Act.put, List.setIfInBounds_toArray, List.set_cons_zero, List.set_cons_succ, i64_w, i32_w]
                                rfl
                              refine one_ (i := 9) (N := some 29) #[true, true, true, true, true, true, true, true, true, true, false] rfl rfl (one_of HT_.out (by kernel_rfl)) (by decide) (fun K hK => ?_)
                              refine goes_ Try.func20 (by kernel_rfl) rfl #[.agg #[.slice A178_0 ((rd_T39 x3_1 (ji30)).f0).length c178_0], .agg #[.int .i64 ((rd_T42 l0 x14_1).f0), .int .i64 ((rd_T42 l0 x14_1).f1), .int .i64 ((rd_T42 l0 x14_1).f2)]] (by rfl) rfl rfl (by (try simp only [List.map_toArray, List.map_cons, List.map_nil]); first | done | (simp only [hji30]; rfl) | rfl | (simp only [List.length_drop, List.length_take]; rfl)) ?_
                              with_reducible refine (impl_WouldOverflow.calls k1 _ _ ((rd_T39 x3_1 (ji30)).f0) ((rd_T42 l0 x14_1).f0) ((rd_T42 l0 x14_1).f1) ((rd_T42 l0 x14_1).f2) true _ ?side1 ?side2 A33.out).mono ?_
                              (case side1 => repeat (first | exact (by repeat (first | (with_reducible exact HR178_0.out) | (with_reducible refine Kd.C_alloc ?_ _) | (with_reducible refine Kd.C_drewN ?_ _) | (with_reducible refine Kd.C_drew ?_) | exact HR178_0.out)) | (with_reducible refine Kd.C_alloc ?_ _) | (with_reducible refine Kd.C_drewN ?_ _) | (with_reducible refine Kd.C_drew ?_)))
                              (case side2 => exact HC178_0.out)
                              rintro e w46 ⟨rfl, hb⟩
                              have HS3_ := (hb.cell (World.block_lt_of_cell? _ _ (hHeld.2.2.2))).trans (hHeld.2.2.2)
                              refine ⟨_, rfl, ?_⟩
                              have n0_ := Aside0.mk (Kd.S_below (by (with_reducible repeat (first | apply Kd.S_alloc | apply Kd.S_drewN | apply Kd.S_drew)); exact HO_3.out) hb)
                              have n1_ := Aside0.mk (Kd.R_below (by (with_reducible repeat (first | apply Kd.R_alloc | apply Kd.R_drewN | apply Kd.R_drew)); exact HL178_0.out) hb)
                              have n2_ := Aside0.mk (blk_below (g := gb169) (o := .cells #[.int .i64 ((rd_T42 l0 x14_1).f0), .int .i64 ((rd_T42 l0 x14_1).f1), .int .i64 ((rd_T42 l0 x14_1).f2)] 42 (0, 0)) (by (with_reducible repeat (first | refine blk_drewN ?_ _ | refine blk_drew ?_ | refine blk_alloc ?_ _)); exact BK169.out) hb)
                              have n3_ := Aside0.mk (Kd.C_below (by repeat (first | (with_reducible exact HR178_0.out) | (with_reducible refine Kd.C_alloc ?_ _) | (with_reducible refine Kd.C_drewN ?_ _) | (with_reducible refine Kd.C_drew ?_) | exact HR178_0.out)) hb)
                              have n4_ := Aside0.mk (pw_cell_below hb HX178_0.out)
                              have n5_ := Aside0.mk (below_step (by repeat (first | (with_reducible first | exact HB.out | apply below_alloc | apply pw_below_drewN | apply below_drew1 | refine below_set ?_ GE169.out) | exact HB.out)) hb)
                              clear HO_3
                              clear HL178_0
                              clear BK169
                              clear HR178_0
                              clear HX178_0
                              clear HB
                              have HO_3 := n0_
                              have HL178_0 := n1_
                              have BK169 := n2_
                              have HR178_0 := n3_
                              have HX178_0 := n4_
                              have HB := n5_
                              clear n0_ n1_ n2_ n3_ n4_ n5_
                              (try clear hb)
                              (try clear hb2)
                              (try clear hk)
                              (try clear hi)
                              refine hK.out _ _ ⟨(blk_cell BK169.out 0).trans rfl, (blk_cell BK169.out 1).trans rfl, (blk_cell BK169.out 2).trans rfl, HS3_⟩ (fun hHeld => ?_)
                              clear hK K
                              refine norm_ (a' := ?_) ?_ ?_
                              rotate_left
                              · show Act.put _ (some 29) _ = _
                                simp only [Act.put, List.setIfInBounds_toArray, List.set_cons_zero, List.set_cons_succ, i64_w, i32_w]
                                rfl
                              refine pure_ (i := 10) (N := some 30) (v := ?_) (a' := ?_) #[true, true, true, true, true, true, true, true, true, true, true] rfl rfl (any_of HT_.out (by kernel_rfl)) (fun _ _ _ h => h) (Or.inl ⟨by rfl, ?_⟩) ?_ ?_
                              rotate_left
                              · intro w'
                                go_simp
                                with_reducible rfl
                              rotate_left
                              · simp only [Act.put, List.setIfInBounds_toArray, List.set_cons_zero, List.set_cons_succ, i64_w, i32_w]
                                rfl
                              refine done_ (done_of HT_.out (by kernel_rfl)) ?_
                              try go_wp2_with (first | ((with_reducible refine gate_builtin (b := .append) (xs := #[.tmp 31, .tmp 33]) rfl ?_); at_builtin; refine Kd.S_append k39 (w0 := w) w.heap.size rfl (.tmp 31) (.tmp 33) 24 39 (.agg #[(.slice none 0 0)]) 24 rfl Try.underlying24 info39 rfl (by decide) (by omega) (.slice (some ad178) x3_1.length co43) x3_1 (⟨([] : List (S42))⟩ : S39) [.slice none 0 0] (fun k_ => k_ ≠ gb169) (fun _ => False) rfl rfl ?aP (fun k_ hk_ => hk_.elim) ?aF ?aO ?aB ?aS ?aL ?_; (case aP => exact k39_mkM _ _ _ (⟨([] : List (S42))⟩ : S39) (Kd.R_nil _ _ _ _ _)); (case aB => exact (by repeat (first | (with_reducible first | exact HB.out | apply below_alloc | apply pw_below_drewN | apply below_drew1 | refine below_set ?_ GE169.out) | exact HB.out))); (case aF => exact (fun k_ hk => Kd.freshB (g := gb169) (o := .cells #[.int .i64 ((rd_T42 l0 x14_1).f0), .int .i64 ((rd_T42 l0 x14_1).f1), .int .i64 ((rd_T42 l0 x14_1).f2)] 42 (0, 0)) (by (with_reducible repeat (first | refine blk_drewN ?_ _ | refine blk_drew ?_ | refine blk_alloc ?_ _)); exact BK169.out) k_ hk)); (case aO => exact (by (with_reducible repeat (first | apply Kd.S_alloc | apply Kd.S_drewN | apply Kd.S_drew)); exact Kd.S_mono HO_3.out (fun k_ hk => ⟨hk, fun e_ => e_⟩))); (case aS => exact (below_size (by repeat (first | (with_reducible first | exact HB.out | apply below_alloc | apply pw_below_drewN | apply below_drew1 | refine below_set ?_ GE169.out) | exact HB.out)))); (case aL => have := LMc35.out; omega); intro v181 w47 ho hb hg hat; rw [← Ny180.out] at ho; have n0_ := Aside0.mk (blk_grown (g := gb169) (o := .cells #[.int .i64 ((rd_T42 l0 x14_1).f0), .int .i64 ((rd_T42 l0 x14_1).f1), .int .i64 ((rd_T42 l0 x14_1).f2)] 42 (0, 0)) (by (with_reducible repeat (first | refine blk_drewN ?_ _ | refine blk_drew ?_ | refine blk_alloc ?_ _)); exact BK169.out) hg (Kd.S_ne HO_3.out BK169.out (by decide))); have n1_ := Aside0.mk (Kd.R_after (ok := (fun k_ => k_ ≠ gb169)) (by (with_reducible repeat (first | apply Kd.R_alloc | apply Kd.R_drewN | apply Kd.R_drew)); exact HL178_0.out) hg hat); have n2_ := Aside0.mk (hb); have n3_ := Aside0.mk (ho); clear BK169; clear HL178_0; clear HB; clear HO_3; have BK169 := n0_; have HL178_0 := n1_; have HB := n2_; have HO182 := n3_; clear n0_ n1_ n2_ n3_; clear ho hb hg hat; obtain ⟨Ao48, co48, eo48⟩ := Kd.S_slice HO182.out; subst eo48))
                              have n0_ := Aside0.mk (Kd.R_drew HL178_0.out)
                              have n1_ := Aside0.mk (Kd.S_drew HO182.out)
                              have n2_ := Aside0.mk (blk_drew BK169.out)
                              have n3_ := Aside0.mk (below_drew1 HB.out)
                              clear HL178_0
                              clear HO182
                              clear BK169
                              clear HB
                              have HL178_0 := n0_
                              have HO182 := n1_
                              have BK169 := n2_
                              have HB := n3_
                              clear n0_ n1_ n2_ n3_
                              have p183 : 0 ≤ ((ji36) : Int) := of_decide_eq_true (by first | (with_reducible assumption) | assumption)
                              have q183 : (ji36) < (y180.length : Int) := of_decide_eq_true (by first | (with_reducible assumption) | assumption)
                              obtain ⟨ad183, A183_0, c183_0, e183, hx183_0, hl183_0, hi183_0⟩ := at_T39 (Kd.S_reads' HO182.out).2.2 (ji36) p183 q183
                              cases e183
                              obtain ⟨ce183, hce183, hMe183, hcc183⟩ := Kd.S_get HO182.out z39 (ji36) p183 (by first | exact q183 | exact of_decide_eq_true (by first | (with_reducible assumption) | assumption) | (have e_ := (Kd.S_reads' HO182.out).1; omega))
                              obtain ⟨ve183_0, rfl, ge183_0⟩ := k39_openM hMe183
                              have hv183_0 := hcc183 0 _ rfl
                              rw [Nat.add_zero, show (k39).sz = 1 from rfl, Nat.mul_one] at hv183_0
                              replace hv183_0 := Option.some.inj (hv183_0.symm.trans hx183_0)
                              rw [hv183_0] at ge183_0
                              have HL183_0 := Aside0.mk (show Kd.R k42 42 _ _ _ _ ((rd_T39 y180 (ji36)).f0) from ge183_0)
                              clear hv183_0 ge183_0
                              have HX183_0 := Aside0.mk hx183_0
                              clear hcc183 hce183
                              have HR183_0 := Aside0.mk hi183_0
                              have HC183_0 := Aside0.mk hl183_0
                              clear hi183_0 hl183_0
                              replace p183 := eq_true p183
                              replace q183 := eq_true q183
                              obtain ⟨go50, co50, eo50, gb50, gl50, cl50, HG50⟩ := Kd.S_form HO182.out (by have h_ : ((ji36) : Int) < ((y180.length : Int) : Int) := of_decide_eq_true (by first | (with_reducible assumption) | assumption); have h2_ : 0 ≤ ((ji36) : Int) := (of_decide_eq_true (by first | (with_reducible assumption) | assumption)); omega)
                              (first | cases eo50 | (injection eo50 with ea_ en_ ec_; (first | subst ea_ | (injection ea_ with ea_; subst ea_)); subst ec_; clear en_))
                              have GB50 := Aside0.mk gb50
                              have GG50 := Aside0.mk HG50
                              clear gb50 gl50 HG50
                              (first | simp only [add_plain] at hx183_0 | skip)
                              obtain ⟨oki50, ce50, hcl50, hM50, hcc50, _, _, hH50⟩ := Kd.S_elem HO182.out z39 ((ji36) : Int) (of_decide_eq_true (by first | (with_reducible assumption) | assumption)) (by have h_ : ((ji36) : Int) < ((y180.length : Int) : Int) := of_decide_eq_true (by first | (with_reducible assumption) | assumption); first | exact h_ | (have e_ := (Kd.S_reads' HO182.out).1; omega) | simpa using h_)
                              obtain ⟨ve50_0, rfl, ge50_0⟩ := k39_openM hM50
                              have hv50 := hcc50 0 _ rfl
                              have hX50 := HX183_0.out
                              (try simp only [add_plain] at hX50)
                              (try simp only [Nat.add_zero] at hv50)
                              (try rw [show (k39).sz = 1 from rfl, Nat.mul_one] at hv50)
                              replace hv50 := Option.some.inj (hv50.symm.trans hX50)
                              subst hv50
                              clear hX50 hcc50 hcl50
                              have UU50 := Aside0.mk (show Kd.R k42 42 _ w.heap.size oki50 (.slice A183_0 ((rd_T39 y180 (ji36)).f0).length c183_0) ((rd_T39 y180 (ji36)).f0) from ge50_0)
                              have HH50 := Aside0.mk hH50
                              have HN50 := Aside0.mk (Kd.S_reads' HO182.out).1
                              clear hH50 ge50_0
                              go_wp2
                              refine start_ (n := 11) (S := fun w' => w'.cell? ⟨gb169, 0, none⟩ = some (.int .i64 ((rd_T42 l0 x14_1).f0)) ∧ w'.cell? ⟨gb169, 1, none⟩ = some (.int .i64 ((rd_T42 l0 x14_1).f1)) ∧ w'.cell? ⟨gb169, 2, none⟩ = some (.int .i64 ((rd_T42 l0 x14_1).f2)) ∧ w'.cell? ⟨go50, ((ji36)).toNat, none⟩ = some (.slice A183_0 ((rd_T39 y180 (ji36)).f0).length c183_0)) (ds := [10]) #[false, false, false, false, false, false, false, false, false, false, false] (by kernel_rfl) rfl rfl ⟨(blk_cell BK169.out 0).trans rfl, (blk_cell BK169.out 1).trans rfl, (blk_cell BK169.out 2).trans rfl, hx183_0⟩ (fun hHeld => ?_); refine with_tabW impl_PackPages.tab11 impl_PackPages.bits11 (fun HT_ HW_ => ?_)
                              generalize w47.drew = w49 at HL178_0 HO182 BK169 HB GG50 HH50 HL183_0 HR183_0 HX183_0 UU50 hx183_0 hHeld ⊢
                              refine pure_ (i := 0) (N := some 40) (v := ?_) (a' := ?_) #[true, false, false, false, false, false, false, false, false, false, false] rfl rfl (any_of HT_.out (by kernel_rfl)) (fun _ _ _ h => h) (Or.inl ⟨by rfl, ?_⟩) ?_ ?_
                              rotate_left
                              · intro w'
                                go_simp
                                with_reducible rfl
                              rotate_left
                              · simp only [Act.put, List.setIfInBounds_toArray, List.set_cons_zero, List.set_cons_succ, i64_w, i32_w]
                                rfl
                              refine pure_ (i := 1) (N := some 41) (v := ?_) (a' := ?_) #[true, true, false, false, false, false, false, false, false, false, false] rfl rfl (any_of HT_.out (by kernel_rfl)) (fun _ _ _ h => h) (Or.inl ⟨by rfl, ?_⟩) ?_ ?_
                              rotate_left
                              · intro w'
                                go_simp
                                with_reducible rfl
                              rotate_left
                              · simp only [Act.put, List.setIfInBounds_toArray, List.set_cons_zero, List.set_cons_succ, i64_w, i32_w]
                                rfl
                              refine pure_ (i := 2) (N := some 42) (v := ?_) (a' := ?_) #[true, true, true, false, false, false, false, false, false, false, false] rfl rfl (any_of HT_.out (by kernel_rfl)) (fun _ _ _ h => h) (Or.inl ⟨by rfl, ?_⟩) ?_ ?_
                              rotate_left
                              · intro w'
                                go_simp
                                with_reducible rfl
                              rotate_left
                              · simp only [Act.put, List.setIfInBounds_toArray, List.set_cons_zero, List.set_cons_succ, i64_w, i32_w]
                                rfl
                              refine pure_ (i := 3) (N := some 43) (v := ?_) (a' := ?_) #[true, true, true, true, false, false, false, false, false, false, false] rfl rfl (any_of HT_.out (by kernel_rfl)) (fun _ _ _ h => h) (Or.inl ⟨by rfl, ?_⟩) ?_ ?_
                              rotate_left
                              · intro w'
                                go_simp
                                with_reducible rfl
                              rotate_left
                              · simp only [Act.put, List.setIfInBounds_toArray, List.set_cons_zero, List.set_cons_succ, i64_w, i32_w]
                                rfl
                              refine take_ (i := 4) (N := some 44) (v := ?_) (a' := ?_) #[true, true, true, true, true, false, false, false, false, false, false] rfl rfl (take_ofW HT_.out HW_.out (by kernel_rfl)) (fun _ _ _ h => h) (Or.inl ⟨by rfl, ?_⟩) hHeld ?_ ?_
                              rotate_left
                              · rintro w' ⟨s0, s1, s2, s3⟩
                                go_simp
                                with_reducible rfl
                              rotate_left
                              · simp only [Act.put, List.setIfInBounds_toArray, List.set_cons_zero, List.set_cons_succ, i64_w, i32_w]
                                rfl
                              refine take_ (i := 5) (N := some 45) (v := ?_) (a' := ?_) #[true, true, true, true, true, true, false, false, false, false, false] rfl rfl (take_ofW HT_.out HW_.out (by kernel_rfl)) (fun _ _ _ h => h) (Or.inl ⟨by rfl, ?_⟩) hHeld ?_ ?_
                              rotate_left
                              · rintro w' ⟨s0, s1, s2, s3⟩
                                go_simp
                                with_reducible rfl
                              rotate_left
                              · simp only [Act.put, List.setIfInBounds_toArray, List.set_cons_zero, List.set_cons_succ, i64_w, i32_w]
                                rfl
                              refine one_ (i := 6) (N := some 46) #[true, true, true, true, true, true, true, false, false, false, false] rfl rfl (one_of HT_.out (by kernel_rfl)) (by decide) (fun K hK => ?_)
                              refine value_ (w1 := ?_) (v := ?_) (by rfl) rfl ?_ ?_
                              rotate_left 2
                              · go_simp
                                constructor
                                · rfl
                                · rfl
                              refine hK.out _ _ ⟨(blk_cell (blk_alloc BK169.out _) 0).trans rfl, (blk_cell (blk_alloc BK169.out _) 1).trans rfl, (blk_cell (blk_alloc BK169.out _) 2).trans rfl, (World.cell?_alloc_lt _ _ _ (World.block_lt_of_cell? _ _ (hHeld.2.2.2))).trans (hHeld.2.2.2)⟩ (fun hHeld => ?_)
                              clear hK K
                              refine norm_ (a' := ?_) ?_ ?_
                              rotate_left
                              · show Act.put _ (some 46) _ = _
                                simp only [Act.put, List.setIfInBounds_toArray, List.set_cons_zero, List.set_cons_succ, i64_w, i32_w]
                                rfl
                              refine one_ (i := 7) (N := some 47) #[true, true, true, true, true, true, true, true, false, false, false] rfl rfl (one_of HT_.out (by kernel_rfl)) (by decide) (fun K hK => ?_)
                              refine Kd.R_append_step k42 (w0 := w) w.heap.size (by rfl) (.tmp 44) (.tmp 46) 26 42 (.agg #[(.int .i64 0), (.int .i64 0), (.int .i64 0)]) 24 rfl Try.underlying26 info42 rfl (by decide) (by omega) (.slice A183_0 ((rd_T39 y180 (ji36)).f0).length c183_0) ((rd_T39 y180 (ji36)).f0) (⟨(rd_T42 l0 x14_1).f0, (rd_T42 l0 x14_1).f1, (rd_T42 l0 x14_1).f2⟩ : S42) [.int .i64 ((rd_T42 l0 x14_1).f0), .int .i64 ((rd_T42 l0 x14_1).f1), .int .i64 ((rd_T42 l0 x14_1).f2)] (fun k_ => oki50 k_ ∨ ((fun k_ => k_ ≠ gb169)) k_ ∧ w49.heap.size ≤ k_) (fun _ => False) rfl rfl ?aP (fun _ hk => hk.elim) ?aF ?aO ?aB ?aS ?aL ?_
                              (case aP => exact k42_mkM _ _ _ (⟨(rd_T42 l0 x14_1).f0, (rd_T42 l0 x14_1).f1, (rd_T42 l0 x14_1).f2⟩ : S42))
                              (case aB => exact (by repeat (first | (with_reducible first | exact HB.out | apply below_alloc | apply pw_below_drewN | apply below_drew1 | refine below_set ?_ GE169.out) | exact HB.out)))
                              (case aF => exact (fun k_ hk => .inr ⟨Kd.freshB (g := gb169) (o := .cells #[.int .i64 ((rd_T42 l0 x14_1).f0), .int .i64 ((rd_T42 l0 x14_1).f1), .int .i64 ((rd_T42 l0 x14_1).f2)] 42 (0, 0)) (by (with_reducible repeat (first | refine blk_drewN ?_ _ | refine blk_drew ?_ | refine blk_alloc ?_ _)); exact BK169.out) k_ hk, hk⟩))
                              (case aO => exact (by (with_reducible repeat (first | apply Kd.R_alloc | apply Kd.R_drewN | apply Kd.R_drew)); exact Kd.R_mono UU50.out (fun _ hk => .inl hk)))
                              (case aS => exact (below_size (by repeat (first | (with_reducible first | exact HB.out | apply below_alloc | apply pw_below_drewN | apply below_drew1 | refine below_set ?_ GE169.out) | exact HB.out))))
                              (case aL => have := LMc39.out; omega)
                              intro v185 w51 ho hb hg hat
                              (first | have HS3_ := cell_grown hg (hHeld.2.2.2) (by first | (rw [add_block]; exact (fun e_ => ((HL183_0.out.1 _ e_.symm).2) rfl)) | (show some (Addr.add _ _).block ≠ _; rw [add_block]; exact (fun e_ => ((HL183_0.out.1 _ e_.symm).2) rfl)) | exact (fun e_ => ((HL183_0.out.1 _ e_.symm).2) rfl)) | have HS3_ := cell_grown hg (cell_unalloc (hHeld.2.2.2) (by first | (rw [add_block]; exact Kd.S_lt HO182.out _ rfl) | (show (Addr.add _ _).block < _; rw [add_block]; exact Kd.S_lt HO182.out _ rfl) | exact Kd.S_lt HO182.out _ rfl)) (by first | (rw [add_block]; exact (fun e_ => ((HL183_0.out.1 _ e_.symm).2) rfl)) | (show some (Addr.add _ _).block ≠ _; rw [add_block]; exact (fun e_ => ((HL183_0.out.1 _ e_.symm).2) rfl)) | exact (fun e_ => ((HL183_0.out.1 _ e_.symm).2) rfl)))
                              rw [← Ny184.out] at ho
                              have n0_ := Aside0.mk (blk_grown (g := gb169) (o := .cells #[.int .i64 ((rd_T42 l0 x14_1).f0), .int .i64 ((rd_T42 l0 x14_1).f1), .int .i64 ((rd_T42 l0 x14_1).f2)] 42 (0, 0)) (by (with_reducible repeat (first | refine blk_drewN ?_ _ | refine blk_drew ?_ | refine blk_alloc ?_ _)); exact BK169.out) hg (Kd.R_away HL183_0.out (fun _ hk => hk.1)))
                              have n1_ := Aside0.mk (hb)
                              have n2_ := Aside0.mk (Kd.H_grown (Kd.H_widen (by repeat (first | exact HH50.out | refine Kd.H_alloc ?_ _ | refine Kd.H_drewN ?_ _ | refine Kd.H_drew ?_))) hg (fun k_ e_ => .inl (UU50.out.1 k_ e_)))
                              have n3_ := Aside0.mk (ho)
                              clear BK169
                              clear HB
                              clear HH50
                              clear HO182
                              clear UU50
                              clear HL178_0
                              clear HL183_0
                              have BK169 := n0_
                              have HB := n1_
                              have HH50 := n2_
                              have HO186 := n3_
                              clear n0_ n1_ n2_ n3_
                              clear ho hb hg hat
                              have p40 : 0 ≤ ((ji36) : Int) := of_decide_eq_true (by first | (with_reducible assumption) | assumption)
                              have q40 : ((ji36) : Int) < ((y180.length : Int) : Int) := of_decide_eq_true (by first | (with_reducible assumption) | assumption)
                              replace p40 := eq_true p40
                              replace q40 := eq_true q40
                              obtain ⟨Ao54, co54, eo54⟩ := Kd.R_slice HO186.out
                              (first | subst eo54 | (injection eo54 with f1_ f2_ f3_; have f4_ := f1_.symm; have f5_ := f3_.symm; clear f1_ f2_ f3_; subst f4_; subst f5_))
                              obtain ⟨_, _, hraw52, _, _, hcc52, _⟩ := Kd.H_raw HH50.out (of_decide_eq_true (by first | (with_reducible assumption) | assumption)) (by have h_ : ((ji36) : Int) < ((y180.length : Int) : Int) := of_decide_eq_true (by first | (with_reducible assumption) | assumption); first | exact h_ | (have e_ := (HN50.out); omega) | simpa using h_)
                              obtain ⟨_, hfr52⟩ := Kd.H_at HH50.out (of_decide_eq_true (by first | (with_reducible assumption) | assumption)) (by have h_ : ((ji36) : Int) < ((y180.length : Int) : Int) := of_decide_eq_true (by first | (with_reducible assumption) | assumption); first | exact h_ | (have e_ := (HN50.out); omega) | simpa using h_)
                              have hx52_0 := hcc52 0 _ rfl
                              have hf52_0 := hfr52 0
                              (try simp only [Nat.add_zero] at hx52_0 hf52_0)
                              (try rw [show (k39).sz = 1 from rfl, Nat.mul_one] at hx52_0)
                              (try rw [show (k39).sz = 1 from rfl, Nat.mul_one] at hf52_0)
                              have HP52 := Kd.S_seg0 HH50.out (of_decide_eq_true (by first | (with_reducible assumption) | assumption)) (by have h_ : ((ji36) : Int) < ((y180.length : Int) : Int) := of_decide_eq_true (by first | (with_reducible assumption) | assumption); first | exact h_ | (have e_ := (HN50.out); omega) | simpa using h_) (seg := [.slice Ao54 y184.length co54]) (j := 0) (show 1 ≤ 1 from by decide) (x' := (⟨y184⟩ : S39)) (k39_mkM _ _ _ (⟨y184⟩ : S39) HO186.out) (fun _ hk => hk)
                              (try simp only [show (k39).sz = 1 from rfl, Nat.mul_one, Nat.add_zero] at HP52)
                              clear hcc52 hfr52
                              have HNB169_go50 := Aside0.mk (show gb169 ≠ go50 from by have h_ := Kd.R_ne hraw52 BK169.out (by decide); intro e_; exact h_ (by rw [e_]; rfl))
                              have HS52 := HP52.1
                              rw [← Ny187.out] at HS52
                              have HQ52 := Aside0.mk HS52
                              obtain ⟨_, hgg52⟩ := Kd.R_typed hraw52 go50 rfl
                              have GG52_ := Aside0.mk hgg52
                              clear HP52 HS52 hgg52
                              refine hK.out _ _ ⟨(blk_cell BK169.out 0).trans rfl, (blk_cell BK169.out 1).trans rfl, (blk_cell BK169.out 2).trans rfl, HS3_⟩ (fun hHeld => ?_)
                              clear hK K
                              refine norm_ (a' := ?_) ?_ ?_
                              rotate_left
                              · show Act.put _ (some 47) _ = _
                                simp only [Act.put, List.setIfInBounds_toArray, List.set_cons_zero, List.set_cons_succ, i64_w, i32_w]
                                rfl
                              refine pure_ (i := 8) (N := some 48) (v := ?_) (a' := ?_) #[true, true, true, true, true, true, true, true, true, false, false] rfl rfl (any_of HT_.out (by kernel_rfl)) (fun _ _ _ h => h) (Or.inl ⟨by rfl, ?_⟩) ?_ ?_
                              rotate_left
                              · intro w'
                                go_simp
                                with_reducible rfl
                              rotate_left
                              · simp only [Act.put, List.setIfInBounds_toArray, List.set_cons_zero, List.set_cons_succ, i64_w, i32_w]
                                rfl
                              refine pure_ (i := 9) (N := some 49) (v := ?_) (a' := ?_) #[true, true, true, true, true, true, true, true, true, true, false] rfl rfl (any_of HT_.out (by kernel_rfl)) (fun _ _ _ h => h) (Or.inl ⟨by rfl, ?_⟩) ?_ ?_
                              rotate_left
                              · intro w'
                                go_simp
                                with_reducible rfl
                              rotate_left
                              · simp only [Act.put, List.setIfInBounds_toArray, List.set_cons_zero, List.set_cons_succ, i64_w, i32_w]
                                rfl
                              refine last_ (i := 10) (N := none) #[true, true, true, true, true, true, true, true, true, true, true] rfl rfl (one_of HT_.out (by kernel_rfl)) (by decide) (fun K hK => ?_)
                              refine skip_ (w1 := ?_) (by rfl) rfl ?_ ?_
                              rotate_left
                              · go_simp
                                rfl
                              refine hK.out _ _ ?_
                              clear hK K
                              refine done_ (done_of HT_.out (by kernel_rfl)) ?_
                              try go_wp2
                              go_roundg k1
                              case measure => have := HK1.out; omega
                              case rel => exact ⟨(y187), (wrap64 (x14_1 + 1)), (by first | rfl | (simp; done) | (simp [*]; done)), H', ⟨by have := HK1.out; omega⟩, ⟨by (with_reducible repeat (first | apply Kd.S_alloc | apply Kd.S_drewN | apply Kd.S_drew)); exact Kd.S_mono HQ52.out (fun _ hk => trivial)⟩, ⟨by repeat (first | (with_reducible first | exact HB.out | apply below_alloc | apply pw_below_drewN | apply below_drew1 | refine below_set ?_ GB50.out | refine below_set ?_ GE169.out) | exact HB.out)⟩⟩
                            · rw [if_neg c39] at H
                              exact absurd H (by simp)
                          · rw [if_neg c38] at H
                            exact absurd H (by simp)
                        · rw [if_neg c37] at H
                          exact absurd H (by simp)
                      · rw [if_neg c35] at H
                        exact absurd H (by simp)
                    · replace c34 := Bool.eq_false_iff.mpr c34
                      subst c34
                      have H1 : (if ((rd_T39 x3_1 (ji30)).f0).length < 5864062014805 then (impl_PackPages.l0 k1 (x3_1.set ((ji30) : Int).toNat (⟨(((rd_T39 x3_1 (ji30)).f0) ++ [(⟨(rd_T42 l0 x14_1).f0, (rd_T42 l0 x14_1).f1, (rd_T42 l0 x14_1).f2⟩ : S42)])⟩ : S39)) l0 (l0.length : Int) (wrap64 (x14_1 + 1))) else (none)) = some r := by rw [if_neg (show ¬ (false = true) by decide)] at H; exact H
                      clear H
                      have H := H1
                      clear H1
                      by_cases c55 : ((rd_T39 x3_1 (ji30)).f0).length < 5864062014805
                      · rw [if_pos c55] at H
                        have LMc55 := Aside0.mk c55
                        clear c55
                        obtain ⟨y189, hy189⟩ : ∃ y_ : List (S42), y_ = (((rd_T39 x3_1 (ji30)).f0) ++ [(⟨(rd_T42 l0 x14_1).f0, (rd_T42 l0 x14_1).f1, (rd_T42 l0 x14_1).f2⟩ : S42)]) := ⟨_, rfl⟩
                        replace H : (impl_PackPages.l0 k1 (x3_1.set ((ji30) : Int).toNat (⟨y189⟩ : S39)) l0 (l0.length : Int) (wrap64 (x14_1 + 1))) = some r := by first | (rw [hy189]; with_reducible exact H) | (have H2_ := (Option.bind_some _ _).symm.trans H; rw [hy189]; with_reducible exact H2_) | (have H2_ := (Option.bind_some _ _).symm.trans H; with_reducible exact H2_) | with_reducible exact H | (rw [hy189]; exact H) | exact H
                        have Ny189 := Aside0.mk hy189
                        clear hy189
                        obtain ⟨y192, hy192⟩ : ∃ y_ : List (S39), y_ = (x3_1.set ((ji30) : Int).toNat (⟨y189⟩ : S39)) := ⟨_, rfl⟩
                        replace H : (impl_PackPages.l0 k1 y192 l0 (l0.length : Int) (wrap64 (x14_1 + 1))) = some r := by first | (rw [hy192]; with_reducible exact H) | (have H2_ := (Option.bind_some _ _).symm.trans H; rw [hy192]; with_reducible exact H2_) | (have H2_ := (Option.bind_some _ _).symm.trans H; with_reducible exact H2_) | with_reducible exact H | (rw [hy192]; exact H) | exact H
                        have Ny192 := Aside0.mk hy192
                        clear hy192
                        have H' := Aside0.mk H
                        clear H
                        have p168 : 0 ≤ (x14_1 : Int) := of_decide_eq_true (by first | (with_reducible assumption) | assumption)
                        have q168 : x14_1 < (l0.length : Int) := of_decide_eq_true (by first | (with_reducible assumption) | assumption)
                        obtain ⟨ad168, e168, hx168_0, hx168_1, hx168_2⟩ := at_T42 HR0.out x14_1 p168 q168
                        cases e168
                        replace hx168_0 := (HB.out.cell (World.block_lt_of_cell? w _ hx168_0)).trans hx168_0
                        replace hx168_1 := (HB.out.cell (World.block_lt_of_cell? w _ hx168_1)).trans hx168_1
                        replace hx168_2 := (HB.out.cell (World.block_lt_of_cell? w _ hx168_2)).trans hx168_2
                        replace p168 := eq_true p168
                        replace q168 := eq_true q168
                        try go_wp2_with (first | ((with_reducible refine gate_dst (N := 5) rfl ?_); refine box_event ?hg (N := 5) ?hd (cs := #[.int .i64 0, .int .i64 0, .int .i64 0]) (t := 42) ?hr ?_; (case hd => rfl); (case hg => rfl); (case hr => first | (go_simp; done) | (go_simp; rfl)); intro gb169 hg w57 hbox hb; have n0_ := Aside0.mk (Kd.S_below (Kd.S_elderB (by (with_reducible repeat (first | apply Kd.S_alloc | apply Kd.S_drewN | apply Kd.S_drew)); exact HO_3.out) gb169 (Nat.le_of_eq hg.symm)) hb); have n1_ := Aside0.mk (below_step (by repeat (first | (with_reducible first | exact HB.out | apply below_alloc | apply pw_below_drewN | apply below_drew1) | exact HB.out)) hb); have n2_ := Aside0.mk (hbox); have n3_ := Aside0.mk ((by rw [hg]; exact (below_size (by repeat (first | (with_reducible first | exact HB.out | apply below_alloc | apply pw_below_drewN | apply below_drew1) | exact HB.out))) : w.heap.size ≤ gb169)); have n4_ := Aside0.mk ((by rw [hg]; exact (below_size (by repeat (first | (with_reducible first | exact HB.out | apply below_alloc | apply pw_below_drewN | apply below_drew1) | exact HB.out))) : w.heap.size ≤ gb169)); clear HO_3; clear HB; have HO_3 := n0_; have HB := n1_; have BK169 := n2_; have GW169 := n3_; have GE169 := n4_; clear n0_ n1_ n2_ n3_ n4_; clear hb hbox hg; have hcz58_0 : w57.cell? ⟨gb169, 0, none⟩ = some (.int .i64 0) := (blk_cell BK169.out 0).trans rfl; have hcz58_1 : w57.cell? ⟨gb169, 1, none⟩ = some (.int .i64 0) := (blk_cell BK169.out 1).trans rfl; have hcz58_2 : w57.cell? ⟨gb169, 2, none⟩ = some (.int .i64 0) := (blk_cell BK169.out 2).trans rfl; have hfz58_0 := blk_frozen BK169.out 0; have hfz58_1 := blk_frozen BK169.out 1; have hfz58_2 := blk_frozen BK169.out 2; obtain ⟨Ao59, co59, eo59⟩ := Kd.S_slice HO_3.out; subst eo59))
                        have n0_ : Aside0 (Kd.S k39 39 (((w57.setCell ⟨gb169, 0, none⟩ (.int .i64 ((rd_T42 l0 x14_1).f0))).setCell ⟨gb169, 1, none⟩ (.int .i64 ((rd_T42 l0 x14_1).f1))).setCell ⟨gb169, 2, none⟩ (.int .i64 ((rd_T42 l0 x14_1).f2))) w.heap.size (fun k_ => k_ ≠ gb169) (.slice Ao59 x3_1.length co59) x3_1) := ⟨by (with_reducible repeat (first | apply Kd.S_alloc | apply Kd.S_drewN | apply Kd.S_drew)); exact Kd.S_mono (Kd.S_far (p := ⟨gb169, 2, none⟩) (Kd.S_far (p := ⟨gb169, 1, none⟩) (Kd.S_far (p := ⟨gb169, 0, none⟩) (Kd.S_mono HO_3.out (fun k_ hk => (⟨hk, hk.2⟩ : _ ∧ k_ ≠ gb169))) (fun _ hk => hk.2) (.int .i64 ((rd_T42 l0 x14_1).f0))) (fun _ hk => hk.2) (.int .i64 ((rd_T42 l0 x14_1).f1))) (fun _ hk => hk.2) (.int .i64 ((rd_T42 l0 x14_1).f2))) (fun _ hk => hk.1.2)⟩
                        have n1_ : Aside0 ((((w57.setCell ⟨gb169, 0, none⟩ (.int .i64 ((rd_T42 l0 x14_1).f0))).setCell ⟨gb169, 1, none⟩ (.int .i64 ((rd_T42 l0 x14_1).f1))).setCell ⟨gb169, 2, none⟩ (.int .i64 ((rd_T42 l0 x14_1).f2))).heap[gb169]? = some (.cells #[.int .i64 ((rd_T42 l0 x14_1).f0), .int .i64 ((rd_T42 l0 x14_1).f1), .int .i64 ((rd_T42 l0 x14_1).f2)] 42 (0, 0))) := ⟨by (with_reducible repeat (first | refine blk_drewN ?_ _ | refine blk_drew ?_ | refine blk_alloc ?_ _)); refine blk_put (cs := #[.int .i64 ((rd_T42 l0 x14_1).f0), .int .i64 ((rd_T42 l0 x14_1).f1), .int .i64 0]) ?_ 2 _ rfl; (with_reducible repeat (first | refine blk_drewN ?_ _ | refine blk_drew ?_ | refine blk_alloc ?_ _)); refine blk_put (cs := #[.int .i64 ((rd_T42 l0 x14_1).f0), .int .i64 0, .int .i64 0]) ?_ 1 _ rfl; (with_reducible repeat (first | refine blk_drewN ?_ _ | refine blk_drew ?_ | refine blk_alloc ?_ _)); refine blk_put (cs := #[.int .i64 0, .int .i64 0, .int .i64 0]) ?_ 0 _ rfl; (with_reducible repeat (first | refine blk_drewN ?_ _ | refine blk_drew ?_ | refine blk_alloc ?_ _)); exact BK169.out⟩
                        have n2_ : Aside0 (Below w.heap.size w (((w57.setCell ⟨gb169, 0, none⟩ (.int .i64 ((rd_T42 l0 x14_1).f0))).setCell ⟨gb169, 1, none⟩ (.int .i64 ((rd_T42 l0 x14_1).f1))).setCell ⟨gb169, 2, none⟩ (.int .i64 ((rd_T42 l0 x14_1).f2)))) := ⟨by repeat (first | (with_reducible first | exact HB.out | apply below_alloc | apply pw_below_drewN | apply below_drew1 | refine below_set ?_ GE169.out) | exact HB.out)⟩
                        (try clear HO_3)
                        (try clear BK169)
                        (try clear HB)
                        generalize (((w57.setCell ⟨gb169, 0, none⟩ (.int .i64 ((rd_T42 l0 x14_1).f0))).setCell ⟨gb169, 1, none⟩ (.int .i64 ((rd_T42 l0 x14_1).f1))).setCell ⟨gb169, 2, none⟩ (.int .i64 ((rd_T42 l0 x14_1).f2))) = w60 at n0_ n1_ n2_ ⊢
                        have HO_3 := n0_
                        have BK169 := n1_
                        have HB := n2_
                        clear n0_ n1_ n2_
                        have n0_ := Aside0.mk (Kd.S_drew HO_3.out)
                        have n1_ := Aside0.mk (blk_drew BK169.out)
                        have n2_ := Aside0.mk (below_drew1 HB.out)
                        clear HO_3
                        clear BK169
                        clear HB
                        have HO_3 := n0_
                        have BK169 := n1_
                        have HB := n2_
                        clear n0_ n1_ n2_
                        have p178 : 0 ≤ ((ji30) : Int) := of_decide_eq_true (by first | (with_reducible assumption) | assumption)
                        have q178 : (ji30) < (x3_1.length : Int) := of_decide_eq_true (by first | (with_reducible assumption) | assumption)
                        obtain ⟨ad178, A178_0, c178_0, e178, hx178_0, hl178_0, hi178_0⟩ := at_T39 (Kd.S_reads' HO_3.out).2.2 (ji30) p178 q178
                        cases e178
                        obtain ⟨ce178, hce178, hMe178, hcc178⟩ := Kd.S_get HO_3.out z39 (ji30) p178 (by first | exact q178 | exact of_decide_eq_true (by first | (with_reducible assumption) | assumption) | (have e_ := (Kd.S_reads' HO_3.out).1; omega))
                        obtain ⟨ve178_0, rfl, ge178_0⟩ := k39_openM hMe178
                        have hv178_0 := hcc178 0 _ rfl
                        rw [Nat.add_zero, show (k39).sz = 1 from rfl, Nat.mul_one] at hv178_0
                        replace hv178_0 := Option.some.inj (hv178_0.symm.trans hx178_0)
                        rw [hv178_0] at ge178_0
                        have HL178_0 := Aside0.mk (show Kd.R k42 42 _ _ _ _ ((rd_T39 x3_1 (ji30)).f0) from ge178_0)
                        clear hv178_0 ge178_0
                        have HX178_0 := Aside0.mk hx178_0
                        clear hcc178 hce178
                        have HR178_0 := Aside0.mk hi178_0
                        have HC178_0 := Aside0.mk hl178_0
                        clear hi178_0 hl178_0
                        replace p178 := eq_true p178
                        replace q178 := eq_true q178
                        go_wp2
                        refine start_ (n := 11) (S := fun w' => w'.cell? ⟨gb169, 0, none⟩ = some (.int .i64 ((rd_T42 l0 x14_1).f0)) ∧ w'.cell? ⟨gb169, 1, none⟩ = some (.int .i64 ((rd_T42 l0 x14_1).f1)) ∧ w'.cell? ⟨gb169, 2, none⟩ = some (.int .i64 ((rd_T42 l0 x14_1).f2)) ∧ w'.cell? (ad178.add ((ji30)).toNat) = some (.slice A178_0 ((rd_T39 x3_1 (ji30)).f0).length c178_0)) (ds := []) #[false, false, false, false, false, false, false, false, false, false, false] (by kernel_rfl) rfl rfl ⟨(blk_cell BK169.out 0).trans rfl, (blk_cell BK169.out 1).trans rfl, (blk_cell BK169.out 2).trans rfl, hx178_0⟩ (fun hHeld => ?_); refine with_tabW impl_PackPages.tab8 impl_PackPages.bits8 (fun HT_ HW_ => ?_)
                        generalize w60.drew = w61 at HO_3 BK169 HB HL178_0 HR178_0 HX178_0 hx178_0 hHeld ⊢
                        refine pure_ (i := 0) (N := some 20) (v := ?_) (a' := ?_) #[true, false, false, false, false, false, false, false, false, false, false] rfl rfl (any_of HT_.out (by kernel_rfl)) (fun _ _ _ h => h) (Or.inl ⟨by rfl, ?_⟩) ?_ ?_
                        rotate_left
                        · intro w'
                          go_simp
                          with_reducible rfl
                        rotate_left
                        · simp only [Act.put, List.setIfInBounds_toArray, List.set_cons_zero, List.set_cons_succ, i64_w, i32_w]
                          rfl
                        refine pure_ (i := 1) (N := some 21) (v := ?_) (a' := ?_) #[true, true, false, false, false, false, false, false, false, false, false] rfl rfl (any_of HT_.out (by kernel_rfl)) (fun _ _ _ h => h) (Or.inl ⟨by rfl, ?_⟩) ?_ ?_
                        rotate_left
                        · intro w'
                          go_simp
                          with_reducible rfl
                        rotate_left
                        · simp only [Act.put, List.setIfInBounds_toArray, List.set_cons_zero, List.set_cons_succ, i64_w, i32_w]
                          rfl
                        refine pure_ (i := 2) (N := some 22) (v := ?_) (a' := ?_) #[true, true, true, false, false, false, false, false, false, false, false] rfl rfl (any_of HT_.out (by kernel_rfl)) (fun _ _ _ h => h) (Or.inl ⟨by rfl, ?_⟩) ?_ ?_
                        rotate_left
                        · intro w'
                          go_simp
                          with_reducible rfl
                        rotate_left
                        · simp only [Act.put, List.setIfInBounds_toArray, List.set_cons_zero, List.set_cons_succ, i64_w, i32_w]
                          rfl
                        refine pure_ (i := 3) (N := some 23) (v := ?_) (a' := ?_) #[true, true, true, true, false, false, false, false, false, false, false] rfl rfl (any_of HT_.out (by kernel_rfl)) (fun _ _ _ h => h) (Or.inl ⟨by rfl, ?_⟩) ?_ ?_
                        rotate_left
                        · intro w'
                          go_simp
                          with_reducible rfl
                        rotate_left
                        · simp only [Act.put, List.setIfInBounds_toArray, List.set_cons_zero, List.set_cons_succ, i64_w, i32_w]
                          rfl
                        refine pure_ (i := 4) (N := some 24) (v := ?_) (a' := ?_) #[true, true, true, true, true, false, false, false, false, false, false] rfl rfl (any_of HT_.out (by kernel_rfl)) (fun _ _ _ h => h) (Or.inl ⟨by rfl, ?_⟩) ?_ ?_
                        rotate_left
                        · intro w'
                          go_simp
                          with_reducible rfl
                        rotate_left
                        · simp only [Act.put, List.setIfInBounds_toArray, List.set_cons_zero, List.set_cons_succ, i64_w, i32_w]
                          rfl
                        refine pure_ (i := 5) (N := some 25) (v := ?_) (a' := ?_) #[true, true, true, true, true, true, false, false, false, false, false] rfl rfl (any_of HT_.out (by kernel_rfl)) (fun _ _ _ h => h) (Or.inl ⟨by rfl, ?_⟩) ?_ ?_
                        rotate_left
                        · intro w'
                          go_simp
                          with_reducible rfl
                        rotate_left
                        · simp only [Act.put, List.setIfInBounds_toArray, List.set_cons_zero, List.set_cons_succ, i64_w, i32_w]
                          rfl
                        refine pure_ (i := 6) (N := some 26) (v := ?_) (a' := ?_) #[true, true, true, true, true, true, true, false, false, false, false] rfl rfl (any_of HT_.out (by kernel_rfl)) (fun _ _ _ h => h) (Or.inl ⟨by rfl, ?_⟩) ?_ ?_
                        rotate_left
                        · intro w'
                          go_simp
                          with_reducible rfl
                        rotate_left
                        · simp only [Act.put, List.setIfInBounds_toArray, List.set_cons_zero, List.set_cons_succ, i64_w, i32_w]
                          rfl
                        refine take_ (i := 7) (N := some 27) (v := ?_) (a' := ?_) #[true, true, true, true, true, true, true, true, false, false, false] rfl rfl (take_ofW HT_.out HW_.out (by kernel_rfl)) (fun _ _ _ h => h) (Or.inl ⟨by rfl, ?_⟩) hHeld ?_ ?_
                        rotate_left
                        · rintro w' ⟨s0, s1, s2, s3⟩
                          go_simp
                          with_reducible rfl
                        rotate_left
                        · simp only [Act.put, List.setIfInBounds_toArray, List.set_cons_zero, List.set_cons_succ, i64_w, i32_w]
                          rfl
                        refine take_ (i := 8) (N := some 28) (v := ?_) (a' := ?_) #[true, true, true, true, true, true, true, true, true, false, false] rfl rfl (take_ofW HT_.out HW_.out (by kernel_rfl)) (fun _ _ _ h => h) (Or.inl ⟨by rfl, ?_⟩) hHeld ?_ ?_
                        rotate_left
                        · rintro w' ⟨s0, s1, s2, s3⟩
                          go_simp
                          with_reducible rfl
                        rotate_left
                        · simp only [Act.put, List.setIfInBounds_toArray, List.set_cons_zero, List.set_cons_succ, i64_w, i32_w]
                          rfl
                        refine one_ (i := 9) (N := some 29) #[true, true, true, true, true, true, true, true, true, true, false] rfl rfl (one_of HT_.out (by kernel_rfl)) (by decide) (fun K hK => ?_)
                        refine goes_ Try.func20 (by kernel_rfl) rfl #[.agg #[.slice A178_0 ((rd_T39 x3_1 (ji30)).f0).length c178_0], .agg #[.int .i64 ((rd_T42 l0 x14_1).f0), .int .i64 ((rd_T42 l0 x14_1).f1), .int .i64 ((rd_T42 l0 x14_1).f2)]] (by rfl) rfl rfl (by (try simp only [List.map_toArray, List.map_cons, List.map_nil]); first | done | (simp only [hji30]; rfl) | rfl | (simp only [List.length_drop, List.length_take]; rfl)) ?_
                        with_reducible refine (impl_WouldOverflow.calls k1 _ _ ((rd_T39 x3_1 (ji30)).f0) ((rd_T42 l0 x14_1).f0) ((rd_T42 l0 x14_1).f1) ((rd_T42 l0 x14_1).f2) false _ ?side1 ?side2 A33.out).mono ?_
                        (case side1 => repeat (first | exact (by repeat (first | (with_reducible exact HR178_0.out) | (with_reducible refine Kd.C_alloc ?_ _) | (with_reducible refine Kd.C_drewN ?_ _) | (with_reducible refine Kd.C_drew ?_) | exact HR178_0.out)) | (with_reducible refine Kd.C_alloc ?_ _) | (with_reducible refine Kd.C_drewN ?_ _) | (with_reducible refine Kd.C_drew ?_)))
                        (case side2 => exact HC178_0.out)
                        rintro e w62 ⟨rfl, hb⟩
                        have HS3_ := (hb.cell (World.block_lt_of_cell? _ _ (hHeld.2.2.2))).trans (hHeld.2.2.2)
                        refine ⟨_, rfl, ?_⟩
                        have n0_ := Aside0.mk (Kd.S_below (by (with_reducible repeat (first | apply Kd.S_alloc | apply Kd.S_drewN | apply Kd.S_drew)); exact HO_3.out) hb)
                        have n1_ := Aside0.mk (Kd.R_below (by (with_reducible repeat (first | apply Kd.R_alloc | apply Kd.R_drewN | apply Kd.R_drew)); exact HL178_0.out) hb)
                        have n2_ := Aside0.mk (blk_below (g := gb169) (o := .cells #[.int .i64 ((rd_T42 l0 x14_1).f0), .int .i64 ((rd_T42 l0 x14_1).f1), .int .i64 ((rd_T42 l0 x14_1).f2)] 42 (0, 0)) (by (with_reducible repeat (first | refine blk_drewN ?_ _ | refine blk_drew ?_ | refine blk_alloc ?_ _)); exact BK169.out) hb)
                        have n3_ := Aside0.mk (Kd.C_below (by repeat (first | (with_reducible exact HR178_0.out) | (with_reducible refine Kd.C_alloc ?_ _) | (with_reducible refine Kd.C_drewN ?_ _) | (with_reducible refine Kd.C_drew ?_) | exact HR178_0.out)) hb)
                        have n4_ := Aside0.mk (pw_cell_below hb HX178_0.out)
                        have n5_ := Aside0.mk (below_step (by repeat (first | (with_reducible first | exact HB.out | apply below_alloc | apply pw_below_drewN | apply below_drew1 | refine below_set ?_ GE169.out) | exact HB.out)) hb)
                        clear HO_3
                        clear HL178_0
                        clear BK169
                        clear HR178_0
                        clear HX178_0
                        clear HB
                        have HO_3 := n0_
                        have HL178_0 := n1_
                        have BK169 := n2_
                        have HR178_0 := n3_
                        have HX178_0 := n4_
                        have HB := n5_
                        clear n0_ n1_ n2_ n3_ n4_ n5_
                        (try clear hb)
                        (try clear hb2)
                        (try clear hk)
                        (try clear hi)
                        refine hK.out _ _ ⟨(blk_cell BK169.out 0).trans rfl, (blk_cell BK169.out 1).trans rfl, (blk_cell BK169.out 2).trans rfl, HS3_⟩ (fun hHeld => ?_)
                        clear hK K
                        refine norm_ (a' := ?_) ?_ ?_
                        rotate_left
                        · show Act.put _ (some 29) _ = _
                          simp only [Act.put, List.setIfInBounds_toArray, List.set_cons_zero, List.set_cons_succ, i64_w, i32_w]
                          rfl
                        refine pure_ (i := 10) (N := some 30) (v := ?_) (a' := ?_) #[true, true, true, true, true, true, true, true, true, true, true] rfl rfl (any_of HT_.out (by kernel_rfl)) (fun _ _ _ h => h) (Or.inl ⟨by rfl, ?_⟩) ?_ ?_
                        rotate_left
                        · intro w'
                          go_simp
                          with_reducible rfl
                        rotate_left
                        · simp only [Act.put, List.setIfInBounds_toArray, List.set_cons_zero, List.set_cons_succ, i64_w, i32_w]
                          rfl
                        refine done_ (done_of HT_.out (by kernel_rfl)) ?_
                        try go_wp2
                        have n0_ := Aside0.mk (Kd.S_drew HO_3.out)
                        have n1_ := Aside0.mk (Kd.R_drew HL178_0.out)
                        have n2_ := Aside0.mk (blk_drew BK169.out)
                        have n3_ := Aside0.mk (Kd.C_drew HR178_0.out)
                        have n4_ := Aside0.mk (below_drew1 HB.out)
                        clear HO_3
                        clear HL178_0
                        clear BK169
                        clear HR178_0
                        clear HB
                        have HO_3 := n0_
                        have HL178_0 := n1_
                        have BK169 := n2_
                        have HR178_0 := n3_
                        have HB := n4_
                        clear n0_ n1_ n2_ n3_ n4_
                        have p188 : 0 ≤ ((ji30) : Int) := of_decide_eq_true (by first | (with_reducible assumption) | assumption)
                        have q188 : (ji30) < (x3_1.length : Int) := of_decide_eq_true (by first | (with_reducible assumption) | assumption)
                        obtain ⟨ad188, A188_0, c188_0, e188, hx188_0, hl188_0, hi188_0⟩ := at_T39 (Kd.S_reads' HO_3.out).2.2 (ji30) p188 q188
                        obtain rfl : ad178 = ad188 := (by injection e188)
                        obtain ⟨ce188, hce188, hMe188, hcc188⟩ := Kd.S_get HO_3.out z39 (ji30) p188 (by first | exact q188 | exact of_decide_eq_true (by first | (with_reducible assumption) | assumption) | (have e_ := (Kd.S_reads' HO_3.out).1; omega))
                        obtain ⟨ve188_0, rfl, ge188_0⟩ := k39_openM hMe188
                        have hv188_0 := hcc188 0 _ rfl
                        rw [Nat.add_zero, show (k39).sz = 1 from rfl, Nat.mul_one] at hv188_0
                        replace hv188_0 := Option.some.inj (hv188_0.symm.trans hx188_0)
                        rw [hv188_0] at ge188_0
                        have HL188_0 := Aside0.mk (show Kd.R k42 42 _ _ _ _ ((rd_T39 x3_1 (ji30)).f0) from ge188_0)
                        clear hv188_0 ge188_0
                        have HX188_0 := Aside0.mk hx188_0
                        clear hcc188 hce188
                        have HR188_0 := Aside0.mk hi188_0
                        have HC188_0 := Aside0.mk hl188_0
                        clear hi188_0 hl188_0
                        replace p188 := eq_true p188
                        replace q188 := eq_true q188
                        obtain ⟨go64, co64, eo64, gb64, gl64, cl64, HG64⟩ := Kd.S_form HO_3.out (by have h_ : ((ji30) : Int) < ((x3_1.length : Int) : Int) := of_decide_eq_true (by first | (with_reducible assumption) | assumption); have h2_ : 0 ≤ ((ji30) : Int) := (of_decide_eq_true (by first | (with_reducible assumption) | assumption)); omega)
                        (first | cases eo64 | (injection eo64 with ea_ en_ ec_; (first | subst ea_ | (injection ea_ with ea_; subst ea_)); subst ec_; clear en_))
                        have GB64 := Aside0.mk gb64
                        have GG64 := Aside0.mk HG64
                        clear gb64 gl64 HG64
                        (first | simp only [add_plain] at hx178_0 | skip)
                        (first | simp only [add_plain] at hx188_0 | skip)
                        obtain ⟨oki64, ce64, hcl64, hM64, hcc64, _, _, hH64⟩ := Kd.S_elem HO_3.out z39 ((ji30) : Int) (of_decide_eq_true (by first | (with_reducible assumption) | assumption)) (by have h_ : ((ji30) : Int) < ((x3_1.length : Int) : Int) := of_decide_eq_true (by first | (with_reducible assumption) | assumption); first | exact h_ | (have e_ := (Kd.S_reads' HO_3.out).1; omega) | simpa using h_)
                        obtain ⟨ve64_0, rfl, ge64_0⟩ := k39_openM hM64
                        have hv64 := hcc64 0 _ rfl
                        have hX64 := HX188_0.out
                        (try simp only [add_plain] at hX64)
                        (try simp only [Nat.add_zero] at hv64)
                        (try rw [show (k39).sz = 1 from rfl, Nat.mul_one] at hv64)
                        replace hv64 := Option.some.inj (hv64.symm.trans hX64)
                        subst hv64
                        clear hX64 hcc64 hcl64
                        have UU64 := Aside0.mk (show Kd.R k42 42 _ w.heap.size oki64 (.slice A188_0 ((rd_T39 x3_1 (ji30)).f0).length c188_0) ((rd_T39 x3_1 (ji30)).f0) from ge64_0)
                        have HH64 := Aside0.mk hH64
                        have HN64 := Aside0.mk (Kd.S_reads' HO_3.out).1
                        clear hH64 ge64_0
                        go_wp2
                        refine start_ (n := 11) (S := fun w' => w'.cell? ⟨gb169, 0, none⟩ = some (.int .i64 ((rd_T42 l0 x14_1).f0)) ∧ w'.cell? ⟨gb169, 1, none⟩ = some (.int .i64 ((rd_T42 l0 x14_1).f1)) ∧ w'.cell? ⟨gb169, 2, none⟩ = some (.int .i64 ((rd_T42 l0 x14_1).f2)) ∧ w'.cell? ⟨go64, ((ji30)).toNat, none⟩ = some (.slice A188_0 ((rd_T39 x3_1 (ji30)).f0).length c188_0)) (ds := [10]) #[false, false, false, false, false, false, false, false, false, false, false] (by kernel_rfl) rfl rfl ⟨(blk_cell BK169.out 0).trans rfl, (blk_cell BK169.out 1).trans rfl, (blk_cell BK169.out 2).trans rfl, hx188_0⟩ (fun hHeld => ?_); refine with_tabW impl_PackPages.tab11 impl_PackPages.bits11 (fun HT_ HW_ => ?_)
                        generalize w62.drew = w63 at HO_3 HL178_0 BK169 HR178_0 HB GG64 HH64 HL188_0 HR188_0 HX188_0 UU64 hx178_0 hx188_0 hHeld ⊢
                        refine pure_ (i := 0) (N := some 40) (v := ?_) (a' := ?_) #[true, false, false, false, false, false, false, false, false, false, false] rfl rfl (any_of HT_.out (by kernel_rfl)) (fun _ _ _ h => h) (Or.inl ⟨by rfl, ?_⟩) ?_ ?_
                        rotate_left
                        · intro w'
                          go_simp
                          with_reducible rfl
                        rotate_left
                        · simp only [Act.put, List.setIfInBounds_toArray, List.set_cons_zero, List.set_cons_succ, i64_w, i32_w]
                          rfl
                        refine pure_ (i := 1) (N := some 41) (v := ?_) (a' := ?_) #[true, true, false, false, false, false, false, false, false, false, false] rfl rfl (any_of HT_.out (by kernel_rfl)) (fun _ _ _ h => h) (Or.inl ⟨by rfl, ?_⟩) ?_ ?_
                        rotate_left
                        · intro w'
                          go_simp
                          with_reducible rfl
                        rotate_left
                        · simp only [Act.put, List.setIfInBounds_toArray, List.set_cons_zero, List.set_cons_succ, i64_w, i32_w]
                          rfl
                        refine pure_ (i := 2) (N := some 42) (v := ?_) (a' := ?_) #[true, true, true, false, false, false, false, false, false, false, false] rfl rfl (any_of HT_.out (by kernel_rfl)) (fun _ _ _ h => h) (Or.inl ⟨by rfl, ?_⟩) ?_ ?_
                        rotate_left
                        · intro w'
                          go_simp
                          with_reducible rfl
                        rotate_left
                        · simp only [Act.put, List.setIfInBounds_toArray, List.set_cons_zero, List.set_cons_succ, i64_w, i32_w]
                          rfl
                        refine pure_ (i := 3) (N := some 43) (v := ?_) (a' := ?_) #[true, true, true, true, false, false, false, false, false, false, false] rfl rfl (any_of HT_.out (by kernel_rfl)) (fun _ _ _ h => h) (Or.inl ⟨by rfl, ?_⟩) ?_ ?_
                        rotate_left
                        · intro w'
                          go_simp
                          with_reducible rfl
                        rotate_left
                        · simp only [Act.put, List.setIfInBounds_toArray, List.set_cons_zero, List.set_cons_succ, i64_w, i32_w]
                          rfl
                        refine take_ (i := 4) (N := some 44) (v := ?_) (a' := ?_) #[true, true, true, true, true, false, false, false, false, false, false] rfl rfl (take_ofW HT_.out HW_.out (by kernel_rfl)) (fun _ _ _ h => h) (Or.inl ⟨by rfl, ?_⟩) hHeld ?_ ?_
                        rotate_left
                        · rintro w' ⟨s0, s1, s2, s3⟩
                          go_simp
                          with_reducible rfl
                        rotate_left
                        · simp only [Act.put, List.setIfInBounds_toArray, List.set_cons_zero, List.set_cons_succ, i64_w, i32_w]
                          rfl
                        refine take_ (i := 5) (N := some 45) (v := ?_) (a' := ?_) #[true, true, true, true, true, true, false, false, false, false, false] rfl rfl (take_ofW HT_.out HW_.out (by kernel_rfl)) (fun _ _ _ h => h) (Or.inl ⟨by rfl, ?_⟩) hHeld ?_ ?_
                        rotate_left
                        · rintro w' ⟨s0, s1, s2, s3⟩
                          go_simp
                          with_reducible rfl
                        rotate_left
                        · simp only [Act.put, List.setIfInBounds_toArray, List.set_cons_zero, List.set_cons_succ, i64_w, i32_w]
                          rfl
                        refine one_ (i := 6) (N := some 46) #[true, true, true, true, true, true, true, false, false, false, false] rfl rfl (one_of HT_.out (by kernel_rfl)) (by decide) (fun K hK => ?_)
                        refine value_ (w1 := ?_) (v := ?_) (by rfl) rfl ?_ ?_
                        rotate_left 2
                        · go_simp
                          constructor
                          · rfl
                          · rfl
                        refine hK.out _ _ ⟨(blk_cell (blk_alloc BK169.out _) 0).trans rfl, (blk_cell (blk_alloc BK169.out _) 1).trans rfl, (blk_cell (blk_alloc BK169.out _) 2).trans rfl, (World.cell?_alloc_lt _ _ _ (World.block_lt_of_cell? _ _ (hHeld.2.2.2))).trans (hHeld.2.2.2)⟩ (fun hHeld => ?_)
                        clear hK K
                        refine norm_ (a' := ?_) ?_ ?_
                        rotate_left
                        · show Act.put _ (some 46) _ = _
                          simp only [Act.put, List.setIfInBounds_toArray, List.set_cons_zero, List.set_cons_succ, i64_w, i32_w]
                          rfl
                        refine one_ (i := 7) (N := some 47) #[true, true, true, true, true, true, true, true, false, false, false] rfl rfl (one_of HT_.out (by kernel_rfl)) (by decide) (fun K hK => ?_)
                        refine Kd.R_append_step k42 (w0 := w) w.heap.size (by rfl) (.tmp 44) (.tmp 46) 26 42 (.agg #[(.int .i64 0), (.int .i64 0), (.int .i64 0)]) 24 rfl Try.underlying26 info42 rfl (by decide) (by omega) (.slice A188_0 ((rd_T39 x3_1 (ji30)).f0).length c188_0) ((rd_T39 x3_1 (ji30)).f0) (⟨(rd_T42 l0 x14_1).f0, (rd_T42 l0 x14_1).f1, (rd_T42 l0 x14_1).f2⟩ : S42) [.int .i64 ((rd_T42 l0 x14_1).f0), .int .i64 ((rd_T42 l0 x14_1).f1), .int .i64 ((rd_T42 l0 x14_1).f2)] (fun k_ => oki64 k_ ∨ ((fun k_ => k_ ≠ gb169)) k_ ∧ w63.heap.size ≤ k_) (fun _ => False) rfl rfl ?aP (fun _ hk => hk.elim) ?aF ?aO ?aB ?aS ?aL ?_
                        (case aP => exact k42_mkM _ _ _ (⟨(rd_T42 l0 x14_1).f0, (rd_T42 l0 x14_1).f1, (rd_T42 l0 x14_1).f2⟩ : S42))
                        (case aB => exact (by repeat (first | (with_reducible first | exact HB.out | apply below_alloc | apply pw_below_drewN | apply below_drew1 | refine below_set ?_ GE169.out) | exact HB.out)))
                        (case aF => exact (fun k_ hk => .inr ⟨Kd.freshB (g := gb169) (o := .cells #[.int .i64 ((rd_T42 l0 x14_1).f0), .int .i64 ((rd_T42 l0 x14_1).f1), .int .i64 ((rd_T42 l0 x14_1).f2)] 42 (0, 0)) (by (with_reducible repeat (first | refine blk_drewN ?_ _ | refine blk_drew ?_ | refine blk_alloc ?_ _)); exact BK169.out) k_ hk, hk⟩))
                        (case aO => exact (by (with_reducible repeat (first | apply Kd.R_alloc | apply Kd.R_drewN | apply Kd.R_drew)); exact Kd.R_mono UU64.out (fun _ hk => .inl hk)))
                        (case aS => exact (below_size (by repeat (first | (with_reducible first | exact HB.out | apply below_alloc | apply pw_below_drewN | apply below_drew1 | refine below_set ?_ GE169.out) | exact HB.out))))
                        (case aL => have := LMc55.out; omega)
                        intro v190 w65 ho hb hg hat
                        (first | have HS3_ := cell_grown hg (hHeld.2.2.2) (by first | (rw [add_block]; exact (fun e_ => ((HL188_0.out.1 _ e_.symm).2) rfl)) | (show some (Addr.add _ _).block ≠ _; rw [add_block]; exact (fun e_ => ((HL188_0.out.1 _ e_.symm).2) rfl)) | exact (fun e_ => ((HL188_0.out.1 _ e_.symm).2) rfl)) | have HS3_ := cell_grown hg (cell_unalloc (hHeld.2.2.2) (by first | (rw [add_block]; exact Kd.S_lt HO_3.out _ rfl) | (show (Addr.add _ _).block < _; rw [add_block]; exact Kd.S_lt HO_3.out _ rfl) | exact Kd.S_lt HO_3.out _ rfl)) (by first | (rw [add_block]; exact (fun e_ => ((HL188_0.out.1 _ e_.symm).2) rfl)) | (show some (Addr.add _ _).block ≠ _; rw [add_block]; exact (fun e_ => ((HL188_0.out.1 _ e_.symm).2) rfl)) | exact (fun e_ => ((HL188_0.out.1 _ e_.symm).2) rfl)))
                        rw [← Ny189.out] at ho
                        have n0_ := Aside0.mk (blk_grown (g := gb169) (o := .cells #[.int .i64 ((rd_T42 l0 x14_1).f0), .int .i64 ((rd_T42 l0 x14_1).f1), .int .i64 ((rd_T42 l0 x14_1).f2)] 42 (0, 0)) (by (with_reducible repeat (first | refine blk_drewN ?_ _ | refine blk_drew ?_ | refine blk_alloc ?_ _)); exact BK169.out) hg (Kd.R_away HL188_0.out (fun _ hk => hk.1)))
                        have n1_ := Aside0.mk (hb)
                        have n2_ := Aside0.mk (Kd.H_grown (Kd.H_widen (by repeat (first | exact HH64.out | refine Kd.H_alloc ?_ _ | refine Kd.H_drewN ?_ _ | refine Kd.H_drew ?_))) hg (fun k_ e_ => .inl (UU64.out.1 k_ e_)))
                        have n3_ := Aside0.mk (ho)
                        clear BK169
                        clear HB
                        clear HH64
                        clear HO_3
                        clear UU64
                        clear HL178_0
                        clear HL188_0
                        have BK169 := n0_
                        have HB := n1_
                        have HH64 := n2_
                        have HO191 := n3_
                        clear n0_ n1_ n2_ n3_
                        clear ho hb hg hat
                        have p56 : 0 ≤ ((ji30) : Int) := of_decide_eq_true (by first | (with_reducible assumption) | assumption)
                        have q56 : ((ji30) : Int) < ((x3_1.length : Int) : Int) := of_decide_eq_true (by first | (with_reducible assumption) | assumption)
                        replace p56 := eq_true p56
                        replace q56 := eq_true q56
                        obtain ⟨Ao68, co68, eo68⟩ := Kd.R_slice HO191.out
                        (first | subst eo68 | (injection eo68 with f1_ f2_ f3_; have f4_ := f1_.symm; have f5_ := f3_.symm; clear f1_ f2_ f3_; subst f4_; subst f5_))
                        obtain ⟨_, _, hraw66, _, _, hcc66, _⟩ := Kd.H_raw HH64.out (of_decide_eq_true (by first | (with_reducible assumption) | assumption)) (by have h_ : ((ji30) : Int) < ((x3_1.length : Int) : Int) := of_decide_eq_true (by first | (with_reducible assumption) | assumption); first | exact h_ | (have e_ := (HN64.out); omega) | simpa using h_)
                        obtain ⟨_, hfr66⟩ := Kd.H_at HH64.out (of_decide_eq_true (by first | (with_reducible assumption) | assumption)) (by have h_ : ((ji30) : Int) < ((x3_1.length : Int) : Int) := of_decide_eq_true (by first | (with_reducible assumption) | assumption); first | exact h_ | (have e_ := (HN64.out); omega) | simpa using h_)
                        have hx66_0 := hcc66 0 _ rfl
                        have hf66_0 := hfr66 0
                        (try simp only [Nat.add_zero] at hx66_0 hf66_0)
                        (try rw [show (k39).sz = 1 from rfl, Nat.mul_one] at hx66_0)
                        (try rw [show (k39).sz = 1 from rfl, Nat.mul_one] at hf66_0)
                        have HP66 := Kd.S_seg0 HH64.out (of_decide_eq_true (by first | (with_reducible assumption) | assumption)) (by have h_ : ((ji30) : Int) < ((x3_1.length : Int) : Int) := of_decide_eq_true (by first | (with_reducible assumption) | assumption); first | exact h_ | (have e_ := (HN64.out); omega) | simpa using h_) (seg := [.slice Ao68 y189.length co68]) (j := 0) (show 1 ≤ 1 from by decide) (x' := (⟨y189⟩ : S39)) (k39_mkM _ _ _ (⟨y189⟩ : S39) HO191.out) (fun _ hk => hk)
                        (try simp only [show (k39).sz = 1 from rfl, Nat.mul_one, Nat.add_zero] at HP66)
                        clear hcc66 hfr66
                        have HNB169_go64 := Aside0.mk (show gb169 ≠ go64 from by have h_ := Kd.R_ne hraw66 BK169.out (by decide); intro e_; exact h_ (by rw [e_]; rfl))
                        have HS66 := HP66.1
                        rw [← Ny192.out] at HS66
                        have HQ66 := Aside0.mk HS66
                        obtain ⟨_, hgg66⟩ := Kd.R_typed hraw66 go64 rfl
                        have GG66_ := Aside0.mk hgg66
                        clear HP66 HS66 hgg66
                        refine hK.out _ _ ⟨(blk_cell BK169.out 0).trans rfl, (blk_cell BK169.out 1).trans rfl, (blk_cell BK169.out 2).trans rfl, HS3_⟩ (fun hHeld => ?_)
                        clear hK K
                        refine norm_ (a' := ?_) ?_ ?_
                        rotate_left
                        · show Act.put _ (some 47) _ = _
                          simp only [Act.put, List.setIfInBounds_toArray, List.set_cons_zero, List.set_cons_succ, i64_w, i32_w]
                          rfl
                        refine pure_ (i := 8) (N := some 48) (v := ?_) (a' := ?_) #[true, true, true, true, true, true, true, true, true, false, false] rfl rfl (any_of HT_.out (by kernel_rfl)) (fun _ _ _ h => h) (Or.inl ⟨by rfl, ?_⟩) ?_ ?_
                        rotate_left
                        · intro w'
                          go_simp
                          with_reducible rfl
                        rotate_left
                        · simp only [Act.put, List.setIfInBounds_toArray, List.set_cons_zero, List.set_cons_succ, i64_w, i32_w]
                          rfl
                        refine pure_ (i := 9) (N := some 49) (v := ?_) (a' := ?_) #[true, true, true, true, true, true, true, true, true, true, false] rfl rfl (any_of HT_.out (by kernel_rfl)) (fun _ _ _ h => h) (Or.inl ⟨by rfl, ?_⟩) ?_ ?_
                        rotate_left
                        · intro w'
                          go_simp
                          with_reducible rfl
                        rotate_left
                        · simp only [Act.put, List.setIfInBounds_toArray, List.set_cons_zero, List.set_cons_succ, i64_w, i32_w]
                          rfl
                        refine last_ (i := 10) (N := none) #[true, true, true, true, true, true, true, true, true, true, true] rfl rfl (one_of HT_.out (by kernel_rfl)) (by decide) (fun K hK => ?_)
                        refine skip_ (w1 := ?_) (by rfl) rfl ?_ ?_
                        rotate_left
                        · go_simp
                          rfl
                        refine hK.out _ _ ?_
                        clear hK K
                        refine done_ (done_of HT_.out (by kernel_rfl)) ?_
                        try go_wp2
                        go_roundg k1
                        case measure => have := HK1.out; omega
                        case rel => exact ⟨(y192), (wrap64 (x14_1 + 1)), (by first | rfl | (simp; done) | (simp [*]; done)), H', ⟨by have := HK1.out; omega⟩, ⟨by (with_reducible repeat (first | apply Kd.S_alloc | apply Kd.S_drewN | apply Kd.S_drew)); exact Kd.S_mono HQ66.out (fun _ hk => trivial)⟩, ⟨by repeat (first | (with_reducible first | exact HB.out | apply below_alloc | apply pw_below_drewN | apply below_drew1 | refine below_set ?_ GB64.out | refine below_set ?_ GE169.out) | exact HB.out)⟩⟩
                      · rw [if_neg c55] at H
                        exact absurd H (by simp)
                  · rw [if_neg c32] at H
                    exact absurd H (by simp)
                · rw [if_neg c31] at H
                  exact absurd H (by simp)
            · rw [if_neg c9] at H
              exact absurd H (by simp)
          · rw [if_neg c8] at H
            exact absurd H (by simp)
        · rw [if_neg c7] at H
          have c7b0 : decide (x14_1 < (l0.length : Int)) = false := decide_eq_false c7
          clear c7
          obtain rfl := Option.some.inj H
          go_wp2
          go_ret
          exact ⟨_, by first | rfl | (simp [errW_none, errW_some] <;> rfl) | (simp [*, errW_none, errW_some] <;> rfl), by (with_reducible repeat (first | apply Kd.S_alloc | apply Kd.S_drewN | apply Kd.S_drew)); exact HO_3.out, by repeat (first | (with_reducible first | exact HB.out | apply below_alloc | apply pw_below_drewN | apply below_drew1) | exact HB.out)⟩
  · replace c3 := Bool.eq_false_iff.mpr c3
    subst c3
    have H1 : (some ([] : List (S39))) = some r := by rw [if_neg (show ¬ (false = true) by decide)] at H; exact H
    clear H
    have H := H1
    clear H1
    obtain rfl := Option.some.inj H
    go_enter Try.func9, Try.ntmps9
    go_wp2_with (first | ((with_reducible refine gate_callee (f := 45) rfl ?_); refine goesL_ (some 9) rfl rfl Try.func45 (by kernel_rfl) rfl #[.slice A0 l0.length c0] rfl (by (try simp only [List.map_toArray, List.map_cons, List.map_nil]); first | done | rfl | (simp only [List.length_drop, List.length_take]; rfl)) ?_; (with_reducible refine (impl_AreValidRows.calls k _ _ l0 false _ ?side1 ?side2 A2.out).mono ?_); (case side1 => repeat (first | exact HR0.out | (with_reducible refine Kd.C_alloc ?_ _) | (with_reducible refine Kd.C_drewN ?_ _) | (with_reducible refine Kd.C_drew ?_))); (case side2 => exact HC0.out); rintro e w69 ⟨rfl, hb⟩; refine ⟨_, rfl, ?_⟩; have n0_ := Aside0.mk (below_step (by repeat (first | (with_reducible first | exact HB.out | apply below_alloc | apply pw_below_drewN | apply below_drew1) | exact HB.out)) hb); clear HB; have HB := n0_; clear n0_; (try clear hb); (try clear hb2); (try clear hk); (try clear hi)))
    go_ret
    exact ⟨_, by first | rfl | (simp [errW_none, errW_some] <;> rfl) | (simp [*, errW_none, errW_some] <;> rfl), by first | exact Kd.S_nil _ _ _ _ _ | exact Kd.N_nil _ _ _ _ _ | exact Kd.V_nil _ _ _ _ _ | exact Kd.Q_nil _ _ _ _ _ | exact Kd.R_nil _ _ _ _ _, by repeat (first | (with_reducible first | exact HB.out | apply below_alloc | apply pw_below_drewN | apply below_drew1) | exact HB.out)⟩

end Go.Proofs.Ytljpfogplcdcjaa.PFnExactPackPages
