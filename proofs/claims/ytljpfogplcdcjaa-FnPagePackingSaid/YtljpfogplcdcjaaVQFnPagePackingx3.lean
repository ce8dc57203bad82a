/- Out of a copy of the print, with function values told: nothing is claimed here. -/
import Derived.Test.YtljpfogplcdcjaaVQFnPagePackingx0
import Derived.Test.YtljpfogplcdcjaaVQFnPagePackingx2
import Derived.Test.YtljpfogplcdcjaaVShort
import Derived.Test.YtljpfogplcdcjaaVPress
namespace Go.Proofs.Ytljpfogplcdcjaa.PFnPagePacking
open Go.RowKit Go.Proofs.YtljpfogplcdcjaaW.PrintWords Go.Proofs.YtljpfogplcdcjaaW.PrintLast Go.Proofs.YtljpfogplcdcjaaW.PrintMore Go.Proofs.Ytljpfogplcdcjaa.Short Go.Proofs.Ytljpfogplcdcjaa.Press
attribute [local go_sem] max2_int min2_int max_two min_two max_three min_three max_four min_four   -- for this text's walks alone
set_option linter.unusedVariables false
set_option linter.unusedSimpArgs false
def spec_PackPages.l0 : Nat → List (S42) → List (S39) → Int → List (S42) → Option ((List (S39)))
 | 0, _, _, _, _ => none
 | k + 1, x0, x3, x5, x120000 => if x5 < (x0.length : Int) then (if 0 ≤ x5 then ((spec_WouldOverflow.f k x120000 ((rd_T42 x0 x5).f0) ((rd_T42 x0 x5).f1) ((rd_T42 x0 x5).f2)).bind fun t121 => (if t121 = true then (if x3.length < 5864062014805 then (if ([] : List (S42)).length < 5864062014805 then (spec_PackPages.l0 k x0 (x3 ++ [(⟨x120000⟩ : S39)]) (wrap64 (x5 + 1)) (([] : List (S42)) ++ [(⟨(rd_T42 x0 x5).f0, (rd_T42 x0 x5).f1, (rd_T42 x0 x5).f2⟩ : S42)])) else (none)) else (none)) else (if x120000.length < 5864062014805 then (spec_PackPages.l0 k x0 x3 (wrap64 (x5 + 1)) (x120000 ++ [(⟨(rd_T42 x0 x5).f0, (rd_T42 x0 x5).f1, (rd_T42 x0 x5).f2⟩ : S42)])) else (none)))) else (none)) else (if (x120000.length : Int) > 0 then (if x3.length < 5864062014805 then (some (x3 ++ [(⟨x120000⟩ : S39)])) else (none)) else (some x3))
def spec_PackPages.f (k : Nat) (l0 : List (S42)) : Option ((List (S39))) := (some (([] : List (S39)) : List (S39))).bind fun y115 => ((spec_AreValidRows.f k l0).bind fun t118 => (if t118 = true then (spec_PackPages.l0 k l0 y115 0 ([] : List (S42))) else (some y115)))
theorem spec_PackPages.mono_l : ∀ k, (∀ y0 y1 y2 y3, LeO (spec_PackPages.l0 k y0 y1 y2 y3) (spec_PackPages.l0 (k + 1) y0 y1 y2 y3))
 | 0 => fun _ _ _ _ r h => by simp [spec_PackPages.l0] at h
 | k + 1 => by
  have ih0 := spec_PackPages.mono_l k
  ·intro y0 y1 y2 y3
   unfold spec_PackPages.l0
   repeat' first
   | (with_reducible exact ih0 _ _ _ _)
   | (with_reducible exact spec_AreValidRows.mono _ _)
   | (with_reducible exact spec_WouldOverflow.mono _ _ _ _ _)
   | (with_reducible exact LeO.refl _)
   | (with_reducible exact LeO.none _)
   | (with_reducible refine LeO.ite ?_ ?_)
   | (with_reducible refine LeO.bind ?_ (fun _ => ?_))
theorem spec_PackPages.mono : ∀ a0 k, LeO (spec_PackPages.f k a0) (spec_PackPages.f (k + 1) a0) := by
 intro a0 k
 have ih0 := spec_PackPages.mono_l k
 unfold spec_PackPages.f
 repeat' first
   | (with_reducible exact ih0 _ _ _ _)
   | (with_reducible exact spec_AreValidRows.mono _ _)
   | (with_reducible exact spec_WouldOverflow.mono _ _ _ _ _)
   | (with_reducible exact LeO.refl _)
   | (with_reducible exact LeO.none _)
   | (with_reducible refine LeO.ite ?_ ?_)
   | (with_reducible refine LeO.bind ?_ (fun _ => ?_))
def spec_PackPages.T11 : Bool × List (List Nat × List Nat) := (true, [([], []), ([0], [0]), ([], []), ([], []), ([2, 3], [2, 3]), ([4], [4]), ([5], [5]), ([1, 6], [1, 6]), ([0, 1, 2, 3, 4, 5, 6, 7], []), ([8, 7, 7, 0, 1, 2, 3, 4, 5, 6, 7], [7, 8])])
def spec_PackPages.B11 : List Nat := [0, 1, 0, 0, 12, 28, 60, 127, 255, 511]
theorem spec_PackPages.tab11 : rtab .any (opsOf Try.f7 11) = spec_PackPages.T11 := by kernel_rfl
theorem spec_PackPages.bits11 : waitsOk spec_PackPages.T11.2 spec_PackPages.B11 = true := by kernel_rfl
set_option maxHeartbeats 8000000 in
set_option maxRecDepth 100000 in
theorem spec_PackPages.calls (k : Nat) (A0 : Option Addr) (c0 : Nat) (l0 : List (S42)) (r : List (S39)) (w : World) (hr0 : Kd.C k42 w A0 l0.length l0) (hc0 : l0.length ≤ c0) (h : spec_PackPages.f k l0 = some r) :
  Calls Try.prog 7 #[.slice A0 l0.length c0] w fun e w' => ∃ v0_ : Value, e = .returned (v0_) ∧ Kd.S k39 39 w' w.heap.size (fun _ => True) v0_ r ∧ Below w.heap.size w w' := by
 have hu39 := Try.underlying39
 have hu42 := Try.underlying42
 have HR0 := kp hr0
 have HC0 := kp hc0
 clear hr0 hc0
 have HB := kp (Below.refl w.heap.size w)
 have H : ((some (([] : List (S39)) : List (S39))).bind fun y115 => ((spec_AreValidRows.f k l0).bind fun t118 => (if t118 = true then (spec_PackPages.l0 k l0 y115 0 ([] : List (S42))) else (some y115)))) = some r := h
 clear h
 obtain ⟨y115, hy115⟩ : ∃ y_ : List (S39), y_ = (([] : List (S39))) := ⟨_, rfl⟩
 replace H : ((spec_AreValidRows.f k l0).bind fun t118 => (if t118 = true then (spec_PackPages.l0 k l0 y115 0 ([] : List (S42))) else (some y115))) = some r := by first | (rw [hy115]; with_reducible exact H) | (have H2_ := (Option.bind_some _ _).symm.trans H; rw [hy115]; with_reducible exact H2_) | (have H2_ := (Option.bind_some _ _).symm.trans H; with_reducible exact H2_) | with_reducible exact H | (rw [hy115]; exact H) | exact H
 have Ny115 := kp hy115
 clear hy115
 replace H := Option.bind_eq_some_iff.mp H
 obtain ⟨t118, A20, H⟩ := H
 replace H : (if t118 = true then (spec_PackPages.l0 k l0 y115 0 ([] : List (S42))) else (some y115)) = some r := H
 have A2 := kp A20
 clear A20
 by_cases c3 : t118 = true
 ·subst c3; have H1 : (spec_PackPages.l0 k l0 y115 0 ([] : List (S42))) = some r := by rw [if_pos rfl] at H; exact H
  clear H; have H := H1; clear H1; have H' := kp H; clear H
  go_enter Try.func7, Try.ntmps7
  go_wp2_with (first | ((with_reducible refine gate_dst (N := 6) rfl ?_); refine Kd.S_lit k39 _ 39 ?hg (N := 6) ?hd (xs := ([] : List (S39))) (inner := []) (ok := fun _ => True) (okp := fun _ => True) ?hr ?hp (fun _ hk => hk) trivial (Below.refl _ _) (Nat.le_refl _) (by simp) ?_; (case hd => rfl); (case hg => rfl); (case hr => first | (go_simp; done) | (go_simp; rfl)); (case hp => exact (Reps.none _ _)); intro v116 w4 ho5 hb hg_ hnew_; clear hg_ hnew_; (first | rw [← Ny115.out] at ho5 | (simp only [Int.reduceToNat] at ho5; rw [← Ny115.out] at ho5)); have HO117 := kp (Kd.S_lower ho5 (below_size bb)); replace HB := kp (below_step bb hb); clear hb ho5) | ((with_reducible refine gate_callee (f := 17) rfl ?_); refine gl_ 8 Try.func17 #[.slice A0 l0.length c0] ?_; (with_reducible refine (spec_AreValidRows.calls k _ _ l0 true _ ?side1 ?side2 A2.out).mono ?_); (case side1 => exact cc HR0.out); (case side2 => exact HC0.out); rintro e w6 ⟨rfl, hb⟩; refine ⟨_, rfl, ?_⟩; replace HO117 := kp (Kd.S_below (by (with_reducible repeat (first | apply Kd.S_alloc | apply Kd.S_drewN | apply Kd.S_drew)); exact HO117.out) hb); replace HB := kp (below_step bb hb); (try clear hb)) | ((with_reducible refine gate_dst (N := 4) rfl ?_); refine bx_ 4 #[.slice none 0 0] 39 ?_; intro gb119 hg w7 hbox hb; replace HO117 := kp (Kd.S_below (Kd.S_elderB (by (with_reducible repeat (first | apply Kd.S_alloc | apply Kd.S_drewN | apply Kd.S_drew)); exact HO117.out) gb119 (Nat.le_of_eq hg.symm)) hb); have BK119 := kp (hbox); have GW119 := kp (bs hg); have GE119 := kp (bs hg); replace HB := kp (below_step bb hb); clear hb hbox hg; obtain ⟨hcz8_0, hfz8_0⟩ := bf1 BK119.out))
  (try simp only [Act.put, List.setIfInBounds_toArray, List.set_cons_zero, List.set_cons_succ])
  go_loopg [3, 5] k (fun kq v3 v5 w' => ∃ (x3_1 : List (S39)) (x5_1 : Int) (x120000_1 : List (S42)) (u120000 : Value), v5 = .int .i64 x5_1 ∧ Aside0 (spec_PackPages.l0 kq l0 x3_1 x5_1 x120000_1 = some r) ∧ Aside0 (kq ≤ k) ∧ Aside0 (Kd.S k39 39 w' w.heap.size (fun k_ => some k_ ≠ (u120000 : Value).ownBlock ∧ k_ ≠ gb119) v3 x3_1) ∧ Aside0 (Kd.R k42 42 w' w.heap.size (fun _ => True) u120000 x120000_1) ∧ Aside0 (w'.heap[gb119]? = some (.cells #[u120000] 39 (0, 0))) ∧ Aside0 (Below w.heap.size w w'))
  case atStart => exact ⟨(y115), (0), (([] : List (S42))), (.slice none 0 0), (by first | rfl | (simp; done) | (simp [*]; done)), H', ⟨Nat.le_refl _⟩, ⟨by (with_reducible repeat (first | apply Kd.S_alloc | apply Kd.S_drewN | apply Kd.S_drew)); exact Kd.S_mono (Kd.S_far (p := ⟨gb119, 0, none⟩) (Kd.S_mono HO117.out (fun k_ hk => (⟨hk, hk.2⟩ : _ ∧ k_ ≠ gb119))) (fun _ hk => hk.2) (.slice none 0 0)) (fun _ hk => ⟨(by simp [Value.ownBlock]), hk.1.2⟩)⟩, ⟨by first | exact Kd.R_nil _ _ _ _ _ | exact Kd.N_nil _ _ _ _ _ | exact Kd.V_nil _ _ _ _ _ | exact Kd.Q_nil _ _ _ _ _ | exact Kd.S_nil _ _ _ _ _⟩, ⟨by refine blk_put (cs := #[.slice none 0 0]) ?_ 0 _ rfl; (with_reducible repeat (first | apply bN | apply bD | apply bA)); exact BK119.out⟩, ⟨bb⟩⟩
  case round =>
   clear H'
   try clear c3
   try clear hcz8_0
   try clear hfz8_0
   obtain ⟨x3_1, x5_1, x120000_1, u120000, rfl, HA, HK1, HO_3, HO_120000, BK119, HB⟩ := hrel
   cases gk with
   | zero => exact absurd HA.out (by simp [spec_PackPages.l0])
   | succ k1 =>
    have H := HA.out; clear HA; simp only [spec_PackPages.l0] at H
    by_cases c9 : x5_1 < (l0.length : Int)
    ·rw [if_pos c9] at H; have c9b0 : decide (x5_1 < (l0.length : Int)) = true := decide_eq_true c9; clear c9
     by_cases c10 : 0 ≤ x5_1
     ·rw [if_pos c10] at H; have c10b0 : decide (0 ≤ x5_1) = true := decide_eq_true c10; clear c10; replace H := Option.bind_eq_some_iff.mp H; obtain ⟨t121, A110, H⟩ := H; replace H : (if t121 = true then (if x3_1.length < 5864062014805 then (if ([] : List (S42)).length < 5864062014805 then (spec_PackPages.l0 k1 l0 (x3_1 ++ [(⟨x120000_1⟩ : S39)]) (wrap64 (x5_1 + 1)) (([] : List (S42)) ++ [(⟨(rd_T42 l0 x5_1).f0, (rd_T42 l0 x5_1).f1, (rd_T42 l0 x5_1).f2⟩ : S42)])) else (none)) else (none)) else (if x120000_1.length < 5864062014805 then (spec_PackPages.l0 k1 l0 x3_1 (wrap64 (x5_1 + 1)) (x120000_1 ++ [(⟨(rd_T42 l0 x5_1).f0, (rd_T42 l0 x5_1).f1, (rd_T42 l0 x5_1).f2⟩ : S42)])) else (none))) = some r := H; have A11 := kp A110; clear A110
      by_cases c12 : t121 = true
      ·subst c12; have H1 : (if x3_1.length < 5864062014805 then (if ([] : List (S42)).length < 5864062014805 then (spec_PackPages.l0 k1 l0 (x3_1 ++ [(⟨x120000_1⟩ : S39)]) (wrap64 (x5_1 + 1)) (([] : List (S42)) ++ [(⟨(rd_T42 l0 x5_1).f0, (rd_T42 l0 x5_1).f1, (rd_T42 l0 x5_1).f2⟩ : S42)])) else (none)) else (none)) = some r := by rw [if_pos rfl] at H; exact H
       clear H; have H := H1; clear H1
       by_cases c13 : x3_1.length < 5864062014805
       ·rw [if_pos c13] at H; have LMc13 := kp c13; clear c13; obtain ⟨y122, hy122⟩ : ∃ y_ : List (S39), y_ = (x3_1 ++ [(⟨x120000_1⟩ : S39)]) := ⟨_, rfl⟩; replace H : (if ([] : List (S42)).length < 5864062014805 then (spec_PackPages.l0 k1 l0 y122 (wrap64 (x5_1 + 1)) (([] : List (S42)) ++ [(⟨(rd_T42 l0 x5_1).f0, (rd_T42 l0 x5_1).f1, (rd_T42 l0 x5_1).f2⟩ : S42)])) else (none)) = some r := by first | (rw [hy122]; with_reducible exact H) | (have H2_ := (Option.bind_some _ _).symm.trans H; rw [hy122]; with_reducible exact H2_) | (have H2_ := (Option.bind_some _ _).symm.trans H; with_reducible exact H2_) | with_reducible exact H | (rw [hy122]; exact H) | exact H
        have Ny122 := kp hy122; clear hy122
        by_cases c14 : ([] : List (S42)).length < 5864062014805
        ·rw [if_pos c14] at H; have LMc14 := kp c14; clear c14; obtain ⟨y126, hy126⟩ : ∃ y_ : List (S42), y_ = (([] : List (S42)) ++ [(⟨(rd_T42 l0 x5_1).f0, (rd_T42 l0 x5_1).f1, (rd_T42 l0 x5_1).f2⟩ : S42)]) := ⟨_, rfl⟩; replace H : (spec_PackPages.l0 k1 l0 y122 (wrap64 (x5_1 + 1)) y126) = some r := by first | (rw [hy126]; with_reducible exact H) | (have H2_ := (Option.bind_some _ _).symm.trans H; rw [hy126]; with_reducible exact H2_) | (have H2_ := (Option.bind_some _ _).symm.trans H; with_reducible exact H2_) | with_reducible exact H | (rw [hy126]; exact H) | exact H
         have Ny126 := kp hy126; clear hy126; have H' := kp H; clear H
         try go_wp2
         replace HO_3 := kp (Kd.S_drew HO_3.out); replace HO_120000 := kp (Kd.R_drew HO_120000.out); replace BK119 := kp (blk_drew BK119.out); replace HB := kp (below_drew1 HB.out); have p120 : 0 ≤ (x5_1 : Int) := dt; have q120 : x5_1 < (l0.length : Int) := dt; obtain ⟨ad120, e120, hx120_0, hx120_1, hx120_2⟩ := at_T42 HR0.out x5_1 p120 q120; have hw120_2 := hx120_2; have hw120_1 := hx120_1; have hw120_0 := hx120_0; cases e120; replace hx120_0 := kc HB.out hx120_0; replace hx120_1 := kc HB.out hx120_1; replace hx120_2 := kc HB.out hx120_2; replace p120 := eq_true p120; replace q120 := eq_true q120; obtain ⟨Ao16, co16, eo16⟩ := Kd.R_slice HO_120000.out; (first | subst eo16 | (injection eo16 with f1_ f2_ f3_; have f4_ := f1_.symm; have f5_ := f3_.symm; clear f1_ f2_ f3_; subst f4_; subst f5_))
         refine start_ (n := 6) (S := fun w' => w'.cell? ⟨gb119, 0, none⟩ = some (.slice Ao16 x120000_1.length co16) ∧ w'.cell? (ad120.add ((x5_1).toNat * 3)) = some (.int .i64 ((rd_T42 l0 x5_1).f0)) ∧ w'.cell? ⟨(ad120.add ((x5_1).toNat * 3)).block, (ad120.add ((x5_1).toNat * 3)).off + 1, none⟩ = some (.int .i64 ((rd_T42 l0 x5_1).f1)) ∧ w'.cell? ⟨(ad120.add ((x5_1).toNat * 3)).block, (ad120.add ((x5_1).toNat * 3)).off + 2, none⟩ = some (.int .i64 ((rd_T42 l0 x5_1).f2))) (ds := []) #[false, false, false, false, false, false] (by kernel_rfl) rfl rfl ⟨bc BK119.out, (kc HB.out hw120_0), (kc HB.out hw120_1), (kc HB.out hw120_2)⟩ (fun hHeld => ?_)
         generalize wr.drew = w15 at HO_3 HO_120000 BK119 HB hx120_0 hx120_1 hx120_2 hHeld ⊢
         refine pure_ (i := 1) (N := some 19) (v := ?_) (a' := ?_) #[false, true, false, false, false, false] rfl rfl (by kernel_rfl) (fun _ _ _ h => h) (Or.inl ⟨by rfl, ?_⟩) ?_ ?_
         rotate_left
         ·intro w'
          go_simp
          with_reducible rfl
         rotate_left
         ·simp only [Act.put, List.setIfInBounds_toArray, List.set_cons_zero, List.set_cons_succ, i64_w, i32_w]
          rfl
         refine pure_ (i := 2) (N := some 20) (v := ?_) (a' := ?_) #[false, true, true, false, false, false] rfl rfl (by kernel_rfl) (fun _ _ _ h => h) (Or.inl ⟨by rfl, ?_⟩) ?_ ?_
         rotate_left
         ·intro w'
          go_simp
          with_reducible rfl
         rotate_left
         ·simp only [Act.put, List.setIfInBounds_toArray, List.set_cons_zero, List.set_cons_succ, i64_w, i32_w]
          rfl
         refine pure_ (i := 3) (N := some 21) (v := ?_) (a' := ?_) #[false, true, true, true, false, false] rfl rfl (by kernel_rfl) (fun _ _ _ h => h) (Or.inl ⟨by rfl, ?_⟩) ?_ ?_
         rotate_left
         ·intro w'
          go_simp
          with_reducible rfl
         rotate_left
         ·simp only [Act.put, List.setIfInBounds_toArray, List.set_cons_zero, List.set_cons_succ, i64_w, i32_w]
          rfl
         refine take_ (i := 0) (N := some 18) (v := ?_) (a' := ?_) #[true, true, true, true, false, false] rfl rfl (by kernel_rfl) (fun _ _ _ h => h) (Or.inl ⟨by rfl, ?_⟩) hHeld ?_ ?_
         rotate_left
         ·rintro w' ⟨s0, s1, s2, s3⟩
          go_simp
          with_reducible rfl
         rotate_left
         ·simp only [Act.put, List.setIfInBounds_toArray, List.set_cons_zero, List.set_cons_succ, i64_w, i32_w]
          rfl
         refine take_ (i := 4) (N := some 22) (v := ?_) (a' := ?_) #[true, true, true, true, true, false] rfl rfl (by kernel_rfl) (fun _ _ _ h => h) (Or.inl ⟨by rfl, ?_⟩) hHeld ?_ ?_
         rotate_left
         ·rintro w' ⟨s0, s1, s2, s3⟩
          go_simp
          with_reducible rfl
         rotate_left
         ·simp only [Act.put, List.setIfInBounds_toArray, List.set_cons_zero, List.set_cons_succ, i64_w, i32_w]
          rfl
         refine one_ (i := 5) (N := some 23) #[true, true, true, true, true, true] rfl rfl (by kernel_rfl) (by decide) (fun K hK => ?_)
         refine gs_ Try.func43 #[.agg #[.slice Ao16 x120000_1.length co16], .agg #[.int .i64 ((rd_T42 l0 x5_1).f0), .int .i64 ((rd_T42 l0 x5_1).f1), .int .i64 ((rd_T42 l0 x5_1).f2)]] ?_; with_reducible refine (spec_WouldOverflow.calls k1 _ _ x120000_1 ((rd_T42 l0 x5_1).f0) ((rd_T42 l0 x5_1).f1) ((rd_T42 l0 x5_1).f2) true _ ?side1 ?side2 A11.out).mono ?_
         (case side1 => repeat (first | exact (Kd.R_reads' HO_120000.out).2.2 | (with_reducible refine Kd.C_alloc ?_ _) | (with_reducible refine Kd.C_drewN ?_ _) | (with_reducible refine Kd.C_drew ?_))); (case side2 => exact (Kd.R_reads' HO_120000.out).2.1); rintro e w17 ⟨rfl, hb⟩; refine ⟨_, rfl, ?_⟩; replace HO_3 := kp (Kd.S_below (by (with_reducible repeat (first | apply Kd.S_alloc | apply Kd.S_drewN | apply Kd.S_drew)); exact HO_3.out) hb); replace HO_120000 := kp (Kd.R_below (by (with_reducible repeat (first | apply rA | apply rN | apply rD)); exact HO_120000.out) hb); replace BK119 := kp (kb BK119.out hb); replace HB := kp (below_step bb hb); (try clear hb); (try clear hk); refine hK.out _ _ ⟨bc BK119.out, (kc HB.out hw120_0), (kc HB.out hw120_1), (kc HB.out hw120_2)⟩ (fun hHeld => ?_); clear hK K; refine nm_ (some 23) ?_; refine done_ (by kernel_rfl) ?_; obtain ⟨hcz18_0, hfz18_0⟩ := bf1 BK119.out
         try go_wp2_with (first | ((with_reducible refine gate_builtin (b := .append) (xs := #[.tmp 24, .tmp 26]) rfl ?_); at_builtin; refine Kd.S_append k39 (w0 := w) w.heap.size rfl (.tmp 24) (.tmp 26) 24 39 (.agg #[(.slice none 0 0)]) 24 rfl Try.underlying24 info39 rfl (by decide) (by omega) u3 x3_1 (⟨x120000_1⟩ : S39) [.slice Ao16 x120000_1.length co16] (fun k_ => k_ ≠ gb119) (fun k_ => some k_ = (.slice Ao16 x120000_1.length co16 : Value).ownBlock) rfl rfl ?aP (fun k_ hk_ => ((Kd.R_mono (ok' := fun k_ => ((fun k_ => k_ ≠ gb119)) k_ ∧ some k_ ≠ (u3 : Value).ownBlock) (Kd.R_types (Kd.R_apart' (HO_120000.out) (Kd.S_typed HO_3.out) (by decide)) BK119.out (by decide)) (fun k_ hk => ⟨hk.2, hk.1.2⟩))).1 k_ hk_.symm) ?aF ?aO ?aB ?aS ?aL ?_; (case aP => exact k39_mkM _ _ _ (⟨x120000_1⟩ : S39) (Kd.R_mono (Kd.R_tight rfl (Kd.R_mono (ok' := fun k_ => ((fun k_ => k_ ≠ gb119)) k_ ∧ some k_ ≠ (u3 : Value).ownBlock) (Kd.R_types (Kd.R_apart' (HO_120000.out) (Kd.S_typed HO_3.out) (by decide)) BK119.out (by decide)) (fun k_ hk => ⟨hk.2, hk.1.2⟩))) (fun _ h_ => h_))); (case aB => exact bb); (case aF => exact (fun k_ hk => Kd.freshB (g := gb119) (o := .cells #[.slice Ao16 x120000_1.length co16] 39 (0, 0)) (kk BK119.out) k_ hk)); (case aO => exact (by (with_reducible repeat (first | apply Kd.S_alloc | apply Kd.S_drewN | apply Kd.S_drew)); exact Kd.S_mono HO_3.out (fun k_ hk => ⟨hk.2, fun e_ => hk.1 e_⟩))); (case aS => exact (below_size bb)); (case aL => have := LMc13.out; omega); intro v123 w19 ho hb hg hat; rw [← Ny122.out] at ho; replace BK119 := kp (blk_grown (g := gb119) (o := .cells #[.slice Ao16 x120000_1.length co16] 39 (0, 0)) (kk BK119.out) hg (Kd.S_away HO_3.out (fun _ hk => hk.2))); replace HB := kp (hb); have HO124 := kp (ho); clear HO_3; clear HO_120000; clear ho hb hg hat; obtain ⟨hcz20_0, hfz20_0⟩ := bf1 BK119.out))
         have n0_ : Aside0 (Kd.S k39 39 (w19.setCell ⟨gb119, 0, none⟩ (.slice none 0 0)) w.heap.size (fun k_ => k_ ≠ gb119) v123 y122) := ⟨by (with_reducible repeat (first | apply Kd.S_alloc | apply Kd.S_drewN | apply Kd.S_drew)); exact Kd.S_mono (Kd.S_far (p := ⟨gb119, 0, none⟩) (Kd.S_mono HO124.out (fun k_ hk => (⟨hk, hk⟩ : _ ∧ k_ ≠ gb119))) (fun _ hk => hk.2) (.slice none 0 0)) (fun _ hk => hk.1)⟩; have n1_ : Aside0 ((w19.setCell ⟨gb119, 0, none⟩ (.slice none 0 0)).heap[gb119]? = some (.cells #[.slice none 0 0] 39 (0, 0))) := ⟨by refine blk_put (cs := #[.slice Ao16 x120000_1.length co16]) ?_ 0 _ rfl; (with_reducible repeat (first | apply bN | apply bD | apply bA)); exact BK119.out⟩; have n2_ : Aside0 (Below w.heap.size w (w19.setCell ⟨gb119, 0, none⟩ (.slice none 0 0))) := ⟨bb⟩; (try clear HO124); (try clear BK119); (try clear HB); generalize (w19.setCell ⟨gb119, 0, none⟩ (.slice none 0 0)) = w21 at n0_ n1_ n2_ ⊢; have HO124 := n0_; have BK119 := n1_; have HB := n2_; clear n0_ n1_ n2_; replace HO124 := kp (Kd.S_drew HO124.out); replace BK119 := kp (blk_drew BK119.out); replace HB := kp (below_drew1 HB.out); have p125 : 0 ≤ (x5_1 : Int) := dt; have q125 : x5_1 < (l0.length : Int) := dt; obtain ⟨ad125, e125, hx125_0, hx125_1, hx125_2⟩ := at_T42 HR0.out x5_1 p125 q125; have hw125_2 := hx125_2; have hw125_1 := hx125_1; have hw125_0 := hx125_0
         obtain rfl : ad120 = ad125 := (by injection e125); replace hx125_0 := kc HB.out hx125_0; replace hx125_1 := kc HB.out hx125_1; replace hx125_2 := kc HB.out hx125_2; replace p125 := eq_true p125; replace q125 := eq_true q125
         refine start_ (n := 10) (S := fun w' => w'.cell? ⟨gb119, 0, none⟩ = some (.slice none 0 0) ∧ w'.cell? (ad120.add ((x5_1).toNat * 3)) = some (.int .i64 ((rd_T42 l0 x5_1).f0)) ∧ w'.cell? ⟨(ad120.add ((x5_1).toNat * 3)).block, (ad120.add ((x5_1).toNat * 3)).off + 1, none⟩ = some (.int .i64 ((rd_T42 l0 x5_1).f1)) ∧ w'.cell? ⟨(ad120.add ((x5_1).toNat * 3)).block, (ad120.add ((x5_1).toNat * 3)).off + 2, none⟩ = some (.int .i64 ((rd_T42 l0 x5_1).f2))) (ds := [9]) #[false, false, false, false, false, false, false, false, false, false] (by kernel_rfl) rfl rfl ⟨bc BK119.out, (kc HB.out hw125_0), (kc HB.out hw125_1), (kc HB.out hw125_2)⟩ (fun hHeld => ?_); refine with_tabW spec_PackPages.tab11 spec_PackPages.bits11 (fun HT_ HW_ => ?_)
         generalize w21.drew = w22 at HO124 BK119 HB hx125_0 hx125_1 hx125_2 hHeld ⊢
         refine pq 0 29 HT_ ?_
         refine pq 2 31 HT_ ?_
         refine pq 3 32 HT_ ?_
         refine pq 4 33 HT_ ?_
         refine tq 1 30 HT_ HW_ hHeld ?_
         refine tq 5 34 HT_ HW_ hHeld ?_
         refine on_ 6 (some 35) HT_ (fun K hK => ?_)
         refine value_ (w1 := ?_) (v := ?_) (by rfl) rfl ?_ ?_
         rotate_left 2
         ·go_simp
          constructor
          ·rfl
          ·rfl
         refine hK.out _ _ ⟨(blk_cell (blk_alloc BK119.out _) 0).trans rfl, (World.cell?_alloc_lt _ _ _ (World.block_lt_of_cell? _ _ ((kc HB.out hw125_0)))).trans ((kc HB.out hw125_0)), (World.cell?_alloc_lt _ _ _ (World.block_lt_of_cell? _ _ ((kc HB.out hw125_1)))).trans ((kc HB.out hw125_1)), (World.cell?_alloc_lt _ _ _ (World.block_lt_of_cell? _ _ ((kc HB.out hw125_2)))).trans ((kc HB.out hw125_2))⟩ (fun hHeld => ?_); clear hK K; refine nm_ (some 35) ?_; refine on_ 7 (some 36) HT_ (fun K hK => ?_)
         refine Kd.R_append_step k42 (w0 := w) w.heap.size (by rfl) (.tmp 30) (.tmp 35) 26 42 (.agg #[(.int .i64 0), (.int .i64 0), (.int .i64 0)]) 24 rfl Try.underlying26 info42 rfl (by decide) (by omega) (.slice none 0 0) ([] : List (S42)) (⟨(rd_T42 l0 x5_1).f0, (rd_T42 l0 x5_1).f1, (rd_T42 l0 x5_1).f2⟩ : S42) [.int .i64 ((rd_T42 l0 x5_1).f0), .int .i64 ((rd_T42 l0 x5_1).f1), .int .i64 ((rd_T42 l0 x5_1).f2)] (fun _ => True) (fun _ => False) rfl rfl ?aP (fun _ hk => hk.elim) ?aF ?aO ?aB ?aS ?aL ?_
         (case aP => exact k42_mkM _ _ _ (⟨(rd_T42 l0 x5_1).f0, (rd_T42 l0 x5_1).f1, (rd_T42 l0 x5_1).f2⟩ : S42)); (case aB => exact bb); (case aF => exact (fun _ _ => trivial)); (case aO => exact ((Kd.R_nil _ _ _ _ (fun _ => True)))); (case aS => exact (below_size bb)); (case aL => have := LMc14.out; omega); intro v127 w23 ho hb hg hat; rw [← Ny126.out] at ho; replace BK119 := kp (blk_grown (g := gb119) (o := .cells #[.slice none 0 0] 39 (0, 0)) (kk BK119.out) hg (by simp [Value.ownBlock])); replace HO124 := kp (Kd.S_after (Kd.S_apart_nil (by (with_reducible repeat (first | apply Kd.S_alloc | apply Kd.S_drewN | apply Kd.S_drew)); exact HO124.out)) hg hat); replace HB := kp (hb); have HO128 := kp (ho); clear ho hb hg hat; obtain ⟨Ao24, co24, eo24⟩ := Kd.R_slice HO128.out; (first | subst eo24 | (injection eo24 with f1_ f2_ f3_; have f4_ := f1_.symm; have f5_ := f3_.symm; clear f1_ f2_ f3_; subst f4_; subst f5_)); refine hK.out _ _ ⟨bc BK119.out, (kc HB.out hw125_0), (kc HB.out hw125_1), (kc HB.out hw125_2)⟩ (fun hHeld => ?_); clear hK K; refine nm_ (some 36) ?_
         refine pq 8 37 HT_ ?_
         refine last_ (i := 9) (N := none) #[true, true, true, true, true, true, true, true, true, true] rfl rfl (one_of HT_.out (by kernel_rfl)) (by decide) (fun K hK => ?_)
         have hs25 : w23.cell? ⟨gb119, 0, none⟩ = some (.slice none 0 0) := bc BK119.out; have hfs25 := blk_frozen BK119.out 0
         refine skip_ (w1 := ?_) (by rfl) rfl ?_ ?_
         rotate_left
         ·go_simp
          rfl
         refine hK.out _ _ ?_; clear hK K; refine done_ (done_of HT_.out (by kernel_rfl)) ?_
         try go_wp2
         go_roundg k1
         case measure => have := HK1.out; omega
         case rel => exact ⟨(y122), (wrap64 (x5_1 + 1)), (y126), (.slice Ao24 y126.length co24), (by first | rfl | (simp; done) | (simp [*]; done)), H', ⟨by have := HK1.out; omega⟩, ⟨by (with_reducible repeat (first | apply Kd.S_alloc | apply Kd.S_drewN | apply Kd.S_drew)); exact Kd.S_mono (Kd.S_far (p := ⟨gb119, 0, none⟩) (Kd.S_mono HO124.out (fun k_ hk => (⟨hk, hk.1⟩ : _ ∧ k_ ≠ gb119))) (fun _ hk => hk.2) (.slice Ao24 y126.length co24)) (fun _ hk => ⟨hk.1.2, hk.1.1⟩)⟩, ⟨by (with_reducible repeat (first | apply rA | apply rN | apply rD)); exact Kd.R_mono (Kd.R_far (p := ⟨gb119, 0, none⟩) (Kd.R_types HO128.out BK119.out (by decide)) (fun _ hk => hk.2) (.slice Ao24 y126.length co24)) (fun _ hk => trivial)⟩, ⟨by refine blk_put (cs := #[.slice none 0 0]) ?_ 0 _ rfl; (with_reducible repeat (first | apply bN | apply bD | apply bA)); exact BK119.out⟩, ⟨bb⟩⟩
        ·rw [if_neg c14] at H; exact absurd H (by simp)
       ·rw [if_neg c13] at H; exact absurd H (by simp)
      ·replace c12 := Bool.eq_false_iff.mpr c12; subst c12; have H1 : (if x120000_1.length < 5864062014805 then (spec_PackPages.l0 k1 l0 x3_1 (wrap64 (x5_1 + 1)) (x120000_1 ++ [(⟨(rd_T42 l0 x5_1).f0, (rd_T42 l0 x5_1).f1, (rd_T42 l0 x5_1).f2⟩ : S42)])) else (none)) = some r := by rw [if_neg (show ¬ (false = true) by decide)] at H; exact H
       clear H; have H := H1; clear H1
       by_cases c26 : x120000_1.length < 5864062014805
       ·rw [if_pos c26] at H; have LMc26 := kp c26; clear c26; obtain ⟨y130, hy130⟩ : ∃ y_ : List (S42), y_ = (x120000_1 ++ [(⟨(rd_T42 l0 x5_1).f0, (rd_T42 l0 x5_1).f1, (rd_T42 l0 x5_1).f2⟩ : S42)]) := ⟨_, rfl⟩; replace H : (spec_PackPages.l0 k1 l0 x3_1 (wrap64 (x5_1 + 1)) y130) = some r := by first | (rw [hy130]; with_reducible exact H) | (have H2_ := (Option.bind_some _ _).symm.trans H; rw [hy130]; with_reducible exact H2_) | (have H2_ := (Option.bind_some _ _).symm.trans H; with_reducible exact H2_) | with_reducible exact H | (rw [hy130]; exact H) | exact H
        have Ny130 := kp hy130; clear hy130; have H' := kp H; clear H
        try go_wp2
        replace HO_3 := kp (Kd.S_drew HO_3.out); replace HO_120000 := kp (Kd.R_drew HO_120000.out); replace BK119 := kp (blk_drew BK119.out); replace HB := kp (below_drew1 HB.out); have p120 : 0 ≤ (x5_1 : Int) := dt; have q120 : x5_1 < (l0.length : Int) := dt; obtain ⟨ad120, e120, hx120_0, hx120_1, hx120_2⟩ := at_T42 HR0.out x5_1 p120 q120; have hw120_2 := hx120_2; have hw120_1 := hx120_1; have hw120_0 := hx120_0; cases e120; replace hx120_0 := kc HB.out hx120_0; replace hx120_1 := kc HB.out hx120_1; replace hx120_2 := kc HB.out hx120_2; replace p120 := eq_true p120; replace q120 := eq_true q120; obtain ⟨Ao28, co28, eo28⟩ := Kd.R_slice HO_120000.out; (first | subst eo28 | (injection eo28 with f1_ f2_ f3_; have f4_ := f1_.symm; have f5_ := f3_.symm; clear f1_ f2_ f3_; subst f4_; subst f5_))
        refine start_ (n := 6) (S := fun w' => w'.cell? ⟨gb119, 0, none⟩ = some (.slice Ao28 x120000_1.length co28) ∧ w'.cell? (ad120.add ((x5_1).toNat * 3)) = some (.int .i64 ((rd_T42 l0 x5_1).f0)) ∧ w'.cell? ⟨(ad120.add ((x5_1).toNat * 3)).block, (ad120.add ((x5_1).toNat * 3)).off + 1, none⟩ = some (.int .i64 ((rd_T42 l0 x5_1).f1)) ∧ w'.cell? ⟨(ad120.add ((x5_1).toNat * 3)).block, (ad120.add ((x5_1).toNat * 3)).off + 2, none⟩ = some (.int .i64 ((rd_T42 l0 x5_1).f2))) (ds := []) #[false, false, false, false, false, false] (by kernel_rfl) rfl rfl ⟨bc BK119.out, (kc HB.out hw120_0), (kc HB.out hw120_1), (kc HB.out hw120_2)⟩ (fun hHeld => ?_)
        generalize wr.drew = w27 at HO_3 HO_120000 BK119 HB hx120_0 hx120_1 hx120_2 hHeld ⊢
        refine pure_ (i := 1) (N := some 19) (v := ?_) (a' := ?_) #[false, true, false, false, false, false] rfl rfl (by kernel_rfl) (fun _ _ _ h => h) (Or.inl ⟨by rfl, ?_⟩) ?_ ?_
        rotate_left
        ·intro w'
         go_simp
         with_reducible rfl
        rotate_left
        ·simp only [Act.put, List.setIfInBounds_toArray, List.set_cons_zero, List.set_cons_succ, i64_w, i32_w]
         rfl
        refine pure_ (i := 2) (N := some 20) (v := ?_) (a' := ?_) #[false, true, true, false, false, false] rfl rfl (by kernel_rfl) (fun _ _ _ h => h) (Or.inl ⟨by rfl, ?_⟩) ?_ ?_
        rotate_left
        ·intro w'
         go_simp
         with_reducible rfl
        rotate_left
        ·simp only [Act.put, List.setIfInBounds_toArray, List.set_cons_zero, List.set_cons_succ, i64_w, i32_w]
         rfl
        refine pure_ (i := 3) (N := some 21) (v := ?_) (a' := ?_) #[false, true, true, true, false, false] rfl rfl (by kernel_rfl) (fun _ _ _ h => h) (Or.inl ⟨by rfl, ?_⟩) ?_ ?_
        rotate_left
        ·intro w'
         go_simp
         with_reducible rfl
        rotate_left
        ·simp only [Act.put, List.setIfInBounds_toArray, List.set_cons_zero, List.set_cons_succ, i64_w, i32_w]
         rfl
        refine take_ (i := 0) (N := some 18) (v := ?_) (a' := ?_) #[true, true, true, true, false, false] rfl rfl (by kernel_rfl) (fun _ _ _ h => h) (Or.inl ⟨by rfl, ?_⟩) hHeld ?_ ?_
        rotate_left
        ·rintro w' ⟨s0, s1, s2, s3⟩
         go_simp
         with_reducible rfl
        rotate_left
        ·simp only [Act.put, List.setIfInBounds_toArray, List.set_cons_zero, List.set_cons_succ, i64_w, i32_w]
         rfl
        refine take_ (i := 4) (N := some 22) (v := ?_) (a' := ?_) #[true, true, true, true, true, false] rfl rfl (by kernel_rfl) (fun _ _ _ h => h) (Or.inl ⟨by rfl, ?_⟩) hHeld ?_ ?_
        rotate_left
        ·rintro w' ⟨s0, s1, s2, s3⟩
         go_simp
         with_reducible rfl
        rotate_left
        ·simp only [Act.put, List.setIfInBounds_toArray, List.set_cons_zero, List.set_cons_succ, i64_w, i32_w]
         rfl
        refine one_ (i := 5) (N := some 23) #[true, true, true, true, true, true] rfl rfl (by kernel_rfl) (by decide) (fun K hK => ?_)
        refine gs_ Try.func43 #[.agg #[.slice Ao28 x120000_1.length co28], .agg #[.int .i64 ((rd_T42 l0 x5_1).f0), .int .i64 ((rd_T42 l0 x5_1).f1), .int .i64 ((rd_T42 l0 x5_1).f2)]] ?_; with_reducible refine (spec_WouldOverflow.calls k1 _ _ x120000_1 ((rd_T42 l0 x5_1).f0) ((rd_T42 l0 x5_1).f1) ((rd_T42 l0 x5_1).f2) false _ ?side1 ?side2 A11.out).mono ?_
        (case side1 => repeat (first | exact (Kd.R_reads' HO_120000.out).2.2 | (with_reducible refine Kd.C_alloc ?_ _) | (with_reducible refine Kd.C_drewN ?_ _) | (with_reducible refine Kd.C_drew ?_))); (case side2 => exact (Kd.R_reads' HO_120000.out).2.1); rintro e w29 ⟨rfl, hb⟩; refine ⟨_, rfl, ?_⟩; replace HO_3 := kp (Kd.S_below (by (with_reducible repeat (first | apply Kd.S_alloc | apply Kd.S_drewN | apply Kd.S_drew)); exact HO_3.out) hb); replace HO_120000 := kp (Kd.R_below (by (with_reducible repeat (first | apply rA | apply rN | apply rD)); exact HO_120000.out) hb); replace BK119 := kp (kb BK119.out hb); replace HB := kp (below_step bb hb); (try clear hb); (try clear hk); refine hK.out _ _ ⟨bc BK119.out, (kc HB.out hw120_0), (kc HB.out hw120_1), (kc HB.out hw120_2)⟩ (fun hHeld => ?_); clear hK K; refine nm_ (some 23) ?_; refine done_ (by kernel_rfl) ?_
        try go_wp2
        replace HO_3 := kp (Kd.S_drew HO_3.out); replace HO_120000 := kp (Kd.R_drew HO_120000.out); replace BK119 := kp (blk_drew BK119.out); replace HB := kp (below_drew1 HB.out); have p129 : 0 ≤ (x5_1 : Int) := dt; have q129 : x5_1 < (l0.length : Int) := dt; obtain ⟨ad129, e129, hx129_0, hx129_1, hx129_2⟩ := at_T42 HR0.out x5_1 p129 q129; have hw129_2 := hx129_2; have hw129_1 := hx129_1; have hw129_0 := hx129_0; obtain rfl : ad120 = ad129 := (by injection e129); replace hx129_0 := kc HB.out hx129_0; replace hx129_1 := kc HB.out hx129_1; replace hx129_2 := kc HB.out hx129_2; replace p129 := eq_true p129; replace q129 := eq_true q129
        refine start_ (n := 10) (S := fun w' => w'.cell? ⟨gb119, 0, none⟩ = some (.slice Ao28 x120000_1.length co28) ∧ w'.cell? (ad120.add ((x5_1).toNat * 3)) = some (.int .i64 ((rd_T42 l0 x5_1).f0)) ∧ w'.cell? ⟨(ad120.add ((x5_1).toNat * 3)).block, (ad120.add ((x5_1).toNat * 3)).off + 1, none⟩ = some (.int .i64 ((rd_T42 l0 x5_1).f1)) ∧ w'.cell? ⟨(ad120.add ((x5_1).toNat * 3)).block, (ad120.add ((x5_1).toNat * 3)).off + 2, none⟩ = some (.int .i64 ((rd_T42 l0 x5_1).f2))) (ds := [9]) #[false, false, false, false, false, false, false, false, false, false] (by kernel_rfl) rfl rfl ⟨bc BK119.out, (kc HB.out hw129_0), (kc HB.out hw129_1), (kc HB.out hw129_2)⟩ (fun hHeld => ?_); refine with_tabW spec_PackPages.tab11 spec_PackPages.bits11 (fun HT_ HW_ => ?_)
        generalize w29.drew = w30 at HO_3 HO_120000 BK119 HB hx129_0 hx129_1 hx129_2 hHeld ⊢
        refine pq 0 29 HT_ ?_
        refine pq 2 31 HT_ ?_
        refine pq 3 32 HT_ ?_
        refine pq 4 33 HT_ ?_
        refine tq 1 30 HT_ HW_ hHeld ?_
        refine tq 5 34 HT_ HW_ hHeld ?_
        refine on_ 6 (some 35) HT_ (fun K hK => ?_)
        refine value_ (w1 := ?_) (v := ?_) (by rfl) rfl ?_ ?_
        rotate_left 2
        ·go_simp
         constructor
         ·rfl
         ·rfl
        refine hK.out _ _ ⟨(blk_cell (blk_alloc BK119.out _) 0).trans rfl, (World.cell?_alloc_lt _ _ _ (World.block_lt_of_cell? _ _ ((kc HB.out hw129_0)))).trans ((kc HB.out hw129_0)), (World.cell?_alloc_lt _ _ _ (World.block_lt_of_cell? _ _ ((kc HB.out hw129_1)))).trans ((kc HB.out hw129_1)), (World.cell?_alloc_lt _ _ _ (World.block_lt_of_cell? _ _ ((kc HB.out hw129_2)))).trans ((kc HB.out hw129_2))⟩ (fun hHeld => ?_); clear hK K; refine nm_ (some 35) ?_; refine on_ 7 (some 36) HT_ (fun K hK => ?_)
        refine Kd.R_append_step k42 (w0 := w) w.heap.size (by rfl) (.tmp 30) (.tmp 35) 26 42 (.agg #[(.int .i64 0), (.int .i64 0), (.int .i64 0)]) 24 rfl Try.underlying26 info42 rfl (by decide) (by omega) (.slice Ao28 x120000_1.length co28) x120000_1 (⟨(rd_T42 l0 x5_1).f0, (rd_T42 l0 x5_1).f1, (rd_T42 l0 x5_1).f2⟩ : S42) [.int .i64 ((rd_T42 l0 x5_1).f0), .int .i64 ((rd_T42 l0 x5_1).f1), .int .i64 ((rd_T42 l0 x5_1).f2)] (fun _ => True) (fun _ => False) rfl rfl ?aP (fun _ hk => hk.elim) ?aF ?aO ?aB ?aS ?aL ?_
        (case aP => exact k42_mkM _ _ _ (⟨(rd_T42 l0 x5_1).f0, (rd_T42 l0 x5_1).f1, (rd_T42 l0 x5_1).f2⟩ : S42)); (case aB => exact bb); (case aF => exact (fun _ _ => trivial)); (case aO => exact (by (with_reducible repeat (first | apply rA | apply rN | apply rD)); exact HO_120000.out)); (case aS => exact (below_size bb)); (case aL => have := LMc26.out; omega); intro v131 w31 ho hb hg hat; rw [← Ny130.out] at ho; replace HO_3 := kp (Kd.S_after (ok := (fun k_ => k_ ≠ gb119)) (by (with_reducible repeat (first | apply Kd.S_alloc | apply Kd.S_drewN | apply Kd.S_drew)); exact Kd.S_mono HO_3.out (fun _ hk => ⟨hk.2, hk.1⟩)) hg hat); replace BK119 := kp (blk_grown (g := gb119) (o := .cells #[.slice Ao28 x120000_1.length co28] 39 (0, 0)) (kk BK119.out) hg (Kd.R_ne HO_120000.out BK119.out (by decide))); replace HB := kp (hb); have HO132 := kp (ho); clear HO_120000; clear ho hb hg hat; obtain ⟨Ao32, co32, eo32⟩ := Kd.R_slice HO132.out; (first | subst eo32 | (injection eo32 with f1_ f2_ f3_; have f4_ := f1_.symm; have f5_ := f3_.symm; clear f1_ f2_ f3_; subst f4_; subst f5_)); refine hK.out _ _ ⟨bc BK119.out, (kc HB.out hw129_0), (kc HB.out hw129_1), (kc HB.out hw129_2)⟩ (fun hHeld => ?_); clear hK K; refine nm_ (some 36) ?_
        refine pq 8 37 HT_ ?_
        refine last_ (i := 9) (N := none) #[true, true, true, true, true, true, true, true, true, true] rfl rfl (one_of HT_.out (by kernel_rfl)) (by decide) (fun K hK => ?_)
        have hs33 : w31.cell? ⟨gb119, 0, none⟩ = some (.slice Ao28 x120000_1.length co28) := bc BK119.out; have hfs33 := blk_frozen BK119.out 0
        refine skip_ (w1 := ?_) (by rfl) rfl ?_ ?_
        rotate_left
        ·go_simp
         rfl
        refine hK.out _ _ ?_; clear hK K; refine done_ (done_of HT_.out (by kernel_rfl)) ?_
        try go_wp2
        go_roundg k1
        case measure => have := HK1.out; omega
        case rel => exact ⟨(x3_1), (wrap64 (x5_1 + 1)), (y130), (.slice Ao32 y130.length co32), (by first | rfl | (simp; done) | (simp [*]; done)), H', ⟨by have := HK1.out; omega⟩, ⟨by (with_reducible repeat (first | apply Kd.S_alloc | apply Kd.S_drewN | apply Kd.S_drew)); exact Kd.S_mono (Kd.S_far (p := ⟨gb119, 0, none⟩) (Kd.S_mono HO_3.out (fun k_ hk => (⟨hk, hk.1⟩ : _ ∧ k_ ≠ gb119))) (fun _ hk => hk.2) (.slice Ao32 y130.length co32)) (fun _ hk => ⟨hk.1.2, hk.1.1⟩)⟩, ⟨by (with_reducible repeat (first | apply rA | apply rN | apply rD)); exact Kd.R_mono (Kd.R_far (p := ⟨gb119, 0, none⟩) (Kd.R_types HO132.out BK119.out (by decide)) (fun _ hk => hk.2) (.slice Ao32 y130.length co32)) (fun _ hk => trivial)⟩, ⟨by refine blk_put (cs := #[.slice Ao28 x120000_1.length co28]) ?_ 0 _ rfl; (with_reducible repeat (first | apply bN | apply bD | apply bA)); exact BK119.out⟩, ⟨bb⟩⟩
       ·rw [if_neg c26] at H; exact absurd H (by simp)
     ·rw [if_neg c10] at H; exact absurd H (by simp)
    ·rw [if_neg c9] at H; have c9b0 : decide (x5_1 < (l0.length : Int)) = false := decide_eq_false c9; clear c9
     by_cases c34 : (x120000_1.length : Int) > 0
     ·rw [if_pos c34] at H; have c34b0 : decide (0 < (x120000_1.length : Int)) = true := decide_eq_true c34; have c34b1 : decide (0 < x120000_1.length) = true := decide_eq_true (by omega); clear c34
      by_cases c35 : x3_1.length < 5864062014805
      ·rw [if_pos c35] at H; have LMc35 := kp c35; clear c35; obtain ⟨y133, hy133⟩ : ∃ y_ : List (S39), y_ = (x3_1 ++ [(⟨x120000_1⟩ : S39)]) := ⟨_, rfl⟩; replace H : (some y133) = some r := by first | (rw [hy133]; with_reducible exact H) | (have H2_ := (Option.bind_some _ _).symm.trans H; rw [hy133]; with_reducible exact H2_) | (have H2_ := (Option.bind_some _ _).symm.trans H; with_reducible exact H2_) | with_reducible exact H | (rw [hy133]; exact H) | exact H
       have Ny133 := kp hy133; clear hy133; obtain rfl := Option.some.inj H; obtain ⟨hcz36_0, hfz36_0⟩ := bf1 BK119.out; obtain ⟨Ao37, co37, eo37⟩ := Kd.R_slice HO_120000.out; subst eo37
       go_wp2_with (first | ((with_reducible refine gate_builtin (b := .append) (xs := #[.tmp 42, .tmp 44]) rfl ?_); at_builtin; refine Kd.S_append k39 (w0 := w) w.heap.size rfl (.tmp 42) (.tmp 44) 24 39 (.agg #[(.slice none 0 0)]) 24 rfl Try.underlying24 info39 rfl (by decide) (by omega) u3 x3_1 (⟨x120000_1⟩ : S39) [.slice Ao37 x120000_1.length co37] (fun k_ => k_ ≠ gb119) (fun k_ => some k_ = (.slice Ao37 x120000_1.length co37 : Value).ownBlock) rfl rfl ?aP (fun k_ hk_ => ((Kd.R_mono (ok' := fun k_ => ((fun k_ => k_ ≠ gb119)) k_ ∧ some k_ ≠ (u3 : Value).ownBlock) (Kd.R_types (Kd.R_apart' (HO_120000.out) (Kd.S_typed HO_3.out) (by decide)) BK119.out (by decide)) (fun k_ hk => ⟨hk.2, hk.1.2⟩))).1 k_ hk_.symm) ?aF ?aO ?aB ?aS ?aL ?_; (case aP => exact k39_mkM _ _ _ (⟨x120000_1⟩ : S39) (Kd.R_mono (Kd.R_tight rfl (Kd.R_mono (ok' := fun k_ => ((fun k_ => k_ ≠ gb119)) k_ ∧ some k_ ≠ (u3 : Value).ownBlock) (Kd.R_types (Kd.R_apart' (HO_120000.out) (Kd.S_typed HO_3.out) (by decide)) BK119.out (by decide)) (fun k_ hk => ⟨hk.2, hk.1.2⟩))) (fun _ h_ => h_))); (case aB => exact bb); (case aF => exact (fun k_ hk => Kd.freshB (g := gb119) (o := .cells #[.slice Ao37 x120000_1.length co37] 39 (0, 0)) (kk BK119.out) k_ hk)); (case aO => exact (by (with_reducible repeat (first | apply Kd.S_alloc | apply Kd.S_drewN | apply Kd.S_drew)); exact Kd.S_mono HO_3.out (fun k_ hk => ⟨hk.2, fun e_ => hk.1 e_⟩))); (case aS => exact (below_size bb)); (case aL => have := LMc35.out; omega); intro v134 w38 ho hb hg hat; rw [← Ny133.out] at ho; replace BK119 := kp (blk_grown (g := gb119) (o := .cells #[.slice Ao37 x120000_1.length co37] 39 (0, 0)) (kk BK119.out) hg (Kd.S_away HO_3.out (fun _ hk => hk.2))); replace HB := kp (hb); have HO135 := kp (ho); clear HO_3; clear HO_120000; clear ho hb hg hat))
       go_ret; exact ⟨_, er, by (with_reducible repeat (first | apply Kd.S_alloc | apply Kd.S_drewN | apply Kd.S_drew)); exact Kd.S_mono HO135.out (fun _ hk => trivial), bb⟩
      ·rw [if_neg c35] at H; exact absurd H (by simp)
     ·rw [if_neg c34] at H; have c34b0 : decide (0 < (x120000_1.length : Int)) = false := decide_eq_false c34; have c34b1 : decide (0 < x120000_1.length) = false := decide_eq_false (by omega); clear c34; obtain rfl := Option.some.inj H; obtain ⟨hcz39_0, hfz39_0⟩ := bf1 BK119.out; obtain ⟨Ao40, co40, eo40⟩ := Kd.R_slice HO_120000.out; subst eo40; go_wp2; go_ret; exact ⟨_, er, by (with_reducible repeat (first | apply Kd.S_alloc | apply Kd.S_drewN | apply Kd.S_drew)); exact Kd.S_mono HO_3.out (fun _ hk => trivial), bb⟩
 ·replace c3 := Bool.eq_false_iff.mpr c3; subst c3; have H1 : (some y115) = some r := by rw [if_neg (show ¬ (false = true) by decide)] at H; exact H
  clear H; have H := H1; clear H1; obtain rfl := Option.some.inj H
  go_enter Try.func7, Try.ntmps7
  go_wp2_with (first | ((with_reducible refine gate_dst (N := 6) rfl ?_); refine Kd.S_lit k39 _ 39 ?hg (N := 6) ?hd (xs := ([] : List (S39))) (inner := []) (ok := fun _ => True) (okp := fun _ => True) ?hr ?hp (fun _ hk => hk) trivial (Below.refl _ _) (Nat.le_refl _) (by simp) ?_; (case hd => rfl); (case hg => rfl); (case hr => first | (go_simp; done) | (go_simp; rfl)); (case hp => exact (Reps.none _ _)); intro v116 w41 ho42 hb hg_ hnew_; clear hg_ hnew_; (first | rw [← Ny115.out] at ho42 | (simp only [Int.reduceToNat] at ho42; rw [← Ny115.out] at ho42)); have HO117 := kp (Kd.S_lower ho42 (below_size bb)); replace HB := kp (below_step bb hb); clear hb ho42) | ((with_reducible refine gate_callee (f := 17) rfl ?_); refine gl_ 8 Try.func17 #[.slice A0 l0.length c0] ?_; (with_reducible refine (spec_AreValidRows.calls k _ _ l0 false _ ?side1 ?side2 A2.out).mono ?_); (case side1 => exact cc HR0.out); (case side2 => exact HC0.out); rintro e w43 ⟨rfl, hb⟩; refine ⟨_, rfl, ?_⟩; replace HO117 := kp (Kd.S_below (by (with_reducible repeat (first | apply Kd.S_alloc | apply Kd.S_drewN | apply Kd.S_drew)); exact HO117.out) hb); replace HB := kp (below_step bb hb); (try clear hb)))
  go_ret; exact ⟨_, er, by (with_reducible repeat (first | apply Kd.S_alloc | apply Kd.S_drewN | apply Kd.S_drew)); exact HO117.out, bb⟩
def impl_within.f (a0 : Int) (a1 : Int) (a2 : Int) : Option (Bool) := if a0 ≥ a1 then (some (decide (a0 ≤ a2))) else (some false)
set_option maxHeartbeats 8000000 in
set_option maxRecDepth 100000 in
theorem impl_within.calls (a0 : Int) (a1 : Int) (a2 : Int) (r : Bool) (w : World) (h : impl_within.f a0 a1 a2 = some r) :
  Calls Try.prog 52 #[.int .i64 a0, .int .i64 a1, .int .i64 a2] w fun e w' => e = .returned (.bool r) ∧ Drawn0 w w' := by
 have H : (if a0 ≥ a1 then (some (decide (a0 ≤ a2))) else (some false)) = some r := h
 clear h
 by_cases c4 : a0 ≥ a1
 ·rw [if_pos c4] at H; have c4b0 : decide (a1 ≤ a0) = true := decide_eq_true c4; clear c4; obtain rfl := Option.some.inj H
  go_enter Try.func52, Try.ntmps52
  go_wp2; go_ret; exact ⟨by first | rfl | (simp; done) | (simp [*]; done), by repeat (first | exact Drawn0.refl _ | apply Drawn0.step)⟩
 ·rw [if_neg c4] at H; have c4b0 : decide (a1 ≤ a0) = false := decide_eq_false c4; clear c4; obtain rfl := Option.some.inj H
  go_enter Try.func52, Try.ntmps52
  go_wp2; go_ret; exact ⟨by first | rfl | (simp; done) | (simp [*]; done), by repeat (first | exact Drawn0.refl _ | apply Drawn0.step)⟩
def impl_IsValidRow.f (a0_0 : Int) (a0_1 : Int) (a0_2 : Int) : Option (Bool) := (impl_within.f a0_0 0 9).bind fun t137 => (if t137 = true then ((impl_within.f a0_1 0 99).bind fun t138 => (if t138 = true then ((impl_within.f a0_2 0 3).bind fun t139 => (some t139)) else (some false))) else (some false))
set_option maxHeartbeats 8000000 in
set_option maxRecDepth 100000 in
theorem impl_IsValidRow.calls (a0_0 : Int) (a0_1 : Int) (a0_2 : Int) (r : Bool) (w : World) (h : impl_IsValidRow.f a0_0 a0_1 a0_2 = some r) :
  Calls Try.prog 81 #[.agg #[.int .i64 a0_0, .int .i64 a0_1, .int .i64 a0_2]] w fun e w' => e = .returned (.bool r) ∧ Below w.heap.size w w' := by
 have hu42 := Try.underlying42
 have HB := kp (Below.refl w.heap.size w)
 have H : ((impl_within.f a0_0 0 9).bind fun t137 => (if t137 = true then ((impl_within.f a0_1 0 99).bind fun t138 => (if t138 = true then ((impl_within.f a0_2 0 3).bind fun t139 => (some t139)) else (some false))) else (some false))) = some r := h
 clear h
 replace H := Option.bind_eq_some_iff.mp H
 obtain ⟨t137, A20, H⟩ := H
 replace H : (if t137 = true then ((impl_within.f a0_1 0 99).bind fun t138 => (if t138 = true then ((impl_within.f a0_2 0 3).bind fun t139 => (some t139)) else (some false))) else (some false)) = some r := H
 have A2 := kp A20
 clear A20
 by_cases c3 : t137 = true
 ·subst c3; have H1 : ((impl_within.f a0_1 0 99).bind fun t138 => (if t138 = true then ((impl_within.f a0_2 0 3).bind fun t139 => (some t139)) else (some false))) = some r := by rw [if_pos rfl] at H; exact H
  clear H; have H := H1; clear H1; replace H := Option.bind_eq_some_iff.mp H; obtain ⟨t138, A40, H⟩ := H; replace H : (if t138 = true then ((impl_within.f a0_2 0 3).bind fun t139 => (some t139)) else (some false)) = some r := H; have A4 := kp A40; clear A40
  by_cases c5 : t138 = true
  ·subst c5; have H1 : ((impl_within.f a0_2 0 3).bind fun t139 => (some t139)) = some r := by rw [if_pos rfl] at H; exact H
   clear H; have H := H1; clear H1; replace H := Option.bind_eq_some_iff.mp H; obtain ⟨t139, A60, H⟩ := H; replace H : (some t139) = some r := H; have A6 := kp A60; clear A60; obtain rfl := Option.some.inj H
   go_enter Try.func81, Try.ntmps81
   go_wp2_with (first | ((with_reducible refine gate_dst (N := 1) rfl ?_); refine bx_ 1 #[.int .i64 a0_0, .int .i64 a0_1, .int .i64 a0_2] 42 ?_; intro gb136 hg w7 hbox hb; have BK136 := kp (hbox); have GW136 := kp (bs hg); have GE136 := kp (bs hg); replace HB := kp (below_step bb hb); clear hb hbox hg; obtain ⟨hcz8_0, hcz8_1, hcz8_2, hfz8_0, hfz8_1, hfz8_2⟩ := bf3 BK136.out) | ((with_reducible refine gate_callee (f := 52) rfl ?_); refine gl_ 5 Try.func52 #[.int .i64 a0_0, .int .i64 0, .int .i64 9] ?_; (with_reducible refine (impl_within.calls a0_0 0 9 true _ A2.out).mono ?_); rintro e w' ⟨rfl, ⟨nd, rfl⟩⟩; refine ⟨_, rfl, ?_⟩) | (go_at_call 52; (with_reducible refine (impl_within.calls a0_1 0 99 true _ A4.out).mono ?_); rintro e w' ⟨rfl, ⟨nd, rfl⟩⟩) | (go_at_call 52; (with_reducible refine (impl_within.calls a0_2 0 3 t139 _ A6.out).mono ?_); rintro e w' ⟨rfl, ⟨nd, rfl⟩⟩))
   go_ret; exact ⟨er, bb⟩
  ·replace c5 := Bool.eq_false_iff.mpr c5; subst c5; have H1 : (some false) = some r := by rw [if_neg (show ¬ (false = true) by decide)] at H; exact H
   clear H; have H := H1; clear H1; obtain rfl := Option.some.inj H
   go_enter Try.func81, Try.ntmps81
   go_wp2_with (first | ((with_reducible refine gate_dst (N := 1) rfl ?_); refine bx_ 1 #[.int .i64 a0_0, .int .i64 a0_1, .int .i64 a0_2] 42 ?_; intro gb136 hg w9 hbox hb; have BK136 := kp (hbox); have GW136 := kp (bs hg); have GE136 := kp (bs hg); replace HB := kp (below_step bb hb); clear hb hbox hg; obtain ⟨hcz10_0, hcz10_1, hcz10_2, hfz10_0, hfz10_1, hfz10_2⟩ := bf3 BK136.out) | ((with_reducible refine gate_callee (f := 52) rfl ?_); refine gl_ 5 Try.func52 #[.int .i64 a0_0, .int .i64 0, .int .i64 9] ?_; (with_reducible refine (impl_within.calls a0_0 0 9 true _ A2.out).mono ?_); rintro e w' ⟨rfl, ⟨nd, rfl⟩⟩; refine ⟨_, rfl, ?_⟩) | (go_at_call 52; (with_reducible refine (impl_within.calls a0_1 0 99 false _ A4.out).mono ?_); rintro e w' ⟨rfl, ⟨nd, rfl⟩⟩))
   go_ret; exact ⟨er, bb⟩
 ·replace c3 := Bool.eq_false_iff.mpr c3; subst c3; have H1 : (some false) = some r := by rw [if_neg (show ¬ (false = true) by decide)] at H; exact H
  clear H; have H := H1; clear H1; obtain rfl := Option.some.inj H
  go_enter Try.func81, Try.ntmps81
  go_wp2_with (first | ((with_reducible refine gate_dst (N := 1) rfl ?_); refine bx_ 1 #[.int .i64 a0_0, .int .i64 a0_1, .int .i64 a0_2] 42 ?_; intro gb136 hg w11 hbox hb; have BK136 := kp (hbox); have GW136 := kp (bs hg); have GE136 := kp (bs hg); replace HB := kp (below_step bb hb); clear hb hbox hg; obtain ⟨hcz12_0, hcz12_1, hcz12_2, hfz12_0, hfz12_1, hfz12_2⟩ := bf3 BK136.out) | ((with_reducible refine gate_callee (f := 52) rfl ?_); refine gl_ 5 Try.func52 #[.int .i64 a0_0, .int .i64 0, .int .i64 9] ?_; (with_reducible refine (impl_within.calls a0_0 0 9 false _ A2.out).mono ?_); rintro e w' ⟨rfl, ⟨nd, rfl⟩⟩; refine ⟨_, rfl, ?_⟩))
  go_ret; exact ⟨er, bb⟩
def impl_RowCost.f (a0_0 : Int) (a0_1 : Int) (a0_2 : Int) : Option (Int) := (impl_IsValidRow.f a0_0 a0_1 a0_2).bind fun t141 => (if t141 = true then (some (wrap64 (1 + a0_2))) else (some 0))
set_option maxHeartbeats 8000000 in
set_option maxRecDepth 100000 in
theorem impl_RowCost.calls (a0_0 : Int) (a0_1 : Int) (a0_2 : Int) (r : Int) (w : World) (h : impl_RowCost.f a0_0 a0_1 a0_2 = some r) :
  Calls Try.prog 56 #[.agg #[.int .i64 a0_0, .int .i64 a0_1, .int .i64 a0_2]] w fun e w' => e = .returned (.int .i64 r) ∧ Below w.heap.size w w' := by
 have hu42 := Try.underlying42
 have HB := kp (Below.refl w.heap.size w)
 have H : ((impl_IsValidRow.f a0_0 a0_1 a0_2).bind fun t141 => (if t141 = true then (some (wrap64 (1 + a0_2))) else (some 0))) = some r := h
 clear h
 replace H := Option.bind_eq_some_iff.mp H
 obtain ⟨t141, A20, H⟩ := H
 replace H : (if t141 = true then (some (wrap64 (1 + a0_2))) else (some 0)) = some r := H
 have A2 := kp A20
 clear A20
 by_cases c3 : t141 = true
 ·subst c3; have H1 : (some (wrap64 (1 + a0_2))) = some r := by rw [if_pos rfl] at H; exact H
  clear H; have H := H1; clear H1; obtain rfl := Option.some.inj H
  go_enter Try.func56, Try.ntmps56
  go_wp2_with (first | ((with_reducible refine gate_dst (N := 1) rfl ?_); refine bx_ 1 #[.int .i64 a0_0, .int .i64 a0_1, .int .i64 a0_2] 42 ?_; intro gb140 hg w4 hbox hb; have BK140 := kp (hbox); have GW140 := kp (bs hg); have GE140 := kp (bs hg); replace HB := kp (below_step bb hb); clear hb hbox hg; obtain ⟨hcz5_0, hcz5_1, hcz5_2, hfz5_0, hfz5_1, hfz5_2⟩ := bf3 BK140.out) | ((with_reducible refine gate_callee (f := 81) rfl ?_); refine gl_ 4 Try.func81 #[.agg #[.int .i64 a0_0, .int .i64 a0_1, .int .i64 a0_2]] ?_; (with_reducible refine (impl_IsValidRow.calls a0_0 a0_1 a0_2 true _ A2.out).mono ?_); rintro e w6 ⟨rfl, hb⟩; refine ⟨_, rfl, ?_⟩; replace BK140 := kp (kb BK140.out hb); replace HB := kp (below_step bb hb); (try clear hb); obtain ⟨hcz7_0, hcz7_1, hcz7_2, hfz7_0, hfz7_1, hfz7_2⟩ := bf3 BK140.out))
  go_ret; exact ⟨er, bb⟩
 ·replace c3 := Bool.eq_false_iff.mpr c3; subst c3; have H1 : (some 0) = some r := by rw [if_neg (show ¬ (false = true) by decide)] at H; exact H
  clear H; have H := H1; clear H1; obtain rfl := Option.some.inj H
  go_enter Try.func56, Try.ntmps56
  go_wp2_with (first | ((with_reducible refine gate_dst (N := 1) rfl ?_); refine bx_ 1 #[.int .i64 a0_0, .int .i64 a0_1, .int .i64 a0_2] 42 ?_; intro gb140 hg w8 hbox hb; have BK140 := kp (hbox); have GW140 := kp (bs hg); have GE140 := kp (bs hg); replace HB := kp (below_step bb hb); clear hb hbox hg; obtain ⟨hcz9_0, hcz9_1, hcz9_2, hfz9_0, hfz9_1, hfz9_2⟩ := bf3 BK140.out) | ((with_reducible refine gate_callee (f := 81) rfl ?_); refine gl_ 4 Try.func81 #[.agg #[.int .i64 a0_0, .int .i64 a0_1, .int .i64 a0_2]] ?_; (with_reducible refine (impl_IsValidRow.calls a0_0 a0_1 a0_2 false _ A2.out).mono ?_); rintro e w10 ⟨rfl, hb⟩; refine ⟨_, rfl, ?_⟩; replace BK140 := kp (kb BK140.out hb); replace HB := kp (below_step bb hb); (try clear hb)))
  go_ret; exact ⟨er, bb⟩
end Go.Proofs.Ytljpfogplcdcjaa.PFnPagePacking
