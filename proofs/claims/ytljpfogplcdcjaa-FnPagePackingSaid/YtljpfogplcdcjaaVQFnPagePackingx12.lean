/- Out of a copy of the print, with function values told: nothing is claimed here. -/
import Derived.Test.YtljpfogplcdcjaaVQFnPagePackingx0
import Derived.Test.YtljpfogplcdcjaaVQFnPagePackingx6
import Derived.Test.YtljpfogplcdcjaaVQFnPagePackingx11
import Derived.Test.YtljpfogplcdcjaaVShort
import Derived.Test.YtljpfogplcdcjaaVPress
namespace Go.Proofs.Ytljpfogplcdcjaa.PFnPagePacking
open Go.RowKit Go.Proofs.YtljpfogplcdcjaaW.PrintWords Go.Proofs.YtljpfogplcdcjaaW.PrintLast Go.Proofs.YtljpfogplcdcjaaW.PrintMore Go.Proofs.Ytljpfogplcdcjaa.Short Go.Proofs.Ytljpfogplcdcjaa.Press
attribute [local go_sem] max2_int min2_int max_two min_two max_three min_three max_four min_four   -- for this text's walks alone
set_option linter.unusedVariables false
set_option linter.unusedSimpArgs false
mutual
def impl_ParsePages.l0 : Nat → ByteArray → List (S39) → Option ((List (S39)) × Bool)
 | 0, _, _ => none
 | k + 1, x0, x4 => if (x0.size : Int) > 0 then (impl_ParsePages.l1 k x0 x4 1) else (some (x4, true))
def impl_ParsePages.j2 : Nat → ByteArray → List (S39) → Int → Option ((List (S39)) × Bool)
 | 0, _, _, _ => none
 | k + 1, x0, x4, x5 => if 0 < (x0.size : Int) then (if (bt x0 0) = 91 then (impl_ParsePages.j3 k x0 x4 x5 (x5 == (x0.size : Int))) else (impl_ParsePages.j3 k x0 x4 x5 true)) else (none)
def impl_ParsePages.j3 : Nat → ByteArray → List (S39) → Int → Bool → Option ((List (S39)) × Bool)
 | 0, _, _, _, _ => none
 | k + 1, x0, x4, x5, x33 => if x33 = true then (some (([] : List (S39)), false)) else (if 1 ≤ x5 then (if x5 ≤ (x0.size : Int) then ((impl_ParseRows.f k (x0.extract 1 (x5 : Int).toNat)).bind fun bt482 => (if bt482.2 = true then ((impl_IsValidPage.f k bt482.1).bind fun t487 => (if t487 = true then (if x4.length < 5864062014805 then (if 0 ≤ (wrap64 (x5 + 1)) then (if (wrap64 (x5 + 1)) ≤ (x0.size : Int) then (impl_ParsePages.l0 k (x0.extract ((wrap64 (x5 + 1)) : Int).toNat x0.size) (x4 ++ [(⟨bt482.1⟩ : S39)])) else (none)) else (none)) else (none)) else (some (([] : List (S39)), false)))) else (some (([] : List (S39)), false)))) else (none)) else (none))
def impl_ParsePages.l1 : Nat → ByteArray → List (S39) → Int → Option ((List (S39)) × Bool)
 | 0, _, _, _ => none
 | k + 1, x0, x4, x5 => if x5 < (x0.size : Int) then (if 0 ≤ x5 then (if (bt x0 x5) = 93 then (impl_ParsePages.j2 k x0 x4 x5) else (impl_ParsePages.l1 k x0 x4 (wrap64 (x5 + 1)))) else (none)) else (impl_ParsePages.j2 k x0 x4 x5)
end
def impl_ParsePages.f (k : Nat) (a0 : ByteArray) : Option ((List (S39)) × Bool) := impl_ParsePages.l0 k a0 (([] : List (S39)))
theorem impl_ParsePages.mono_l : ∀ k, (∀ y0 y1, LeO (impl_ParsePages.l0 k y0 y1) (impl_ParsePages.l0 (k + 1) y0 y1)) ∧ (∀ y0 y1 y2, LeO (impl_ParsePages.j2 k y0 y1 y2) (impl_ParsePages.j2 (k + 1) y0 y1 y2)) ∧ (∀ y0 y1 y2 y3, LeO (impl_ParsePages.j3 k y0 y1 y2 y3) (impl_ParsePages.j3 (k + 1) y0 y1 y2 y3)) ∧ (∀ y0 y1 y2, LeO (impl_ParsePages.l1 k y0 y1 y2) (impl_ParsePages.l1 (k + 1) y0 y1 y2))
 | 0 => ⟨fun _ _ r h => by simp [impl_ParsePages.l0] at h, fun _ _ _ r h => by simp [impl_ParsePages.j2] at h, fun _ _ _ _ r h => by simp [impl_ParsePages.j3] at h, fun _ _ _ r h => by simp [impl_ParsePages.l1] at h⟩
 | k + 1 => by
  obtain ⟨ih0, ih1, ih2, ih3⟩ := impl_ParsePages.mono_l k
  refine ⟨?_, ?_, ?_, ?_⟩
  ·intro y0 y1
   unfold impl_ParsePages.l0
   repeat' first
   | (with_reducible exact ih0 _ _)
   | (with_reducible exact ih1 _ _ _)
   | (with_reducible exact ih2 _ _ _ _)
   | (with_reducible exact ih3 _ _ _)
   | (with_reducible exact impl_IsValidPage.mono _ _)
   | (with_reducible exact impl_ParseRows.mono _ _)
   | (with_reducible exact LeO.refl _)
   | (with_reducible exact LeO.none _)
   | (with_reducible refine LeO.ite ?_ ?_)
   | (with_reducible refine LeO.bind ?_ (fun _ => ?_))
  ·intro y0 y1 y2
   unfold impl_ParsePages.j2
   repeat' first
   | (with_reducible exact ih0 _ _)
   | (with_reducible exact ih1 _ _ _)
   | (with_reducible exact ih2 _ _ _ _)
   | (with_reducible exact ih3 _ _ _)
   | (with_reducible exact impl_IsValidPage.mono _ _)
   | (with_reducible exact impl_ParseRows.mono _ _)
   | (with_reducible exact LeO.refl _)
   | (with_reducible exact LeO.none _)
   | (with_reducible refine LeO.ite ?_ ?_)
   | (with_reducible refine LeO.bind ?_ (fun _ => ?_))
  ·intro y0 y1 y2 y3
   unfold impl_ParsePages.j3
   repeat' first
   | (with_reducible exact ih0 _ _)
   | (with_reducible exact ih1 _ _ _)
   | (with_reducible exact ih2 _ _ _ _)
   | (with_reducible exact ih3 _ _ _)
   | (with_reducible exact impl_IsValidPage.mono _ _)
   | (with_reducible exact impl_ParseRows.mono _ _)
   | (with_reducible exact LeO.refl _)
   | (with_reducible exact LeO.none _)
   | (with_reducible refine LeO.ite ?_ ?_)
   | (with_reducible refine LeO.bind ?_ (fun _ => ?_))
  ·intro y0 y1 y2
   unfold impl_ParsePages.l1
   repeat' first
   | (with_reducible exact ih0 _ _)
   | (with_reducible exact ih1 _ _ _)
   | (with_reducible exact ih2 _ _ _ _)
   | (with_reducible exact ih3 _ _ _)
   | (with_reducible exact impl_IsValidPage.mono _ _)
   | (with_reducible exact impl_ParseRows.mono _ _)
   | (with_reducible exact LeO.refl _)
   | (with_reducible exact LeO.none _)
   | (with_reducible refine LeO.ite ?_ ?_)
   | (with_reducible refine LeO.bind ?_ (fun _ => ?_))
theorem impl_ParsePages.mono : ∀ a0 k, LeO (impl_ParsePages.f k a0) (impl_ParsePages.f (k + 1) a0) := by
 intro a0 k
 obtain ⟨ih0, ih1, ih2, ih3⟩ := impl_ParsePages.mono_l k
 unfold impl_ParsePages.f
 repeat' first
   | (with_reducible exact ih0 _ _)
   | (with_reducible exact ih1 _ _ _)
   | (with_reducible exact ih2 _ _ _ _)
   | (with_reducible exact ih3 _ _ _)
   | (with_reducible exact impl_IsValidPage.mono _ _)
   | (with_reducible exact impl_ParseRows.mono _ _)
   | (with_reducible exact LeO.refl _)
   | (with_reducible exact LeO.none _)
   | (with_reducible refine LeO.ite ?_ ?_)
   | (with_reducible refine LeO.bind ?_ (fun _ => ?_))
set_option maxHeartbeats 8000000 in
set_option maxRecDepth 100000 in
theorem impl_ParsePages.calls (k : Nat) (a0 : ByteArray) (r1 : List (S39)) (r2 : Bool) (w : World) (h : impl_ParsePages.f k a0 = some (r1, r2)) :
  Calls Try.prog 23 #[.string a0] w fun e w' => ∃ v0_ : Value, e = .returned (.tuple #[v0_, .bool r2]) ∧ Kd.S k39 39 w' w.heap.size (fun _ => True) v0_ r1 ∧ Below w.heap.size w w' := by
 have hu39 := Try.underlying39
 have HB := kp (Below.refl w.heap.size w)
 have H : (impl_ParsePages.l0 k a0 (([] : List (S39)))) = some (r1, r2) := h
 clear h
 obtain ⟨y479, hy479⟩ : ∃ y_ : List (S39), y_ = (([] : List (S39))) := ⟨_, rfl⟩
 replace H : (impl_ParsePages.l0 k a0 y479) = some (r1, r2) := by first | (rw [hy479]; with_reducible exact H) | (have H2_ := (Option.bind_some _ _).symm.trans H; rw [hy479]; with_reducible exact H2_) | (have H2_ := (Option.bind_some _ _).symm.trans H; with_reducible exact H2_) | with_reducible exact H | (rw [hy479]; exact H) | exact H
 have Ny479 := kp hy479
 clear hy479
 have H' := kp H
 clear H
 go_enter Try.func23, Try.ntmps23
 go_wp2_with (first | ((with_reducible refine gate_dst (N := 9) rfl ?_); (try (refine gate_guard (by rfl) ?_; dsimp only)); refine Kd.S_lit k39 _ 39 ?hg (N := 9) ?hd (xs := ([] : List (S39))) (inner := []) (ok := fun _ => True) (okp := fun _ => True) ?hr ?hp (fun _ hk => hk) trivial (Below.refl _ _) (Nat.le_refl _) (by simp) ?_; (case hd => rfl); (case hg => rfl); (case hr => first | (go_simp; done) | (go_simp; rfl)); (case hp => exact (Reps.none _ _)); intro v480 w2 ho3 hb hg_ hnew_; clear hg_ hnew_; (first | rw [← Ny479.out] at ho3 | (simp only [Int.reduceToNat] at ho3; rw [← Ny479.out] at ho3)); have HO481 := kp (Kd.S_lower ho3 (below_size bb)); replace HB := kp (below_step bb hb); clear hb ho3))
 (try simp only [Act.put, List.setIfInBounds_toArray, List.set_cons_zero, List.set_cons_succ])
 go_loopg [0, 4] k (fun kq v0 v4 w' => ∃ (x0_1 : ByteArray) (x4_1 : List (S39)), v0 = .string x0_1 ∧ Aside0 (impl_ParsePages.l0 kq x0_1 x4_1 = some (r1, r2)) ∧ Aside0 (kq ≤ k) ∧ Aside0 (Kd.S k39 39 w' w.heap.size (fun _ => True) v4 x4_1) ∧ Aside0 (Below w.heap.size w w'))
 case atStart => exact ⟨(a0), (y479), (by first | rfl | (simp; done) | (simp [*]; done)), H', ⟨Nat.le_refl _⟩, ⟨by (with_reducible repeat (first | apply Kd.S_alloc | apply Kd.S_drewN | apply Kd.S_drew)); exact HO481.out⟩, ⟨bb⟩⟩
 case round =>
  clear H'
  obtain ⟨x0_1, x4_1, rfl, HA, HK1, HO_4, HB⟩ := hrel
  cases gk with
  | zero => exact absurd HA.out (by simp [impl_ParsePages.l0])
  | succ k1 =>
   have H := HA.out; clear HA; simp only [impl_ParsePages.l0] at H
   by_cases c4 : (x0_1.size : Int) > 0
   ·rw [if_pos c4] at H; have c4b0 : decide (0 < (x0_1.size : Int)) = true := decide_eq_true c4; have c4b1 : decide (0 < x0_1.size) = true := decide_eq_true (by omega); clear c4; have HC5 := kp H; clear H
    go_upto_block 2 with (fail)
    go_cut [5] (fun v5 wc => ∃ (kq : Nat) (x5_4 : Int), v5 = .int .i64 x5_4 ∧ Aside0 (impl_ParsePages.j2 kq x0_1 x4_1 x5_4 = some (r1, r2)) ∧ Aside0 (kq ≤ k1) ∧ Aside0 (Kd.S k39 39 wc w.heap.size (fun _ => True) u4 x4_1) ∧ Aside0 (Below w.heap.size w wc))
    case first =>
     have H := HC5.out; clear HC5; have H' := kp H; clear H; go_wp2
     go_loopg [5] k1 (fun kq v5 w' => ∃ (x5_2 : Int), v5 = .int .i64 x5_2 ∧ Aside0 (impl_ParsePages.l1 kq x0_1 x4_1 x5_2 = some (r1, r2)) ∧ Aside0 (kq ≤ k1) ∧ Aside0 (Kd.S k39 39 w' w.heap.size (fun _ => True) u4 x4_1) ∧ Aside0 (Below w.heap.size w w'))
     case atStart => exact ⟨(1), (by first | rfl | (simp; done) | (simp [*]; done)), H', ⟨Nat.le_refl _⟩, ⟨by (with_reducible repeat (first | apply Kd.S_alloc | apply Kd.S_drewN | apply Kd.S_drew)); exact HO_4.out⟩, ⟨bb⟩⟩
     case round =>
      clear H'
      try clear c4
      try clear c4b0
      try clear c4b1
      obtain ⟨x5_2, rfl, HA, HK2, HO_4, HB⟩ := hrel
      cases gk with
      | zero => exact absurd HA.out (by simp [impl_ParsePages.l1])
      | succ k2 =>
       have H := HA.out; clear HA; simp only [impl_ParsePages.l1] at H
       by_cases c6 : x5_2 < (x0_1.size : Int)
       ·rw [if_pos c6] at H; have c6b0 : decide (x5_2 < (x0_1.size : Int)) = true := decide_eq_true c6; clear c6; (first | rw [c6b0] | (simp only [i64_w, i32_w]; rw [c6b0]) | skip)
        by_cases c7 : 0 ≤ x5_2
        ·rw [if_pos c7] at H; have c7b0 : decide (0 ≤ x5_2) = true := decide_eq_true c7; clear c7
         by_cases c9 : (bt x0_1 x5_2) = 93
         ·rw [if_pos c9] at H; have c9b0 : ((bt x0_1 x5_2) == 93) = true := beq_iff_eq.mpr c9; have c9b1 : ((bt x0_1 x5_2) != 93) = false := bne_eq_false_iff_eq.mpr c9; clear c9; have H' := kp H; clear H; have p8 : 0 ≤ (x5_2 : Int) := dt; have q8 : x5_2 < (x0_1.size : Int) := dt; have hx8 := bt_at x0_1 x5_2; replace p8 := eq_true p8; replace q8 := eq_true q8; go_wp2
          go_meet
          case rel => exact ⟨_, (x5_2), (by first | rfl | (simp; done) | (simp [*]; done)), H', ⟨by have := HK1.out; have := HK2.out; first | omega | exact Nat.le_refl _⟩, ⟨by (with_reducible repeat (first | apply Kd.S_alloc | apply Kd.S_drewN | apply Kd.S_drew)); exact HO_4.out⟩, ⟨bb⟩⟩
         ·rw [if_neg c9] at H; have c9b0 : ((bt x0_1 x5_2) == 93) = false := beq_eq_false_iff_ne.mpr c9; have c9b1 : ((bt x0_1 x5_2) != 93) = true := bne_iff_ne.mpr c9; have H' := kp H; clear H; have p8 : 0 ≤ (x5_2 : Int) := dt; have q8 : x5_2 < (x0_1.size : Int) := dt; have hx8 := bt_at x0_1 x5_2; replace p8 := eq_true p8; replace q8 := eq_true q8; go_wp2
          go_roundg k2
          case measure => have := HK1.out; have := HK2.out; omega
          case rel => exact ⟨(wrap64 (x5_2 + 1)), (by first | rfl | (simp; done) | (simp [*]; done)), H', ⟨by have := HK1.out; have := HK2.out; omega⟩, ⟨by (with_reducible repeat (first | apply Kd.S_alloc | apply Kd.S_drewN | apply Kd.S_drew)); exact HO_4.out⟩, ⟨bb⟩⟩
        ·rw [if_neg c7] at H; exact absurd H (by simp)
       ·rw [if_neg c6] at H; have c6b0 : decide (x5_2 < (x0_1.size : Int)) = false := decide_eq_false c6; clear c6; (first | rw [c6b0] | (simp only [i64_w, i32_w]; rw [c6b0]) | skip); have H' := kp H; clear H; go_wp2
        go_meet
        case rel => exact ⟨_, (x5_2), (by first | rfl | (simp; done) | (simp [*]; done)), H', ⟨by have := HK1.out; have := HK2.out; first | omega | exact Nat.le_refl _⟩, ⟨by (with_reducible repeat (first | apply Kd.S_alloc | apply Kd.S_drewN | apply Kd.S_drew)); exact HO_4.out⟩, ⟨bb⟩⟩
    case rest =>
     clear HC5
     try clear c4
     try clear c4b0
     try clear c4b1
     obtain ⟨kq, x5_4, rfl, HA, HJ4, HO_4, HB⟩ := hcut
     cases kq with
     | zero => exact absurd HA.out (by simp [impl_ParsePages.j2])
     | succ kj4 =>
      have H := HA.out; clear HA; simp only [impl_ParsePages.j2] at H; have HC10 := kp H; clear H
      go_upto_region 6 with (fail)
      go_cut [33] (fun v33 wc => ∃ (kq : Nat) (x33_9 : Bool), v33 = .bool x33_9 ∧ Aside0 (impl_ParsePages.j3 kq x0_1 x4_1 x5_4 x33_9 = some (r1, r2)) ∧ Aside0 (kq ≤ kj4) ∧ Aside0 (Kd.S k39 39 wc w.heap.size (fun _ => True) u4 x4_1) ∧ Aside0 (Below w.heap.size w wc))
      case first =>
       have H := HC10.out; clear HC10
       by_cases c11 : 0 < (x0_1.size : Int)
       ·rw [if_pos c11] at H; have c11b0 : decide (0 < (x0_1.size : Int)) = true := decide_eq_true c11; have c11b1 : decide (0 < x0_1.size) = true := decide_eq_true (by omega); clear c11; (first | rw [c11b0] | (simp only [i64_w, i32_w]; rw [c11b0]) | skip)
        by_cases c13 : (bt x0_1 0) = 91
        ·rw [if_pos c13] at H; have c13b0 : ((bt x0_1 0) == 91) = true := beq_iff_eq.mpr c13; have c13b1 : ((bt x0_1 0) != 91) = false := bne_eq_false_iff_eq.mpr c13; clear c13; have H' := kp H; clear H; have p12 : 0 ≤ (0 : Int) := (by omega); have q12 : 0 < x0_1.size := (by have : (0 : Int) < (x0_1.size : Int) := dt; omega); have hx12 : ∀ h : 0 < x0_1.size, ((x0_1[0]'h).toNat : Int) = bt x0_1 0 := bt_at x0_1 0; clear p12; have qi12 : (0 < (x0_1.size : Int)) = True := eq_true (dt); replace q12 := eq_true q12; go_wp2
         go_meet
         case rel => exact ⟨_, ((x5_4 == (x0_1.size : Int))), (by first | rfl | (simp; done) | (simp [*]; done)), H', ⟨by have := HK1.out; have := HJ4.out; first | omega | exact Nat.le_refl _⟩, ⟨by (with_reducible repeat (first | apply Kd.S_alloc | apply Kd.S_drewN | apply Kd.S_drew)); exact HO_4.out⟩, ⟨bb⟩⟩
        ·rw [if_neg c13] at H; have c13b0 : ((bt x0_1 0) == 91) = false := beq_eq_false_iff_ne.mpr c13; have c13b1 : ((bt x0_1 0) != 91) = true := bne_iff_ne.mpr c13; have H' := kp H; clear H; have p12 : 0 ≤ (0 : Int) := (by omega); have q12 : 0 < x0_1.size := (by have : (0 : Int) < (x0_1.size : Int) := dt; omega); have hx12 : ∀ h : 0 < x0_1.size, ((x0_1[0]'h).toNat : Int) = bt x0_1 0 := bt_at x0_1 0; clear p12; have qi12 : (0 < (x0_1.size : Int)) = True := eq_true (dt); replace q12 := eq_true q12; go_wp2
         go_meet
         case rel => exact ⟨_, (true), (by first | rfl | (simp; done) | (simp [*]; done)), H', ⟨by have := HK1.out; have := HJ4.out; first | omega | exact Nat.le_refl _⟩, ⟨by (with_reducible repeat (first | apply Kd.S_alloc | apply Kd.S_drewN | apply Kd.S_drew)); exact HO_4.out⟩, ⟨bb⟩⟩
       ·rw [if_neg c11] at H; exact absurd H (by simp)
      case rest =>
       clear HC10
       try clear c4
       try clear c4b0
       try clear c4b1
       obtain ⟨kq, x33_9, rfl, HA, HJ9, HO_4, HB⟩ := hcut
       cases kq with
       | zero => exact absurd HA.out (by simp [impl_ParsePages.j3])
       | succ kj9 =>
        have H := HA.out; clear HA; simp only [impl_ParsePages.j3] at H
        by_cases c14 : x33_9 = true
        ·subst c14; have H1 : (some (([] : List (S39)), false)) = some (r1, r2) := by rw [if_pos rfl] at H; exact H
         clear H; have H := H1; clear H1; simp only [Option.some.injEq, Prod.mk.injEq] at H; obtain ⟨rfl, rfl⟩ := H; go_wp2
         go_ret2
         exact ⟨_, er, by first | exact Kd.S_nil _ _ _ _ _ | exact Kd.N_nil _ _ _ _ _ | exact Kd.V_nil _ _ _ _ _ | exact Kd.Q_nil _ _ _ _ _ | exact Kd.R_nil _ _ _ _ _, bb⟩
        ·replace c14 := Bool.eq_false_iff.mpr c14; subst c14; have H1 : (if 1 ≤ x5_4 then (if x5_4 ≤ (x0_1.size : Int) then ((impl_ParseRows.f kj9 (x0_1.extract 1 (x5_4 : Int).toNat)).bind fun bt482 => (if bt482.2 = true then ((impl_IsValidPage.f kj9 bt482.1).bind fun t487 => (if t487 = true then (if x4_1.length < 5864062014805 then (if 0 ≤ (wrap64 (x5_4 + 1)) then (if (wrap64 (x5_4 + 1)) ≤ (x0_1.size : Int) then (impl_ParsePages.l0 kj9 (x0_1.extract ((wrap64 (x5_4 + 1)) : Int).toNat x0_1.size) (x4_1 ++ [(⟨bt482.1⟩ : S39)])) else (none)) else (none)) else (none)) else (some (([] : List (S39)), false)))) else (some (([] : List (S39)), false)))) else (none)) else (none)) = some (r1, r2) := by rw [if_neg (show ¬ (false = true) by decide)] at H; exact H
         clear H; have H := H1; clear H1
         by_cases c15 : 1 ≤ x5_4
         ·rw [if_pos c15] at H; have c15b0 := eq_true c15; have c15b1 : decide (1 ≤ x5_4) = true := decide_eq_true c15; clear c15
          by_cases c16 : x5_4 ≤ (x0_1.size : Int)
          ·rw [if_pos c16] at H; have c16b0 := eq_true c16; have c16b1 : decide (x5_4 ≤ (x0_1.size : Int)) = true := decide_eq_true c16; clear c16; replace H := Option.bind_eq_some_iff.mp H; obtain ⟨⟨t482, t483⟩, A170, H⟩ := H; replace H : (if t483 = true then ((impl_IsValidPage.f kj9 t482).bind fun t487 => (if t487 = true then (if x4_1.length < 5864062014805 then (if 0 ≤ (wrap64 (x5_4 + 1)) then (if (wrap64 (x5_4 + 1)) ≤ (x0_1.size : Int) then (impl_ParsePages.l0 kj9 (x0_1.extract ((wrap64 (x5_4 + 1)) : Int).toNat x0_1.size) (x4_1 ++ [(⟨t482⟩ : S39)])) else (none)) else (none)) else (none)) else (some (([] : List (S39)), false)))) else (some (([] : List (S39)), false))) = some (r1, r2) := H; have A17 := kp A170; clear A170
           by_cases c18 : t483 = true
           ·subst c18; have H1 : ((impl_IsValidPage.f kj9 t482).bind fun t487 => (if t487 = true then (if x4_1.length < 5864062014805 then (if 0 ≤ (wrap64 (x5_4 + 1)) then (if (wrap64 (x5_4 + 1)) ≤ (x0_1.size : Int) then (impl_ParsePages.l0 kj9 (x0_1.extract ((wrap64 (x5_4 + 1)) : Int).toNat x0_1.size) (x4_1 ++ [(⟨t482⟩ : S39)])) else (none)) else (none)) else (none)) else (some (([] : List (S39)), false)))) = some (r1, r2) := by rw [if_pos rfl] at H; exact H
            clear H; have H := H1; clear H1; replace H := Option.bind_eq_some_iff.mp H; obtain ⟨t487, A190, H⟩ := H; replace H : (if t487 = true then (if x4_1.length < 5864062014805 then (if 0 ≤ (wrap64 (x5_4 + 1)) then (if (wrap64 (x5_4 + 1)) ≤ (x0_1.size : Int) then (impl_ParsePages.l0 kj9 (x0_1.extract ((wrap64 (x5_4 + 1)) : Int).toNat x0_1.size) (x4_1 ++ [(⟨t482⟩ : S39)])) else (none)) else (none)) else (none)) else (some (([] : List (S39)), false))) = some (r1, r2) := H; have A19 := kp A190; clear A190
            by_cases c20 : t487 = true
            ·subst c20; have H1 : (if x4_1.length < 5864062014805 then (if 0 ≤ (wrap64 (x5_4 + 1)) then (if (wrap64 (x5_4 + 1)) ≤ (x0_1.size : Int) then (impl_ParsePages.l0 kj9 (x0_1.extract ((wrap64 (x5_4 + 1)) : Int).toNat x0_1.size) (x4_1 ++ [(⟨t482⟩ : S39)])) else (none)) else (none)) else (none)) = some (r1, r2) := by rw [if_pos rfl] at H; exact H
             clear H; have H := H1; clear H1
             by_cases c21 : x4_1.length < 5864062014805
             ·rw [if_pos c21] at H; have LMc21 := kp c21; clear c21; obtain ⟨y488, hy488⟩ : ∃ y_ : List (S39), y_ = (x4_1 ++ [(⟨t482⟩ : S39)]) := ⟨_, rfl⟩; replace H : (if 0 ≤ (wrap64 (x5_4 + 1)) then (if (wrap64 (x5_4 + 1)) ≤ (x0_1.size : Int) then (impl_ParsePages.l0 kj9 (x0_1.extract ((wrap64 (x5_4 + 1)) : Int).toNat x0_1.size) y488) else (none)) else (none)) = some (r1, r2) := by first | (rw [hy488]; with_reducible exact H) | (have H2_ := (Option.bind_some _ _).symm.trans H; rw [hy488]; with_reducible exact H2_) | (have H2_ := (Option.bind_some _ _).symm.trans H; with_reducible exact H2_) | with_reducible exact H | (rw [hy488]; exact H) | exact H
              have Ny488 := kp hy488; clear hy488; obtain ⟨ji22, hji22⟩ : ∃ j_ : Int, (wrap64 (x5_4 + 1)) = j_ := ⟨_, rfl⟩; replace H : (if 0 ≤ (ji22) then (if (ji22) ≤ (x0_1.size : Int) then (impl_ParsePages.l0 kj9 (x0_1.extract ((ji22) : Int).toNat x0_1.size) y488) else (none)) else (none)) = some (r1, r2) := by first | (rw [hji22] at H; exact H) | (simp only [hji22] at H ⊢; exact H)
              (try rw [hji22] at A17); (try rw [hji22] at A19); have hji22w : (IntKind.i64.wrap (x5_4 + 1)) = ji22 := (i64_w _).trans hji22
              by_cases c23 : 0 ≤ (ji22)
              ·rw [if_pos c23] at H; have c23b0 := eq_true c23; have c23b1 : decide (0 ≤ (ji22)) = true := decide_eq_true c23; clear c23
               by_cases c24 : (ji22) ≤ (x0_1.size : Int)
               ·rw [if_pos c24] at H; have c24b0 := eq_true c24; have c24b1 : decide ((ji22) ≤ (x0_1.size : Int)) = true := decide_eq_true c24; clear c24; have H' := kp H; clear H
                go_wp2_with (first | ((with_reducible refine gate_callee (f := 61) rfl ?_); refine gl_ 38 Try.func61 #[.string (x0_1.extract 1 (x5_4 : Int).toNat)] ?_; (with_reducible refine (impl_ParseRows.calls kj9 (x0_1.extract 1 (x5_4 : Int).toNat) t482 true _ A17.out).mono ?_); rintro e w25 ⟨v484, rfl, ho0, hb⟩; refine ⟨_, rfl, ?_⟩; replace HO_4 := kp (Kd.S_elder' (by (with_reducible repeat (first | apply Kd.S_alloc | apply Kd.S_drewN | apply Kd.S_drew)); exact HO_4.out) (Kd.R_base ho0) hb); have HO485 := kp (Kd.R_lower ho0 (below_size bb)); replace HB := kp (below_step bb hb); (try clear hb); (try clear ho0); obtain ⟨Ao26, co26, eo26⟩ := Kd.R_slice HO485.out; subst eo26) | ((with_reducible refine gate_dst (N := 8) rfl ?_); (try (refine gate_guard (by rfl) ?_; dsimp only)); refine bx_ 8 #[.slice none 0 0] 39 ?_; intro gb486 hg w27 hbox hb; replace HO_4 := kp (Kd.S_below (Kd.S_elderB (by (with_reducible repeat (first | apply Kd.S_alloc | apply Kd.S_drewN | apply Kd.S_drew)); exact HO_4.out) gb486 (Nat.le_of_eq hg.symm)) hb); replace HO485 := kp (Kd.R_below (by (with_reducible repeat (first | apply rA | apply rN | apply rD)); exact HO485.out) hb); have BK486 := kp (hbox); have GW486 := kp (bs hg); have GE486 := kp (bs hg); replace HB := kp (below_step bb hb); clear hb hbox hg; obtain ⟨hcz28_0, hfz28_0⟩ := bf1 BK486.out) | (go_at_call 18; (with_reducible refine (impl_IsValidPage.calls kj9 _ _ t482 true _ ?side1 ?side2 A19.out).mono ?_); (case side1 => refine (Kd.R_reads' (e := 42) (base := w.heap.size) (ok := fun k_ => True) (n := t482.length) (c := co26) ?_).2.2; exact (by (with_reducible repeat (first | apply rA | apply rN | apply rD)); exact (Kd.R_mono (Kd.R_far (p := ⟨gb486, 0, none⟩) (Kd.R_types HO485.out BK486.out (by decide)) (fun _ hk => hk.2) (.slice Ao26 t482.length co26)) (fun _ h_ => h_.1)))); (case side2 => exact (Kd.R_reads' HO485.out).2.1); rintro e w29 ⟨rfl, hb⟩; replace HO_4 := kp (Kd.S_below (by (with_reducible repeat (first | apply Kd.S_alloc | apply Kd.S_drewN | apply Kd.S_drew)); exact (Kd.S_mono (Kd.S_far (p := ⟨gb486, 0, none⟩) (Kd.S_mono HO_4.out (fun k_ hk => (⟨hk, hk.2⟩ : _ ∧ k_ ≠ gb486))) (fun _ hk => hk.2) (.slice Ao26 t482.length co26)) (fun _ h_ => h_.1))) hb); replace HO485 := kp (Kd.R_below (by (with_reducible repeat (first | apply rA | apply rN | apply rD)); exact (Kd.R_mono (Kd.R_far (p := ⟨gb486, 0, none⟩) (Kd.R_types HO485.out BK486.out (by decide)) (fun _ hk => hk.2) (.slice Ao26 t482.length co26)) (fun _ h_ => h_.1))) hb); replace BK486 := kp (blk_below (g := gb486) (o := .cells #[.slice Ao26 t482.length co26] 39 (0, 0)) (by refine blk_put (cs := #[.slice none 0 0]) ?_ 0 _ rfl; (with_reducible repeat (first | apply bN | apply bD | apply bA)); exact BK486.out) hb); replace HB := kp (below_step bb hb); (try clear hb); obtain ⟨hcz30_0, hfz30_0⟩ := bf1 BK486.out) | ((with_reducible refine gate_builtin (b := .append) (xs := #[.tmp 50, .tmp 52]) rfl ?_); (try (refine gate_guard (by rfl) ?_; dsimp only)); at_builtin; refine Kd.S_append k39 (w0 := w) w.heap.size rfl (.tmp 50) (.tmp 52) 24 39 (.agg #[(.slice none 0 0)]) 24 rfl Try.underlying24 info39 rfl (by decide) (by omega) u4 x4_1 (⟨t482⟩ : S39) [.slice Ao26 t482.length co26] (fun k_ => k_ ≠ gb486) (fun k_ => some k_ = (.slice Ao26 t482.length co26 : Value).ownBlock) rfl rfl ?aP (fun k_ hk_ => ((Kd.R_mono (ok' := fun k_ => ((fun k_ => k_ ≠ gb486)) k_ ∧ some k_ ≠ (u4 : Value).ownBlock) (Kd.R_types (Kd.R_apart' (HO485.out) (Kd.S_typed HO_4.out) (by decide)) BK486.out (by decide)) (fun k_ hk => ⟨hk.2, hk.1.2⟩))).1 k_ hk_.symm) ?aF ?aO ?aB ?aS ?aL ?_; (case aP => exact k39_mkM _ _ _ (⟨t482⟩ : S39) (Kd.R_mono (Kd.R_tight rfl (Kd.R_mono (ok' := fun k_ => ((fun k_ => k_ ≠ gb486)) k_ ∧ some k_ ≠ (u4 : Value).ownBlock) (Kd.R_types (Kd.R_apart' (HO485.out) (Kd.S_typed HO_4.out) (by decide)) BK486.out (by decide)) (fun k_ hk => ⟨hk.2, hk.1.2⟩))) (fun _ h_ => h_))); (case aB => exact bb); (case aF => exact (fun k_ hk => Kd.freshB (g := gb486) (o := .cells #[.slice Ao26 t482.length co26] 39 (0, 0)) (kk BK486.out) k_ hk)); (case aO => exact (by (with_reducible repeat (first | apply Kd.S_alloc | apply Kd.S_drewN | apply Kd.S_drew)); exact Kd.S_mono HO_4.out (fun k_ hk => ⟨hk.2, fun e_ => hk.1.2 e_⟩))); (case aS => exact (below_size bb)); (case aL => have := LMc21.out; omega); intro v489 w31 ho hb hg hat; rw [← Ny488.out] at ho; replace BK486 := kp (blk_grown (g := gb486) (o := .cells #[.slice Ao26 t482.length co26] 39 (0, 0)) (kk BK486.out) hg (Kd.S_away HO_4.out (fun _ hk => hk.2))); replace HB := kp (hb); have HO490 := kp (ho); clear HO_4; clear HO485; clear ho hb hg hat))
                go_roundg kj9
                case measure => have := HK1.out; have := HJ4.out; have := HJ9.out; omega
                case rel => exact ⟨(x0_1.extract ((ji22) : Int).toNat x0_1.size), (y488), (by first | rfl | (simp; done) | (simp only [← hji22] <;> (first | rfl | simp)) | (simp [*]; done)), H', ⟨by have := HK1.out; have := HJ4.out; have := HJ9.out; omega⟩, ⟨by (with_reducible repeat (first | apply Kd.S_alloc | apply Kd.S_drewN | apply Kd.S_drew)); exact Kd.S_mono HO490.out (fun _ hk => trivial)⟩, ⟨bb⟩⟩
               ·rw [if_neg c24] at H; exact absurd H (by simp)
              ·rw [if_neg c23] at H; exact absurd H (by simp)
             ·rw [if_neg c21] at H; exact absurd H (by simp)
            ·replace c20 := Bool.eq_false_iff.mpr c20; subst c20; have H1 : (some (([] : List (S39)), false)) = some (r1, r2) := by rw [if_neg (show ¬ (false = true) by decide)] at H; exact H
             clear H; have H := H1; clear H1; simp only [Option.some.injEq, Prod.mk.injEq] at H; obtain ⟨rfl, rfl⟩ := H
             go_wp2_with (first | ((with_reducible refine gate_callee (f := 61) rfl ?_); refine gl_ 38 Try.func61 #[.string (x0_1.extract 1 (x5_4 : Int).toNat)] ?_; (with_reducible refine (impl_ParseRows.calls kj9 (x0_1.extract 1 (x5_4 : Int).toNat) t482 true _ A17.out).mono ?_); rintro e w32 ⟨v484, rfl, ho0, hb⟩; refine ⟨_, rfl, ?_⟩; replace HO_4 := kp (Kd.S_elder' (by (with_reducible repeat (first | apply Kd.S_alloc | apply Kd.S_drewN | apply Kd.S_drew)); exact HO_4.out) (Kd.R_base ho0) hb); have HO485 := kp (Kd.R_lower ho0 (below_size bb)); replace HB := kp (below_step bb hb); (try clear hb); (try clear ho0); obtain ⟨Ao33, co33, eo33⟩ := Kd.R_slice HO485.out; subst eo33) | ((with_reducible refine gate_dst (N := 8) rfl ?_); (try (refine gate_guard (by rfl) ?_; dsimp only)); refine bx_ 8 #[.slice none 0 0] 39 ?_; intro gb486 hg w34 hbox hb; replace HO_4 := kp (Kd.S_below (Kd.S_elderB (by (with_reducible repeat (first | apply Kd.S_alloc | apply Kd.S_drewN | apply Kd.S_drew)); exact HO_4.out) gb486 (Nat.le_of_eq hg.symm)) hb); replace HO485 := kp (Kd.R_below (by (with_reducible repeat (first | apply rA | apply rN | apply rD)); exact HO485.out) hb); have BK486 := kp (hbox); have GW486 := kp (bs hg); have GE486 := kp (bs hg); replace HB := kp (below_step bb hb); clear hb hbox hg; obtain ⟨hcz35_0, hfz35_0⟩ := bf1 BK486.out) | (go_at_call 18; (with_reducible refine (impl_IsValidPage.calls kj9 _ _ t482 false _ ?side1 ?side2 A19.out).mono ?_); (case side1 => refine (Kd.R_reads' (e := 42) (base := w.heap.size) (ok := fun k_ => True) (n := t482.length) (c := co33) ?_).2.2; exact (by (with_reducible repeat (first | apply rA | apply rN | apply rD)); exact (Kd.R_mono (Kd.R_far (p := ⟨gb486, 0, none⟩) (Kd.R_types HO485.out BK486.out (by decide)) (fun _ hk => hk.2) (.slice Ao33 t482.length co33)) (fun _ h_ => h_.1)))); (case side2 => exact (Kd.R_reads' HO485.out).2.1); rintro e w36 ⟨rfl, hb⟩; replace HO_4 := kp (Kd.S_below (by (with_reducible repeat (first | apply Kd.S_alloc | apply Kd.S_drewN | apply Kd.S_drew)); exact (Kd.S_mono (Kd.S_far (p := ⟨gb486, 0, none⟩) (Kd.S_mono HO_4.out (fun k_ hk => (⟨hk, hk.2⟩ : _ ∧ k_ ≠ gb486))) (fun _ hk => hk.2) (.slice Ao33 t482.length co33)) (fun _ h_ => h_.1))) hb); replace HO485 := kp (Kd.R_below (by (with_reducible repeat (first | apply rA | apply rN | apply rD)); exact (Kd.R_mono (Kd.R_far (p := ⟨gb486, 0, none⟩) (Kd.R_types HO485.out BK486.out (by decide)) (fun _ hk => hk.2) (.slice Ao33 t482.length co33)) (fun _ h_ => h_.1))) hb); replace BK486 := kp (blk_below (g := gb486) (o := .cells #[.slice Ao33 t482.length co33] 39 (0, 0)) (by refine blk_put (cs := #[.slice none 0 0]) ?_ 0 _ rfl; (with_reducible repeat (first | apply bN | apply bD | apply bA)); exact BK486.out) hb); replace HB := kp (below_step bb hb); (try clear hb)))
             go_ret2
             exact ⟨_, er, by first | exact Kd.S_nil _ _ _ _ _ | exact Kd.N_nil _ _ _ _ _ | exact Kd.V_nil _ _ _ _ _ | exact Kd.Q_nil _ _ _ _ _ | exact Kd.R_nil _ _ _ _ _, bb⟩
           ·replace c18 := Bool.eq_false_iff.mpr c18; subst c18; have H1 : (some (([] : List (S39)), false)) = some (r1, r2) := by rw [if_neg (show ¬ (false = true) by decide)] at H; exact H
            clear H; have H := H1; clear H1; simp only [Option.some.injEq, Prod.mk.injEq] at H; obtain ⟨rfl, rfl⟩ := H
            go_wp2_with (first | ((with_reducible refine gate_callee (f := 61) rfl ?_); refine gl_ 38 Try.func61 #[.string (x0_1.extract 1 (x5_4 : Int).toNat)] ?_; (with_reducible refine (impl_ParseRows.calls kj9 (x0_1.extract 1 (x5_4 : Int).toNat) t482 false _ A17.out).mono ?_); rintro e w37 ⟨v484, rfl, ho0, hb⟩; refine ⟨_, rfl, ?_⟩; replace HO_4 := kp (Kd.S_elder' (by (with_reducible repeat (first | apply Kd.S_alloc | apply Kd.S_drewN | apply Kd.S_drew)); exact HO_4.out) (Kd.R_base ho0) hb); have HO485 := kp (Kd.R_lower ho0 (below_size bb)); replace HB := kp (below_step bb hb); (try clear hb); (try clear ho0); obtain ⟨Ao38, co38, eo38⟩ := Kd.R_slice HO485.out; subst eo38) | ((with_reducible refine gate_dst (N := 8) rfl ?_); (try (refine gate_guard (by rfl) ?_; dsimp only)); refine bx_ 8 #[.slice none 0 0] 39 ?_; intro gb486 hg w39 hbox hb; replace HO_4 := kp (Kd.S_below (Kd.S_elderB (by (with_reducible repeat (first | apply Kd.S_alloc | apply Kd.S_drewN | apply Kd.S_drew)); exact HO_4.out) gb486 (Nat.le_of_eq hg.symm)) hb); replace HO485 := kp (Kd.R_below (by (with_reducible repeat (first | apply rA | apply rN | apply rD)); exact HO485.out) hb); have BK486 := kp (hbox); have GW486 := kp (bs hg); have GE486 := kp (bs hg); replace HB := kp (below_step bb hb); clear hb hbox hg; obtain ⟨hcz40_0, hfz40_0⟩ := bf1 BK486.out))
            go_ret2
            exact ⟨_, er, by first | exact Kd.S_nil _ _ _ _ _ | exact Kd.N_nil _ _ _ _ _ | exact Kd.V_nil _ _ _ _ _ | exact Kd.Q_nil _ _ _ _ _ | exact Kd.R_nil _ _ _ _ _, bb⟩
          ·rw [if_neg c16] at H; exact absurd H (by simp)
         ·rw [if_neg c15] at H; exact absurd H (by simp)
   ·rw [if_neg c4] at H; have c4b0 : decide (0 < (x0_1.size : Int)) = false := decide_eq_false c4; have c4b1 : decide (0 < x0_1.size) = false := decide_eq_false (by omega); clear c4; simp only [Option.some.injEq, Prod.mk.injEq] at H; obtain ⟨rfl, rfl⟩ := H; go_wp2
    go_ret2
    exact ⟨_, er, by (with_reducible repeat (first | apply Kd.S_alloc | apply Kd.S_drewN | apply Kd.S_drew)); exact HO_4.out, bb⟩
def spec_l2Cut.l0 : Nat → ByteArray → Int → List ByteArray → Int → Int → Option (List ByteArray)
 | 0, _, _, _, _, _ => none
 | k + 1, x0, x1, x5, x6, x7 => if x7 < (x0.size : Int) then (if 0 ≤ x7 then (if (bt x0 x7) = x1 then (if 0 ≤ x6 then (if x6 ≤ x7 then (if x7 ≤ (x0.size : Int) then (if x5.length < 8796093022208 then (spec_l2Cut.l0 k x0 x1 (x5 ++ [x0.extract (x6 : Int).toNat (x7 : Int).toNat]) (wrap64 (x7 + 1)) (wrap64 (x7 + 1))) else (none)) else (none)) else (none)) else (none)) else (spec_l2Cut.l0 k x0 x1 x5 x6 (wrap64 (x7 + 1)))) else (none)) else (if 0 ≤ x6 then (if x6 ≤ (x0.size : Int) then (if x5.length < 8796093022208 then (some (x5 ++ [x0.extract (x6 : Int).toNat x0.size])) else (none)) else (none)) else (none))
def spec_l2Cut.f (k : Nat) (a0 : ByteArray) (a1 : Int) : Option (List ByteArray) := spec_l2Cut.l0 k a0 a1 (([] : List ByteArray)) 0 0
theorem spec_l2Cut.mono_l : ∀ k, (∀ y0 y1 y2 y3 y4, LeO (spec_l2Cut.l0 k y0 y1 y2 y3 y4) (spec_l2Cut.l0 (k + 1) y0 y1 y2 y3 y4))
 | 0 => fun _ _ _ _ _ r h => by simp [spec_l2Cut.l0] at h
 | k + 1 => by
  have ih0 := spec_l2Cut.mono_l k
  ·intro y0 y1 y2 y3 y4
   unfold spec_l2Cut.l0
   repeat' first
   | (with_reducible exact ih0 _ _ _ _ _)
   | (with_reducible exact LeO.refl _)
   | (with_reducible exact LeO.none _)
   | (with_reducible refine LeO.ite ?_ ?_)
   | (with_reducible refine LeO.bind ?_ (fun _ => ?_))
theorem spec_l2Cut.mono : ∀ a0 a1 k, LeO (spec_l2Cut.f k a0 a1) (spec_l2Cut.f (k + 1) a0 a1) := by
 intro a0 a1 k
 have ih0 := spec_l2Cut.mono_l k
 unfold spec_l2Cut.f
 repeat' first
   | (with_reducible exact ih0 _ _ _ _ _)
   | (with_reducible exact LeO.refl _)
   | (with_reducible exact LeO.none _)
   | (with_reducible refine LeO.ite ?_ ?_)
   | (with_reducible refine LeO.bind ?_ (fun _ => ?_))
set_option maxHeartbeats 8000000 in
set_option maxRecDepth 100000 in
theorem spec_l2Cut.calls (k : Nat) (a0 : ByteArray) (a1 : Int) (r : List ByteArray) (w : World) (h : spec_l2Cut.f k a0 a1 = some r) :
  Calls Try.prog 62 #[.string a0, .int .u8 a1] w fun e w' => ∃ v0_ : Value, e = .returned (v0_) ∧ Kd.R Kd.string 9 w' w.heap.size (fun _ => True) v0_ r ∧ Below w.heap.size w w' := by
 have HB := kp (Below.refl w.heap.size w)
 have H : (spec_l2Cut.l0 k a0 a1 (([] : List ByteArray)) 0 0) = some r := h
 clear h
 obtain ⟨y491, hy491⟩ : ∃ y_ : List ByteArray, y_ = (([] : List ByteArray)) := ⟨_, rfl⟩
 replace H : (spec_l2Cut.l0 k a0 a1 y491 0 0) = some r := by first | (rw [hy491]; with_reducible exact H) | (have H2_ := (Option.bind_some _ _).symm.trans H; rw [hy491]; with_reducible exact H2_) | (have H2_ := (Option.bind_some _ _).symm.trans H; with_reducible exact H2_) | with_reducible exact H | (rw [hy491]; exact H) | exact H
 have Ny491 := kp hy491
 clear hy491
 have H' := kp H
 clear H
 go_enter Try.func62, Try.ntmps62
 go_wp2_with (first | ((with_reducible refine gate_dst (N := 8) rfl ?_); refine Kd.R_lit Kd.string _ 9 ?hg (N := 8) ?hd (xs := ([] : List ByteArray)) (inner := []) (ok := fun _ => True) (okp := fun _ => True) ?hr ?hp (fun _ hk => hk) trivial (Below.refl _ _) (Nat.le_refl _) (by simp) ?_; (case hd => rfl); (case hg => rfl); (case hr => first | (go_simp; done) | (go_simp; rfl)); (case hp => exact (Reps.none _ _)); intro v492 w3 ho4 hb hg_ hnew_; clear hg_ hnew_; (first | rw [← Ny491.out] at ho4 | (simp only [Int.reduceToNat] at ho4; rw [← Ny491.out] at ho4)); have HO493 := kp (Kd.R_lower ho4 (below_size bb)); replace HB := kp (below_step bb hb); clear hb ho4))
 (try simp only [Act.put, List.setIfInBounds_toArray, List.set_cons_zero, List.set_cons_succ])
 go_loopg [5, 6, 7] k (fun kq v5 v6 v7 w' => ∃ (x5_1 : List ByteArray) (x6_1 : Int) (x7_1 : Int), v6 = .int .i64 x6_1 ∧ v7 = .int .i64 x7_1 ∧ Aside0 (spec_l2Cut.l0 kq a0 a1 x5_1 x6_1 x7_1 = some r) ∧ Aside0 (kq ≤ k) ∧ Aside0 (Kd.R Kd.string 9 w' w.heap.size (fun _ => True) v5 x5_1) ∧ Aside0 (Below w.heap.size w w'))
 case atStart => exact ⟨(y491), (0), (0), (by first | rfl | (simp; done) | (simp [*]; done)), (by first | rfl | (simp; done) | (simp [*]; done)), H', ⟨Nat.le_refl _⟩, ⟨by (with_reducible repeat (first | apply rA | apply rN | apply rD)); exact HO493.out⟩, ⟨bb⟩⟩
 case round =>
  clear H'
  obtain ⟨x5_1, x6_1, x7_1, rfl, rfl, HA, HK1, HO_5, HB⟩ := hrel
  cases gk with
  | zero => exact absurd HA.out (by simp [spec_l2Cut.l0])
  | succ k1 =>
   have H := HA.out; clear HA; simp only [spec_l2Cut.l0] at H
   by_cases c5 : x7_1 < (a0.size : Int)
   ·rw [if_pos c5] at H; have c5b0 : decide (x7_1 < (a0.size : Int)) = true := decide_eq_true c5; clear c5
    by_cases c6 : 0 ≤ x7_1
    ·rw [if_pos c6] at H; have c6b0 : decide (0 ≤ x7_1) = true := decide_eq_true c6; clear c6
     by_cases c8 : (bt a0 x7_1) = a1
     ·rw [if_pos c8] at H; have c8b0 : ((bt a0 x7_1) == a1) = true := beq_iff_eq.mpr c8; have c8b1 : ((bt a0 x7_1) != a1) = false := bne_eq_false_iff_eq.mpr c8; clear c8
      by_cases c9 : 0 ≤ x6_1
      ·rw [if_pos c9] at H; have c9b0 := eq_true c9; have c9b1 : decide (0 ≤ x6_1) = true := decide_eq_true c9; clear c9
       by_cases c10 : x6_1 ≤ x7_1
       ·rw [if_pos c10] at H; have c10b0 := eq_true c10; have c10b1 : decide (x6_1 ≤ x7_1) = true := decide_eq_true c10; clear c10
        by_cases c11 : x7_1 ≤ (a0.size : Int)
        ·rw [if_pos c11] at H; have c11b0 := eq_true c11; have c11b1 : decide (x7_1 ≤ (a0.size : Int)) = true := decide_eq_true c11; clear c11
         by_cases c12 : x5_1.length < 8796093022208
         ·rw [if_pos c12] at H; have LMc12 := kp c12; clear c12; obtain ⟨y494, hy494⟩ : ∃ y_ : List ByteArray, y_ = (x5_1 ++ [a0.extract (x6_1 : Int).toNat (x7_1 : Int).toNat]) := ⟨_, rfl⟩; replace H : (spec_l2Cut.l0 k1 a0 a1 y494 (wrap64 (x7_1 + 1)) (wrap64 (x7_1 + 1))) = some r := by first | (rw [hy494]; with_reducible exact H) | (have H2_ := (Option.bind_some _ _).symm.trans H; rw [hy494]; with_reducible exact H2_) | (have H2_ := (Option.bind_some _ _).symm.trans H; with_reducible exact H2_) | with_reducible exact H | (rw [hy494]; exact H) | exact H
          have Ny494 := kp hy494; clear hy494; have H' := kp H; clear H; have p7 : 0 ≤ (x7_1 : Int) := dt; have q7 : x7_1 < (a0.size : Int) := dt; have hx7 := bt_at a0 x7_1; replace p7 := eq_true p7; replace q7 := eq_true q7
          go_wp2_with (first | ((with_reducible refine gate_builtin (b := .append) (xs := #[.tmp 20, .tmp 25]) rfl ?_); at_builtin; refine Kd.R_append Kd.string (w0 := w) w.heap.size rfl (.tmp 20) (.tmp 25) 80 9 (.string ⟨#[]⟩) 16 rfl Try.underlying80 info9 rfl (by decide) (by omega) u5 x5_1 (a0.extract (x6_1 : Int).toNat (x7_1 : Int).toNat) [.string (a0.extract (x6_1 : Int).toNat (x7_1 : Int).toNat)] (fun _ => True) (fun _ => False) rfl rfl ?aP (fun _ hk => hk.elim) ?aF ?aO ?aB ?aS ?aL ?_; (case aP => exact rfl); (case aB => exact bb); (case aF => exact (fun _ _ => trivial)); (case aO => exact (by (with_reducible repeat (first | apply rA | apply rN | apply rD)); exact HO_5.out)); (case aS => exact (below_size bb)); (case aL => have := LMc12.out; omega); intro v495 w13 ho hb hg hat; rw [← Ny494.out] at ho; replace HB := kp (hb); have HO496 := kp (ho); clear HO_5; clear ho hb hg hat))
          go_roundg k1
          case measure => have := HK1.out; omega
          case rel => exact ⟨(y494), (wrap64 (x7_1 + 1)), (wrap64 (x7_1 + 1)), (by first | rfl | (simp; done) | (simp [*]; done)), (by first | rfl | (simp; done) | (simp [*]; done)), H', ⟨by have := HK1.out; omega⟩, ⟨by (with_reducible repeat (first | apply rA | apply rN | apply rD)); exact HO496.out⟩, ⟨bb⟩⟩
         ·rw [if_neg c12] at H; exact absurd H (by simp)
        ·rw [if_neg c11] at H; exact absurd H (by simp)
       ·rw [if_neg c10] at H; exact absurd H (by simp)
      ·rw [if_neg c9] at H; exact absurd H (by simp)
     ·rw [if_neg c8] at H; have c8b0 : ((bt a0 x7_1) == a1) = false := beq_eq_false_iff_ne.mpr c8; have c8b1 : ((bt a0 x7_1) != a1) = true := bne_iff_ne.mpr c8; have H' := kp H; clear H; have p7 : 0 ≤ (x7_1 : Int) := dt; have q7 : x7_1 < (a0.size : Int) := dt; have hx7 := bt_at a0 x7_1; replace p7 := eq_true p7; replace q7 := eq_true q7; go_wp2
      go_roundg k1
      case measure => have := HK1.out; omega
      case rel => exact ⟨(x5_1), (x6_1), (wrap64 (x7_1 + 1)), (by first | rfl | (simp; done) | (simp [*]; done)), (by first | rfl | (simp; done) | (simp [*]; done)), H', ⟨by have := HK1.out; omega⟩, ⟨by (with_reducible repeat (first | apply rA | apply rN | apply rD)); exact HO_5.out⟩, ⟨bb⟩⟩
    ·rw [if_neg c6] at H; exact absurd H (by simp)
   ·rw [if_neg c5] at H; have c5b0 : decide (x7_1 < (a0.size : Int)) = false := decide_eq_false c5; clear c5
    by_cases c14 : 0 ≤ x6_1
    ·rw [if_pos c14] at H; have c14b0 := eq_true c14; have c14b1 : decide (0 ≤ x6_1) = true := decide_eq_true c14; clear c14
     by_cases c15 : x6_1 ≤ (a0.size : Int)
     ·rw [if_pos c15] at H; have c15b0 := eq_true c15; have c15b1 : decide (x6_1 ≤ (a0.size : Int)) = true := decide_eq_true c15; clear c15
      by_cases c16 : x5_1.length < 8796093022208
      ·rw [if_pos c16] at H; have LMc16 := kp c16; clear c16; obtain ⟨y497, hy497⟩ : ∃ y_ : List ByteArray, y_ = (x5_1 ++ [a0.extract (x6_1 : Int).toNat a0.size]) := ⟨_, rfl⟩; replace H : (some y497) = some r := by first | (rw [hy497]; with_reducible exact H) | (have H2_ := (Option.bind_some _ _).symm.trans H; rw [hy497]; with_reducible exact H2_) | (have H2_ := (Option.bind_some _ _).symm.trans H; with_reducible exact H2_) | with_reducible exact H | (rw [hy497]; exact H) | exact H
       have Ny497 := kp hy497; clear hy497; obtain rfl := Option.some.inj H
       go_wp2_with (first | ((with_reducible refine gate_builtin (b := .append) (xs := #[.tmp 29, .tmp 33]) rfl ?_); at_builtin; refine Kd.R_append Kd.string (w0 := w) w.heap.size rfl (.tmp 29) (.tmp 33) 80 9 (.string ⟨#[]⟩) 16 rfl Try.underlying80 info9 rfl (by decide) (by omega) u5 x5_1 (a0.extract (x6_1 : Int).toNat a0.size) [.string (a0.extract (x6_1 : Int).toNat a0.size)] (fun _ => True) (fun _ => False) rfl rfl ?aP (fun _ hk => hk.elim) ?aF ?aO ?aB ?aS ?aL ?_; (case aP => exact rfl); (case aB => exact bb); (case aF => exact (fun _ _ => trivial)); (case aO => exact (by (with_reducible repeat (first | apply rA | apply rN | apply rD)); exact HO_5.out)); (case aS => exact (below_size bb)); (case aL => have := LMc16.out; omega); intro v498 w17 ho hb hg hat; rw [← Ny497.out] at ho; replace HB := kp (hb); have HO499 := kp (ho); clear HO_5; clear ho hb hg hat))
       go_ret; exact ⟨_, er, by (with_reducible repeat (first | apply rA | apply rN | apply rD)); exact HO499.out, bb⟩
      ·rw [if_neg c16] at H; exact absurd H (by simp)
     ·rw [if_neg c15] at H; exact absurd H (by simp)
    ·rw [if_neg c14] at H; exact absurd H (by simp)
end Go.Proofs.Ytljpfogplcdcjaa.PFnPagePacking
