/- Out of a copy of the print, with function values told: nothing is claimed here. -/
import Derived.Test.YtljpfogplcdcjaaVQFnPagePackingx0
import Derived.Test.YtljpfogplcdcjaaVQFnPagePackingx3
import Derived.Test.YtljpfogplcdcjaaVQFnPagePackingx6
import Derived.Test.YtljpfogplcdcjaaVQFnPagePackingx7
import Derived.Test.YtljpfogplcdcjaaVQFnPagePackingx8
import Derived.Test.YtljpfogplcdcjaaVQFnPagePackingx10
import Derived.Test.YtljpfogplcdcjaaVQFnPagePackingx12
import Derived.Test.YtljpfogplcdcjaaVQFnPagePackingx13
import Derived.Test.YtljpfogplcdcjaaVShort
import Derived.Test.YtljpfogplcdcjaaVPress
namespace Go.Proofs.Ytljpfogplcdcjaa.PFnPagePacking
open Go.RowKit Go.Proofs.YtljpfogplcdcjaaW.PrintWords Go.Proofs.YtljpfogplcdcjaaW.PrintLast Go.Proofs.YtljpfogplcdcjaaW.PrintMore Go.Proofs.Ytljpfogplcdcjaa.Short Go.Proofs.Ytljpfogplcdcjaa.Press
attribute [local go_sem] max2_int min2_int max_two min_two max_three min_three max_four min_four   -- for this text's walks alone
set_option linter.unusedVariables false
set_option linter.unusedSimpArgs false
mutual
def spec_ParsePages.l0 : Nat → ByteArray → List (S39) → List ByteArray → Int → Option ((List (S39)) × Bool)
 | 0, _, _, _, _ => none
 | k + 1, x0, x4, x5, x6 => if (wrap64 (x6 + 1)) < (x5.length : Int) then (if 0 ≤ x6 then (if x6 < (x5.length : Int) then (if (rdOf ByteArray.empty x5 x6).toList = ([] : List UInt8) then (spec_ParsePages.j1 k x0 x4 x5 x6 true) else (if 0 < ((rdOf ByteArray.empty x5 x6).size : Int) then (spec_ParsePages.j1 k x0 x4 x5 x6 ((bt (rdOf ByteArray.empty x5 x6) 0) != 91)) else (none))) else (none)) else (none)) else ((spec_l4Pages.f k x4).bind fun t561 => (if t561 = true then ((spec_FormatPages.f k x4).bind fun t562 => (if t562.toList = x0.toList then (some (x4, true)) else (some ((([] : List (S39))), false)))) else (some ((([] : List (S39))), false))))
def spec_ParsePages.j1 : Nat → ByteArray → List (S39) → List ByteArray → Int → Bool → Option ((List (S39)) × Bool)
 | 0, _, _, _, _, _ => none
 | k + 1, x0, x4, x5, x6, x31 => if x31 = true then (some ((([] : List (S39))), false)) else (if 0 ≤ x6 then (if x6 < (x5.length : Int) then (if 1 ≤ ((rdOf ByteArray.empty x5 x6).size : Int) then ((spec_ParseRows.f k ((rdOf ByteArray.empty x5 x6).extract 1 (rdOf ByteArray.empty x5 x6).size)).bind fun bt551 => (if bt551.2 = true then (if x4.length < 5864062014805 then (spec_ParsePages.l0 k x0 (x4 ++ [(⟨bt551.1⟩ : S39)]) x5 (wrap64 (x6 + 1))) else (none)) else (some ((([] : List (S39))), false)))) else (none)) else (none)) else (none))
end
def spec_ParsePages.f (k : Nat) (a0 : ByteArray) : Option ((List (S39)) × Bool) := (spec_l2Cut.f k a0 93).bind fun t542 => (spec_ParsePages.l0 k a0 (([] : List (S39))) t542 0)
theorem spec_ParsePages.mono_l : ∀ k, (∀ y0 y1 y2 y3, LeO (spec_ParsePages.l0 k y0 y1 y2 y3) (spec_ParsePages.l0 (k + 1) y0 y1 y2 y3)) ∧ (∀ y0 y1 y2 y3 y4, LeO (spec_ParsePages.j1 k y0 y1 y2 y3 y4) (spec_ParsePages.j1 (k + 1) y0 y1 y2 y3 y4))
 | 0 => ⟨fun _ _ _ _ r h => by simp [spec_ParsePages.l0] at h, fun _ _ _ _ _ r h => by simp [spec_ParsePages.j1] at h⟩
 | k + 1 => by
  obtain ⟨ih0, ih1⟩ := spec_ParsePages.mono_l k
  refine ⟨?_, ?_⟩
  ·intro y0 y1 y2 y3
   unfold spec_ParsePages.l0
   repeat' first
   | (with_reducible exact ih0 _ _ _ _)
   | (with_reducible exact ih1 _ _ _ _ _)
   | (with_reducible exact spec_FormatPages.mono _ _)
   | (with_reducible exact spec_ParseRows.mono _ _)
   | (with_reducible exact spec_l2Cut.mono _ _ _)
   | (with_reducible exact spec_l4Pages.mono _ _)
   | (with_reducible exact LeO.refl _)
   | (with_reducible exact LeO.none _)
   | (with_reducible refine LeO.ite ?_ ?_)
   | (with_reducible refine LeO.bind ?_ (fun _ => ?_))
  ·intro y0 y1 y2 y3 y4
   unfold spec_ParsePages.j1
   repeat' first
   | (with_reducible exact ih0 _ _ _ _)
   | (with_reducible exact ih1 _ _ _ _ _)
   | (with_reducible exact spec_FormatPages.mono _ _)
   | (with_reducible exact spec_ParseRows.mono _ _)
   | (with_reducible exact spec_l2Cut.mono _ _ _)
   | (with_reducible exact spec_l4Pages.mono _ _)
   | (with_reducible exact LeO.refl _)
   | (with_reducible exact LeO.none _)
   | (with_reducible refine LeO.ite ?_ ?_)
   | (with_reducible refine LeO.bind ?_ (fun _ => ?_))
theorem spec_ParsePages.mono : ∀ a0 k, LeO (spec_ParsePages.f k a0) (spec_ParsePages.f (k + 1) a0) := by
 intro a0 k
 obtain ⟨ih0, ih1⟩ := spec_ParsePages.mono_l k
 unfold spec_ParsePages.f
 repeat' first
   | (with_reducible exact ih0 _ _ _ _)
   | (with_reducible exact ih1 _ _ _ _ _)
   | (with_reducible exact spec_FormatPages.mono _ _)
   | (with_reducible exact spec_ParseRows.mono _ _)
   | (with_reducible exact spec_l2Cut.mono _ _ _)
   | (with_reducible exact spec_l4Pages.mono _ _)
   | (with_reducible exact LeO.refl _)
   | (with_reducible exact LeO.none _)
   | (with_reducible refine LeO.ite ?_ ?_)
   | (with_reducible refine LeO.bind ?_ (fun _ => ?_))
set_option maxHeartbeats 8000000 in
set_option maxRecDepth 100000 in
theorem spec_ParsePages.calls (k : Nat) (a0 : ByteArray) (r1 : List (S39)) (r2 : Bool) (w : World) (h : spec_ParsePages.f k a0 = some (r1, r2)) :
  Calls Try.prog 24 #[.string a0] w fun e w' => ∃ v0_ : Value, e = .returned (.tuple #[v0_, .bool r2]) ∧ Kd.S k39 39 w' w.heap.size (fun _ => True) v0_ r1 ∧ Below w.heap.size w w' := by
 have hu39 := Try.underlying39
 have HB := kp (Below.refl w.heap.size w)
 have H : ((spec_l2Cut.f k a0 93).bind fun t542 => (spec_ParsePages.l0 k a0 (([] : List (S39))) t542 0)) = some (r1, r2) := h
 clear h
 obtain ⟨y539, hy539⟩ : ∃ y_ : List (S39), y_ = (([] : List (S39))) := ⟨_, rfl⟩
 replace H : ((spec_l2Cut.f k a0 93).bind fun t542 => (spec_ParsePages.l0 k a0 y539 t542 0)) = some (r1, r2) := by first | (rw [hy539]; with_reducible exact H) | (have H2_ := (Option.bind_some _ _).symm.trans H; rw [hy539]; with_reducible exact H2_) | (have H2_ := (Option.bind_some _ _).symm.trans H; with_reducible exact H2_) | with_reducible exact H | (rw [hy539]; exact H) | exact H
 have Ny539 := kp hy539
 clear hy539
 replace H := Option.bind_eq_some_iff.mp H
 obtain ⟨t542, A20, H⟩ := H
 replace H : (spec_ParsePages.l0 k a0 y539 t542 0) = some (r1, r2) := H
 have A2 := kp A20
 clear A20
 have H' := kp H
 clear H
 go_enter Try.func24, Try.ntmps24
 go_wp2_with (first | ((with_reducible refine gate_dst (N := 9) rfl ?_); refine Kd.S_lit k39 _ 39 ?hg (N := 9) ?hd (xs := ([] : List (S39))) (inner := []) (ok := fun _ => True) (okp := fun _ => True) ?hr ?hp (fun _ hk => hk) trivial (Below.refl _ _) (Nat.le_refl _) (by simp) ?_; (case hd => rfl); (case hg => rfl); (case hr => first | (go_simp; done) | (go_simp; rfl)); (case hp => exact (Reps.none _ _)); intro v540 w3 ho4 hb hg_ hnew_; clear hg_ hnew_; (first | rw [← Ny539.out] at ho4 | (simp only [Int.reduceToNat] at ho4; rw [← Ny539.out] at ho4)); have HO541 := kp (Kd.S_lower ho4 (below_size bb)); replace HB := kp (below_step bb hb); clear hb ho4) | ((with_reducible refine gate_callee (f := 62) rfl ?_); refine gl_ 11 Try.func62 #[.string a0, .int .u8 93] ?_; (with_reducible refine (spec_l2Cut.calls k a0 93 t542 _ A2.out).mono ?_); rintro e w5 ⟨v543, rfl, ho0, hb⟩; refine ⟨_, rfl, ?_⟩; replace HO541 := kp (Kd.S_below (by (with_reducible repeat (first | apply Kd.S_alloc | apply Kd.S_drewN | apply Kd.S_drew)); exact HO541.out) hb); have HO544 := kp (Kd.R_lower ho0 (below_size bb)); replace HB := kp (below_step bb hb); (try clear hb); (try clear ho0)))
 (try simp only [Act.put, List.setIfInBounds_toArray, List.set_cons_zero, List.set_cons_succ])
 go_loopg [4, 6] k (fun kq v4 v6 w' => ∃ (x4_1 : List (S39)) (x6_1 : Int), v6 = .int .i64 x6_1 ∧ Aside0 (spec_ParsePages.l0 kq a0 x4_1 t542 x6_1 = some (r1, r2)) ∧ Aside0 (kq ≤ k) ∧ Aside0 (Kd.S k39 39 w' w.heap.size (fun _ => True) v4 x4_1) ∧ Aside0 (Kd.R Kd.string 9 w' w.heap.size (fun _ => True) v543 t542) ∧ Aside0 (Below w.heap.size w w'))
 case atStart => exact ⟨(y539), (0), (by first | rfl | (simp; done) | (simp [*]; done)), H', ⟨Nat.le_refl _⟩, ⟨by (with_reducible repeat (first | apply Kd.S_alloc | apply Kd.S_drewN | apply Kd.S_drew)); exact HO541.out⟩, ⟨by (with_reducible repeat (first | apply rA | apply rN | apply rD)); exact HO544.out⟩, ⟨bb⟩⟩
 case round =>
  clear H'
  obtain ⟨x4_1, x6_1, rfl, HA, HK1, HO_4, HO_5, HB⟩ := hrel
  cases gk with
  | zero => exact absurd HA.out (by simp [spec_ParsePages.l0])
  | succ k1 =>
   have H := HA.out; clear HA; simp only [spec_ParsePages.l0] at H
   by_cases c6 : (wrap64 (x6_1 + 1)) < (t542.length : Int)
   ·rw [if_pos c6] at H; have c6b0 : decide ((wrap64 (x6_1 + 1)) < (t542.length : Int)) = true := decide_eq_true c6; clear c6; have HC7 := kp H; clear H; obtain ⟨Ao8, co8, eo8⟩ := Kd.R_slice HO_5.out; subst eo8
    go_upto_region 6 with (fail)
    go_cut [31] (fun v31 wc => ∃ (kq : Nat) (x31_6 : Bool), v31 = .bool x31_6 ∧ Aside0 (spec_ParsePages.j1 kq a0 x4_1 t542 x6_1 x31_6 = some (r1, r2)) ∧ Aside0 (kq ≤ k1) ∧ Aside0 (Kd.S k39 39 wc w.heap.size (fun _ => True) u4 x4_1) ∧ Aside0 (Kd.R Kd.string 9 wc w.heap.size (fun _ => True) (.slice Ao8 t542.length co8) t542) ∧ Aside0 (Below w.heap.size w wc))
    case first =>
     have H := HC7.out; clear HC7
     by_cases c9 : 0 ≤ x6_1
     ·rw [if_pos c9] at H; have c9b0 : decide (0 ≤ x6_1) = true := decide_eq_true c9; clear c9; (first | rw [c9b0] | (simp only [i64_w, i32_w]; rw [c9b0]) | skip)
      by_cases c10 : x6_1 < (t542.length : Int)
      ·rw [if_pos c10] at H; have c10b0 : decide (x6_1 < (t542.length : Int)) = true := decide_eq_true c10; clear c10
       by_cases c11 : (rdOf ByteArray.empty t542 x6_1).toList = ([] : List UInt8)
       ·rw [if_pos c11] at H; have c11b0 : ((rdOf ByteArray.empty t542 x6_1).toList == ([] : List UInt8)) = true := beq_iff_eq.mpr c11; have c11b1 : ((rdOf ByteArray.empty t542 x6_1).toList != ([] : List UInt8)) = false := bne_eq_false_iff_eq.mpr c11; clear c11; have H' := kp H; clear H; have p545 : 0 ≤ (x6_1 : Int) := dt; have q545 : x6_1 < (t542.length : Int) := dt; obtain ⟨ad545, e545, hx545_0⟩ := Kd.at_string (Kd.R_reads' HO_5.out).2.2 x6_1 p545 q545; cases e545; replace p545 := eq_true p545; replace q545 := eq_true q545; go_wp2
        go_meet
        case rel => exact ⟨_, (true), (by first | rfl | (simp; done) | (simp [*]; done)), H', ⟨by have := HK1.out; first | omega | exact Nat.le_refl _⟩, ⟨by (with_reducible repeat (first | apply Kd.S_alloc | apply Kd.S_drewN | apply Kd.S_drew)); exact HO_4.out⟩, ⟨by (with_reducible repeat (first | apply rA | apply rN | apply rD)); exact HO_5.out⟩, ⟨bb⟩⟩
       ·rw [if_neg c11] at H; have c11b0 : ((rdOf ByteArray.empty t542 x6_1).toList == ([] : List UInt8)) = false := beq_eq_false_iff_ne.mpr c11; have c11b1 : ((rdOf ByteArray.empty t542 x6_1).toList != ([] : List UInt8)) = true := bne_iff_ne.mpr c11
        by_cases c12 : 0 < ((rdOf ByteArray.empty t542 x6_1).size : Int)
        ·rw [if_pos c12] at H; have c12b0 : decide (0 < ((rdOf ByteArray.empty t542 x6_1).size : Int)) = true := decide_eq_true c12; have c12b1 : decide (0 < (rdOf ByteArray.empty t542 x6_1).size) = true := decide_eq_true (by omega); clear c12; have H' := kp H; clear H; have p545 : 0 ≤ (x6_1 : Int) := dt; have q545 : x6_1 < (t542.length : Int) := dt; obtain ⟨ad545, e545, hx545_0⟩ := Kd.at_string (Kd.R_reads' HO_5.out).2.2 x6_1 p545 q545; cases e545; replace p545 := eq_true p545; replace q545 := eq_true q545; have p546 : 0 ≤ (x6_1 : Int) := dt; have q546 : x6_1 < (t542.length : Int) := dt; obtain ⟨ad546, e546, hx546_0⟩ := Kd.at_string (Kd.R_reads' HO_5.out).2.2 x6_1 p546 q546; obtain rfl : ad545 = ad546 := (by injection e546); replace p546 := eq_true p546; replace q546 := eq_true q546; have p13 : 0 ≤ (0 : Int) := (by omega); have q13 : 0 < (rdOf ByteArray.empty t542 x6_1).size := (by have : (0 : Int) < ((rdOf ByteArray.empty t542 x6_1).size : Int) := dt; omega); have hx13 : ∀ h : 0 < (rdOf ByteArray.empty t542 x6_1).size, (((rdOf ByteArray.empty t542 x6_1)[0]'h).toNat : Int) = bt (rdOf ByteArray.empty t542 x6_1) 0 := bt_at (rdOf ByteArray.empty t542 x6_1) 0; clear p13; have qi13 : (0 < ((rdOf ByteArray.empty t542 x6_1).size : Int)) = True := eq_true (dt); replace q13 := eq_true q13; go_wp2
         go_meet
         case rel => exact ⟨_, (((bt (rdOf ByteArray.empty t542 x6_1) 0) != 91)), (by first | rfl | (simp; done) | (simp [*]; done)), H', ⟨by have := HK1.out; first | omega | exact Nat.le_refl _⟩, ⟨by (with_reducible repeat (first | apply Kd.S_alloc | apply Kd.S_drewN | apply Kd.S_drew)); exact HO_4.out⟩, ⟨by (with_reducible repeat (first | apply rA | apply rN | apply rD)); exact HO_5.out⟩, ⟨bb⟩⟩
        ·rw [if_neg c12] at H; exact absurd H (by simp)
      ·rw [if_neg c10] at H; exact absurd H (by simp)
     ·rw [if_neg c9] at H; exact absurd H (by simp)
    case rest =>
     clear HC7
     try clear c6
     try clear c6b0
     obtain ⟨kq, x31_6, rfl, HA, HJ6, HO_4, HO_5, HB⟩ := hcut
     cases kq with
     | zero => exact absurd HA.out (by simp [spec_ParsePages.j1])
     | succ kj6 =>
      have H := HA.out; clear HA; simp only [spec_ParsePages.j1] at H
      by_cases c14 : x31_6 = true
      ·subst c14; have H1 : (some ((([] : List (S39))), false)) = some (r1, r2) := by rw [if_pos rfl] at H; exact H
       clear H; have H := H1; clear H1; obtain ⟨y547, hy547⟩ : ∃ y_ : List (S39), y_ = (([] : List (S39))) := ⟨_, rfl⟩; replace H : (some (y547, false)) = some (r1, r2) := by first | (rw [hy547]; with_reducible exact H) | (have H2_ := (Option.bind_some _ _).symm.trans H; rw [hy547]; with_reducible exact H2_) | (have H2_ := (Option.bind_some _ _).symm.trans H; with_reducible exact H2_) | with_reducible exact H | (rw [hy547]; exact H) | exact H
       have Ny547 := kp hy547; clear hy547; simp only [Option.some.injEq, Prod.mk.injEq] at H; obtain ⟨rfl, rfl⟩ := H
       go_wp2_with (first | ((with_reducible refine gate_dst (N := 32) rfl ?_); refine Kd.S_lit k39 _ 39 ?hg (N := 32) ?hd (xs := ([] : List (S39))) (inner := []) (ok := fun _ => True) (okp := fun _ => True) ?hr ?hp (fun _ hk => hk) trivial (Below.refl _ _) (Nat.le_refl _) (by simp) ?_; (case hd => rfl); (case hg => rfl); (case hr => first | (go_simp; done) | (go_simp; rfl)); (case hp => exact (Reps.none _ _)); intro v548 w15 ho16 hb hg_ hnew_; clear hg_ hnew_; (first | rw [← Ny547.out] at ho16 | (simp only [Int.reduceToNat] at ho16; rw [← Ny547.out] at ho16)); replace HO_5 := kp (Kd.R_below (by (with_reducible repeat (first | apply rA | apply rN | apply rD)); exact HO_5.out) hb); have HO549 := kp (Kd.S_lower (Kd.S_new' ho16 (Kd.S_lt (by (with_reducible repeat (first | apply Kd.S_alloc | apply Kd.S_drewN | apply Kd.S_drew)); exact HO_4.out))) (below_size bb)); replace HO_4 := kp (Kd.S_elder' (by (with_reducible repeat (first | apply Kd.S_alloc | apply Kd.S_drewN | apply Kd.S_drew)); exact HO_4.out) (Kd.S_base ho16) hb); replace HB := kp (below_step bb hb); clear hb ho16))
       go_ret2
       exact ⟨_, er, by (with_reducible repeat (first | apply Kd.S_alloc | apply Kd.S_drewN | apply Kd.S_drew)); exact Kd.S_mono HO549.out (fun _ hk => trivial), bb⟩
      ·replace c14 := Bool.eq_false_iff.mpr c14; subst c14; have H1 : (if 0 ≤ x6_1 then (if x6_1 < (t542.length : Int) then (if 1 ≤ ((rdOf ByteArray.empty t542 x6_1).size : Int) then ((spec_ParseRows.f kj6 ((rdOf ByteArray.empty t542 x6_1).extract 1 (rdOf ByteArray.empty t542 x6_1).size)).bind fun bt551 => (if bt551.2 = true then (if x4_1.length < 5864062014805 then (spec_ParsePages.l0 kj6 a0 (x4_1 ++ [(⟨bt551.1⟩ : S39)]) t542 (wrap64 (x6_1 + 1))) else (none)) else (some ((([] : List (S39))), false)))) else (none)) else (none)) else (none)) = some (r1, r2) := by rw [if_neg (show ¬ (false = true) by decide)] at H; exact H
       clear H; have H := H1; clear H1
       by_cases c17 : 0 ≤ x6_1
       ·rw [if_pos c17] at H; have c17b0 : decide (0 ≤ x6_1) = true := decide_eq_true c17; clear c17
        by_cases c18 : x6_1 < (t542.length : Int)
        ·rw [if_pos c18] at H; have c18b0 : decide (x6_1 < (t542.length : Int)) = true := decide_eq_true c18; clear c18
         by_cases c19 : 1 ≤ ((rdOf ByteArray.empty t542 x6_1).size : Int)
         ·rw [if_pos c19] at H; have c19b0 := eq_true c19; have c19b1 : decide (1 ≤ ((rdOf ByteArray.empty t542 x6_1).size : Int)) = true := decide_eq_true c19; clear c19; replace H := Option.bind_eq_some_iff.mp H; obtain ⟨⟨t551, t552⟩, A200, H⟩ := H; replace H : (if t552 = true then (if x4_1.length < 5864062014805 then (spec_ParsePages.l0 kj6 a0 (x4_1 ++ [(⟨t551⟩ : S39)]) t542 (wrap64 (x6_1 + 1))) else (none)) else (some ((([] : List (S39))), false))) = some (r1, r2) := H; have A20 := kp A200; clear A200
          by_cases c21 : t552 = true
          ·subst c21; have H1 : (if x4_1.length < 5864062014805 then (spec_ParsePages.l0 kj6 a0 (x4_1 ++ [(⟨t551⟩ : S39)]) t542 (wrap64 (x6_1 + 1))) else (none)) = some (r1, r2) := by rw [if_pos rfl] at H; exact H
           clear H; have H := H1; clear H1
           by_cases c22 : x4_1.length < 5864062014805
           ·rw [if_pos c22] at H; have LMc22 := kp c22; clear c22; obtain ⟨y555, hy555⟩ : ∃ y_ : List (S39), y_ = (x4_1 ++ [(⟨t551⟩ : S39)]) := ⟨_, rfl⟩; replace H : (spec_ParsePages.l0 kj6 a0 y555 t542 (wrap64 (x6_1 + 1))) = some (r1, r2) := by first | (rw [hy555]; with_reducible exact H) | (have H2_ := (Option.bind_some _ _).symm.trans H; rw [hy555]; with_reducible exact H2_) | (have H2_ := (Option.bind_some _ _).symm.trans H; with_reducible exact H2_) | with_reducible exact H | (rw [hy555]; exact H) | exact H
            have Ny555 := kp hy555; clear hy555; have H' := kp H; clear H; have p550 : 0 ≤ (x6_1 : Int) := dt; have q550 : x6_1 < (t542.length : Int) := dt; obtain ⟨ad550, e550, hx550_0⟩ := Kd.at_string (Kd.R_reads' HO_5.out).2.2 x6_1 p550 q550; cases e550; replace p550 := eq_true p550; replace q550 := eq_true q550
            go_wp2_with (first | ((with_reducible refine gate_callee (f := 63) rfl ?_); refine gl_ 39 Try.func63 #[.string ((rdOf ByteArray.empty t542 x6_1).extract 1 (rdOf ByteArray.empty t542 x6_1).size)] ?_; (with_reducible refine (spec_ParseRows.calls kj6 ((rdOf ByteArray.empty t542 x6_1).extract 1 (rdOf ByteArray.empty t542 x6_1).size) t551 true _ A20.out).mono ?_); rintro e w23 ⟨v553, rfl, ho0, hb⟩; refine ⟨_, rfl, ?_⟩; replace HO_4 := kp (Kd.S_elder' (by (with_reducible repeat (first | apply Kd.S_alloc | apply Kd.S_drewN | apply Kd.S_drew)); exact HO_4.out) (Kd.R_base ho0) hb); replace HO_5 := kp (Kd.R_below (by (with_reducible repeat (first | apply rA | apply rN | apply rD)); exact HO_5.out) hb); have HO554 := kp (Kd.R_lower ho0 (below_size bb)); replace HB := kp (below_step bb hb); (try clear hb); (try clear ho0); obtain ⟨Ao24, co24, eo24⟩ := Kd.R_slice HO554.out; subst eo24) | ((with_reducible refine gate_builtin (b := .append) (xs := #[.tmp 45, .tmp 48]) rfl ?_); at_builtin; refine Kd.S_append k39 (w0 := w) w.heap.size rfl (.tmp 45) (.tmp 48) 24 39 (.agg #[(.slice none 0 0)]) 24 rfl Try.underlying24 info39 rfl (by decide) (by omega) u4 x4_1 (⟨t551⟩ : S39) [.slice Ao24 t551.length co24] (fun _ => True) (fun k_ => some k_ = (.slice Ao24 t551.length co24 : Value).ownBlock) rfl rfl ?aP (fun k_ hk_ => ((Kd.R_mono (ok' := fun k_ => ((fun _ => True)) k_ ∧ some k_ ≠ (u4 : Value).ownBlock) (Kd.R_apart' (HO554.out) (Kd.S_typed HO_4.out) (by decide)) (fun k_ hk => ⟨trivial, hk.2⟩))).1 k_ hk_.symm) ?aF ?aO ?aB ?aS ?aL ?_; (case aP => exact k39_mkM _ _ _ (⟨t551⟩ : S39) (Kd.R_mono (Kd.R_tight rfl (Kd.R_mono (ok' := fun k_ => ((fun _ => True)) k_ ∧ some k_ ≠ (u4 : Value).ownBlock) (Kd.R_apart' (HO554.out) (Kd.S_typed HO_4.out) (by decide)) (fun k_ hk => ⟨trivial, hk.2⟩))) (fun _ h_ => h_))); (case aB => exact bb); (case aF => exact (fun _ _ => trivial)); (case aO => exact (by (with_reducible repeat (first | apply Kd.S_alloc | apply Kd.S_drewN | apply Kd.S_drew)); exact Kd.S_mono HO_4.out (fun k_ hk => ⟨trivial, fun e_ => hk.2 e_⟩))); (case aS => exact (below_size bb)); (case aL => have := LMc22.out; omega); intro v556 w25 ho hb hg hat; rw [← Ny555.out] at ho; replace HO_5 := kp (Kd.R_over' (by (with_reducible repeat (first | apply rA | apply rN | apply rD)); exact HO_5.out) (Kd.S_typed (by (with_reducible repeat (first | apply Kd.S_alloc | apply Kd.S_drewN | apply Kd.S_drew)); exact HO_4.out)) (by decide) hg); replace HB := kp (hb); have HO557 := kp (ho); clear HO_4; clear HO554; clear ho hb hg hat))
            go_roundg kj6
            case measure => have := HK1.out; have := HJ6.out; omega
            case rel => exact ⟨(y555), (wrap64 (x6_1 + 1)), (by first | rfl | (simp; done) | (simp [*]; done)), H', ⟨by have := HK1.out; have := HJ6.out; omega⟩, ⟨by (with_reducible repeat (first | apply Kd.S_alloc | apply Kd.S_drewN | apply Kd.S_drew)); exact HO557.out⟩, ⟨by (with_reducible repeat (first | apply rA | apply rN | apply rD)); exact HO_5.out⟩, ⟨bb⟩⟩
           ·rw [if_neg c22] at H; exact absurd H (by simp)
          ·replace c21 := Bool.eq_false_iff.mpr c21; subst c21; have H1 : (some ((([] : List (S39))), false)) = some (r1, r2) := by rw [if_neg (show ¬ (false = true) by decide)] at H; exact H
           clear H; have H := H1; clear H1; obtain ⟨y558, hy558⟩ : ∃ y_ : List (S39), y_ = (([] : List (S39))) := ⟨_, rfl⟩; replace H : (some (y558, false)) = some (r1, r2) := by first | (rw [hy558]; with_reducible exact H) | (have H2_ := (Option.bind_some _ _).symm.trans H; rw [hy558]; with_reducible exact H2_) | (have H2_ := (Option.bind_some _ _).symm.trans H; with_reducible exact H2_) | with_reducible exact H | (rw [hy558]; exact H) | exact H
           have Ny558 := kp hy558; clear hy558; simp only [Option.some.injEq, Prod.mk.injEq] at H; obtain ⟨rfl, rfl⟩ := H; have p550 : 0 ≤ (x6_1 : Int) := dt; have q550 : x6_1 < (t542.length : Int) := dt; obtain ⟨ad550, e550, hx550_0⟩ := Kd.at_string (Kd.R_reads' HO_5.out).2.2 x6_1 p550 q550; cases e550; replace p550 := eq_true p550; replace q550 := eq_true q550
           go_wp2_with (first | ((with_reducible refine gate_callee (f := 63) rfl ?_); refine gl_ 39 Try.func63 #[.string ((rdOf ByteArray.empty t542 x6_1).extract 1 (rdOf ByteArray.empty t542 x6_1).size)] ?_; (with_reducible refine (spec_ParseRows.calls kj6 ((rdOf ByteArray.empty t542 x6_1).extract 1 (rdOf ByteArray.empty t542 x6_1).size) t551 false _ A20.out).mono ?_); rintro e w26 ⟨v553, rfl, ho0, hb⟩; refine ⟨_, rfl, ?_⟩; replace HO_4 := kp (Kd.S_elder' (by (with_reducible repeat (first | apply Kd.S_alloc | apply Kd.S_drewN | apply Kd.S_drew)); exact HO_4.out) (Kd.R_base ho0) hb); replace HO_5 := kp (Kd.R_below (by (with_reducible repeat (first | apply rA | apply rN | apply rD)); exact HO_5.out) hb); have HO554 := kp (Kd.R_lower ho0 (below_size bb)); replace HB := kp (below_step bb hb); (try clear hb); (try clear ho0)) | ((with_reducible refine gate_dst (N := 44) rfl ?_); refine Kd.S_lit k39 _ 39 ?hg (N := 44) ?hd (xs := ([] : List (S39))) (inner := []) (ok := fun _ => True) (okp := fun _ => True) ?hr ?hp (fun _ hk => hk) trivial (Below.refl _ _) (Nat.le_refl _) (by simp) ?_; (case hd => rfl); (case hg => rfl); (case hr => first | (go_simp; done) | (go_simp; rfl)); (case hp => exact (Reps.none _ _)); intro v559 w27 ho28 hb hg_ hnew_; clear hg_ hnew_; (first | rw [← Ny558.out] at ho28 | (simp only [Int.reduceToNat] at ho28; rw [← Ny558.out] at ho28)); replace HO_5 := kp (Kd.R_below (by (with_reducible repeat (first | apply rA | apply rN | apply rD)); exact HO_5.out) hb); have HO560 := kp (Kd.S_lower (Kd.S_new' (Kd.S_new' ho28 (Kd.S_lt (by (with_reducible repeat (first | apply Kd.S_alloc | apply Kd.S_drewN | apply Kd.S_drew)); exact HO_4.out))) (Kd.R_lt (by (with_reducible repeat (first | apply rA | apply rN | apply rD)); exact HO554.out))) (below_size bb)); replace HO_4 := kp (Kd.S_elder' (by (with_reducible repeat (first | apply Kd.S_alloc | apply Kd.S_drewN | apply Kd.S_drew)); exact HO_4.out) (Kd.S_base ho28) hb); replace HO554 := kp (Kd.R_below (by (with_reducible repeat (first | apply rA | apply rN | apply rD)); exact HO554.out) hb); replace HB := kp (below_step bb hb); clear hb ho28))
           go_ret2
           exact ⟨_, er, by (with_reducible repeat (first | apply Kd.S_alloc | apply Kd.S_drewN | apply Kd.S_drew)); exact Kd.S_mono HO560.out (fun _ hk => trivial), bb⟩
         ·rw [if_neg c19] at H; exact absurd H (by simp)
        ·rw [if_neg c18] at H; exact absurd H (by simp)
       ·rw [if_neg c17] at H; exact absurd H (by simp)
   ·rw [if_neg c6] at H; have c6b0 : decide ((wrap64 (x6_1 + 1)) < (t542.length : Int)) = false := decide_eq_false c6; clear c6; replace H := Option.bind_eq_some_iff.mp H; obtain ⟨t561, A290, H⟩ := H; replace H : (if t561 = true then ((spec_FormatPages.f k1 x4_1).bind fun t562 => (if t562.toList = a0.toList then (some (x4_1, true)) else (some ((([] : List (S39))), false)))) else (some ((([] : List (S39))), false))) = some (r1, r2) := H; have A29 := kp A290; clear A290
    by_cases c30 : t561 = true
    ·subst c30; have H1 : ((spec_FormatPages.f k1 x4_1).bind fun t562 => (if t562.toList = a0.toList then (some (x4_1, true)) else (some ((([] : List (S39))), false)))) = some (r1, r2) := by rw [if_pos rfl] at H; exact H
     clear H; have H := H1; clear H1; replace H := Option.bind_eq_some_iff.mp H; obtain ⟨t562, A310, H⟩ := H; replace H : (if t562.toList = a0.toList then (some (x4_1, true)) else (some ((([] : List (S39))), false))) = some (r1, r2) := H; have A31 := kp A310; clear A310
     by_cases c32 : t562.toList = a0.toList
     ·rw [if_pos c32] at H; have c32b0 : (t562.toList == a0.toList) = true := beq_iff_eq.mpr c32; have c32b1 : (t562.toList != a0.toList) = false := bne_eq_false_iff_eq.mpr c32; clear c32; simp only [Option.some.injEq, Prod.mk.injEq] at H; obtain ⟨rfl, rfl⟩ := H; obtain ⟨Ao33, co33, eo33⟩ := Kd.R_slice HO_5.out; subst eo33; obtain ⟨Ao34, co34, eo34⟩ := Kd.S_slice HO_4.out; subst eo34
      go_wp2_with (first | ((with_reducible refine gate_callee (f := 64) rfl ?_); refine gl_ 51 Try.func64 #[.slice Ao34 x4_1.length co34] ?_; (with_reducible refine (spec_l4Pages.calls k1 _ _ x4_1 true _ ?side1 ?side2 A29.out).mono ?_); (case side1 => repeat (first | exact (Kd.S_reads' HO_4.out).2.2 | (with_reducible refine Kd.C_alloc ?_ _) | (with_reducible refine Kd.C_drewN ?_ _) | (with_reducible refine Kd.C_drew ?_))); (case side2 => exact (Kd.S_reads' HO_4.out).2.1); rintro e w35 ⟨rfl, hb⟩; refine ⟨_, rfl, ?_⟩; replace HO_4 := kp (Kd.S_below (by (with_reducible repeat (first | apply Kd.S_alloc | apply Kd.S_drewN | apply Kd.S_drew)); exact HO_4.out) hb); replace HO_5 := kp (Kd.R_below (by (with_reducible repeat (first | apply rA | apply rN | apply rD)); exact HO_5.out) hb); replace HB := kp (below_step bb hb); (try clear hb)) | (go_at_call 28; (with_reducible refine (spec_FormatPages.calls k1 _ _ x4_1 t562 _ ?side1 ?side2 A31.out).mono ?_); (case side1 => repeat (first | exact (Kd.S_reads' HO_4.out).2.2 | (with_reducible refine Kd.C_alloc ?_ _) | (with_reducible refine Kd.C_drewN ?_ _) | (with_reducible refine Kd.C_drew ?_))); (case side2 => exact (Kd.S_reads' HO_4.out).2.1); rintro e w36 ⟨rfl, hb⟩; replace HO_4 := kp (Kd.S_below (by (with_reducible repeat (first | apply Kd.S_alloc | apply Kd.S_drewN | apply Kd.S_drew)); exact HO_4.out) hb); replace HO_5 := kp (Kd.R_below (by (with_reducible repeat (first | apply rA | apply rN | apply rD)); exact HO_5.out) hb); replace HB := kp (below_step bb hb); (try clear hb)))
      go_ret2
      exact ⟨_, er, by (with_reducible repeat (first | apply Kd.S_alloc | apply Kd.S_drewN | apply Kd.S_drew)); exact HO_4.out, bb⟩
     ·rw [if_neg c32] at H; have c32b0 : (t562.toList == a0.toList) = false := beq_eq_false_iff_ne.mpr c32; have c32b1 : (t562.toList != a0.toList) = true := bne_iff_ne.mpr c32; obtain ⟨y563, hy563⟩ : ∃ y_ : List (S39), y_ = (([] : List (S39))) := ⟨_, rfl⟩; replace H : (some (y563, false)) = some (r1, r2) := by first | (rw [hy563]; with_reducible exact H) | (have H2_ := (Option.bind_some _ _).symm.trans H; rw [hy563]; with_reducible exact H2_) | (have H2_ := (Option.bind_some _ _).symm.trans H; with_reducible exact H2_) | with_reducible exact H | (rw [hy563]; exact H) | exact H
      have Ny563 := kp hy563; clear hy563; simp only [Option.some.injEq, Prod.mk.injEq] at H; obtain ⟨rfl, rfl⟩ := H; obtain ⟨Ao37, co37, eo37⟩ := Kd.R_slice HO_5.out; subst eo37; obtain ⟨Ao38, co38, eo38⟩ := Kd.S_slice HO_4.out; subst eo38
      go_wp2_with (first | ((with_reducible refine gate_callee (f := 64) rfl ?_); refine gl_ 51 Try.func64 #[.slice Ao38 x4_1.length co38] ?_; (with_reducible refine (spec_l4Pages.calls k1 _ _ x4_1 true _ ?side1 ?side2 A29.out).mono ?_); (case side1 => repeat (first | exact (Kd.S_reads' HO_4.out).2.2 | (with_reducible refine Kd.C_alloc ?_ _) | (with_reducible refine Kd.C_drewN ?_ _) | (with_reducible refine Kd.C_drew ?_))); (case side2 => exact (Kd.S_reads' HO_4.out).2.1); rintro e w39 ⟨rfl, hb⟩; refine ⟨_, rfl, ?_⟩; replace HO_4 := kp (Kd.S_below (by (with_reducible repeat (first | apply Kd.S_alloc | apply Kd.S_drewN | apply Kd.S_drew)); exact HO_4.out) hb); replace HO_5 := kp (Kd.R_below (by (with_reducible repeat (first | apply rA | apply rN | apply rD)); exact HO_5.out) hb); replace HB := kp (below_step bb hb); (try clear hb)) | (go_at_call 28; (with_reducible refine (spec_FormatPages.calls k1 _ _ x4_1 t562 _ ?side1 ?side2 A31.out).mono ?_); (case side1 => repeat (first | exact (Kd.S_reads' HO_4.out).2.2 | (with_reducible refine Kd.C_alloc ?_ _) | (with_reducible refine Kd.C_drewN ?_ _) | (with_reducible refine Kd.C_drew ?_))); (case side2 => exact (Kd.S_reads' HO_4.out).2.1); rintro e w40 ⟨rfl, hb⟩; replace HO_4 := kp (Kd.S_below (by (with_reducible repeat (first | apply Kd.S_alloc | apply Kd.S_drewN | apply Kd.S_drew)); exact HO_4.out) hb); replace HO_5 := kp (Kd.R_below (by (with_reducible repeat (first | apply rA | apply rN | apply rD)); exact HO_5.out) hb); replace HB := kp (below_step bb hb); (try clear hb)) | ((with_reducible refine gate_dst (N := 59) rfl ?_); refine Kd.S_lit k39 _ 39 ?hg (N := 59) ?hd (xs := ([] : List (S39))) (inner := []) (ok := fun _ => True) (okp := fun _ => True) ?hr ?hp (fun _ hk => hk) trivial (Below.refl _ _) (Nat.le_refl _) (by simp) ?_; (case hd => rfl); (case hg => rfl); (case hr => first | (go_simp; done) | (go_simp; rfl)); (case hp => exact (Reps.none _ _)); intro v564 w41 ho42 hb hg_ hnew_; clear hg_ hnew_; (first | rw [← Ny563.out] at ho42 | (simp only [Int.reduceToNat] at ho42; rw [← Ny563.out] at ho42)); replace HO_5 := kp (Kd.R_below (by (with_reducible repeat (first | apply rA | apply rN | apply rD)); exact HO_5.out) hb); have HO565 := kp (Kd.S_lower (Kd.S_new' ho42 (Kd.S_lt (by (with_reducible repeat (first | apply Kd.S_alloc | apply Kd.S_drewN | apply Kd.S_drew)); exact HO_4.out))) (below_size bb)); replace HO_4 := kp (Kd.S_elder' (by (with_reducible repeat (first | apply Kd.S_alloc | apply Kd.S_drewN | apply Kd.S_drew)); exact HO_4.out) (Kd.S_base ho42) hb); replace HB := kp (below_step bb hb); clear hb ho42))
      go_ret2
      exact ⟨_, er, by (with_reducible repeat (first | apply Kd.S_alloc | apply Kd.S_drewN | apply Kd.S_drew)); exact Kd.S_mono HO565.out (fun _ hk => trivial), bb⟩
    ·replace c30 := Bool.eq_false_iff.mpr c30; subst c30; have H1 : (some ((([] : List (S39))), false)) = some (r1, r2) := by rw [if_neg (show ¬ (false = true) by decide)] at H; exact H
     clear H; have H := H1; clear H1; obtain ⟨y566, hy566⟩ : ∃ y_ : List (S39), y_ = (([] : List (S39))) := ⟨_, rfl⟩; replace H : (some (y566, false)) = some (r1, r2) := by first | (rw [hy566]; with_reducible exact H) | (have H2_ := (Option.bind_some _ _).symm.trans H; rw [hy566]; with_reducible exact H2_) | (have H2_ := (Option.bind_some _ _).symm.trans H; with_reducible exact H2_) | with_reducible exact H | (rw [hy566]; exact H) | exact H
     have Ny566 := kp hy566; clear hy566; simp only [Option.some.injEq, Prod.mk.injEq] at H; obtain ⟨rfl, rfl⟩ := H; obtain ⟨Ao43, co43, eo43⟩ := Kd.R_slice HO_5.out; subst eo43; obtain ⟨Ao44, co44, eo44⟩ := Kd.S_slice HO_4.out; subst eo44
     go_wp2_with (first | ((with_reducible refine gate_callee (f := 64) rfl ?_); refine gl_ 51 Try.func64 #[.slice Ao44 x4_1.length co44] ?_; (with_reducible refine (spec_l4Pages.calls k1 _ _ x4_1 false _ ?side1 ?side2 A29.out).mono ?_); (case side1 => repeat (first | exact (Kd.S_reads' HO_4.out).2.2 | (with_reducible refine Kd.C_alloc ?_ _) | (with_reducible refine Kd.C_drewN ?_ _) | (with_reducible refine Kd.C_drew ?_))); (case side2 => exact (Kd.S_reads' HO_4.out).2.1); rintro e w45 ⟨rfl, hb⟩; refine ⟨_, rfl, ?_⟩; replace HO_4 := kp (Kd.S_below (by (with_reducible repeat (first | apply Kd.S_alloc | apply Kd.S_drewN | apply Kd.S_drew)); exact HO_4.out) hb); replace HO_5 := kp (Kd.R_below (by (with_reducible repeat (first | apply rA | apply rN | apply rD)); exact HO_5.out) hb); replace HB := kp (below_step bb hb); (try clear hb)) | ((with_reducible refine gate_dst (N := 59) rfl ?_); refine Kd.S_lit k39 _ 39 ?hg (N := 59) ?hd (xs := ([] : List (S39))) (inner := []) (ok := fun _ => True) (okp := fun _ => True) ?hr ?hp (fun _ hk => hk) trivial (Below.refl _ _) (Nat.le_refl _) (by simp) ?_; (case hd => rfl); (case hg => rfl); (case hr => first | (go_simp; done) | (go_simp; rfl)); (case hp => exact (Reps.none _ _)); intro v567 w46 ho47 hb hg_ hnew_; clear hg_ hnew_; (first | rw [← Ny566.out] at ho47 | (simp only [Int.reduceToNat] at ho47; rw [← Ny566.out] at ho47)); replace HO_5 := kp (Kd.R_below (by (with_reducible repeat (first | apply rA | apply rN | apply rD)); exact HO_5.out) hb); have HO568 := kp (Kd.S_lower (Kd.S_new' ho47 (Kd.S_lt (by (with_reducible repeat (first | apply Kd.S_alloc | apply Kd.S_drewN | apply Kd.S_drew)); exact HO_4.out))) (below_size bb)); replace HO_4 := kp (Kd.S_elder' (by (with_reducible repeat (first | apply Kd.S_alloc | apply Kd.S_drewN | apply Kd.S_drew)); exact HO_4.out) (Kd.S_base ho47) hb); replace HB := kp (below_step bb hb); clear hb ho47))
     go_ret2
     exact ⟨_, er, by (with_reducible repeat (first | apply Kd.S_alloc | apply Kd.S_drewN | apply Kd.S_drew)); exact Kd.S_mono HO568.out (fun _ hk => trivial), bb⟩
def impl_validPages.l0 : Nat → List (S39) → Int → Int → Option (Bool)
 | 0, _, _, _ => none
 | k + 1, x5, x6, x7 => if x7 < x6 then (if 0 ≤ x7 then (if x7 < (x5.length : Int) then ((impl_IsValidPage.f k ((rd_T39 x5 x7).f0)).bind fun t571 => (if t571 = true then (impl_validPages.l0 k x5 x6 (wrap64 (x7 + 1))) else (some false))) else (none)) else (none)) else (some true)
def impl_validPages.f (k : Nat) (l0 : List (S39)) : Option (Bool) := impl_validPages.l0 k l0 (l0.length : Int) 0
theorem impl_validPages.mono_l : ∀ k, (∀ y0 y1 y2, LeO (impl_validPages.l0 k y0 y1 y2) (impl_validPages.l0 (k + 1) y0 y1 y2))
 | 0 => fun _ _ _ r h => by simp [impl_validPages.l0] at h
 | k + 1 => by
  have ih0 := impl_validPages.mono_l k
  ·intro y0 y1 y2
   unfold impl_validPages.l0
   repeat' first
   | (with_reducible exact ih0 _ _ _)
   | (with_reducible exact impl_IsValidPage.mono _ _)
   | (with_reducible exact LeO.refl _)
   | (with_reducible exact LeO.none _)
   | (with_reducible refine LeO.ite ?_ ?_)
   | (with_reducible refine LeO.bind ?_ (fun _ => ?_))
theorem impl_validPages.mono : ∀ a0 k, LeO (impl_validPages.f k a0) (impl_validPages.f (k + 1) a0) := by
 intro a0 k
 have ih0 := impl_validPages.mono_l k
 unfold impl_validPages.f
 repeat' first
   | (with_reducible exact ih0 _ _ _)
   | (with_reducible exact impl_IsValidPage.mono _ _)
   | (with_reducible exact LeO.refl _)
   | (with_reducible exact LeO.none _)
   | (with_reducible refine LeO.ite ?_ ?_)
   | (with_reducible refine LeO.bind ?_ (fun _ => ?_))
set_option maxHeartbeats 8000000 in
set_option maxRecDepth 100000 in
theorem impl_validPages.calls (k : Nat) (A0 : Option Addr) (c0 : Nat) (l0 : List (S39)) (r : Bool) (w : World) (hr0 : Kd.C k39 w A0 l0.length l0) (hc0 : l0.length ≤ c0) (h : impl_validPages.f k l0 = some r) :
  Calls Try.prog 65 #[.slice A0 l0.length c0] w fun e w' => e = .returned (.bool r) ∧ Below w.heap.size w w' := by
 have hu39 := Try.underlying39
 have HR0 := kp hr0
 have HC0 := kp hc0
 clear hr0 hc0
 have HB := kp (Below.refl w.heap.size w)
 have H : (impl_validPages.l0 k l0 (l0.length : Int) 0) = some r := h
 clear h
 have H' := kp H
 clear H
 go_enter Try.func65, Try.ntmps65
 go_wp2
 go_loopg [7] k (fun kq v7 w' => ∃ (x7_1 : Int), v7 = .int .i64 x7_1 ∧ Aside0 (impl_validPages.l0 kq l0 (l0.length : Int) x7_1 = some r) ∧ Aside0 (kq ≤ k) ∧ Aside0 (Below w.heap.size w w'))
 case atStart => exact ⟨(0), (by first | rfl | (simp; done) | (simp [*]; done)), H', ⟨Nat.le_refl _⟩, ⟨bb⟩⟩
 case round =>
  clear H'; obtain ⟨x7_1, rfl, HA, HK1, HB⟩ := hrel
  cases gk with
  | zero => exact absurd HA.out (by simp [impl_validPages.l0])
  | succ k1 =>
   have H := HA.out; clear HA; simp only [impl_validPages.l0] at H
   by_cases c2 : x7_1 < (l0.length : Int)
   ·rw [if_pos c2] at H; have c2b0 : decide (x7_1 < (l0.length : Int)) = true := decide_eq_true c2; clear c2
    by_cases c3 : 0 ≤ x7_1
    ·rw [if_pos c3] at H; have c3b0 : decide (0 ≤ x7_1) = true := decide_eq_true c3; clear c3
     by_cases c4 : x7_1 < (l0.length : Int)
     ·rw [if_pos c4] at H; have c4b0 : decide (x7_1 < (l0.length : Int)) = true := decide_eq_true c4; clear c4; replace H := Option.bind_eq_some_iff.mp H; obtain ⟨t571, A50, H⟩ := H; replace H : (if t571 = true then (impl_validPages.l0 k1 l0 (l0.length : Int) (wrap64 (x7_1 + 1))) else (some false)) = some r := H; have A5 := kp A50; clear A50
      by_cases c6 : t571 = true
      ·subst c6; have H1 : (impl_validPages.l0 k1 l0 (l0.length : Int) (wrap64 (x7_1 + 1))) = some r := by rw [if_pos rfl] at H; exact H
       clear H; have H := H1; clear H1; have H' := kp H; clear H; have p569 : 0 ≤ (x7_1 : Int) := dt; have q569 : x7_1 < (l0.length : Int) := dt; obtain ⟨ad569, A569_0, c569_0, e569, hx569_0, hl569_0, hi569_0⟩ := at_T39 HR0.out x7_1 p569 q569; cases e569; replace hx569_0 := kc HB.out hx569_0; have HR569_0 := kp hi569_0; have HC569_0 := kp hl569_0; clear hi569_0 hl569_0; replace p569 := eq_true p569; replace q569 := eq_true q569
       go_wp2_with (first | ((with_reducible refine gate_dst (N := 4) rfl ?_); refine bx_ 4 #[.slice none 0 0] 39 ?_; intro gb570 hg w7 hbox hb; have BK570 := kp (hbox); have GW570 := kp (bs hg); have GE570 := kp (bs hg); replace HB := kp (below_step bb hb); clear hb hbox hg; obtain ⟨hcz8_0, hfz8_0⟩ := bf1 BK570.out) | ((with_reducible refine gate_callee (f := 18) rfl ?_); refine gl_ 12 Try.func18 #[.agg #[.slice A569_0 ((rd_T39 l0 x7_1).f0).length c569_0]] ?_; (with_reducible refine (impl_IsValidPage.calls k1 _ _ ((rd_T39 l0 x7_1).f0) true _ ?side1 ?side2 A5.out).mono ?_); (case side1 => exact Kd.C_below HR569_0.out bb); (case side2 => exact HC569_0.out); rintro e w9 ⟨rfl, hb⟩; refine ⟨_, rfl, ?_⟩; replace BK570 := kp (blk_below (g := gb570) (o := .cells #[.slice A569_0 ((rd_T39 l0 x7_1).f0).length c569_0] 39 (0, 0)) (by refine blk_put (cs := #[.slice none 0 0]) ?_ 0 _ rfl; (with_reducible repeat (first | apply bN | apply bD | apply bA)); exact BK570.out) hb); replace HB := kp (below_step bb hb); (try clear hb)))
       go_roundg k1
       case measure => have := HK1.out; omega
       case rel => exact ⟨(wrap64 (x7_1 + 1)), (by first | rfl | (simp; done) | (simp [*]; done)), H', ⟨by have := HK1.out; omega⟩, ⟨bb⟩⟩
      ·replace c6 := Bool.eq_false_iff.mpr c6; subst c6; have H1 : (some false) = some r := by rw [if_neg (show ¬ (false = true) by decide)] at H; exact H
       clear H; have H := H1; clear H1; obtain rfl := Option.some.inj H; have p569 : 0 ≤ (x7_1 : Int) := dt; have q569 : x7_1 < (l0.length : Int) := dt; obtain ⟨ad569, A569_0, c569_0, e569, hx569_0, hl569_0, hi569_0⟩ := at_T39 HR0.out x7_1 p569 q569; cases e569; replace hx569_0 := kc HB.out hx569_0; have HR569_0 := kp hi569_0; have HC569_0 := kp hl569_0; clear hi569_0 hl569_0; replace p569 := eq_true p569; replace q569 := eq_true q569
       go_wp2_with (first | ((with_reducible refine gate_dst (N := 4) rfl ?_); refine bx_ 4 #[.slice none 0 0] 39 ?_; intro gb570 hg w10 hbox hb; have BK570 := kp (hbox); have GW570 := kp (bs hg); have GE570 := kp (bs hg); replace HB := kp (below_step bb hb); clear hb hbox hg; obtain ⟨hcz11_0, hfz11_0⟩ := bf1 BK570.out) | ((with_reducible refine gate_callee (f := 18) rfl ?_); refine gl_ 12 Try.func18 #[.agg #[.slice A569_0 ((rd_T39 l0 x7_1).f0).length c569_0]] ?_; (with_reducible refine (impl_IsValidPage.calls k1 _ _ ((rd_T39 l0 x7_1).f0) false _ ?side1 ?side2 A5.out).mono ?_); (case side1 => exact Kd.C_below HR569_0.out bb); (case side2 => exact HC569_0.out); rintro e w12 ⟨rfl, hb⟩; refine ⟨_, rfl, ?_⟩; replace BK570 := kp (blk_below (g := gb570) (o := .cells #[.slice A569_0 ((rd_T39 l0 x7_1).f0).length c569_0] 39 (0, 0)) (by refine blk_put (cs := #[.slice none 0 0]) ?_ 0 _ rfl; (with_reducible repeat (first | apply bN | apply bD | apply bA)); exact BK570.out) hb); replace HB := kp (below_step bb hb); (try clear hb)))
       go_ret; exact ⟨er, bb⟩
     ·rw [if_neg c4] at H; exact absurd H (by simp)
    ·rw [if_neg c3] at H; exact absurd H (by simp)
   ·rw [if_neg c2] at H; have c2b0 : decide (x7_1 < (l0.length : Int)) = false := decide_eq_false c2; clear c2; obtain rfl := Option.some.inj H; go_wp2; go_ret; exact ⟨er, bb⟩
def impl_FormatRow.f (k : Nat) (a0_0 : Int) (a0_1 : Int) (a0_2 : Int) : Option (ByteArray) := (impl_IsValidRow.f a0_0 a0_1 a0_2).bind fun t573 => (if t573 = true then ((impl_FormatInt.f k a0_0).bind fun t574 => (if t574.size + 1 ≤ 9223372036854775807 then ((impl_FormatInt.f k a0_1).bind fun t575 => (if (t574 ++ (⟨#[46]⟩ : ByteArray)).size + t575.size ≤ 9223372036854775807 then (if ((t574 ++ (⟨#[46]⟩ : ByteArray)) ++ t575).size + 1 ≤ 9223372036854775807 then ((impl_FormatInt.f k a0_2).bind fun t576 => (if (((t574 ++ (⟨#[46]⟩ : ByteArray)) ++ t575) ++ (⟨#[46]⟩ : ByteArray)).size + t576.size ≤ 9223372036854775807 then (some ((((t574 ++ (⟨#[46]⟩ : ByteArray)) ++ t575) ++ (⟨#[46]⟩ : ByteArray)) ++ t576)) else (none))) else (none)) else (none))) else (none))) else (some (⟨#[]⟩ : ByteArray)))
theorem impl_FormatRow.mono : ∀ a0 a1 a2 k, LeO (impl_FormatRow.f k a0 a1 a2) (impl_FormatRow.f (k + 1) a0 a1 a2) := by
 intro a0 a1 a2 k
 unfold impl_FormatRow.f
 repeat' first
   | (with_reducible exact impl_FormatInt.mono _ _)
   | (with_reducible exact LeO.refl _)
   | (with_reducible exact LeO.none _)
   | (with_reducible refine LeO.ite ?_ ?_)
   | (with_reducible refine LeO.bind ?_ (fun _ => ?_))
def impl_FormatRow.T3 : Bool × List (List Nat × List Nat) := (true, [([], []), ([0], [0]), ([1], [1]), ([2], [2]), ([], []), ([4], [4]), ([5, 2], [5]), ([3, 6], [3, 6]), ([7], [7]), ([], []), ([9], [9]), ([10, 6], [10]), ([8, 11], [8, 11]), ([12, 11, 0, 1, 2, 3, 4, 5, 6, 7, 8, 9, 10, 11, 12], [12])])
def impl_FormatRow.B3 : List Nat := [0, 1, 3, 7, 0, 16, 55, 127, 255, 0, 512, 1655, 4095, 8191]
theorem impl_FormatRow.tab3 : rtab .any (opsOf Try.f101 3) = impl_FormatRow.T3 := by kernel_rfl
theorem impl_FormatRow.bits3 : waitsOk impl_FormatRow.T3.2 impl_FormatRow.B3 = true := by kernel_rfl
set_option maxHeartbeats 8000000 in
set_option maxRecDepth 100000 in
theorem impl_FormatRow.calls (k : Nat) (a0_0 : Int) (a0_1 : Int) (a0_2 : Int) (r : ByteArray) (w : World) (h : impl_FormatRow.f k a0_0 a0_1 a0_2 = some r) :
  Calls Try.prog 101 #[.agg #[.int .i64 a0_0, .int .i64 a0_1, .int .i64 a0_2]] w fun e w' => e = .returned (.string r) ∧ Below w.heap.size w w' := by
 have hu42 := Try.underlying42
 have HB := kp (Below.refl w.heap.size w)
 have H : ((impl_IsValidRow.f a0_0 a0_1 a0_2).bind fun t573 => (if t573 = true then ((impl_FormatInt.f k a0_0).bind fun t574 => (if t574.size + 1 ≤ 9223372036854775807 then ((impl_FormatInt.f k a0_1).bind fun t575 => (if (t574 ++ (⟨#[46]⟩ : ByteArray)).size + t575.size ≤ 9223372036854775807 then (if ((t574 ++ (⟨#[46]⟩ : ByteArray)) ++ t575).size + 1 ≤ 9223372036854775807 then ((impl_FormatInt.f k a0_2).bind fun t576 => (if (((t574 ++ (⟨#[46]⟩ : ByteArray)) ++ t575) ++ (⟨#[46]⟩ : ByteArray)).size + t576.size ≤ 9223372036854775807 then (some ((((t574 ++ (⟨#[46]⟩ : ByteArray)) ++ t575) ++ (⟨#[46]⟩ : ByteArray)) ++ t576)) else (none))) else (none)) else (none))) else (none))) else (some (⟨#[]⟩ : ByteArray)))) = some r := h
 clear h
 replace H := Option.bind_eq_some_iff.mp H
 obtain ⟨t573, A20, H⟩ := H
 replace H : (if t573 = true then ((impl_FormatInt.f k a0_0).bind fun t574 => (if t574.size + 1 ≤ 9223372036854775807 then ((impl_FormatInt.f k a0_1).bind fun t575 => (if (t574 ++ (⟨#[46]⟩ : ByteArray)).size + t575.size ≤ 9223372036854775807 then (if ((t574 ++ (⟨#[46]⟩ : ByteArray)) ++ t575).size + 1 ≤ 9223372036854775807 then ((impl_FormatInt.f k a0_2).bind fun t576 => (if (((t574 ++ (⟨#[46]⟩ : ByteArray)) ++ t575) ++ (⟨#[46]⟩ : ByteArray)).size + t576.size ≤ 9223372036854775807 then (some ((((t574 ++ (⟨#[46]⟩ : ByteArray)) ++ t575) ++ (⟨#[46]⟩ : ByteArray)) ++ t576)) else (none))) else (none)) else (none))) else (none))) else (some (⟨#[]⟩ : ByteArray))) = some r := H
 have A2 := kp A20
 clear A20
 by_cases c3 : t573 = true
 ·subst c3; have H1 : ((impl_FormatInt.f k a0_0).bind fun t574 => (if t574.size + 1 ≤ 9223372036854775807 then ((impl_FormatInt.f k a0_1).bind fun t575 => (if (t574 ++ (⟨#[46]⟩ : ByteArray)).size + t575.size ≤ 9223372036854775807 then (if ((t574 ++ (⟨#[46]⟩ : ByteArray)) ++ t575).size + 1 ≤ 9223372036854775807 then ((impl_FormatInt.f k a0_2).bind fun t576 => (if (((t574 ++ (⟨#[46]⟩ : ByteArray)) ++ t575) ++ (⟨#[46]⟩ : ByteArray)).size + t576.size ≤ 9223372036854775807 then (some ((((t574 ++ (⟨#[46]⟩ : ByteArray)) ++ t575) ++ (⟨#[46]⟩ : ByteArray)) ++ t576)) else (none))) else (none)) else (none))) else (none))) = some r := by rw [if_pos rfl] at H; exact H
  clear H; have H := H1; clear H1; replace H := Option.bind_eq_some_iff.mp H; obtain ⟨t574, A40, H⟩ := H; replace H : (if t574.size + 1 ≤ 9223372036854775807 then ((impl_FormatInt.f k a0_1).bind fun t575 => (if (t574 ++ (⟨#[46]⟩ : ByteArray)).size + t575.size ≤ 9223372036854775807 then (if ((t574 ++ (⟨#[46]⟩ : ByteArray)) ++ t575).size + 1 ≤ 9223372036854775807 then ((impl_FormatInt.f k a0_2).bind fun t576 => (if (((t574 ++ (⟨#[46]⟩ : ByteArray)) ++ t575) ++ (⟨#[46]⟩ : ByteArray)).size + t576.size ≤ 9223372036854775807 then (some ((((t574 ++ (⟨#[46]⟩ : ByteArray)) ++ t575) ++ (⟨#[46]⟩ : ByteArray)) ++ t576)) else (none))) else (none)) else (none))) else (none)) = some r := H; have A4 := kp A40; clear A40
  by_cases c5 : t574.size + 1 ≤ 9223372036854775807
  ·rw [if_pos c5] at H; have c5b0 := eq_true c5; have c5b1 : decide (t574.size + 1 ≤ 9223372036854775807) = true := decide_eq_true c5
   try have c5b2 : (9223372036854775807 < t574.size + 1) = False := eq_false (Nat.not_lt.2 c5)
   replace H := Option.bind_eq_some_iff.mp H; obtain ⟨t575, A60, H⟩ := H; replace H : (if (t574 ++ (⟨#[46]⟩ : ByteArray)).size + t575.size ≤ 9223372036854775807 then (if ((t574 ++ (⟨#[46]⟩ : ByteArray)) ++ t575).size + 1 ≤ 9223372036854775807 then ((impl_FormatInt.f k a0_2).bind fun t576 => (if (((t574 ++ (⟨#[46]⟩ : ByteArray)) ++ t575) ++ (⟨#[46]⟩ : ByteArray)).size + t576.size ≤ 9223372036854775807 then (some ((((t574 ++ (⟨#[46]⟩ : ByteArray)) ++ t575) ++ (⟨#[46]⟩ : ByteArray)) ++ t576)) else (none))) else (none)) else (none)) = some r := H; have A6 := kp A60; clear A60
   by_cases c7 : (t574 ++ (⟨#[46]⟩ : ByteArray)).size + t575.size ≤ 9223372036854775807
   ·rw [if_pos c7] at H; have c7b0 := eq_true c7; have c7b1 : decide ((t574 ++ (⟨#[46]⟩ : ByteArray)).size + t575.size ≤ 9223372036854775807) = true := decide_eq_true c7
    try have c7b2 : (9223372036854775807 < (t574 ++ (⟨#[46]⟩ : ByteArray)).size + t575.size) = False := eq_false (Nat.not_lt.2 c7)
    have c7b3 : (9223372036854775807 < t574.size + 1 + t575.size) = False := eq_false (by have h_ := c7; have e_ : (⟨#[46]⟩ : ByteArray).size = 1 := rfl; have e2_ : (⟨#[32]⟩ : ByteArray).size = 1 := rfl; have e3_ : (⟨#[91]⟩ : ByteArray).size = 1 := rfl; have e4_ : (⟨#[93]⟩ : ByteArray).size = 1 := rfl; simp only [ByteArray.size_append] at h_; omega)
    by_cases c8 : ((t574 ++ (⟨#[46]⟩ : ByteArray)) ++ t575).size + 1 ≤ 9223372036854775807
    ·rw [if_pos c8] at H; have c8b0 := eq_true c8; have c8b1 : decide (((t574 ++ (⟨#[46]⟩ : ByteArray)) ++ t575).size + 1 ≤ 9223372036854775807) = true := decide_eq_true c8
     try have c8b2 : (9223372036854775807 < ((t574 ++ (⟨#[46]⟩ : ByteArray)) ++ t575).size + 1) = False := eq_false (Nat.not_lt.2 c8)
     have c8b3 : (9223372036854775807 < t574.size + 1 + t575.size + 1) = False := eq_false (by have h_ := c8; have e_ : (⟨#[46]⟩ : ByteArray).size = 1 := rfl; have e2_ : (⟨#[32]⟩ : ByteArray).size = 1 := rfl; have e3_ : (⟨#[91]⟩ : ByteArray).size = 1 := rfl; have e4_ : (⟨#[93]⟩ : ByteArray).size = 1 := rfl; simp only [ByteArray.size_append] at h_; omega); replace H := Option.bind_eq_some_iff.mp H; obtain ⟨t576, A90, H⟩ := H; replace H : (if (((t574 ++ (⟨#[46]⟩ : ByteArray)) ++ t575) ++ (⟨#[46]⟩ : ByteArray)).size + t576.size ≤ 9223372036854775807 then (some ((((t574 ++ (⟨#[46]⟩ : ByteArray)) ++ t575) ++ (⟨#[46]⟩ : ByteArray)) ++ t576)) else (none)) = some r := H; have A9 := kp A90; clear A90
     by_cases c10 : (((t574 ++ (⟨#[46]⟩ : ByteArray)) ++ t575) ++ (⟨#[46]⟩ : ByteArray)).size + t576.size ≤ 9223372036854775807
     ·rw [if_pos c10] at H; have c10b0 := eq_true c10; have c10b1 : decide ((((t574 ++ (⟨#[46]⟩ : ByteArray)) ++ t575) ++ (⟨#[46]⟩ : ByteArray)).size + t576.size ≤ 9223372036854775807) = true := decide_eq_true c10
      try have c10b2 : (9223372036854775807 < (((t574 ++ (⟨#[46]⟩ : ByteArray)) ++ t575) ++ (⟨#[46]⟩ : ByteArray)).size + t576.size) = False := eq_false (Nat.not_lt.2 c10)
      have c10b3 : (9223372036854775807 < t574.size + 1 + t575.size + 1 + t576.size) = False := eq_false (by have h_ := c10; have e_ : (⟨#[46]⟩ : ByteArray).size = 1 := rfl; have e2_ : (⟨#[32]⟩ : ByteArray).size = 1 := rfl; have e3_ : (⟨#[91]⟩ : ByteArray).size = 1 := rfl; have e4_ : (⟨#[93]⟩ : ByteArray).size = 1 := rfl; simp only [ByteArray.size_append] at h_; omega); obtain rfl := Option.some.inj H
      go_enter Try.func101, Try.ntmps101
      try go_wp2_with (first | ((with_reducible refine gate_dst (N := 1) rfl ?_); refine bx_ 1 #[.int .i64 a0_0, .int .i64 a0_1, .int .i64 a0_2] 42 ?_; intro gb572 hg w11 hbox hb; have BK572 := kp (hbox); have GW572 := kp (bs hg); have GE572 := kp (bs hg); replace HB := kp (below_step bb hb); clear hb hbox hg; obtain ⟨hcz12_0, hcz12_1, hcz12_2, hfz12_0, hfz12_1, hfz12_2⟩ := bf3 BK572.out) | ((with_reducible refine gate_callee (f := 81) rfl ?_); refine gl_ 4 Try.func81 #[.agg #[.int .i64 a0_0, .int .i64 a0_1, .int .i64 a0_2]] ?_; (with_reducible refine (impl_IsValidRow.calls a0_0 a0_1 a0_2 true _ A2.out).mono ?_); rintro e w13 ⟨rfl, hb⟩; refine ⟨_, rfl, ?_⟩; replace BK572 := kp (kb BK572.out hb); replace HB := kp (below_step bb hb); (try clear hb)))
      replace BK572 := kp (blk_drew BK572.out); replace HB := kp (below_drew1 HB.out)
      refine start_ (n := 14) (S := fun w' => w'.cell? ⟨gb572, 0, none⟩ = some (.int .i64 a0_0) ∧ w'.cell? ⟨gb572, 1, none⟩ = some (.int .i64 a0_1) ∧ w'.cell? ⟨gb572, 2, none⟩ = some (.int .i64 a0_2)) (ds := []) #[false, false, false, false, false, false, false, false, false, false, false, false, false, false] (by kernel_rfl) rfl rfl ⟨bc BK572.out, bc BK572.out, bc BK572.out⟩ (fun hHeld => ?_); refine with_tabW impl_FormatRow.tab3 impl_FormatRow.bits3 (fun HT_ HW_ => ?_)
      generalize w13.drew = w14 at BK572 HB hHeld ⊢
      refine pq 0 6 HT_ ?_
      refine pq 4 10 HT_ ?_
      refine pq 9 15 HT_ ?_
      refine tq 1 7 HT_ HW_ hHeld ?_
      refine tq 5 11 HT_ HW_ hHeld ?_
      refine tq 10 16 HT_ HW_ hHeld ?_
      refine on_ 2 (some 8) HT_ (fun K hK => ?_); refine gs_ Try.func104 #[.int .i64 a0_0] ?_; with_reducible refine (impl_FormatInt.calls k a0_0 t574 _ A4.out).mono ?_
      rintro e w15 ⟨rfl, hb⟩; refine ⟨_, rfl, ?_⟩; replace BK572 := kp (kb BK572.out hb); replace HB := kp (below_step bb hb); (try clear hb); (try clear hk); refine hK.out _ _ ⟨bc BK572.out, bc BK572.out, bc BK572.out⟩ (fun hHeld => ?_); clear hK K; refine nm_ (some 8) ?_
      refine pq 3 9 HT_ ?_
      refine on_ 6 (some 12) HT_ (fun K hK => ?_); refine gs_ Try.func104 #[.int .i64 a0_1] ?_; with_reducible refine (impl_FormatInt.calls k a0_1 t575 _ A6.out).mono ?_
      rintro e w16 ⟨rfl, hb⟩; refine ⟨_, rfl, ?_⟩; replace BK572 := kp (kb BK572.out hb); replace HB := kp (below_step bb hb); (try clear hb); (try clear hk); refine hK.out _ _ ⟨bc BK572.out, bc BK572.out, bc BK572.out⟩ (fun hHeld => ?_); clear hK K; refine nm_ (some 12) ?_
      refine pq 7 13 HT_ ?_
      refine pq 8 14 HT_ ?_
      refine on_ 11 (some 17) HT_ (fun K hK => ?_); refine gs_ Try.func104 #[.int .i64 a0_2] ?_; with_reducible refine (impl_FormatInt.calls k a0_2 t576 _ A9.out).mono ?_
      rintro e w17 ⟨rfl, hb⟩; refine ⟨_, rfl, ?_⟩; replace BK572 := kp (kb BK572.out hb); replace HB := kp (below_step bb hb); (try clear hb); (try clear hk); refine hK.out _ _ ⟨bc BK572.out, bc BK572.out, bc BK572.out⟩ (fun hHeld => ?_); clear hK K; refine nm_ (some 17) ?_
      refine pq 12 18 HT_ ?_
      refine pq 13 2 HT_ ?_
      refine done_ (done_of HT_.out (by kernel_rfl)) ?_
      try go_wp2
      go_ret; exact ⟨er, bb⟩
     ·rw [if_neg c10] at H; exact absurd H (by simp)
    ·rw [if_neg c8] at H; exact absurd H (by simp)
   ·rw [if_neg c7] at H; exact absurd H (by simp)
  ·rw [if_neg c5] at H; exact absurd H (by simp)
 ·replace c3 := Bool.eq_false_iff.mpr c3; subst c3; have H1 : (some (⟨#[]⟩ : ByteArray)) = some r := by rw [if_neg (show ¬ (false = true) by decide)] at H; exact H
  clear H; have H := H1; clear H1; obtain rfl := Option.some.inj H
  go_enter Try.func101, Try.ntmps101
  go_wp2_with (first | ((with_reducible refine gate_dst (N := 1) rfl ?_); refine bx_ 1 #[.int .i64 a0_0, .int .i64 a0_1, .int .i64 a0_2] 42 ?_; intro gb572 hg w18 hbox hb; have BK572 := kp (hbox); have GW572 := kp (bs hg); have GE572 := kp (bs hg); replace HB := kp (below_step bb hb); clear hb hbox hg; obtain ⟨hcz19_0, hcz19_1, hcz19_2, hfz19_0, hfz19_1, hfz19_2⟩ := bf3 BK572.out) | ((with_reducible refine gate_callee (f := 81) rfl ?_); refine gl_ 4 Try.func81 #[.agg #[.int .i64 a0_0, .int .i64 a0_1, .int .i64 a0_2]] ?_; (with_reducible refine (impl_IsValidRow.calls a0_0 a0_1 a0_2 false _ A2.out).mono ?_); rintro e w20 ⟨rfl, hb⟩; refine ⟨_, rfl, ?_⟩; replace BK572 := kp (kb BK572.out hb); replace HB := kp (below_step bb hb); (try clear hb)))
  go_ret; exact ⟨er, bb⟩
end Go.Proofs.Ytljpfogplcdcjaa.PFnPagePacking
