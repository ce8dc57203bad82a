/- Out of a copy of the print, with function values told: nothing is claimed here. -/
import Derived.Test.YtbcpfppiaeelbaaVQFnMultisetsx0
import Derived.Test.YtbcpfppiaeelbaaVQFnMultisetsx1
import Derived.Test.YtbcpfppiaeelbaaVQFnMultisetsx3
import Derived.Test.YtbcpfppiaeelbaaVQFnMultisetsx4
import Derived.Test.YtbcpfppiaeelbaaVQFnMultisetsx5
import Derived.Test.YtbcpfppiaeelbaaVQFnMultisetsx7
import Derived.Test.YtbcpfppiaeelbaaVShort
import Derived.Test.YtbcpfppiaeelbaaVPress
namespace Go.Proofs.Ytbcpfppiaeelbaa.PFnMultisets
open Go.RowKit Go.Proofs.YtbcpfppiaeelbaaW.PrintWords Go.Proofs.YtbcpfppiaeelbaaW.PrintLast Go.Proofs.YtbcpfppiaeelbaaW.PrintMore Go.Proofs.Ytbcpfppiaeelbaa.Short Go.Proofs.Ytbcpfppiaeelbaa.Press
attribute [local go_sem] max2_int min2_int max_two min_two max_three min_three max_four min_four   -- for this text's walks alone
set_option linter.unusedVariables false
set_option linter.unusedSimpArgs false
attribute [local go_sem high] eqA36
mutual
def impl_Row_47.l0 : Nat → List (S36) → Int → Int → Int → Int → Option ((List (S36)))
 | 0, _, _, _, _, _ => none
 | k + 1, x0, x1, x6, x7, x8 => if x8 ≤ x1 then ((impl_Row_52.f k x0 x7 x8).bind fun t215 => (impl_Row_47.l0 k t215 x1 x6 x8 (wrap64 (x8 + x6)))) else ((impl_Row_52.f k x0 x7 x1).bind fun t216 => (impl_Row_47.l1 k t216 x1 x6))
def impl_Row_47.l1 : Nat → List (S36) → Int → Int → Option ((List (S36)))
 | 0, _, _, _ => none
 | k + 1, x0, x1, x6 => if x6 < x1 then (impl_Row_47.l2 k x0 x1 x6 0 (wrap64 (2 * x6))) else (some x0)
def impl_Row_47.l2 : Nat → List (S36) → Int → Int → Int → Int → Option ((List (S36)))
 | 0, _, _, _, _, _ => none
 | k + 1, x0, x1, x6, x7, x8 => if x8 ≤ x1 then ((impl_Row_53.f k x0 x7 (wrap64 (x7 + x6)) x8).bind fun t217 => (impl_Row_47.l2 k t217 x1 x6 x8 (wrap64 (x8 + (wrap64 (2 * x6)))))) else (if (wrap64 (x7 + x6)) < x1 then ((impl_Row_53.f k x0 x7 (wrap64 (x7 + x6)) x1).bind fun t218 => (impl_Row_47.l1 k t218 x1 (wrap64 (x6 * 2)))) else (impl_Row_47.l1 k x0 x1 (wrap64 (x6 * 2))))
end
def impl_Row_47.f (k : Nat) (l0 : List (S36)) (a1 : Int)  : Option ((List (S36))) := impl_Row_47.l0 k l0 a1 20 0 20
set_option maxHeartbeats 8000000 in
set_option maxRecDepth 100000 in
theorem impl_Row_47.calls (k : Nat) (P0_ : Nat → Prop) (u9000_ : Value) (l0 : List (S36)) (a1 : Int)  (r : List (S36)) (w0 w : World) (hB : Below w0.heap.size w0 w) (ho0 : Kd.R k36 36 w w0.heap.size P0_ u9000_ l0) (h : impl_Row_47.f k l0 a1 = some r) :
  Calls Try.prog 47 #[u9000_, .int .i64 a1, .func (.func 25) #[] #[]] w fun e w' => e = .returned (.tuple #[]) ∧ Kd.R k36 36 w' w0.heap.size (fun k_ => (P0_ k_ ∨ w.heap.size ≤ k_)) u9000_ r ∧ Below w0.heap.size w0 w' ∧ Kept w w' (fun k_ => P0_ k_) := by
 have HO0 := kp (show Kd.R k36 36 w w0.heap.size (fun k_ => (P0_ k_ ∨ w.heap.size ≤ k_)) u9000_ l0 from Kd.R_mono ho0 (fun k_ hk => (.inl hk)))
 have HK := kp (Kept.refl w (fun k_ => P0_ k_))
 have HW0 := kp hB.size
 have HB := kp hB
 clear hB
 have H : (impl_Row_47.l0 k l0 a1 20 0 20) = some r := h
 clear h
 have H' := kp H
 clear H
 go_enter Try.func47, Try.ntmps47
 go_wp2
 go_loopg [7, 8] k (fun kq v7 v8 w' => ∃ (x0_1 : List (S36)) (x7_1 : Int) (x8_1 : Int), v7 = .int .i64 x7_1 ∧ v8 = .int .i64 x8_1 ∧ Aside0 (impl_Row_47.l0 kq x0_1 a1 20 x7_1 x8_1 = some r) ∧ Aside0 (kq ≤ k) ∧ Aside0 (Kd.R k36 36 w' w0.heap.size (fun k_ => (P0_ k_ ∨ w.heap.size ≤ k_)) u9000_ x0_1) ∧ Aside0 (Kept w w' (fun k_ => P0_ k_)) ∧ Aside0 (Below w0.heap.size w0 w'))
 case atStart => exact ⟨(l0), (0), (20), (by first | rfl | (simp; done) | (simp [*]; done)), (by first | rfl | (simp; done) | (simp [*]; done)), H', ⟨Nat.le_refl _⟩, ⟨by (with_reducible repeat (first | apply rA | apply rN | apply rD)); exact HO0.out⟩, ⟨by repeat (first | (with_reducible first | exact HK.out | apply Kept.alloc | apply Kept.drewN | apply Kept.drew) | exact HK.out)⟩, ⟨bb⟩⟩
 case round =>
  clear H'
  try clear p2
  obtain ⟨x0_1, x7_1, x8_1, rfl, rfl, HA, HK1, HO_0, HK, HB⟩ := hrel
  cases gk with
  | zero => exact absurd HA.out (by simp [impl_Row_47.l0])
  | succ k1 =>
   have H := HA.out; clear HA; simp only [impl_Row_47.l0] at H
   by_cases c4 : x8_1 ≤ a1
   ·rw [if_pos c4] at H; have c4b0 : decide (x8_1 ≤ a1) = true := decide_eq_true c4; clear c4; replace H := Option.bind_eq_some_iff.mp H; obtain ⟨t215, A50, H⟩ := H; replace H : (impl_Row_47.l0 k1 t215 a1 20 x8_1 (wrap64 (x8_1 + 20))) = some r := H; have A5 := kp A50; clear A50; have H' := kp H; clear H; obtain ⟨Ao6, co6, eo6⟩ := Kd.R_slice HO_0.out; subst eo6
    go_wp2_with (first | ((with_reducible refine gate_callee (f := 52) rfl ?_); refine gl_ 18 Try.func52 #[.slice Ao6 x0_1.length co6, .int .i64 x7_1, .int .i64 x8_1, .func (.func 25) #[] #[]] ?_; (with_reducible refine (impl_Row_52.calls k1 (fun k_ => some k_ = (.slice Ao6 x0_1.length co6 : Value).ownBlock) (.slice Ao6 x0_1.length co6) x0_1 x7_1 x8_1 t215 w0 _ ?side1 ?side2 A5.out).mono ?_); (case side1 => with_reducible repeat (first | exact HB.out | apply cA | apply cN | apply cD)); (case side2 => exact Kd.R_tight rfl HO_0.out); rintro e w7 ⟨rfl, hy0, hb, hkp⟩; refine ⟨_, rfl, ?_⟩; have n0_ := kp (Kd.R_reok rfl hy0 (fun k_ e_ => HO_0.out.1 k_ e_)); have n1_ := kp (Kept.then_ (S := (fun k_ => P0_ k_)) (by repeat (first | (with_reducible first | exact HK.out | apply Kept.alloc | apply Kept.drewN | apply Kept.drew) | exact HK.out)) hkp (fun k_ hs_ => (fun e_ => (HO_0.out.1 k_ e_.symm)) hs_)); have n2_ := kp (hb); clear HO_0; clear HK; clear HB; have HO_0 := n0_; have HK := n1_; have HB := n2_; clear n0_ n1_ n2_; (try clear hb); (try clear hkp); (try clear hy0)))
    go_roundg k1
    case measure => have := HK1.out; omega
    case rel => exact ⟨(t215), (x8_1), (wrap64 (x8_1 + 20)), (by first | rfl | (simp; done) | (simp [*]; done)), (by first | rfl | (simp; done) | (simp [*]; done)), H', ⟨by have := HK1.out; omega⟩, ⟨by (with_reducible repeat (first | apply rA | apply rN | apply rD)); exact HO_0.out⟩, ⟨by repeat (first | (with_reducible first | exact HK.out | apply Kept.alloc | apply Kept.drewN | apply Kept.drew) | exact HK.out)⟩, ⟨bb⟩⟩
   ·rw [if_neg c4] at H; have c4b0 : decide (x8_1 ≤ a1) = false := decide_eq_false c4; clear c4; replace H := Option.bind_eq_some_iff.mp H; obtain ⟨t216, A80, H⟩ := H; replace H : (impl_Row_47.l1 k1 t216 a1 20) = some r := H; have A8 := kp A80; clear A80; have H' := kp H; clear H; obtain ⟨Ao9, co9, eo9⟩ := Kd.R_slice HO_0.out; subst eo9
    go_wp2_with (first | ((with_reducible refine gate_callee (f := 52) rfl ?_); refine gl_ 27 Try.func52 #[.slice Ao9 x0_1.length co9, .int .i64 x7_1, .int .i64 a1, .func (.func 25) #[] #[]] ?_; (with_reducible refine (impl_Row_52.calls k1 (fun k_ => some k_ = (.slice Ao9 x0_1.length co9 : Value).ownBlock) (.slice Ao9 x0_1.length co9) x0_1 x7_1 a1 t216 w0 _ ?side1 ?side2 A8.out).mono ?_); (case side1 => with_reducible repeat (first | exact HB.out | apply cA | apply cN | apply cD)); (case side2 => exact Kd.R_tight rfl HO_0.out); rintro e w10 ⟨rfl, hy0, hb, hkp⟩; refine ⟨_, rfl, ?_⟩; have n0_ := kp (Kd.R_reok rfl hy0 (fun k_ e_ => HO_0.out.1 k_ e_)); have n1_ := kp (Kept.then_ (S := (fun k_ => P0_ k_)) (by repeat (first | (with_reducible first | exact HK.out | apply Kept.alloc | apply Kept.drewN | apply Kept.drew) | exact HK.out)) hkp (fun k_ hs_ => (fun e_ => (HO_0.out.1 k_ e_.symm)) hs_)); have n2_ := kp (hb); clear HO_0; clear HK; clear HB; have HO_0 := n0_; have HK := n1_; have HB := n2_; clear n0_ n1_ n2_; (try clear hb); (try clear hkp); (try clear hy0)))
    (try simp only [Act.put, List.setIfInBounds_toArray, List.set_cons_zero, List.set_cons_succ])
    go_loopg [6] k1 (fun kq v6 w' => ∃ (x0_2 : List (S36)) (x6_2 : Int), v6 = .int .i64 x6_2 ∧ Aside0 (impl_Row_47.l1 kq x0_2 a1 x6_2 = some r) ∧ Aside0 (kq ≤ k1) ∧ Aside0 (Kd.R k36 36 w' w0.heap.size (fun k_ => (P0_ k_ ∨ w.heap.size ≤ k_)) (.slice Ao9 x0_1.length co9) x0_2) ∧ Aside0 (Kept w w' (fun k_ => P0_ k_)) ∧ Aside0 (Below w0.heap.size w0 w'))
    case atStart => exact ⟨(t216), (20), (by first | rfl | (simp; done) | (simp [*]; done)), H', ⟨Nat.le_refl _⟩, ⟨by (with_reducible repeat (first | apply rA | apply rN | apply rD)); exact HO_0.out⟩, ⟨by repeat (first | (with_reducible first | exact HK.out | apply Kept.alloc | apply Kept.drewN | apply Kept.drew) | exact HK.out)⟩, ⟨bb⟩⟩
    case round =>
     clear H'
     try clear p2
     try clear c4
     try clear c4b0
     try clear c5
     try clear p6
     try clear p2
     obtain ⟨x0_2, x6_2, rfl, HA, HK2, HO_0, HK, HB⟩ := hrel; have hl0_2 := (Kd.R_reads' HO_0.out).1; rw [hl0_2] at HO_0; (try simp only [hl0_2])
     cases gk with
     | zero => exact absurd HA.out (by simp [impl_Row_47.l1])
     | succ k2 =>
      have H := HA.out; clear HA; simp only [impl_Row_47.l1] at H
      by_cases c11 : x6_2 < a1
      ·rw [if_pos c11] at H; have c11b0 : decide (x6_2 < a1) = true := decide_eq_true c11; clear c11; have H' := kp H; clear H; go_wp2
       go_loopg [7, 8] k2 (fun kq v7 v8 w' => ∃ (x0_3 : List (S36)) (x7_3 : Int) (x8_3 : Int), v7 = .int .i64 x7_3 ∧ v8 = .int .i64 x8_3 ∧ Aside0 (impl_Row_47.l2 kq x0_3 a1 x6_2 x7_3 x8_3 = some r) ∧ Aside0 (kq ≤ k2) ∧ Aside0 (Kd.R k36 36 w' w0.heap.size (fun k_ => (P0_ k_ ∨ w.heap.size ≤ k_)) (.slice Ao9 x0_2.length co9) x0_3) ∧ Aside0 (Kept w w' (fun k_ => P0_ k_)) ∧ Aside0 (Below w0.heap.size w0 w'))
       case atStart => exact ⟨(x0_2), (0), (wrap64 (2 * x6_2)), (by first | rfl | (simp; done) | (simp [*]; done)), (by first | rfl | (simp; done) | (simp [*]; done)), H', ⟨Nat.le_refl _⟩, ⟨by (try simp only [hl0_2]); (with_reducible repeat (first | apply rA | apply rN | apply rD)); exact HO_0.out⟩, ⟨by repeat (first | (with_reducible first | exact HK.out | apply Kept.alloc | apply Kept.drewN | apply Kept.drew) | exact HK.out)⟩, ⟨bb⟩⟩
       case round =>
        clear H'
        try clear c1
        try clear p2
        try clear c4
        try clear c4b0
        try clear c5
        try clear p6
        try clear c11
        try clear c11b0
        try clear p2
        try clear p6
        obtain ⟨x0_3, x7_3, x8_3, rfl, rfl, HA, HK3, HO_0, HK, HB⟩ := hrel; have hl0_3 := (Kd.R_reads' HO_0.out).1; rw [hl0_3] at HO_0; (try simp only [hl0_3])
        cases gk with
        | zero => exact absurd HA.out (by simp [impl_Row_47.l2])
        | succ k3 =>
         have H := HA.out; clear HA; simp only [impl_Row_47.l2] at H
         by_cases c12 : x8_3 ≤ a1
         ·rw [if_pos c12] at H; have c12b0 : decide (x8_3 ≤ a1) = true := decide_eq_true c12; clear c12; replace H := Option.bind_eq_some_iff.mp H; obtain ⟨t217, A130, H⟩ := H; replace H : (impl_Row_47.l2 k3 t217 a1 x6_2 x8_3 (wrap64 (x8_3 + (wrap64 (2 * x6_2))))) = some r := H; have A13 := kp A130; clear A130; have H' := kp H; clear H
          go_wp2_with (first | ((with_reducible refine gate_callee (f := 53) rfl ?_); refine gl_ 43 Try.func53 #[.slice Ao9 x0_3.length co9, .int .i64 x7_3, .int .i64 (wrap64 (x7_3 + x6_2)), .int .i64 x8_3, .func (.func 25) #[] #[]] ?_; (with_reducible refine (impl_Row_53.calls k3 (fun k_ => some k_ = (.slice Ao9 x0_3.length co9 : Value).ownBlock) (.slice Ao9 x0_3.length co9) x0_3 x7_3 (wrap64 (x7_3 + x6_2)) x8_3 t217 w0 _ ?side1 ?side2 A13.out).mono ?_); (case side1 => with_reducible repeat (first | exact HB.out | apply cA | apply cN | apply cD)); (case side2 => exact Kd.R_tight rfl HO_0.out); rintro e w14 ⟨rfl, hy0, hb, hkp⟩; refine ⟨_, rfl, ?_⟩; have n0_ := kp (Kd.R_reok rfl hy0 (fun k_ e_ => HO_0.out.1 k_ e_)); have n1_ := kp (Kept.then_ (S := (fun k_ => P0_ k_)) (by repeat (first | (with_reducible first | exact HK.out | apply Kept.alloc | apply Kept.drewN | apply Kept.drew) | exact HK.out)) hkp (fun k_ hs_ => (fun e_ => (HO_0.out.1 k_ e_.symm)) hs_)); have n2_ := kp (hb); clear HO_0; clear HK; clear HB; have HO_0 := n0_; have HK := n1_; have HB := n2_; clear n0_ n1_ n2_; (try clear hb); (try clear hkp); (try clear hy0)))
          (try simp only [← hl0_3])
          go_roundg k3
          case measure => have := HK1.out; have := HK2.out; have := HK3.out; omega
          case rel => exact ⟨(t217), (x8_3), (wrap64 (x8_3 + (wrap64 (2 * x6_2)))), (by first | rfl | (simp; done) | (simp [*]; done)), (by first | rfl | (simp; done) | (simp [*]; done)), H', ⟨by have := HK1.out; have := HK2.out; have := HK3.out; omega⟩, ⟨by (try simp only [hl0_2]); (try simp only [hl0_3]); (with_reducible repeat (first | apply rA | apply rN | apply rD)); exact HO_0.out⟩, ⟨by repeat (first | (with_reducible first | exact HK.out | apply Kept.alloc | apply Kept.drewN | apply Kept.drew) | exact HK.out)⟩, ⟨bb⟩⟩
         ·rw [if_neg c12] at H; have c12b0 : decide (x8_3 ≤ a1) = false := decide_eq_false c12; clear c12
          by_cases c15 : (wrap64 (x7_3 + x6_2)) < a1
          ·rw [if_pos c15] at H; have c15b0 : decide ((wrap64 (x7_3 + x6_2)) < a1) = true := decide_eq_true c15; clear c15; replace H := Option.bind_eq_some_iff.mp H; obtain ⟨t218, A160, H⟩ := H; replace H : (impl_Row_47.l1 k3 t218 a1 (wrap64 (x6_2 * 2))) = some r := H; have A16 := kp A160; clear A160; have H' := kp H; clear H
           go_wp2_with (first | ((with_reducible refine gate_callee (f := 53) rfl ?_); refine gl_ 60 Try.func53 #[.slice Ao9 x0_3.length co9, .int .i64 x7_3, .int .i64 (wrap64 (x7_3 + x6_2)), .int .i64 a1, .func (.func 25) #[] #[]] ?_; (with_reducible refine (impl_Row_53.calls k3 (fun k_ => some k_ = (.slice Ao9 x0_3.length co9 : Value).ownBlock) (.slice Ao9 x0_3.length co9) x0_3 x7_3 (wrap64 (x7_3 + x6_2)) a1 t218 w0 _ ?side1 ?side2 A16.out).mono ?_); (case side1 => with_reducible repeat (first | exact HB.out | apply cA | apply cN | apply cD)); (case side2 => exact Kd.R_tight rfl HO_0.out); rintro e w17 ⟨rfl, hy0, hb, hkp⟩; refine ⟨_, rfl, ?_⟩; have n0_ := kp (Kd.R_reok rfl hy0 (fun k_ e_ => HO_0.out.1 k_ e_)); have n1_ := kp (Kept.then_ (S := (fun k_ => P0_ k_)) (by repeat (first | (with_reducible first | exact HK.out | apply Kept.alloc | apply Kept.drewN | apply Kept.drew) | exact HK.out)) hkp (fun k_ hs_ => (fun e_ => (HO_0.out.1 k_ e_.symm)) hs_)); have n2_ := kp (hb); clear HO_0; clear HK; clear HB; have HO_0 := n0_; have HK := n1_; have HB := n2_; clear n0_ n1_ n2_; (try clear hb); (try clear hkp); (try clear hy0)))
           (try simp only [← hl0_2, ← hl0_3])
           go_roundg k3
           case measure => have := HK1.out; have := HK2.out; have := HK3.out; omega
           case rel => exact ⟨(t218), (wrap64 (x6_2 * 2)), (by first | rfl | (simp; done) | (simp [*]; done)), H', ⟨by have := HK1.out; have := HK2.out; have := HK3.out; omega⟩, ⟨by (try simp only [hl0_2]); (try simp only [hl0_3]); (with_reducible repeat (first | apply rA | apply rN | apply rD)); exact HO_0.out⟩, ⟨by repeat (first | (with_reducible first | exact HK.out | apply Kept.alloc | apply Kept.drewN | apply Kept.drew) | exact HK.out)⟩, ⟨bb⟩⟩
          ·rw [if_neg c15] at H; have c15b0 : decide ((wrap64 (x7_3 + x6_2)) < a1) = false := decide_eq_false c15; clear c15; have H' := kp H; clear H; go_wp2; (try simp only [← hl0_2, ← hl0_3])
           go_roundg k3
           case measure => have := HK1.out; have := HK2.out; have := HK3.out; omega
           case rel => exact ⟨(x0_3), (wrap64 (x6_2 * 2)), (by first | rfl | (simp; done) | (simp [*]; done)), H', ⟨by have := HK1.out; have := HK2.out; have := HK3.out; omega⟩, ⟨by (try simp only [hl0_2]); (try simp only [hl0_3]); (with_reducible repeat (first | apply rA | apply rN | apply rD)); exact HO_0.out⟩, ⟨by repeat (first | (with_reducible first | exact HK.out | apply Kept.alloc | apply Kept.drewN | apply Kept.drew) | exact HK.out)⟩, ⟨bb⟩⟩
      ·rw [if_neg c11] at H; have c11b0 : decide (x6_2 < a1) = false := decide_eq_false c11; clear c11; obtain rfl := Option.some.inj H; go_wp2
       first | go_end0 | ((try simp only [Exit.inBlock, Exit.then]); refine bodyPost_ret (results_none rfl _ _ _) rfl ?_)
       exact ⟨er, (by first | exact (by (with_reducible repeat (first | apply rA | apply rN | apply rD)); exact HO_0.out) | (simp only [hl0_2]; exact (by (with_reducible repeat (first | apply rA | apply rN | apply rD)); exact HO_0.out))), bb, by repeat (first | (with_reducible first | exact HK.out | apply Kept.alloc | apply Kept.drewN | apply Kept.drew) | exact HK.out)⟩
def impl_Row_38.f (k : Nat) (l0 : List (S36))  : Option ((List (S36))) := (impl_Row_47.f k l0 (l0.length : Int)).bind fun t219 => (some t219)
set_option maxHeartbeats 8000000 in
set_option maxRecDepth 100000 in
theorem impl_Row_38.calls (k : Nat) (P0_ : Nat → Prop) (u9000_ : Value) (l0 : List (S36))  (r : List (S36)) (w0 w : World) (hB : Below w0.heap.size w0 w) (ho0 : Kd.R k36 36 w w0.heap.size P0_ u9000_ l0) (h : impl_Row_38.f k l0 = some r) :
  Calls Try.prog 38 #[u9000_, .func (.func 25) #[] #[]] w fun e w' => e = .returned (.tuple #[]) ∧ Kd.R k36 36 w' w0.heap.size (fun k_ => (P0_ k_ ∨ w.heap.size ≤ k_)) u9000_ r ∧ Below w0.heap.size w0 w' ∧ Kept w w' (fun k_ => P0_ k_) := by
 have HO0 := kp (show Kd.R k36 36 w w0.heap.size (fun k_ => (P0_ k_ ∨ w.heap.size ≤ k_)) u9000_ l0 from Kd.R_mono ho0 (fun k_ hk => (.inl hk)))
 have HK := kp (Kept.refl w (fun k_ => P0_ k_))
 have HW0 := kp hB.size
 have HB := kp hB
 clear hB
 have H : ((impl_Row_47.f k l0 (l0.length : Int)).bind fun t219 => (some t219)) = some r := h
 clear h
 replace H := Option.bind_eq_some_iff.mp H
 obtain ⟨t219, A30, H⟩ := H
 replace H : (some t219) = some r := H
 have A3 := kp A30
 clear A30
 obtain rfl := Option.some.inj H
 obtain ⟨Ao4, co4, eo4⟩ := Kd.R_slice HO0.out
 subst eo4
 go_enter Try.func38, Try.ntmps38
 go_wp2_with (first | ((with_reducible refine gate_callee (f := 47) rfl ?_); refine gl_ 8 Try.func47 #[.slice Ao4 l0.length co4, .int .i64 (l0.length : Int), .func (.func 25) #[] #[]] ?_; (with_reducible refine (impl_Row_47.calls k (fun k_ => some k_ = (.slice Ao4 l0.length co4 : Value).ownBlock) (.slice Ao4 l0.length co4) l0 (l0.length : Int) t219 w0 _ ?side1 ?side2 A3.out).mono ?_); (case side1 => with_reducible repeat (first | exact HB.out | apply cA | apply cN | apply cD)); (case side2 => exact Kd.R_tight rfl HO0.out); rintro e w5 ⟨rfl, hy0, hb, hkp⟩; refine ⟨_, rfl, ?_⟩; have n0_ := kp (Kd.R_reok rfl hy0 (fun k_ e_ => HO0.out.1 k_ e_)); have n1_ := kp (Kept.then_ (S := (fun k_ => P0_ k_)) (by repeat (first | (with_reducible first | exact HK.out | apply Kept.alloc | apply Kept.drewN | apply Kept.drew) | exact HK.out)) hkp (fun k_ hs_ => (fun e_ => (HO0.out.1 k_ e_.symm)) hs_)); have n2_ := kp (hb); clear HO0; clear HK; clear HB; have HO0 := n0_; have HK := n1_; have HB := n2_; clear n0_ n1_ n2_; (try clear hb); (try clear hkp); (try clear hy0)))
 first | go_end0 | ((try simp only [Exit.inBlock, Exit.then]); refine bodyPost_ret (results_none rfl _ _ _) rfl ?_)
 exact ⟨er, by (with_reducible repeat (first | apply rA | apply rN | apply rD)); exact HO0.out, bb, by repeat (first | (with_reducible first | exact HK.out | apply Kept.alloc | apply Kept.drewN | apply Kept.drew) | exact HK.out)⟩
def impl_SortRows.f (k : Nat) (l0 : List (S36)) : Option ((List (S36))) := (impl_clone.f l0).bind fun t220 => ((impl_Row_38.f k t220).bind fun t223 => (some t223))
set_option maxHeartbeats 8000000 in
set_option maxRecDepth 100000 in
theorem impl_SortRows.calls (k : Nat) (A0 : Option Addr) (c0 : Nat) (l0 : List (S36)) (r : List (S36)) (w : World) (hr0 : Kd.C k36 w A0 l0.length l0) (hc0 : l0.length ≤ c0) (h : impl_SortRows.f k l0 = some r) :
  Calls Try.prog 15 #[.slice A0 l0.length c0] w fun e w' => ∃ v0_ : Value, e = .returned (v0_) ∧ Kd.R k36 36 w' w.heap.size (fun _ => True) v0_ r ∧ Below w.heap.size w w' := by
 have HR0 := kp hr0
 have HC0 := kp hc0
 clear hr0 hc0
 have HB := kp (Below.refl w.heap.size w)
 have H : ((impl_clone.f l0).bind fun t220 => ((impl_Row_38.f k t220).bind fun t223 => (some t223))) = some r := h
 clear h
 replace H := Option.bind_eq_some_iff.mp H
 obtain ⟨t220, A20, H⟩ := H
 replace H : ((impl_Row_38.f k t220).bind fun t223 => (some t223)) = some r := H
 have A2 := kp A20
 clear A20
 replace H := Option.bind_eq_some_iff.mp H
 obtain ⟨t223, A30, H⟩ := H
 replace H : (some t223) = some r := H
 have A3 := kp A30
 clear A30
 obtain rfl := Option.some.inj H
 go_enter Try.func15, Try.ntmps15
 go_wp2_with (first | ((with_reducible refine gate_callee (f := 37) rfl ?_); refine gl_ 5 Try.func37 #[.slice A0 l0.length c0] ?_; (with_reducible refine (impl_clone.calls _ _ l0 t220 _ ?side1 ?side2 A2.out).mono ?_); (case side1 => repeat (first | exact HR0.out | (with_reducible refine Kd.C_alloc ?_ _) | (with_reducible refine Kd.C_drewN ?_ _) | (with_reducible refine Kd.C_drew ?_))); (case side2 => exact HC0.out); rintro e w4 ⟨v221, rfl, ho0, hb⟩; refine ⟨_, rfl, ?_⟩; have n0_ := kp (Kd.R_lower ho0 (below_size bb)); have n1_ := kp (below_step bb hb); clear HB; have HO222 := n0_; have HB := n1_; clear n0_ n1_; (try clear hb); (try clear ho0); obtain ⟨Ao5, co5, eo5⟩ := Kd.R_slice HO222.out; subst eo5) | ((with_reducible refine gate_callee (f := 38) rfl ?_); refine gl_ 7 Try.func38 #[.slice Ao5 t220.length co5, .func (.func 25) #[] #[]] ?_; (with_reducible refine (impl_Row_38.calls k (fun k_ => some k_ = (.slice Ao5 t220.length co5 : Value).ownBlock) (.slice Ao5 t220.length co5) t220 t223 w _ ?side1 ?side2 A3.out).mono ?_); (case side1 => with_reducible repeat (first | exact HB.out | apply cA | apply cN | apply cD)); (case side2 => exact Kd.R_tight rfl HO222.out); rintro e w6 ⟨rfl, hy0, hb, hkp⟩; refine ⟨_, rfl, ?_⟩; have n0_ := kp (Kd.R_reok rfl hy0 (fun k_ e_ => HO222.out.1 k_ e_)); have n1_ := kp (hb); clear HO222; clear HB; have HO222 := n0_; have HB := n1_; clear n0_ n1_; (try clear hb); (try clear hkp); (try clear hy0)))
 go_ret
 exact ⟨_, er, by (with_reducible repeat (first | apply rA | apply rN | apply rD)); exact HO222.out, bb⟩
def impl_equal.l0 : Nat → List (S36) → List (S36) → Int → Int → Option (Bool)
 | 0, _, _, _, _ => none
 | k + 1, x0, x1, x12, x13 => if x13 < x12 then (if 0 ≤ x13 then (if x13 < (x0.length : Int) then (if x13 < (x1.length : Int) then (if (!(((rd_T36 x0 x13).f0) == ((rd_T36 x1 x13).f0)) || (!(((rd_T36 x0 x13).f1) == ((rd_T36 x1 x13).f1)) || (!(((rd_T36 x0 x13).f2) == ((rd_T36 x1 x13).f2))))) = true then (some false) else (impl_equal.l0 k x0 x1 x12 (wrap64 (x13 + 1)))) else (none)) else (none)) else (none)) else (some true)
def impl_equal.f (k : Nat) (l0 : List (S36)) (l1 : List (S36)) : Option (Bool) := if (l0.length : Int) = (l1.length : Int) then (impl_equal.l0 k l0 l1 (l0.length : Int) 0) else (some false)
set_option maxHeartbeats 8000000 in
set_option maxRecDepth 100000 in
theorem impl_equal.calls (k : Nat) (A0 : Option Addr) (c0 : Nat) (l0 : List (S36)) (A1 : Option Addr) (c1 : Nat) (l1 : List (S36)) (r : Bool) (w : World) (hr0 : Kd.C k36 w A0 l0.length l0) (hc0 : l0.length ≤ c0) (hr1 : Kd.C k36 w A1 l1.length l1) (hc1 : l1.length ≤ c1) (h : impl_equal.f k l0 l1 = some r) :
  Calls Try.prog 35 #[.slice A0 l0.length c0, .slice A1 l1.length c1] w fun e w' => e = .returned (.bool r) ∧ Drawn0 w w' := by
 have hu36 := Try.underlying36
 have HR0 := kp hr0
 have HC0 := kp hc0
 clear hr0 hc0
 have HR1 := kp hr1
 have HC1 := kp hc1
 clear hr1 hc1
 have H : (if (l0.length : Int) = (l1.length : Int) then (impl_equal.l0 k l0 l1 (l0.length : Int) 0) else (some false)) = some r := h
 clear h
 by_cases c3 : (l0.length : Int) = (l1.length : Int)
 ·rw [if_pos c3] at H; have c3b0 : ((l0.length : Int) == (l1.length : Int)) = true := beq_iff_eq.mpr c3; have c3b1 : ((l0.length : Int) != (l1.length : Int)) = false := bne_eq_false_iff_eq.mpr c3; have c3b2 : (l0.length == l1.length) = true := by first | simpa using c3 | (simp at c3 ⊢; omega)
  clear c3; have H' := kp H; clear H
  go_enter Try.func35, Try.ntmps35
  go_wp2
  repeat (go_quiet (fail); try go_wp2)
  go_loopg [13] k (fun kq v13 w' => ∃ (x13_1 : Int), v13 = .int .i64 x13_1 ∧ Aside0 (impl_equal.l0 kq l0 l1 (l0.length : Int) x13_1 = some r) ∧ Aside0 (kq ≤ k) ∧ Drawn0 w w')
  case atStart => exact ⟨(0), (by first | rfl | (simp; done) | (simp [*]; done)), H', ⟨Nat.le_refl _⟩, by repeat (first | exact Drawn0.refl _ | apply Drawn0.step)⟩
  case round =>
   clear H'
   try clear c1
   try clear p2
   try clear c3
   try clear c3b0
   try clear c3b1
   try clear c3b2
   obtain ⟨x13_1, rfl, HA, HK1, ⟨m1, rfl⟩⟩ := hrel
   cases gk with
   | zero => exact absurd HA.out (by simp [impl_equal.l0])
   | succ k1 =>
    have H := HA.out; clear HA; simp only [impl_equal.l0] at H
    by_cases c4 : x13_1 < (l0.length : Int)
    ·rw [if_pos c4] at H; have c4b0 : decide (x13_1 < (l0.length : Int)) = true := decide_eq_true c4; clear c4
     by_cases c5 : 0 ≤ x13_1
     ·rw [if_pos c5] at H; have c5b0 : decide (0 ≤ x13_1) = true := decide_eq_true c5; clear c5
      by_cases c6 : x13_1 < (l0.length : Int)
      ·rw [if_pos c6] at H; have c6b0 : decide (x13_1 < (l0.length : Int)) = true := decide_eq_true c6; clear c6
       by_cases c7 : x13_1 < (l1.length : Int)
       ·rw [if_pos c7] at H; have c7b0 : decide (x13_1 < (l1.length : Int)) = true := decide_eq_true c7; clear c7
        by_cases c8 : (!(((rd_T36 l0 x13_1).f0) == ((rd_T36 l1 x13_1).f0)) || (!(((rd_T36 l0 x13_1).f1) == ((rd_T36 l1 x13_1).f1)) || (!(((rd_T36 l0 x13_1).f2) == ((rd_T36 l1 x13_1).f2))))) = true
        ·rw [if_pos c8] at H; have c8b0 : (!(((rd_T36 l0 x13_1).f0) == ((rd_T36 l1 x13_1).f0)) || (!(((rd_T36 l0 x13_1).f1) == ((rd_T36 l1 x13_1).f1)) || (!(((rd_T36 l0 x13_1).f2) == ((rd_T36 l1 x13_1).f2))))) = true := c8; clear c8; obtain rfl := Option.some.inj H; have p224 : 0 ≤ (x13_1 : Int) := dt; have q224 : x13_1 < (l0.length : Int) := dt; obtain ⟨ad224, e224, hx224_0, hx224_1, hx224_2⟩ := at_T36 HR0.out x13_1 p224 q224; cases e224; replace p224 := eq_true p224; replace q224 := eq_true q224; have p225 : 0 ≤ (x13_1 : Int) := dt; have q225 : x13_1 < (l1.length : Int) := dt; obtain ⟨ad225, e225, hx225_0, hx225_1, hx225_2⟩ := at_T36 HR1.out x13_1 p225 q225; cases e225; replace p225 := eq_true p225; replace q225 := eq_true q225; go_wp2
         repeat (go_quiet (fail); try go_wp2)
         go_ret; exact ⟨by first | rfl | (simp; done) | (simp [*]; done), by repeat (first | exact Drawn0.refl _ | apply Drawn0.step)⟩
        ·rw [if_neg c8] at H; have c8b0 : (!(((rd_T36 l0 x13_1).f0) == ((rd_T36 l1 x13_1).f0)) || (!(((rd_T36 l0 x13_1).f1) == ((rd_T36 l1 x13_1).f1)) || (!(((rd_T36 l0 x13_1).f2) == ((rd_T36 l1 x13_1).f2))))) = false := by simpa using c8
         clear c8; have H' := kp H; clear H; have p224 : 0 ≤ (x13_1 : Int) := dt; have q224 : x13_1 < (l0.length : Int) := dt; obtain ⟨ad224, e224, hx224_0, hx224_1, hx224_2⟩ := at_T36 HR0.out x13_1 p224 q224; cases e224; replace p224 := eq_true p224; replace q224 := eq_true q224; have p225 : 0 ≤ (x13_1 : Int) := dt; have q225 : x13_1 < (l1.length : Int) := dt; obtain ⟨ad225, e225, hx225_0, hx225_1, hx225_2⟩ := at_T36 HR1.out x13_1 p225 q225; cases e225; replace p225 := eq_true p225; replace q225 := eq_true q225; go_wp2
         repeat (go_quiet (fail); try go_wp2)
         go_roundg k1
         case measure => have := HK1.out; omega
         case rel => exact ⟨(wrap64 (x13_1 + 1)), (by first | rfl | (simp; done) | (simp [*]; done)), H', ⟨by have := HK1.out; omega⟩, by repeat (first | exact Drawn0.refl _ | apply Drawn0.step)⟩
       ·rw [if_neg c7] at H; exact absurd H (by simp)
      ·rw [if_neg c6] at H; exact absurd H (by simp)
     ·rw [if_neg c5] at H; exact absurd H (by simp)
    ·rw [if_neg c4] at H; have c4b0 : decide (x13_1 < (l0.length : Int)) = false := decide_eq_false c4; clear c4; obtain rfl := Option.some.inj H; go_wp2
     repeat (go_quiet (fail); try go_wp2)
     go_ret; exact ⟨by first | rfl | (simp; done) | (simp [*]; done), by repeat (first | exact Drawn0.refl _ | apply Drawn0.step)⟩
 ·rw [if_neg c3] at H; have c3b0 : ((l0.length : Int) == (l1.length : Int)) = false := beq_eq_false_iff_ne.mpr c3; have c3b1 : ((l0.length : Int) != (l1.length : Int)) = true := bne_iff_ne.mpr c3; have c3b2 : (l0.length == l1.length) = false := by first | simpa using c3 | (simp at c3 ⊢; omega)
  obtain rfl := Option.some.inj H
  go_enter Try.func35, Try.ntmps35
  go_wp2
  repeat (go_quiet (fail); try go_wp2)
  go_ret; exact ⟨by first | rfl | (simp; done) | (simp [*]; done), by repeat (first | exact Drawn0.refl _ | apply Drawn0.step)⟩
def impl_EqualBags.f (k : Nat) (l0 : List (S36)) (l1 : List (S36)) : Option (Bool) := if (l0.length : Int) = (l1.length : Int) then ((impl_SortRows.f k l0).bind fun t226 => ((impl_SortRows.f k l1).bind fun t229 => ((impl_equal.f k t226 t229).bind fun t232 => (some t232)))) else (some false)
set_option maxHeartbeats 8000000 in
set_option maxRecDepth 100000 in
theorem impl_EqualBags.calls (k : Nat) (A0 : Option Addr) (c0 : Nat) (l0 : List (S36)) (A1 : Option Addr) (c1 : Nat) (l1 : List (S36)) (r : Bool) (w : World) (hr0 : Kd.C k36 w A0 l0.length l0) (hc0 : l0.length ≤ c0) (hr1 : Kd.C k36 w A1 l1.length l1) (hc1 : l1.length ≤ c1) (h : impl_EqualBags.f k l0 l1 = some r) :
  Calls Try.prog 12 #[.slice A0 l0.length c0, .slice A1 l1.length c1] w fun e w' => e = .returned (.bool r) ∧ Below w.heap.size w w' := by
 have HR0 := kp hr0
 have HC0 := kp hc0
 clear hr0 hc0
 have HR1 := kp hr1
 have HC1 := kp hc1
 clear hr1 hc1
 have HB := kp (Below.refl w.heap.size w)
 have H : (if (l0.length : Int) = (l1.length : Int) then ((impl_SortRows.f k l0).bind fun t226 => ((impl_SortRows.f k l1).bind fun t229 => ((impl_equal.f k t226 t229).bind fun t232 => (some t232)))) else (some false)) = some r := h
 clear h
 by_cases c3 : (l0.length : Int) = (l1.length : Int)
 ·rw [if_pos c3] at H; have c3b0 : ((l0.length : Int) == (l1.length : Int)) = true := beq_iff_eq.mpr c3; have c3b1 : ((l0.length : Int) != (l1.length : Int)) = false := bne_eq_false_iff_eq.mpr c3; have c3b2 : (l0.length == l1.length) = true := by first | simpa using c3 | (simp at c3 ⊢; omega)
  clear c3; replace H := Option.bind_eq_some_iff.mp H; obtain ⟨t226, A40, H⟩ := H; replace H : ((impl_SortRows.f k l1).bind fun t229 => ((impl_equal.f k t226 t229).bind fun t232 => (some t232))) = some r := H; have A4 := kp A40; clear A40; replace H := Option.bind_eq_some_iff.mp H; obtain ⟨t229, A50, H⟩ := H; replace H : ((impl_equal.f k t226 t229).bind fun t232 => (some t232)) = some r := H; have A5 := kp A50; clear A50; replace H := Option.bind_eq_some_iff.mp H; obtain ⟨t232, A60, H⟩ := H; replace H : (some t232) = some r := H; have A6 := kp A60; clear A60; obtain rfl := Option.some.inj H
  go_enter Try.func12, Try.ntmps12
  go_wp2_with (first | (go_at_call 15; (with_reducible refine (impl_SortRows.calls k _ _ l0 t226 _ ?side1 ?side2 A4.out).mono ?_); (case side1 => repeat (first | exact HR0.out | (with_reducible refine Kd.C_alloc ?_ _) | (with_reducible refine Kd.C_drewN ?_ _) | (with_reducible refine Kd.C_drew ?_))); (case side2 => exact HC0.out); rintro e w7 ⟨v227, rfl, ho0, hb⟩; have n0_ := kp (Kd.R_lower ho0 (below_size bb)); have n1_ := kp (below_step bb hb); clear HB; have HO228 := n0_; have HB := n1_; clear n0_ n1_; (try clear hb); (try clear ho0)) | (go_at_call 15; (with_reducible refine (impl_SortRows.calls k _ _ l1 t229 _ ?side1 ?side2 A5.out).mono ?_); (case side1 => exact cc HR1.out); (case side2 => exact HC1.out); rintro e w8 ⟨v230, rfl, ho0, hb⟩; have n0_ := kp (Kd.R_elder' (by (with_reducible repeat (first | apply rA | apply rN | apply rD)); exact HO228.out) (Kd.R_base ho0) hb); have n1_ := kp (Kd.R_lower (Kd.R_new' ho0 (Kd.R_lt (by (with_reducible repeat (first | apply rA | apply rN | apply rD)); exact HO228.out))) (below_size bb)); have n2_ := kp (below_step bb hb); clear HO228; clear HB; have HO228 := n0_; have HO231 := n1_; have HB := n2_; clear n0_ n1_ n2_; (try clear hb); (try clear ho0); obtain ⟨Ao9, co9, eo9⟩ := Kd.R_slice HO228.out; subst eo9; obtain ⟨Ao10, co10, eo10⟩ := Kd.R_slice HO231.out; subst eo10) | (go_at_call 35; (with_reducible refine (impl_equal.calls k _ _ t226 _ _ t229 t232 _ ?side1 ?side2 ?side3 ?side4 A6.out).mono ?_); (case side1 => repeat (first | exact (Kd.R_reads' HO228.out).2.2 | (with_reducible refine Kd.C_alloc ?_ _) | (with_reducible refine Kd.C_drewN ?_ _) | (with_reducible refine Kd.C_drew ?_))); (case side2 => exact (Kd.R_reads' HO228.out).2.1); (case side3 => repeat (first | exact (Kd.R_reads' HO231.out).2.2 | (with_reducible refine Kd.C_alloc ?_ _) | (with_reducible refine Kd.C_drewN ?_ _) | (with_reducible refine Kd.C_drew ?_))); (case side4 => exact (Kd.R_reads' HO231.out).2.1); rintro e w' ⟨rfl, ⟨nd, rfl⟩⟩))
  go_ret; exact ⟨er, bb⟩
 ·rw [if_neg c3] at H; have c3b0 : ((l0.length : Int) == (l1.length : Int)) = false := beq_eq_false_iff_ne.mpr c3; have c3b1 : ((l0.length : Int) != (l1.length : Int)) = true := bne_iff_ne.mpr c3; have c3b2 : (l0.length == l1.length) = false := by first | simpa using c3 | (simp at c3 ⊢; omega)
  obtain rfl := Option.some.inj H
  go_enter Try.func12, Try.ntmps12
  go_wp2; go_ret; exact ⟨er, bb⟩
def spec_DistinctRows.l0 : Nat → List (S36) → List (S36) → Int → Option ((List (S36)))
 | 0, _, _, _ => none
 | k + 1, x3, x4, x5 => if x5 < (x4.length : Int) then (if x5 = 0 then (if 0 ≤ x5 then (if x3.length < 5864062014805 then (spec_DistinctRows.l0 k (x3 ++ [(⟨(rd_T36 x4 x5).f0, (rd_T36 x4 x5).f1, (rd_T36 x4 x5).f2⟩ : S36)]) x4 (wrap64 (x5 + 1))) else (none)) else (none)) else (if 0 ≤ x5 then (if 0 ≤ (wrap64 (x5 - 1)) then (if (wrap64 (x5 - 1)) < (x4.length : Int) then (if (!(((rd_T36 x4 x5).f0) == ((rd_T36 x4 (wrap64 (x5 - 1))).f0)) || (!(((rd_T36 x4 x5).f1) == ((rd_T36 x4 (wrap64 (x5 - 1))).f1)) || (!(((rd_T36 x4 x5).f2) == ((rd_T36 x4 (wrap64 (x5 - 1))).f2))))) = true then (if x3.length < 5864062014805 then (spec_DistinctRows.l0 k (x3 ++ [(⟨(rd_T36 x4 x5).f0, (rd_T36 x4 x5).f1, (rd_T36 x4 x5).f2⟩ : S36)]) x4 (wrap64 (x5 + 1))) else (none)) else (spec_DistinctRows.l0 k x3 x4 (wrap64 (x5 + 1)))) else (none)) else (none)) else (none))) else (some x3)
def spec_DistinctRows.f (k : Nat) (l0 : List (S36)) : Option ((List (S36))) := (spec_SortRows.f k l0).bind fun t236 => (spec_DistinctRows.l0 k (([] : List (S36))) t236 0)
set_option maxHeartbeats 8000000 in
set_option maxRecDepth 100000 in
theorem spec_DistinctRows.calls (k : Nat) (A0 : Option Addr) (c0 : Nat) (l0 : List (S36)) (r : List (S36)) (w : World) (hr0 : Kd.C k36 w A0 l0.length l0) (hc0 : l0.length ≤ c0) (h : spec_DistinctRows.f k l0 = some r) :
  Calls Try.prog 18 #[.slice A0 l0.length c0] w fun e w' => ∃ v0_ : Value, e = .returned (v0_) ∧ Kd.R k36 36 w' w.heap.size (fun _ => True) v0_ r ∧ Below w.heap.size w w' := by
 have hu36 := Try.underlying36
 have HR0 := kp hr0
 have HC0 := kp hc0
 clear hr0 hc0
 have HB := kp (Below.refl w.heap.size w)
 have H : ((spec_SortRows.f k l0).bind fun t236 => (spec_DistinctRows.l0 k (([] : List (S36))) t236 0)) = some r := h
 clear h
 obtain ⟨y233, hy233⟩ : ∃ y_ : List (S36), y_ = (([] : List (S36))) := ⟨_, rfl⟩
 replace H : ((spec_SortRows.f k l0).bind fun t236 => (spec_DistinctRows.l0 k y233 t236 0)) = some r := by first | (rw [hy233]; with_reducible exact H) | (have H2_ := (Option.bind_some _ _).symm.trans H; rw [hy233]; with_reducible exact H2_) | (have H2_ := (Option.bind_some _ _).symm.trans H; with_reducible exact H2_) | with_reducible exact H | (rw [hy233]; exact H) | exact H
 have Ny233 := kp hy233
 clear hy233
 replace H := Option.bind_eq_some_iff.mp H
 obtain ⟨t236, A20, H⟩ := H
 replace H : (spec_DistinctRows.l0 k y233 t236 0) = some r := H
 have A2 := kp A20
 clear A20
 have H' := kp H
 clear H
 go_enter Try.func18, Try.ntmps18
 go_wp2_with (first | ((with_reducible refine gate_dst (N := 6) rfl ?_); refine Kd.R_lit k36 _ 36 ?hg (N := 6) ?hd (xs := ([] : List (S36))) (inner := []) (ok := fun _ => True) (okp := fun _ => True) ?hr ?hp (fun _ hk => hk) trivial (Below.refl _ _) (Nat.le_refl _) (by simp) ?_; (case hd => rfl); (case hg => rfl); (case hr => first | (go_simp; done) | (go_simp; rfl)); (case hp => exact (Reps.none _ _)); intro v234 w3 ho4 hb hg_ hnew_; clear hg_ hnew_; (first | rw [← Ny233.out] at ho4 | (simp only [Int.reduceToNat] at ho4; rw [← Ny233.out] at ho4)); have n0_ := kp (Kd.R_lower ho4 (below_size bb)); have n1_ := kp (below_step bb hb); clear HB; have HO235 := n0_; have HB := n1_; clear n0_ n1_; clear hb ho4) | (go_at_call 14; (with_reducible refine (spec_SortRows.calls k _ _ l0 t236 _ ?side1 ?side2 A2.out).mono ?_); (case side1 => exact cc HR0.out); (case side2 => exact HC0.out); rintro e w5 ⟨v237, rfl, ho0, hb⟩; have n0_ := kp (Kd.R_elder' (by (with_reducible repeat (first | apply rA | apply rN | apply rD)); exact HO235.out) (Kd.R_base ho0) hb); have n1_ := kp (Kd.R_lower (Kd.R_new' ho0 (Kd.R_lt (by (with_reducible repeat (first | apply rA | apply rN | apply rD)); exact HO235.out))) (below_size bb)); have n2_ := kp (below_step bb hb); clear HO235; clear HB; have HO235 := n0_; have HO238 := n1_; have HB := n2_; clear n0_ n1_ n2_; (try clear hb); (try clear ho0)))
 repeat (go_quiet (first | ((with_reducible refine gate_dst (N := 6) rfl ?_); refine Kd.R_lit k36 _ 36 ?hg (N := 6) ?hd (xs := ([] : List (S36))) (inner := []) (ok := fun _ => True) (okp := fun _ => True) ?hr ?hp (fun _ hk => hk) trivial (Below.refl _ _) (Nat.le_refl _) (by simp) ?_; (case hd => rfl); (case hg => rfl); (case hr => first | (go_simp; done) | (go_simp; rfl)); (case hp => exact (Reps.none _ _)); intro v234 w3 ho4 hb hg_ hnew_; clear hg_ hnew_; (first | rw [← Ny233.out] at ho4 | (simp only [Int.reduceToNat] at ho4; rw [← Ny233.out] at ho4)); have n0_ := kp (Kd.R_lower ho4 (below_size bb)); have n1_ := kp (below_step bb hb); clear HB; have HO235 := n0_; have HB := n1_; clear n0_ n1_; clear hb ho4) | (go_at_call 14; (with_reducible refine (spec_SortRows.calls k _ _ l0 t236 _ ?side1 ?side2 A2.out).mono ?_); (case side1 => exact cc HR0.out); (case side2 => exact HC0.out); rintro e w5 ⟨v237, rfl, ho0, hb⟩; have n0_ := kp (Kd.R_elder' (by (with_reducible repeat (first | apply rA | apply rN | apply rD)); exact HO235.out) (Kd.R_base ho0) hb); have n1_ := kp (Kd.R_lower (Kd.R_new' ho0 (Kd.R_lt (by (with_reducible repeat (first | apply rA | apply rN | apply rD)); exact HO235.out))) (below_size bb)); have n2_ := kp (below_step bb hb); clear HO235; clear HB; have HO235 := n0_; have HO238 := n1_; have HB := n2_; clear n0_ n1_ n2_; (try clear hb); (try clear ho0))); try go_wp2_with (first | ((with_reducible refine gate_dst (N := 6) rfl ?_); refine Kd.R_lit k36 _ 36 ?hg (N := 6) ?hd (xs := ([] : List (S36))) (inner := []) (ok := fun _ => True) (okp := fun _ => True) ?hr ?hp (fun _ hk => hk) trivial (Below.refl _ _) (Nat.le_refl _) (by simp) ?_; (case hd => rfl); (case hg => rfl); (case hr => first | (go_simp; done) | (go_simp; rfl)); (case hp => exact (Reps.none _ _)); intro v234 w3 ho4 hb hg_ hnew_; clear hg_ hnew_; (first | rw [← Ny233.out] at ho4 | (simp only [Int.reduceToNat] at ho4; rw [← Ny233.out] at ho4)); have n0_ := kp (Kd.R_lower ho4 (below_size bb)); have n1_ := kp (below_step bb hb); clear HB; have HO235 := n0_; have HB := n1_; clear n0_ n1_; clear hb ho4) | (go_at_call 14; (with_reducible refine (spec_SortRows.calls k _ _ l0 t236 _ ?side1 ?side2 A2.out).mono ?_); (case side1 => exact cc HR0.out); (case side2 => exact HC0.out); rintro e w5 ⟨v237, rfl, ho0, hb⟩; have n0_ := kp (Kd.R_elder' (by (with_reducible repeat (first | apply rA | apply rN | apply rD)); exact HO235.out) (Kd.R_base ho0) hb); have n1_ := kp (Kd.R_lower (Kd.R_new' ho0 (Kd.R_lt (by (with_reducible repeat (first | apply rA | apply rN | apply rD)); exact HO235.out))) (below_size bb)); have n2_ := kp (below_step bb hb); clear HO235; clear HB; have HO235 := n0_; have HO238 := n1_; have HB := n2_; clear n0_ n1_ n2_; (try clear hb); (try clear ho0))))
 go_loopg [3, 5] k (fun kq v3 v5 w' => ∃ (x3_1 : List (S36)) (x5_1 : Int), v5 = .int .i64 x5_1 ∧ Aside0 (spec_DistinctRows.l0 kq x3_1 t236 x5_1 = some r) ∧ Aside0 (kq ≤ k) ∧ Aside0 (Kd.R k36 36 w' w.heap.size (fun k_ => some k_ ≠ (v237 : Value).ownBlock) v3 x3_1) ∧ Aside0 (Kd.R k36 36 w' w.heap.size (fun k_ => some k_ ≠ (v3 : Value).ownBlock) v237 t236) ∧ Aside0 (Below w.heap.size w w'))
 case atStart => exact ⟨(y233), (0), (by first | rfl | (simp; done) | (simp [*]; done)), H', ⟨Nat.le_refl _⟩, ⟨by (with_reducible repeat (first | apply rA | apply rN | apply rD)); exact Kd.R_mono HO235.out (fun _ hk => hk.2)⟩, ⟨by (with_reducible repeat (first | apply rA | apply rN | apply rD)); exact Kd.R_mono HO238.out (fun _ hk => hk.2)⟩, ⟨bb⟩⟩
 case round =>
  clear H'
  try clear c1
  try clear p2
  obtain ⟨x3_1, x5_1, rfl, HA, HK1, HO_3, HO_4, HB⟩ := hrel
  cases gk with
  | zero => exact absurd HA.out (by simp [spec_DistinctRows.l0])
  | succ k1 =>
   have H := HA.out; clear HA; simp only [spec_DistinctRows.l0] at H
   by_cases c6 : x5_1 < (t236.length : Int)
   ·rw [if_pos c6] at H; have c6b0 : decide (x5_1 < (t236.length : Int)) = true := decide_eq_true c6; clear c6
    by_cases c7 : x5_1 = 0
    ·rw [if_pos c7] at H; have c7b0 : (x5_1 == 0) = true := beq_iff_eq.mpr c7; have c7b1 : (x5_1 != 0) = false := bne_eq_false_iff_eq.mpr c7; clear c7
     by_cases c8 : 0 ≤ x5_1
     ·rw [if_pos c8] at H; have c8b0 : decide (0 ≤ x5_1) = true := decide_eq_true c8; clear c8
      by_cases c9 : x3_1.length < 5864062014805
      ·rw [if_pos c9] at H; have LMc9 := kp c9; clear c9; obtain ⟨y240, hy240⟩ : ∃ y_ : List (S36), y_ = (x3_1 ++ [(⟨(rd_T36 t236 x5_1).f0, (rd_T36 t236 x5_1).f1, (rd_T36 t236 x5_1).f2⟩ : S36)]) := ⟨_, rfl⟩; replace H : (spec_DistinctRows.l0 k1 y240 t236 (wrap64 (x5_1 + 1))) = some r := by first | (rw [hy240]; with_reducible exact H) | (have H2_ := (Option.bind_some _ _).symm.trans H; rw [hy240]; with_reducible exact H2_) | (have H2_ := (Option.bind_some _ _).symm.trans H; with_reducible exact H2_) | with_reducible exact H | (rw [hy240]; exact H) | exact H
       have Ny240 := kp hy240; clear hy240; have H' := kp H; clear H; obtain ⟨Ao10, co10, eo10⟩ := Kd.R_slice HO_4.out; subst eo10; have p239 : 0 ≤ (x5_1 : Int) := dt; have q239 : x5_1 < (t236.length : Int) := dt; obtain ⟨ad239, e239, hx239_0, hx239_1, hx239_2⟩ := at_T36 (Kd.R_reads' HO_4.out).2.2 x5_1 p239 q239; cases e239; replace p239 := eq_true p239; replace q239 := eq_true q239
       go_wp2_with (first | ((with_reducible refine gate_builtin (b := .append) (xs := #[.tmp 29, .tmp 34]) rfl ?_); at_builtin; refine Kd.R_append k36 (w0 := w) w.heap.size rfl (.tmp 29) (.tmp 34) 25 36 (.agg #[(.int .i64 0), (.int .i64 0), (.int .i64 0)]) 24 rfl Try.underlying25 info36 rfl (by decide) (by omega) u3 x3_1 (⟨(rd_T36 t236 x5_1).f0, (rd_T36 t236 x5_1).f1, (rd_T36 t236 x5_1).f2⟩ : S36) [.int .i64 ((rd_T36 t236 x5_1).f0), .int .i64 ((rd_T36 t236 x5_1).f1), .int .i64 ((rd_T36 t236 x5_1).f2)] (fun k_ => some k_ ≠ (.slice (some ad239) t236.length co10 : Value).ownBlock) (fun _ => False) rfl rfl ?aP (fun _ hk => hk.elim) ?aF ?aO ?aB ?aS ?aL ?_; (case aP => exact k36_mkM _ _ _ (⟨(rd_T36 t236 x5_1).f0, (rd_T36 t236 x5_1).f1, (rd_T36 t236 x5_1).f2⟩ : S36)); (case aB => exact bb); (case aF => exact (fun k_ hk => Kd.fresh' (Kd.R_lt (by (with_reducible repeat (first | apply rA | apply rN | apply rD)); exact HO_4.out)) k_ hk)); (case aO => exact (by (with_reducible repeat (first | apply rA | apply rN | apply rD)); exact HO_3.out)); (case aS => exact (below_size bb)); (case aL => have := LMc9.out; omega); intro v241 w11 ho hb hg hat; rw [← Ny240.out] at ho; have n0_ := kp (Kd.R_after (ok := (fun _ => True)) (by (with_reducible repeat (first | apply rA | apply rN | apply rD)); exact Kd.R_mono HO_4.out (fun _ hk => ⟨trivial, hk⟩)) hg hat); have n1_ := kp (hb); have n2_ := kp (ho); clear HO_4; clear HB; clear HO_3; have HO_4 := n0_; have HB := n1_; have HO242 := n2_; clear n0_ n1_ n2_; clear ho hb hg hat))
       repeat (go_quiet (first | ((with_reducible refine gate_builtin (b := .append) (xs := #[.tmp 29, .tmp 34]) rfl ?_); at_builtin; refine Kd.R_append k36 (w0 := w) w.heap.size rfl (.tmp 29) (.tmp 34) 25 36 (.agg #[(.int .i64 0), (.int .i64 0), (.int .i64 0)]) 24 rfl Try.underlying25 info36 rfl (by decide) (by omega) u3 x3_1 (⟨(rd_T36 t236 x5_1).f0, (rd_T36 t236 x5_1).f1, (rd_T36 t236 x5_1).f2⟩ : S36) [.int .i64 ((rd_T36 t236 x5_1).f0), .int .i64 ((rd_T36 t236 x5_1).f1), .int .i64 ((rd_T36 t236 x5_1).f2)] (fun k_ => some k_ ≠ (.slice (some ad239) t236.length co10 : Value).ownBlock) (fun _ => False) rfl rfl ?aP (fun _ hk => hk.elim) ?aF ?aO ?aB ?aS ?aL ?_; (case aP => exact k36_mkM _ _ _ (⟨(rd_T36 t236 x5_1).f0, (rd_T36 t236 x5_1).f1, (rd_T36 t236 x5_1).f2⟩ : S36)); (case aB => exact bb); (case aF => exact (fun k_ hk => Kd.fresh' (Kd.R_lt (by (with_reducible repeat (first | apply rA | apply rN | apply rD)); exact HO_4.out)) k_ hk)); (case aO => exact (by (with_reducible repeat (first | apply rA | apply rN | apply rD)); exact HO_3.out)); (case aS => exact (below_size bb)); (case aL => have := LMc9.out; omega); intro v241 w11 ho hb hg hat; rw [← Ny240.out] at ho; have n0_ := kp (Kd.R_after (ok := (fun _ => True)) (by (with_reducible repeat (first | apply rA | apply rN | apply rD)); exact Kd.R_mono HO_4.out (fun _ hk => ⟨trivial, hk⟩)) hg hat); have n1_ := kp (hb); have n2_ := kp (ho); clear HO_4; clear HB; clear HO_3; have HO_4 := n0_; have HB := n1_; have HO242 := n2_; clear n0_ n1_ n2_; clear ho hb hg hat)); try go_wp2_with (first | ((with_reducible refine gate_builtin (b := .append) (xs := #[.tmp 29, .tmp 34]) rfl ?_); at_builtin; refine Kd.R_append k36 (w0 := w) w.heap.size rfl (.tmp 29) (.tmp 34) 25 36 (.agg #[(.int .i64 0), (.int .i64 0), (.int .i64 0)]) 24 rfl Try.underlying25 info36 rfl (by decide) (by omega) u3 x3_1 (⟨(rd_T36 t236 x5_1).f0, (rd_T36 t236 x5_1).f1, (rd_T36 t236 x5_1).f2⟩ : S36) [.int .i64 ((rd_T36 t236 x5_1).f0), .int .i64 ((rd_T36 t236 x5_1).f1), .int .i64 ((rd_T36 t236 x5_1).f2)] (fun k_ => some k_ ≠ (.slice (some ad239) t236.length co10 : Value).ownBlock) (fun _ => False) rfl rfl ?aP (fun _ hk => hk.elim) ?aF ?aO ?aB ?aS ?aL ?_; (case aP => exact k36_mkM _ _ _ (⟨(rd_T36 t236 x5_1).f0, (rd_T36 t236 x5_1).f1, (rd_T36 t236 x5_1).f2⟩ : S36)); (case aB => exact bb); (case aF => exact (fun k_ hk => Kd.fresh' (Kd.R_lt (by (with_reducible repeat (first | apply rA | apply rN | apply rD)); exact HO_4.out)) k_ hk)); (case aO => exact (by (with_reducible repeat (first | apply rA | apply rN | apply rD)); exact HO_3.out)); (case aS => exact (below_size bb)); (case aL => have := LMc9.out; omega); intro v241 w11 ho hb hg hat; rw [← Ny240.out] at ho; have n0_ := kp (Kd.R_after (ok := (fun _ => True)) (by (with_reducible repeat (first | apply rA | apply rN | apply rD)); exact Kd.R_mono HO_4.out (fun _ hk => ⟨trivial, hk⟩)) hg hat); have n1_ := kp (hb); have n2_ := kp (ho); clear HO_4; clear HB; clear HO_3; have HO_4 := n0_; have HB := n1_; have HO242 := n2_; clear n0_ n1_ n2_; clear ho hb hg hat)))
       go_roundg k1
       case measure => have := HK1.out; omega
       case rel => exact ⟨(y240), (wrap64 (x5_1 + 1)), (by first | rfl | (simp; done) | (simp [*]; done)), H', ⟨by have := HK1.out; omega⟩, ⟨by (with_reducible repeat (first | apply rA | apply rN | apply rD)); exact HO242.out⟩, ⟨by (with_reducible repeat (first | apply rA | apply rN | apply rD)); exact Kd.R_mono HO_4.out (fun _ hk => hk.2)⟩, ⟨bb⟩⟩
      ·rw [if_neg c9] at H; exact absurd H (by simp)
     ·rw [if_neg c8] at H; exact absurd H (by simp)
    ·rw [if_neg c7] at H; have c7b0 : (x5_1 == 0) = false := beq_eq_false_iff_ne.mpr c7; have c7b1 : (x5_1 != 0) = true := bne_iff_ne.mpr c7
     by_cases c12 : 0 ≤ x5_1
     ·rw [if_pos c12] at H; have c12b0 : decide (0 ≤ x5_1) = true := decide_eq_true c12; clear c12; obtain ⟨ji13, hji13⟩ : ∃ j_ : Int, (wrap64 (x5_1 - 1)) = j_ := ⟨_, rfl⟩; replace H : (if 0 ≤ (ji13) then (if (ji13) < (t236.length : Int) then (if (!(((rd_T36 t236 x5_1).f0) == ((rd_T36 t236 (ji13)).f0)) || (!(((rd_T36 t236 x5_1).f1) == ((rd_T36 t236 (ji13)).f1)) || (!(((rd_T36 t236 x5_1).f2) == ((rd_T36 t236 (ji13)).f2))))) = true then (if x3_1.length < 5864062014805 then (spec_DistinctRows.l0 k1 (x3_1 ++ [(⟨(rd_T36 t236 x5_1).f0, (rd_T36 t236 x5_1).f1, (rd_T36 t236 x5_1).f2⟩ : S36)]) t236 (wrap64 (x5_1 + 1))) else (none)) else (spec_DistinctRows.l0 k1 x3_1 t236 (wrap64 (x5_1 + 1)))) else (none)) else (none)) = some r := by first | (rw [hji13] at H; exact H) | (simp only [hji13] at H ⊢; exact H)
      have hji13w : (IntKind.i64.wrap (x5_1 - 1)) = ji13 := (i64_w _).trans hji13
      by_cases c14 : 0 ≤ (ji13)
      ·rw [if_pos c14] at H; have c14b0 : decide (0 ≤ (ji13)) = true := decide_eq_true c14; clear c14
       by_cases c15 : (ji13) < (t236.length : Int)
       ·rw [if_pos c15] at H; have c15b0 : decide ((ji13) < (t236.length : Int)) = true := decide_eq_true c15; clear c15
        by_cases c16 : (!(((rd_T36 t236 x5_1).f0) == ((rd_T36 t236 (ji13)).f0)) || (!(((rd_T36 t236 x5_1).f1) == ((rd_T36 t236 (ji13)).f1)) || (!(((rd_T36 t236 x5_1).f2) == ((rd_T36 t236 (ji13)).f2))))) = true
        ·rw [if_pos c16] at H; have c16b0 : (!(((rd_T36 t236 x5_1).f0) == ((rd_T36 t236 (ji13)).f0)) || (!(((rd_T36 t236 x5_1).f1) == ((rd_T36 t236 (ji13)).f1)) || (!(((rd_T36 t236 x5_1).f2) == ((rd_T36 t236 (ji13)).f2))))) = true := c16; clear c16
         by_cases c17 : x3_1.length < 5864062014805
         ·rw [if_pos c17] at H; have LMc17 := kp c17; clear c17; obtain ⟨y246, hy246⟩ : ∃ y_ : List (S36), y_ = (x3_1 ++ [(⟨(rd_T36 t236 x5_1).f0, (rd_T36 t236 x5_1).f1, (rd_T36 t236 x5_1).f2⟩ : S36)]) := ⟨_, rfl⟩; replace H : (spec_DistinctRows.l0 k1 y246 t236 (wrap64 (x5_1 + 1))) = some r := by first | (rw [hy246]; with_reducible exact H) | (have H2_ := (Option.bind_some _ _).symm.trans H; rw [hy246]; with_reducible exact H2_) | (have H2_ := (Option.bind_some _ _).symm.trans H; with_reducible exact H2_) | with_reducible exact H | (rw [hy246]; exact H) | exact H
          have Ny246 := kp hy246; clear hy246; have H' := kp H; clear H; obtain ⟨Ao18, co18, eo18⟩ := Kd.R_slice HO_4.out; subst eo18; have p243 : 0 ≤ (x5_1 : Int) := dt; have q243 : x5_1 < (t236.length : Int) := dt; obtain ⟨ad243, e243, hx243_0, hx243_1, hx243_2⟩ := at_T36 (Kd.R_reads' HO_4.out).2.2 x5_1 p243 q243; cases e243; replace p243 := eq_true p243; replace q243 := eq_true q243; have p244 : 0 ≤ ((ji13) : Int) := dt; have q244 : (ji13) < (t236.length : Int) := dt; obtain ⟨ad244, e244, hx244_0, hx244_1, hx244_2⟩ := at_T36 (Kd.R_reads' HO_4.out).2.2 (ji13) p244 q244; obtain rfl : ad243 = ad244 := (by injection e244); replace p244 := eq_true p244; replace q244 := eq_true q244; have p245 : 0 ≤ (x5_1 : Int) := dt; have q245 : x5_1 < (t236.length : Int) := dt; obtain ⟨ad245, e245, hx245_0, hx245_1, hx245_2⟩ := at_T36 (Kd.R_reads' HO_4.out).2.2 x5_1 p245 q245; obtain rfl : ad243 = ad245 := (by injection e245); replace p245 := eq_true p245; replace q245 := eq_true q245
          go_wp2_with (first | ((with_reducible refine gate_builtin (b := .append) (xs := #[.tmp 29, .tmp 34]) rfl ?_); at_builtin; refine Kd.R_append k36 (w0 := w) w.heap.size rfl (.tmp 29) (.tmp 34) 25 36 (.agg #[(.int .i64 0), (.int .i64 0), (.int .i64 0)]) 24 rfl Try.underlying25 info36 rfl (by decide) (by omega) u3 x3_1 (⟨(rd_T36 t236 x5_1).f0, (rd_T36 t236 x5_1).f1, (rd_T36 t236 x5_1).f2⟩ : S36) [.int .i64 ((rd_T36 t236 x5_1).f0), .int .i64 ((rd_T36 t236 x5_1).f1), .int .i64 ((rd_T36 t236 x5_1).f2)] (fun k_ => some k_ ≠ (.slice (some ad243) t236.length co18 : Value).ownBlock) (fun _ => False) rfl rfl ?aP (fun _ hk => hk.elim) ?aF ?aO ?aB ?aS ?aL ?_; (case aP => exact k36_mkM _ _ _ (⟨(rd_T36 t236 x5_1).f0, (rd_T36 t236 x5_1).f1, (rd_T36 t236 x5_1).f2⟩ : S36)); (case aB => exact bb); (case aF => exact (fun k_ hk => Kd.fresh' (Kd.R_lt (by (with_reducible repeat (first | apply rA | apply rN | apply rD)); exact HO_4.out)) k_ hk)); (case aO => exact (by (with_reducible repeat (first | apply rA | apply rN | apply rD)); exact HO_3.out)); (case aS => exact (below_size bb)); (case aL => have := LMc17.out; omega); intro v247 w19 ho hb hg hat; rw [← Ny246.out] at ho; have n0_ := kp (Kd.R_after (ok := (fun _ => True)) (by (with_reducible repeat (first | apply rA | apply rN | apply rD)); exact Kd.R_mono HO_4.out (fun _ hk => ⟨trivial, hk⟩)) hg hat); have n1_ := kp (hb); have n2_ := kp (ho); clear HO_4; clear HB; clear HO_3; have HO_4 := n0_; have HB := n1_; have HO248 := n2_; clear n0_ n1_ n2_; clear ho hb hg hat))
          repeat (go_quiet (first | ((with_reducible refine gate_builtin (b := .append) (xs := #[.tmp 29, .tmp 34]) rfl ?_); at_builtin; refine Kd.R_append k36 (w0 := w) w.heap.size rfl (.tmp 29) (.tmp 34) 25 36 (.agg #[(.int .i64 0), (.int .i64 0), (.int .i64 0)]) 24 rfl Try.underlying25 info36 rfl (by decide) (by omega) u3 x3_1 (⟨(rd_T36 t236 x5_1).f0, (rd_T36 t236 x5_1).f1, (rd_T36 t236 x5_1).f2⟩ : S36) [.int .i64 ((rd_T36 t236 x5_1).f0), .int .i64 ((rd_T36 t236 x5_1).f1), .int .i64 ((rd_T36 t236 x5_1).f2)] (fun k_ => some k_ ≠ (.slice (some ad243) t236.length co18 : Value).ownBlock) (fun _ => False) rfl rfl ?aP (fun _ hk => hk.elim) ?aF ?aO ?aB ?aS ?aL ?_; (case aP => exact k36_mkM _ _ _ (⟨(rd_T36 t236 x5_1).f0, (rd_T36 t236 x5_1).f1, (rd_T36 t236 x5_1).f2⟩ : S36)); (case aB => exact bb); (case aF => exact (fun k_ hk => Kd.fresh' (Kd.R_lt (by (with_reducible repeat (first | apply rA | apply rN | apply rD)); exact HO_4.out)) k_ hk)); (case aO => exact (by (with_reducible repeat (first | apply rA | apply rN | apply rD)); exact HO_3.out)); (case aS => exact (below_size bb)); (case aL => have := LMc17.out; omega); intro v247 w19 ho hb hg hat; rw [← Ny246.out] at ho; have n0_ := kp (Kd.R_after (ok := (fun _ => True)) (by (with_reducible repeat (first | apply rA | apply rN | apply rD)); exact Kd.R_mono HO_4.out (fun _ hk => ⟨trivial, hk⟩)) hg hat); have n1_ := kp (hb); have n2_ := kp (ho); clear HO_4; clear HB; clear HO_3; have HO_4 := n0_; have HB := n1_; have HO248 := n2_; clear n0_ n1_ n2_; clear ho hb hg hat)); try go_wp2_with (first | ((with_reducible refine gate_builtin (b := .append) (xs := #[.tmp 29, .tmp 34]) rfl ?_); at_builtin; refine Kd.R_append k36 (w0 := w) w.heap.size rfl (.tmp 29) (.tmp 34) 25 36 (.agg #[(.int .i64 0), (.int .i64 0), (.int .i64 0)]) 24 rfl Try.underlying25 info36 rfl (by decide) (by omega) u3 x3_1 (⟨(rd_T36 t236 x5_1).f0, (rd_T36 t236 x5_1).f1, (rd_T36 t236 x5_1).f2⟩ : S36) [.int .i64 ((rd_T36 t236 x5_1).f0), .int .i64 ((rd_T36 t236 x5_1).f1), .int .i64 ((rd_T36 t236 x5_1).f2)] (fun k_ => some k_ ≠ (.slice (some ad243) t236.length co18 : Value).ownBlock) (fun _ => False) rfl rfl ?aP (fun _ hk => hk.elim) ?aF ?aO ?aB ?aS ?aL ?_; (case aP => exact k36_mkM _ _ _ (⟨(rd_T36 t236 x5_1).f0, (rd_T36 t236 x5_1).f1, (rd_T36 t236 x5_1).f2⟩ : S36)); (case aB => exact bb); (case aF => exact (fun k_ hk => Kd.fresh' (Kd.R_lt (by (with_reducible repeat (first | apply rA | apply rN | apply rD)); exact HO_4.out)) k_ hk)); (case aO => exact (by (with_reducible repeat (first | apply rA | apply rN | apply rD)); exact HO_3.out)); (case aS => exact (below_size bb)); (case aL => have := LMc17.out; omega); intro v247 w19 ho hb hg hat; rw [← Ny246.out] at ho; have n0_ := kp (Kd.R_after (ok := (fun _ => True)) (by (with_reducible repeat (first | apply rA | apply rN | apply rD)); exact Kd.R_mono HO_4.out (fun _ hk => ⟨trivial, hk⟩)) hg hat); have n1_ := kp (hb); have n2_ := kp (ho); clear HO_4; clear HB; clear HO_3; have HO_4 := n0_; have HB := n1_; have HO248 := n2_; clear n0_ n1_ n2_; clear ho hb hg hat)))
          go_roundg k1
          case measure => have := HK1.out; omega
          case rel => exact ⟨(y246), (wrap64 (x5_1 + 1)), (by first | rfl | (simp; done) | (simp [*]; done)), H', ⟨by have := HK1.out; omega⟩, ⟨by (with_reducible repeat (first | apply rA | apply rN | apply rD)); exact HO248.out⟩, ⟨by (with_reducible repeat (first | apply rA | apply rN | apply rD)); exact Kd.R_mono HO_4.out (fun _ hk => hk.2)⟩, ⟨bb⟩⟩
         ·rw [if_neg c17] at H; exact absurd H (by simp)
        ·rw [if_neg c16] at H; have c16b0 : (!(((rd_T36 t236 x5_1).f0) == ((rd_T36 t236 (ji13)).f0)) || (!(((rd_T36 t236 x5_1).f1) == ((rd_T36 t236 (ji13)).f1)) || (!(((rd_T36 t236 x5_1).f2) == ((rd_T36 t236 (ji13)).f2))))) = false := by simpa using c16
         clear c16; have H' := kp H; clear H; obtain ⟨Ao20, co20, eo20⟩ := Kd.R_slice HO_4.out; subst eo20; have p243 : 0 ≤ (x5_1 : Int) := dt; have q243 : x5_1 < (t236.length : Int) := dt; obtain ⟨ad243, e243, hx243_0, hx243_1, hx243_2⟩ := at_T36 (Kd.R_reads' HO_4.out).2.2 x5_1 p243 q243; cases e243; replace p243 := eq_true p243; replace q243 := eq_true q243; have p244 : 0 ≤ ((ji13) : Int) := dt; have q244 : (ji13) < (t236.length : Int) := dt; obtain ⟨ad244, e244, hx244_0, hx244_1, hx244_2⟩ := at_T36 (Kd.R_reads' HO_4.out).2.2 (ji13) p244 q244; obtain rfl : ad243 = ad244 := (by injection e244); replace p244 := eq_true p244; replace q244 := eq_true q244; go_wp2
         repeat (go_quiet (fail); try go_wp2)
         go_roundg k1
         case measure => have := HK1.out; omega
         case rel => exact ⟨(x3_1), (wrap64 (x5_1 + 1)), (by first | rfl | (simp; done) | (simp [*]; done)), H', ⟨by have := HK1.out; omega⟩, ⟨by (with_reducible repeat (first | apply rA | apply rN | apply rD)); exact HO_3.out⟩, ⟨by (with_reducible repeat (first | apply rA | apply rN | apply rD)); exact HO_4.out⟩, ⟨bb⟩⟩
       ·rw [if_neg c15] at H; exact absurd H (by simp)
      ·rw [if_neg c14] at H; exact absurd H (by simp)
     ·rw [if_neg c12] at H; exact absurd H (by simp)
   ·rw [if_neg c6] at H; have c6b0 : decide (x5_1 < (t236.length : Int)) = false := decide_eq_false c6; clear c6; obtain rfl := Option.some.inj H; obtain ⟨Ao21, co21, eo21⟩ := Kd.R_slice HO_4.out; subst eo21; go_wp2
    repeat (go_quiet (fail); try go_wp2)
    go_ret; exact ⟨_, er, by (with_reducible repeat (first | apply rA | apply rN | apply rD)); exact Kd.R_mono HO_3.out (fun _ hk => trivial), bb⟩
end Go.Proofs.Ytbcpfppiaeelbaa.PFnMultisets
