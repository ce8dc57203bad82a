/- Out of a copy of the print, with function values told: nothing is claimed here. -/
import Derived.Test.YtinniedbgfgclaaVQFnExactDeleteUnreadableFilesx0
import Derived.Test.YtinniedbgfgclaaVQFnExactDeleteUnreadableFilesx6
import Derived.Test.YtinniedbgfgclaaVPress
namespace Go.Proofs.Ytinniedbgfgclaa.PFnExactDeleteUnreadableFiles
open Go.RowKit Go.Proofs.YtinniedbgfgclaaW.PrintWords Go.Proofs.YtinniedbgfgclaaW.PrintLast Go.Proofs.YtinniedbgfgclaaW.PrintMore Go.Proofs.Ytinniedbgfgclaa.Press
attribute [local go_sem] max2_int min2_int max_two min_two max_three min_three max_four min_four   -- for this text's walks alone
set_option linter.unusedVariables false
set_option linter.unusedSimpArgs false
def spec_FormatPages.l0 : Nat → List (S39) → ByteArray → Int → Option (ByteArray)
 | 0, _, _, _ => none
 | k + 1, x0, x3, x4 => if x4 < (x0.length : Int) then ((spec_l4Pages.f k x0).bind fun t228 => (if t228 = true then (if x3.size + 1 ≤ 9223372036854775807 then (if 0 ≤ x4 then ((spec_FormatRows.f k ((rd_T39 x0 x4).f0)).bind fun t230 => (if (x3 ++ (⟨#[91]⟩ : ByteArray)).size + t230.size ≤ 9223372036854775807 then (if ((x3 ++ (⟨#[91]⟩ : ByteArray)) ++ t230).size + 1 ≤ 9223372036854775807 then (spec_FormatPages.l0 k x0 (((x3 ++ (⟨#[91]⟩ : ByteArray)) ++ t230) ++ (⟨#[93]⟩ : ByteArray)) (wrap64 (x4 + 1))) else (none)) else (none))) else (none)) else (none)) else (some x3))) else (some x3)
def spec_FormatPages.f (k : Nat) (l0 : List (S39)) : Option (ByteArray) := spec_FormatPages.l0 k l0 (⟨#[]⟩ : ByteArray) 0
theorem spec_FormatPages.mono_l : ∀ k, (∀ y0 y1 y2, LeO (spec_FormatPages.l0 k y0 y1 y2) (spec_FormatPages.l0 (k + 1) y0 y1 y2))
 | 0 => fun _ _ _ r h => by simp [spec_FormatPages.l0] at h
 | k + 1 => by
  have ih0 := spec_FormatPages.mono_l k
  ·intro y0 y1 y2
   unfold spec_FormatPages.l0
   repeat' first
   | (with_reducible exact ih0 _ _ _)
   | (with_reducible exact spec_FormatRows.mono _ _)
   | (with_reducible exact spec_l4Pages.mono _ _)
   | (with_reducible exact LeO.refl _)
   | (with_reducible exact LeO.none _)
   | (with_reducible refine LeO.ite ?_ ?_)
   | (with_reducible refine LeO.bind ?_ (fun _ => ?_))
theorem spec_FormatPages.mono : ∀ a0 k, LeO (spec_FormatPages.f k a0) (spec_FormatPages.f (k + 1) a0) := by
 intro a0 k
 have ih0 := spec_FormatPages.mono_l k
 unfold spec_FormatPages.f
 repeat' first
   | (with_reducible exact ih0 _ _ _)
   | (with_reducible exact spec_FormatRows.mono _ _)
   | (with_reducible exact spec_l4Pages.mono _ _)
   | (with_reducible exact LeO.refl _)
   | (with_reducible exact LeO.none _)
   | (with_reducible refine LeO.ite ?_ ?_)
   | (with_reducible refine LeO.bind ?_ (fun _ => ?_))
set_option maxHeartbeats 8000000 in
set_option maxRecDepth 100000 in
theorem spec_FormatPages.calls (k : Nat) (A0 : Option Addr) (c0 : Nat) (l0 : List (S39)) (r : ByteArray) (w : World) (hr0 : Kd.C k39 w A0 l0.length l0) (hc0 : l0.length ≤ c0) (h : spec_FormatPages.f k l0 = some r) :
  Calls Try.prog 42 #[.slice A0 l0.length c0] w fun e w' => e = .returned (.string r) ∧ Below w.heap.size w w' := by
 have HR0 := kp hr0
 have HC0 := kp hc0
 clear hr0 hc0
 have HB := kp (Below.refl w.heap.size w)
 have H : (spec_FormatPages.l0 k l0 (⟨#[]⟩ : ByteArray) 0) = some r := h
 clear h
 have H' := kp H
 clear H
 go_enter Try.func42, Try.ntmps42
 go_wp2
 go_loopg [3, 4] k (fun kq v3 v4 w' => ∃ (x3_1 : ByteArray) (x4_1 : Int), v3 = .string x3_1 ∧ v4 = .int .i64 x4_1 ∧ Aside0 (spec_FormatPages.l0 kq l0 x3_1 x4_1 = some r) ∧ Aside0 (kq ≤ k) ∧ Aside0 (Below w.heap.size w w'))
 case atStart => exact ⟨((⟨#[]⟩ : ByteArray)), (0), (by first | rfl | (simp; done) | (simp [*]; done)), (by first | rfl | (simp; done) | (simp [*]; done)), H', ⟨Nat.le_refl _⟩, ⟨bb⟩⟩
 case round =>
  clear H'; obtain ⟨x3_1, x4_1, rfl, rfl, HA, HK1, HB⟩ := hrel
  cases gk with
  | zero => exact absurd HA.out (by simp [spec_FormatPages.l0])
  | succ k1 =>
   have H := HA.out; clear HA; simp only [spec_FormatPages.l0] at H
   by_cases c2 : x4_1 < (l0.length : Int)
   ·rw [if_pos c2] at H; have c2b0 : decide (x4_1 < (l0.length : Int)) = true := decide_eq_true c2; clear c2; replace H := Option.bind_eq_some_iff.mp H; obtain ⟨t228, A30, H⟩ := H; replace H : (if t228 = true then (if x3_1.size + 1 ≤ 9223372036854775807 then (if 0 ≤ x4_1 then ((spec_FormatRows.f k1 ((rd_T39 l0 x4_1).f0)).bind fun t230 => (if (x3_1 ++ (⟨#[91]⟩ : ByteArray)).size + t230.size ≤ 9223372036854775807 then (if ((x3_1 ++ (⟨#[91]⟩ : ByteArray)) ++ t230).size + 1 ≤ 9223372036854775807 then (spec_FormatPages.l0 k1 l0 (((x3_1 ++ (⟨#[91]⟩ : ByteArray)) ++ t230) ++ (⟨#[93]⟩ : ByteArray)) (wrap64 (x4_1 + 1))) else (none)) else (none))) else (none)) else (none)) else (some x3_1)) = some r := H; have A3 := kp A30; clear A30
    by_cases c4 : t228 = true
    ·subst c4; have H1 : (if x3_1.size + 1 ≤ 9223372036854775807 then (if 0 ≤ x4_1 then ((spec_FormatRows.f k1 ((rd_T39 l0 x4_1).f0)).bind fun t230 => (if (x3_1 ++ (⟨#[91]⟩ : ByteArray)).size + t230.size ≤ 9223372036854775807 then (if ((x3_1 ++ (⟨#[91]⟩ : ByteArray)) ++ t230).size + 1 ≤ 9223372036854775807 then (spec_FormatPages.l0 k1 l0 (((x3_1 ++ (⟨#[91]⟩ : ByteArray)) ++ t230) ++ (⟨#[93]⟩ : ByteArray)) (wrap64 (x4_1 + 1))) else (none)) else (none))) else (none)) else (none)) = some r := by rw [if_pos rfl] at H; exact H
     clear H; have H := H1; clear H1
     by_cases c5 : x3_1.size + 1 ≤ 9223372036854775807
     ·rw [if_pos c5] at H; have c5b0 := eq_true c5; have c5b1 : decide (x3_1.size + 1 ≤ 9223372036854775807) = true := decide_eq_true c5
      try have c5b2 : (9223372036854775807 < x3_1.size + 1) = False := eq_false (Nat.not_lt.2 c5)
      by_cases c6 : 0 ≤ x4_1
      ·rw [if_pos c6] at H; have c6b0 : decide (0 ≤ x4_1) = true := decide_eq_true c6; clear c6; replace H := Option.bind_eq_some_iff.mp H; obtain ⟨t230, A70, H⟩ := H; replace H : (if (x3_1 ++ (⟨#[91]⟩ : ByteArray)).size + t230.size ≤ 9223372036854775807 then (if ((x3_1 ++ (⟨#[91]⟩ : ByteArray)) ++ t230).size + 1 ≤ 9223372036854775807 then (spec_FormatPages.l0 k1 l0 (((x3_1 ++ (⟨#[91]⟩ : ByteArray)) ++ t230) ++ (⟨#[93]⟩ : ByteArray)) (wrap64 (x4_1 + 1))) else (none)) else (none)) = some r := H; have A7 := kp A70; clear A70
       by_cases c8 : (x3_1 ++ (⟨#[91]⟩ : ByteArray)).size + t230.size ≤ 9223372036854775807
       ·rw [if_pos c8] at H; have c8b0 := eq_true c8; have c8b1 : decide ((x3_1 ++ (⟨#[91]⟩ : ByteArray)).size + t230.size ≤ 9223372036854775807) = true := decide_eq_true c8
        try have c8b2 : (9223372036854775807 < (x3_1 ++ (⟨#[91]⟩ : ByteArray)).size + t230.size) = False := eq_false (Nat.not_lt.2 c8)
        have c8b3 : (9223372036854775807 < x3_1.size + 1 + t230.size) = False := eq_false (by have h_ := c8; have e_ : (⟨#[46]⟩ : ByteArray).size = 1 := rfl; have e2_ : (⟨#[32]⟩ : ByteArray).size = 1 := rfl; have e3_ : (⟨#[91]⟩ : ByteArray).size = 1 := rfl; have e4_ : (⟨#[93]⟩ : ByteArray).size = 1 := rfl; simp only [ByteArray.size_append] at h_; omega)
        by_cases c9 : ((x3_1 ++ (⟨#[91]⟩ : ByteArray)) ++ t230).size + 1 ≤ 9223372036854775807
        ·rw [if_pos c9] at H; have c9b0 := eq_true c9; have c9b1 : decide (((x3_1 ++ (⟨#[91]⟩ : ByteArray)) ++ t230).size + 1 ≤ 9223372036854775807) = true := decide_eq_true c9
         try have c9b2 : (9223372036854775807 < ((x3_1 ++ (⟨#[91]⟩ : ByteArray)) ++ t230).size + 1) = False := eq_false (Nat.not_lt.2 c9)
         have c9b3 : (9223372036854775807 < x3_1.size + 1 + t230.size + 1) = False := eq_false (by have h_ := c9; have e_ : (⟨#[46]⟩ : ByteArray).size = 1 := rfl; have e2_ : (⟨#[32]⟩ : ByteArray).size = 1 := rfl; have e3_ : (⟨#[91]⟩ : ByteArray).size = 1 := rfl; have e4_ : (⟨#[93]⟩ : ByteArray).size = 1 := rfl; simp only [ByteArray.size_append] at h_; omega); have H' := kp H; clear H
         go_wp2_with (first | (go_at_call 85; (with_reducible refine (spec_l4Pages.calls k1 _ _ l0 true _ ?side1 ?side2 A3.out).mono ?_); (case side1 => exact cc HR0.out); (case side2 => exact HC0.out); rintro e w10 ⟨rfl, hb⟩; have n0_ := kp (below_step bb hb); clear HB; have HB := n0_; clear n0_; (try clear hb); have p229 : 0 ≤ (x4_1 : Int) := dt; have q229 : x4_1 < (l0.length : Int) := dt; obtain ⟨ad229, A229_0, c229_0, e229, hx229_0, hl229_0, hi229_0⟩ := at_T39 HR0.out x4_1 p229 q229; cases e229; replace hx229_0 := kc HB.out hx229_0; have HR229_0 := kp hi229_0; have HC229_0 := kp hl229_0; clear hi229_0 hl229_0; replace p229 := eq_true p229; replace q229 := eq_true q229) | ((with_reducible refine gate_callee (f := 86) rfl ?_); refine gl_ 22 Try.func86 #[.slice A229_0 ((rd_T39 l0 x4_1).f0).length c229_0] ?_; (with_reducible refine (spec_FormatRows.calls k1 _ _ ((rd_T39 l0 x4_1).f0) t230 _ ?side1 ?side2 A7.out).mono ?_); (case side1 => exact cc HR229_0.out); (case side2 => exact HC229_0.out); rintro e w11 ⟨rfl, hb⟩; refine ⟨_, rfl, ?_⟩; have n0_ := kp (below_step bb hb); clear HB; have HB := n0_; clear n0_; (try clear hb)))
         go_roundg k1
         case measure => have := HK1.out; omega
         case rel => exact ⟨(((x3_1 ++ (⟨#[91]⟩ : ByteArray)) ++ t230) ++ (⟨#[93]⟩ : ByteArray)), (wrap64 (x4_1 + 1)), (by first | rfl | (simp; done) | (simp [*]; done)), (by first | rfl | (simp; done) | (simp [*]; done)), H', ⟨by have := HK1.out; omega⟩, ⟨bb⟩⟩
        ·rw [if_neg c9] at H; exact absurd H (by simp)
       ·rw [if_neg c8] at H; exact absurd H (by simp)
      ·rw [if_neg c6] at H; exact absurd H (by simp)
     ·rw [if_neg c5] at H; exact absurd H (by simp)
    ·replace c4 := Bool.eq_false_iff.mpr c4; subst c4; have H1 : (some x3_1) = some r := by rw [if_neg (show ¬ (false = true) by decide)] at H; exact H
     clear H; have H := H1; clear H1; obtain rfl := Option.some.inj H
     go_wp2_with (first | (go_at_call 85; (with_reducible refine (spec_l4Pages.calls k1 _ _ l0 false _ ?side1 ?side2 A3.out).mono ?_); (case side1 => exact cc HR0.out); (case side2 => exact HC0.out); rintro e w12 ⟨rfl, hb⟩; have n0_ := kp (below_step bb hb); clear HB; have HB := n0_; clear n0_; (try clear hb)))
     go_ret; exact ⟨er, bb⟩
   ·rw [if_neg c2] at H; have c2b0 : decide (x4_1 < (l0.length : Int)) = false := decide_eq_false c2; clear c2; obtain rfl := Option.some.inj H; go_wp2; go_ret; exact ⟨er, bb⟩
def spec_CountPages.l0 : Nat → Int → Int → List (S80) → Int → Option (Int)
 | 0, _, _, _, _ => none
 | k + 1, x3, x4, x232000, x232001 => if x4 < (x232000.length : Int) then (if 0 ≤ x4 then (spec_CountPages.l0 k (wrap64 (x3 + (((rd_T80 x232000 x4).f1).length : Int))) (wrap64 (x4 + 1)) x232000 x232001) else (none)) else (some x3)
def spec_CountPages.f (k : Nat) (l0_0 : List (S80)) (a0_1 : Int) : Option (Int) := spec_CountPages.l0 k 0 0 l0_0 a0_1
theorem spec_CountPages.mono_l : ∀ k, (∀ y0 y1 y2 y3, LeO (spec_CountPages.l0 k y0 y1 y2 y3) (spec_CountPages.l0 (k + 1) y0 y1 y2 y3))
 | 0 => fun _ _ _ _ r h => by simp [spec_CountPages.l0] at h
 | k + 1 => by
  have ih0 := spec_CountPages.mono_l k
  ·intro y0 y1 y2 y3
   unfold spec_CountPages.l0
   repeat' first
   | (with_reducible exact ih0 _ _ _ _)
   | (with_reducible exact LeO.refl _)
   | (with_reducible exact LeO.none _)
   | (with_reducible refine LeO.ite ?_ ?_)
   | (with_reducible refine LeO.bind ?_ (fun _ => ?_))
theorem spec_CountPages.mono : ∀ a0 a1 k, LeO (spec_CountPages.f k a0 a1) (spec_CountPages.f (k + 1) a0 a1) := by
 intro a0 a1 k
 have ih0 := spec_CountPages.mono_l k
 unfold spec_CountPages.f
 repeat' first
   | (with_reducible exact ih0 _ _ _ _)
   | (with_reducible exact LeO.refl _)
   | (with_reducible exact LeO.none _)
   | (with_reducible refine LeO.ite ?_ ?_)
   | (with_reducible refine LeO.bind ?_ (fun _ => ?_))
set_option maxHeartbeats 8000000 in
set_option maxRecDepth 100000 in
theorem spec_CountPages.calls (k : Nat) (A0_0 : Option Addr) (c0_0 : Nat) (l0_0 : List (S80)) (a0_1 : Int) (r : Int) (w : World) (hr0_0 : Kd.C k80 w A0_0 l0_0.length l0_0) (hc0_0 : l0_0.length ≤ c0_0) (h : spec_CountPages.f k l0_0 a0_1 = some r) :
  Calls Try.prog 76 #[.agg #[.slice A0_0 l0_0.length c0_0, .int .i64 a0_1]] w fun e w' => e = .returned (.int .i64 r) ∧ Below w.heap.size w w' := by
 have hu28 := Try.underlying28
 have HR0_0 := kp hr0_0
 have HC0_0 := kp hc0_0
 clear hr0_0 hc0_0
 have HB := kp (Below.refl w.heap.size w)
 have H : (spec_CountPages.l0 k 0 0 l0_0 a0_1) = some r := h
 clear h
 have H' := kp H
 clear H
 go_enter Try.func76, Try.ntmps76
 go_wp2_with (first | ((with_reducible refine gate_dst (N := 1) rfl ?_); refine bx_ 1 #[.slice A0_0 l0_0.length c0_0, .int .i64 a0_1] 28 ?_; intro gb231 hg w2 hbox hb; have n0_ := kp (below_step bb hb); have n1_ := kp (hbox); have n2_ := kp (bs hg); have n3_ := kp (bs hg); clear HB; have HB := n0_; have BK231 := n1_; have GW231 := n2_; have GE231 := n3_; clear n0_ n1_ n2_ n3_; clear hb hbox hg))
 (try simp only [Act.put, List.setIfInBounds_toArray, List.set_cons_zero, List.set_cons_succ])
 go_loopg [3, 4] k (fun kq v3 v4 w' => ∃ (x3_1 : Int) (x4_1 : Int), v3 = .int .i64 x3_1 ∧ v4 = .int .i64 x4_1 ∧ Aside0 (spec_CountPages.l0 kq x3_1 x4_1 l0_0 a0_1 = some r) ∧ Aside0 (kq ≤ k) ∧ Aside0 (w'.heap[gb231]? = some (.cells #[(.slice A0_0 l0_0.length c0_0), .int .i64 a0_1] 28 (0, 0))) ∧ Aside0 (Below w.heap.size w w'))
 case atStart => exact ⟨(0), (0), (by first | rfl | (simp; done) | (simp [*]; done)), (by first | rfl | (simp; done) | (simp [*]; done)), H', ⟨Nat.le_refl _⟩, ⟨by (with_reducible repeat (first | refine blk_drewN ?_ _ | refine blk_drew ?_ | refine blk_alloc ?_ _)); exact BK231.out⟩, ⟨bb⟩⟩
 case round =>
  clear H'
  try clear p2
  obtain ⟨x3_1, x4_1, rfl, rfl, HA, HK1, BK231, HB⟩ := hrel
  cases gk with
  | zero => exact absurd HA.out (by simp [spec_CountPages.l0])
  | succ k1 =>
   have H := HA.out; clear HA; simp only [spec_CountPages.l0] at H
   by_cases c3 : x4_1 < (l0_0.length : Int)
   ·rw [if_pos c3] at H; have c3b0 : decide (x4_1 < (l0_0.length : Int)) = true := decide_eq_true c3; clear c3
    by_cases c4 : 0 ≤ x4_1
    ·rw [if_pos c4] at H; have c4b0 : decide (0 ≤ x4_1) = true := decide_eq_true c4; clear c4; have H' := kp H; clear H; have hcz5_0 : wr.cell? ⟨gb231, 0, none⟩ = some (.slice A0_0 l0_0.length c0_0) := (blk_cell BK231.out 0).trans rfl; have hcz5_1 : wr.cell? ⟨gb231, 1, none⟩ = some (.int .i64 a0_1) := (blk_cell BK231.out 1).trans rfl; have hfz5_0 := blk_frozen BK231.out 0; have hfz5_1 := blk_frozen BK231.out 1; have p232 : 0 ≤ (x4_1 : Int) := dt; have q232 : x4_1 < (l0_0.length : Int) := dt; obtain ⟨ad232, A232_1, c232_1, e232, hx232_0, hx232_1, hx232_2, hx232_3, hl232_1, hi232_1⟩ := at_T80 HR0_0.out x4_1 p232 q232; cases e232; replace hx232_0 := kc HB.out hx232_0; replace hx232_1 := kc HB.out hx232_1; replace hx232_2 := kc HB.out hx232_2; replace hx232_3 := kc HB.out hx232_3; have HR232_1 := kp hi232_1; have HC232_1 := kp hl232_1; clear hi232_1 hl232_1; replace p232 := eq_true p232; replace q232 := eq_true q232; go_wp2
     go_roundg k1
     case measure => have := HK1.out; omega
     case rel => exact ⟨(wrap64 (x3_1 + (((rd_T80 l0_0 x4_1).f1).length : Int))), (wrap64 (x4_1 + 1)), (by first | rfl | (simp; done) | (simp [*]; done)), (by first | rfl | (simp; done) | (simp [*]; done)), H', ⟨by have := HK1.out; omega⟩, ⟨by (with_reducible repeat (first | refine blk_drewN ?_ _ | refine blk_drew ?_ | refine blk_alloc ?_ _)); exact BK231.out⟩, ⟨bb⟩⟩
    ·rw [if_neg c4] at H; exact absurd H (by simp)
   ·rw [if_neg c3] at H; have c3b0 : decide (x4_1 < (l0_0.length : Int)) = false := decide_eq_false c3; clear c3; obtain rfl := Option.some.inj H; have hcz6_0 : wr.cell? ⟨gb231, 0, none⟩ = some (.slice A0_0 l0_0.length c0_0) := (blk_cell BK231.out 0).trans rfl; have hcz6_1 : wr.cell? ⟨gb231, 1, none⟩ = some (.int .i64 a0_1) := (blk_cell BK231.out 1).trans rfl; have hfz6_0 := blk_frozen BK231.out 0; have hfz6_1 := blk_frozen BK231.out 1; go_wp2; go_ret; exact ⟨er, bb⟩
end Go.Proofs.Ytinniedbgfgclaa.PFnExactDeleteUnreadableFiles
