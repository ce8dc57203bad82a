/- Out of a copy of the print, with function values told: nothing is claimed here. -/
import Derived.Test.YtljpfogplcdcjaaVQFnSealedFilesx0
import Derived.Test.YtljpfogplcdcjaaVShort
import Derived.Test.YtljpfogplcdcjaaVPress
import Derived.Test.YtljpfogplcdcjaaVFoldT
namespace Go.Proofs.Ytljpfogplcdcjaa.PFnSealedFiles
open Go.RowKit Go.Proofs.YtljpfogplcdcjaaW.PrintWords Go.Proofs.YtljpfogplcdcjaaW.PrintLast Go.Proofs.YtljpfogplcdcjaaW.PrintMore Go.Proofs.Ytljpfogplcdcjaa.Short Go.Proofs.Ytljpfogplcdcjaa.Press Go.Proofs.Ytljpfogplcdcjaa.Fold
attribute [local go_sem] max2_int min2_int max_two min_two max_three min_three max_four min_four   -- for this text's walks alone
set_option linter.unusedVariables false
set_option linter.unusedSimpArgs false
def spec_l1In.f (a0 : Int) (a1 : Int) (a2 : Int) : Option (Bool) := if a0 ≥ a1 then (some (decide (a0 ≤ a2))) else (some false)
set_option maxHeartbeats 8000000 in
set_option maxRecDepth 100000 in
theorem spec_l1In.calls (a0 : Int) (a1 : Int) (a2 : Int) (r : Bool) (w : World) (h : spec_l1In.f a0 a1 a2 = some r) :
  Calls Try.prog 54 #[.int .i64 a0, .int .i64 a1, .int .i64 a2] w fun e w' => e = .returned (.bool r) ∧ Drawn0 w w' := by
 have H := h; clear h; unfold spec_l1In.f at H; replace H := sp H; rcases H with ⟨c4b0, H⟩ | ⟨c4b0, H⟩
 obtain rfl := Option.some.inj H; rotate_left; obtain rfl := Option.some.inj H
 all_goals
  go_enter Try.func54, Try.ntmps54; go_wp2; go_ret; exact ⟨by first | rfl | (simp; done) | (simp [*]; done), by repeat (first | exact Drawn0.refl _ | apply Drawn0.step)⟩
def spec_IsValidRow.f (a0_0 : Int) (a0_1 : Int) (a0_2 : Int) : Option (Bool) := (spec_l1In.f a0_0 0 9).bind fun t102 => (if t102 = true then ((spec_l1In.f a0_1 0 99).bind fun t103 => (if t103 = true then ((spec_l1In.f a0_2 0 3).bind fun t104 => (some t104)) else (some false))) else (some false))
set_option maxHeartbeats 8000000 in
set_option maxRecDepth 100000 in
theorem spec_IsValidRow.calls (a0_0 : Int) (a0_1 : Int) (a0_2 : Int) (r : Bool) (w : World) (h : spec_IsValidRow.f a0_0 a0_1 a0_2 = some r) :
  Calls Try.prog 51 #[.agg #[.int .i64 a0_0, .int .i64 a0_1, .int .i64 a0_2]] w fun e w' => e = .returned (.bool r) ∧ Below w.heap.size w w' := by
 have hu42 := Try.underlying42; have HB := kp (Below.refl w.heap.size w); have H := h; clear h; unfold spec_IsValidRow.f at H; replace H := ob H; obtain ⟨t102, A2, H⟩ := H; by_cases c3 : t102 = true; subst c3; replace H := ip H; replace H := ob H; obtain ⟨t103, A4, H⟩ := H; by_cases c5 : t103 = true; subst c5; replace H := ip H; replace H := ob H; obtain ⟨t104, A6, H⟩ := H; obtain rfl := Option.some.inj H; rotate_left; replace c5 := Bool.eq_false_iff.mpr c5; subst c5; replace H := ie H; obtain rfl := Option.some.inj H; rotate_left; replace c3 := Bool.eq_false_iff.mpr c3; subst c3; replace H := ie H; obtain rfl := Option.some.inj H
 all_goals
  go_enter Try.func51, Try.ntmps51; go_wp2_with (first | ((with_reducible refine gate_dst (N := 1) rfl ?_); refine bx_ 1 #[.int .i64 a0_0, .int .i64 a0_1, .int .i64 a0_2] 42 ?_; intro gb101 hg w7 hbox hb; have BK101 := kp (hbox); have GE101 := kp (bs hg); replace HB := kp (below_step bb hb); clear hb hbox hg; obtain ⟨hcz8_0, hcz8_1, hcz8_2, hfz8_0, hfz8_1, hfz8_2⟩ := bf3 BK101.out) | ((with_reducible refine gate_callee (f := 54) rfl ?_); refine gl_ 5 Try.func54 #[.int .i64 a0_0, .int .i64 0, .int .i64 9] ?_; (with_reducible refine (spec_l1In.calls a0_0 0 9 _ _ A2.out).mono ?_); rintro e w' ⟨rfl, ⟨nd, rfl⟩⟩; refine ⟨_, rfl, ?_⟩) | (go_at_call 54; (with_reducible refine (spec_l1In.calls a0_1 0 99 _ _ A4.out).mono ?_); rintro e w' ⟨rfl, ⟨nd, rfl⟩⟩) | (go_at_call 54; (with_reducible refine (spec_l1In.calls a0_2 0 3 t104 _ A6.out).mono ?_); rintro e w' ⟨rfl, ⟨nd, rfl⟩⟩)); go_ret; exact ⟨er, bb⟩
def spec_AreValidRows.l0 : Nat → List (S42) → Int → Option (Bool)
 | 0, _, _ => none
 | k + 1, x0, x3 => if x3 < (x0.length : Int) then (if 0 ≤ x3 then ((spec_IsValidRow.f ((rd_T42 x0 x3).f0) ((rd_T42 x0 x3).f1) ((rd_T42 x0 x3).f2)).bind fun t106 => (if t106 = true then (spec_AreValidRows.l0 k x0 (wrap64 (x3 + 1))) else (some false))) else (none)) else (some (decide ((x0.length : Int) ≤ 24)))
def spec_AreValidRows.f (k : Nat) (l0 : List (S42)) : Option (Bool) := spec_AreValidRows.l0 k l0 0
set_option maxHeartbeats 8000000 in
set_option maxRecDepth 100000 in
theorem spec_AreValidRows.calls (k : Nat) (A0 : Option Addr) (c0 : Nat) (l0 : List (S42)) (r : Bool) (w : World) (hr0 : Kd.C k42 w A0 l0.length l0) (hc0 : l0.length ≤ c0) (h : spec_AreValidRows.f k l0 = some r) :
  Calls Try.prog 17 #[.slice A0 l0.length c0] w fun e w' => e = .returned (.bool r) ∧ Below w.heap.size w w' := by
 have hu42 := Try.underlying42; have HR0 := kp hr0; have HC0 := kp hc0; clear hr0 hc0; have HB := kp (Below.refl w.heap.size w); have H := h; clear h; unfold spec_AreValidRows.f at H; have H' := kp H; clear H; go_enter Try.func17, Try.ntmps17; go_wp2; go_loopg [3] k (fun kq v3 w' => ∃ (x3_1 : Int), v3 = .int .i64 x3_1 ∧ Aside0 (spec_AreValidRows.l0 kq l0 x3_1 = some r) ∧ Aside0 (kq ≤ k) ∧ Aside0 (Below w.heap.size w w')); case atStart => exact ⟨(0), vr, H', ⟨Nat.le_refl _⟩, ⟨bb⟩⟩
 case round =>
  clear H'; obtain ⟨x3_1, rfl, HA, HK1, HB⟩ := hrel
  cases gk with
  | zero => exact absurd HA.out (by simp [spec_AreValidRows.l0])
  | succ k1 =>
   have H := HA.out; clear HA; simp only [spec_AreValidRows.l0] at H; replace H := sp H; rcases H with ⟨c2b0, H⟩ | ⟨c2b0, H⟩
   ·replace H := sn H; obtain ⟨c3b0, H⟩ := H; replace H := ob H; obtain ⟨t106, A4, H⟩ := H; by_cases c5 : t106 = true; subst c5; replace H := ip H; have H' := kp H; clear H; have i0_ := kp True.intro; rotate_left; replace c5 := Bool.eq_false_iff.mpr c5; subst c5; replace H := ie H; obtain rfl := Option.some.inj H
    all_goals
     obtain ⟨ad105, rfl, hx105_0, hx105_1, hx105_2, p105, q105⟩ := ra_T42 HR0 HB x3_1 dt dt; go_wp2_with (first | ((with_reducible refine gate_callee (f := 51) rfl ?_); refine gl_ 14 Try.func51 #[.agg #[.int .i64 ((rd_T42 l0 x3_1).f0), .int .i64 ((rd_T42 l0 x3_1).f1), .int .i64 ((rd_T42 l0 x3_1).f2)]] ?_; (with_reducible refine (spec_IsValidRow.calls ((rd_T42 l0 x3_1).f0) ((rd_T42 l0 x3_1).f1) ((rd_T42 l0 x3_1).f2) _ _ A4.out).mono ?_); rintro e w6 ⟨rfl, hb⟩; refine ⟨_, rfl, ?_⟩; replace HB := kp (below_step bb hb); (try clear hb)))
     first
     | refine tg i0_ ?_; go_roundg k1; case measure => have := HK1.out; omega
       case rel => exact ⟨(wrap64 (x3_1 + 1)), vr, H', ⟨by have := HK1.out; omega⟩, ⟨bb⟩⟩
     | go_ret; exact ⟨er, bb⟩
   ·obtain rfl := Option.some.inj H; go_wp2; go_ret; exact ⟨er, bb⟩
def spec_RowCost.f (a0_0 : Int) (a0_1 : Int) (a0_2 : Int) : Option (Int) := (spec_IsValidRow.f a0_0 a0_1 a0_2).bind fun t108 => (if t108 = true then (some (wrap64 (1 + a0_2))) else (some 0))
set_option maxHeartbeats 8000000 in
set_option maxRecDepth 100000 in
theorem spec_RowCost.calls (a0_0 : Int) (a0_1 : Int) (a0_2 : Int) (r : Int) (w : World) (h : spec_RowCost.f a0_0 a0_1 a0_2 = some r) :
  Calls Try.prog 77 #[.agg #[.int .i64 a0_0, .int .i64 a0_1, .int .i64 a0_2]] w fun e w' => e = .returned (.int .i64 r) ∧ Below w.heap.size w w' := by
 have hu42 := Try.underlying42; have HB := kp (Below.refl w.heap.size w); have H := h; clear h; unfold spec_RowCost.f at H; replace H := ob H; obtain ⟨t108, A2, H⟩ := H; by_cases c3 : t108 = true; subst c3; replace H := ip H; obtain rfl := Option.some.inj H; rotate_left; replace c3 := Bool.eq_false_iff.mpr c3; subst c3; replace H := ie H; obtain rfl := Option.some.inj H
 all_goals
  go_enter Try.func77, Try.ntmps77; go_wp2_with (first | ((with_reducible refine gate_dst (N := 1) rfl ?_); refine bx_ 1 #[.int .i64 a0_0, .int .i64 a0_1, .int .i64 a0_2] 42 ?_; intro gb107 hg w4 hbox hb; have BK107 := kp (hbox); have GE107 := kp (bs hg); replace HB := kp (below_step bb hb); clear hb hbox hg; obtain ⟨hcz5_0, hcz5_1, hcz5_2, hfz5_0, hfz5_1, hfz5_2⟩ := bf3 BK107.out) | ((with_reducible refine gate_callee (f := 51) rfl ?_); refine gl_ 4 Try.func51 #[.agg #[.int .i64 a0_0, .int .i64 a0_1, .int .i64 a0_2]] ?_; (with_reducible refine (spec_IsValidRow.calls a0_0 a0_1 a0_2 _ _ A2.out).mono ?_); rintro e w6 ⟨rfl, hb⟩; refine ⟨_, rfl, ?_⟩; replace BK107 := kp (kb BK107.out hb); replace HB := kp (below_step bb hb); (try clear hb); (try (have hz_ := bf3 BK107.out; obtain ⟨hcz7_0, hcz7_1, hcz7_2, hfz7_0, hfz7_1, hfz7_2⟩ := hz_)))); go_ret; exact ⟨er, bb⟩
def spec_TotalCost.l0 : Nat → List (S42) → Int → Int → Option (Int)
 | 0, _, _, _ => none
 | k + 1, x0, x3, x4 => if x4 < (x0.length : Int) then (if 0 ≤ x4 then ((spec_RowCost.f ((rd_T42 x0 x4).f0) ((rd_T42 x0 x4).f1) ((rd_T42 x0 x4).f2)).bind fun t110 => (spec_TotalCost.l0 k x0 (wrap64 (x3 + t110)) (wrap64 (x4 + 1)))) else (none)) else (some x3)
def spec_TotalCost.f (k : Nat) (l0 : List (S42)) : Option (Int) := spec_TotalCost.l0 k l0 0 0
set_option maxHeartbeats 8000000 in
set_option maxRecDepth 100000 in
theorem spec_TotalCost.calls (k : Nat) (A0 : Option Addr) (c0 : Nat) (l0 : List (S42)) (r : Int) (w : World) (hr0 : Kd.C k42 w A0 l0.length l0) (hc0 : l0.length ≤ c0) (h : spec_TotalCost.f k l0 = some r) :
  Calls Try.prog 55 #[.slice A0 l0.length c0] w fun e w' => e = .returned (.int .i64 r) ∧ Below w.heap.size w w' := by
 have hu42 := Try.underlying42; have HR0 := kp hr0; have HC0 := kp hc0; clear hr0 hc0; have HB := kp (Below.refl w.heap.size w); have H := h; clear h; unfold spec_TotalCost.f at H; have H' := kp H; clear H; go_enter Try.func55, Try.ntmps55; go_wp2; go_loopg [3, 4] k (fun kq v3 v4 w' => ∃ (x3_1 : Int) (x4_1 : Int), v3 = .int .i64 x3_1 ∧ v4 = .int .i64 x4_1 ∧ Aside0 (spec_TotalCost.l0 kq l0 x3_1 x4_1 = some r) ∧ Aside0 (kq ≤ k) ∧ Aside0 (Below w.heap.size w w')); case atStart => exact ⟨(0), (0), vr, vr, H', ⟨Nat.le_refl _⟩, ⟨bb⟩⟩
 case round =>
  clear H'; obtain ⟨x3_1, x4_1, rfl, rfl, HA, HK1, HB⟩ := hrel
  cases gk with
  | zero => exact absurd HA.out (by simp [spec_TotalCost.l0])
  | succ k1 =>
   have H := HA.out; clear HA; simp only [spec_TotalCost.l0] at H; replace H := sp H; rcases H with ⟨c2b0, H⟩ | ⟨c2b0, H⟩
   ·replace H := sn H; obtain ⟨c3b0, H⟩ := H; replace H := ob H; obtain ⟨t110, A4, H⟩ := H; have H' := kp H; clear H; obtain ⟨ad109, rfl, hx109_0, hx109_1, hx109_2, p109, q109⟩ := ra_T42 HR0 HB x4_1 dt dt; go_wp2_with (first | ((with_reducible refine gate_callee (f := 77) rfl ?_); refine gl_ 16 Try.func77 #[.agg #[.int .i64 ((rd_T42 l0 x4_1).f0), .int .i64 ((rd_T42 l0 x4_1).f1), .int .i64 ((rd_T42 l0 x4_1).f2)]] ?_; (with_reducible refine (spec_RowCost.calls ((rd_T42 l0 x4_1).f0) ((rd_T42 l0 x4_1).f1) ((rd_T42 l0 x4_1).f2) t110 _ A4.out).mono ?_); rintro e w5 ⟨rfl, hb⟩; refine ⟨_, rfl, ?_⟩; replace HB := kp (below_step bb hb); (try clear hb))); go_roundg k1; case measure => have := HK1.out; omega
    case rel => exact ⟨(wrap64 (x3_1 + t110)), (wrap64 (x4_1 + 1)), vr, vr, H', ⟨by have := HK1.out; omega⟩, ⟨bb⟩⟩
   ·obtain rfl := Option.some.inj H; go_wp2; go_ret; exact ⟨er, bb⟩
def spec_WouldOverflow.f (k : Nat) (l0_0 : List (S42)) (a1_0 : Int) (a1_1 : Int) (a1_2 : Int) : Option (Bool) := (spec_TotalCost.f k l0_0).bind fun t113 => ((spec_RowCost.f a1_0 a1_1 a1_2).bind fun t114 => (some (decide ((wrap64 (t113 + t114)) > 8))))
def spec_WouldOverflow.T1 : Bool × List (List Nat × List Nat) := (true, [([], []), ([0], [0]), ([1], [1]), ([], []), ([3, 2], [3]), ([2, 4], [2, 4]), ([5], [5]), ([6, 4, 0, 1, 2, 3, 4, 5, 6], [6])])
def spec_WouldOverflow.B1 : List Nat := [0, 1, 3, 0, 15, 31, 63, 127]
theorem spec_WouldOverflow.tab1 : rtab .any (opsOf Try.f43 1) = spec_WouldOverflow.T1 := by kernel_rfl
theorem spec_WouldOverflow.bits1 : waitsOk spec_WouldOverflow.T1.2 spec_WouldOverflow.B1 = true := by kernel_rfl
set_option maxHeartbeats 8000000 in
set_option maxRecDepth 100000 in
theorem spec_WouldOverflow.calls (k : Nat) (A0_0 : Option Addr) (c0_0 : Nat) (l0_0 : List (S42)) (a1_0 : Int) (a1_1 : Int) (a1_2 : Int) (r : Bool) (w : World) (hr0_0 : Kd.C k42 w A0_0 l0_0.length l0_0) (hc0_0 : l0_0.length ≤ c0_0) (h : spec_WouldOverflow.f k l0_0 a1_0 a1_1 a1_2 = some r) :
  Calls Try.prog 43 #[.agg #[.slice A0_0 l0_0.length c0_0], .agg #[.int .i64 a1_0, .int .i64 a1_1, .int .i64 a1_2]] w fun e w' => e = .returned (.bool r) ∧ Below w.heap.size w w' := by
 have hu39 := Try.underlying39; have hu42 := Try.underlying42; have HR0_0 := kp hr0_0; have HC0_0 := kp hc0_0; clear hr0_0 hc0_0; have HB := kp (Below.refl w.heap.size w); have H := h; clear h; unfold spec_WouldOverflow.f at H; replace H := ob H; obtain ⟨t113, A3, H⟩ := H; replace H := ob H; obtain ⟨t114, A4, H⟩ := H; obtain rfl := Option.some.inj H; go_enter Try.func43, Try.ntmps43; try go_wp2_with (first | ((with_reducible refine gate_dst (N := 2) rfl ?_); refine bx_ 2 #[.slice A0_0 l0_0.length c0_0] 39 ?_; intro gb111 hg w5 hbox hb; have BK111 := kp (hbox); have GE111 := kp (bs hg); replace HB := kp (below_step bb hb); clear hb hbox hg) | ((with_reducible refine gate_dst (N := 3) rfl ?_); refine bx_ 3 #[.int .i64 a1_0, .int .i64 a1_1, .int .i64 a1_2] 42 ?_; intro gb112 hg w6 hbox hb; have BK112 := kp (hbox); have GE112 := kp (bs hg); have NB111_112 := kp (bl hg BK111.out); have NB112_111 := kp (bg hg BK111.out); replace BK111 := kp (kb BK111.out hb); replace HB := kp (below_step bb hb); clear hb hbox hg))
 replace BK111 := kp (blk_drew BK111.out); replace BK112 := kp (blk_drew BK112.out); replace HB := kp (below_drew1 HB.out); refine st_ 8 spec_WouldOverflow.tab1 spec_WouldOverflow.bits1 (ha1 BK111 (hz3 BK112)) (fun hHeld HT_ HW_ => ?_); generalize w6.drew = w7 at BK111 BK112 HB hHeld ⊢; refine pq 0 5 HT_ ?_; refine tq 1 6 HT_ HW_ hHeld ?_; refine tq 3 8 HT_ HW_ hHeld ?_; refine on_ 2 (some 7) HT_ (fun K hK => ?_); refine gs_ Try.func55 #[.slice A0_0 l0_0.length c0_0] ?_; with_reducible refine (spec_TotalCost.calls k _ _ l0_0 t113 _ ?side1 ?side2 A3.out).mono ?_
 (case side1 => exact cc HR0_0.out); (case side2 => exact HC0_0.out); rintro e w8 ⟨rfl, hb⟩; refine ⟨_, rfl, ?_⟩; replace BK111 := kp (kb BK111.out hb); replace BK112 := kp (kb BK112.out hb); replace HB := kp (below_step bb hb); (try clear hb); (try clear hk); refine hk_ 7 hK (fun hHeld => ?_); clear hK K; refine on_ 4 (some 9) HT_ (fun K hK => ?_); refine gs_ Try.func77 #[.agg #[.int .i64 a1_0, .int .i64 a1_1, .int .i64 a1_2]] ?_; with_reducible refine (spec_RowCost.calls a1_0 a1_1 a1_2 t114 _ A4.out).mono ?_
 rintro e w9 ⟨rfl, hb⟩; refine ⟨_, rfl, ?_⟩; replace BK111 := kp (kb BK111.out hb); replace BK112 := kp (kb BK112.out hb); replace HB := kp (below_step bb hb); (try clear hb); (try clear hk); refine hk_ 9 hK (fun hHeld => ?_); clear hK K; refine pq 5 10 HT_ ?_; refine pq 6 11 HT_ ?_; refine pq 7 4 HT_ ?_; refine done_ (done_of HT_.out (by kernel_rfl)) ?_; try go_wp2
 go_ret; exact ⟨er, bb⟩
end Go.Proofs.Ytljpfogplcdcjaa.PFnSealedFiles
