/- Out of a copy of the print, with function values told: nothing is claimed here. -/
import Derived.Test.YtljpfogplcdcjaaVQFnSealedFilesx0
import Derived.Test.YtljpfogplcdcjaaVQFnSealedFilesx4
import Derived.Test.YtljpfogplcdcjaaVQFnSealedFilesx11
import Derived.Test.YtljpfogplcdcjaaVShort
import Derived.Test.YtljpfogplcdcjaaVPress
import Derived.Test.YtljpfogplcdcjaaVFoldT
namespace Go.Proofs.Ytljpfogplcdcjaa.PFnSealedFiles
open Go.RowKit Go.Proofs.YtljpfogplcdcjaaW.PrintWords Go.Proofs.YtljpfogplcdcjaaW.PrintLast Go.Proofs.YtljpfogplcdcjaaW.PrintMore Go.Proofs.Ytljpfogplcdcjaa.Short Go.Proofs.Ytljpfogplcdcjaa.Press Go.Proofs.Ytljpfogplcdcjaa.Fold
attribute [local go_sem] max2_int min2_int max_two min_two max_three min_three max_four min_four   -- for this text's walks alone
set_option linter.unusedVariables false
set_option linter.unusedSimpArgs false
def spec_DrawCreateFile.f (k : Nat) (l0 : List Int) : Option ((List (S87)) × Int) := (spec_l1New.f k l0).bind fun bt397 => ((spec_l6Disk.f k bt397.1 bt397.2.1 bt397.2.2).bind fun bt401 => (some (bt401.1, bt401.2.1)))
set_option maxHeartbeats 8000000 in
set_option maxRecDepth 100000 in
theorem spec_DrawCreateFile.calls (k : Nat) (A0 : Option Addr) (c0 : Nat) (l0 : List Int) (r1 : List (S87)) (r2 : Int) (w : World) (hr0 : Kd.C (Kd.int .u8) w A0 l0.length l0) (hc0 : l0.length ≤ c0) (h : spec_DrawCreateFile.f k l0 = some (r1, r2)) :
  Calls Try.prog 29 #[.slice A0 l0.length c0] w fun e w' => ∃ v0_ : Value, e = .returned (.agg #[v0_, .int .i64 r2]) ∧ Kd.N k87 87 w' w.heap.size (fun k_ => (w.heap.size ≤ k_)) v0_ r1 ∧ Below w.heap.size w w' := by
 have hu51 := Try.underlying51; have HR0 := kp hr0; have HC0 := kp hc0; clear hr0 hc0; have HB := kp (Below.refl w.heap.size w); have H := h; clear h; unfold spec_DrawCreateFile.f at H; replace H := ob H; obtain ⟨⟨t397, t398, t399⟩, A2, H⟩ := H; dsimp only at H; replace H := ob H; obtain ⟨⟨t401, t404, t405, t406⟩, A3, H⟩ := H; dsimp only at H; simp only [Option.some.injEq, Prod.mk.injEq] at H; obtain ⟨rfl, rfl⟩ := H; go_enter Try.func29, Try.ntmps29
 go_wp2_with (first | ((with_reducible refine gate_dst (N := 2) rfl ?_); refine bx_ 2 #[.slice none 0 0, .int .i64 0] 51 ?_; intro gb396 hg w4 hbox hb; have BK396 := kp (hbox); have GE396 := kp (bs hg); replace HB := kp (below_step bb hb); clear hb hbox hg) | ((with_reducible refine gate_callee (f := 50) rfl ?_); refine gl_ 4 Try.func50 #[.slice A0 l0.length c0] ?_; (with_reducible refine (spec_l1New.calls k _ _ l0 t397 t398 t399 w _ ?side1 ?side2 ?side3 A2.out).mono ?_); (case side1 => exact bI); (case side2 => exact HR0.out); (case side3 => exact HC0.out); rintro e w5 ⟨g400, rfl, hi, hb, hb2⟩; refine ⟨_, rfl, ?_⟩; replace HB := kp (hb); have HI400 := kp (hi); have NB400_396 := kp (IsS93.ne_blk hi (kb BK396.out hb2) (by decide)); have NB396_400 := kp (Ne.symm (IsS93.ne_blk hi (kb BK396.out hb2) (by decide))); replace BK396 := kp (kb BK396.out hb2); (try clear hb); (try clear hb2); (try clear hi)) | ((with_reducible refine gate_callee (f := 68) rfl ?_); refine gl_ 5 Try.func68 #[.pointer (some ⟨g400, 0, none⟩)] ?_; (with_reducible refine (spec_l6Disk.calls k g400 t397 t398 t399 t401 t404 t405 t406 w _ ?side1 ?side2 A3.out).mono ?_); (case side1 => exact iS HI400.out); (case side2 => exact bI); rintro e w6 ⟨v402, rfl, ho0, hi, hb, hk⟩; refine ⟨_, rfl, ?_⟩; have HO403 := kp (Kd.N_lower (Kd.N_mono (ok' := fun k_ => (w.heap.size ≤ k_) ∧ k_ ≠ gb396 ∧ k_ ≠ g400) ho0 (fun k_ hk_ => ⟨(Nat.le_trans (below_size bI) hk_), (Kd.freshB (g := gb396) (o := .cells #[.slice none 0 0, .int .i64 0] 51 (0, 0)) (kk BK396.out) k_ hk_), (IsS93.fresh (iS HI400.out) k_ hk_)⟩)) (below_size bI)); replace BK396 := kp (KeepBut.blk hk (g' := gb396) (o := .cells #[.slice none 0 0, .int .i64 0] 51 (0, 0)) (kk BK396.out) NB396_400.out (by simp)); replace HB := kp (hb); replace HI400 := kp (hi); (try clear hb); (try clear hk); (try clear hi); (try clear ho0); obtain ⟨Ao7, co7, eo7⟩ := Kd.N_slice HO403.out; subst eo7; have hnb8 := NB396_400.out; have hnc8 := NB400_396.out; obtain ⟨hcz9_0, hcz9_1, hfz9_0, hfz9_1⟩ := bf2 BK396.out))
 refine bodyPost_ret (results_cell_row rfl _ _ gb396 51 #[.slice Ao7 t401.length co7, .int .i64 t404] (0, 0) _ rfl (kq2 BK396.out) Try.underlying51 rfl (by kernel_rfl)) rfl ?_; exact ⟨_, er, by (with_reducible repeat (first | apply Kd.N_alloc | apply Kd.N_drewN | apply Kd.N_drew)); exact Kd.N_mono (Kd.N_far (p := ⟨gb396, 1, none⟩) (Kd.N_far (p := ⟨gb396, 0, none⟩) (Kd.N_mono HO403.out (fun k_ hk => (⟨hk, hk.2.1⟩ : _ ∧ k_ ≠ gb396))) (fun _ hk => hk.2) (.slice Ao7 t401.length co7)) (fun _ hk => hk.2) (.int .i64 t404)) (fun _ hk => hk.1.1), bI⟩
def impl_within.f (a0 : Int) (a1 : Int) (a2 : Int) : Option (Bool) := if a0 ≥ a1 then (some (decide (a0 ≤ a2))) else (some false)
set_option maxHeartbeats 8000000 in
set_option maxRecDepth 100000 in
theorem impl_within.calls (a0 : Int) (a1 : Int) (a2 : Int) (r : Bool) (w : World) (h : impl_within.f a0 a1 a2 = some r) :
  Calls Try.prog 52 #[.int .i64 a0, .int .i64 a1, .int .i64 a2] w fun e w' => e = .returned (.bool r) ∧ Drawn0 w w' := by
 have H := h; clear h; unfold impl_within.f at H; replace H := sp H; rcases H with ⟨c4b0, H⟩ | ⟨c4b0, H⟩
 obtain rfl := Option.some.inj H; rotate_left; obtain rfl := Option.some.inj H
 all_goals
  go_enter Try.func52, Try.ntmps52; go_wp2; go_ret; exact ⟨by first | rfl | (simp; done) | (simp [*]; done), by repeat (first | exact Drawn0.refl _ | apply Drawn0.step)⟩
def impl_IsValidRow.f (a0_0 : Int) (a0_1 : Int) (a0_2 : Int) : Option (Bool) := (impl_within.f a0_0 0 9).bind fun t408 => (if t408 = true then ((impl_within.f a0_1 0 99).bind fun t409 => (if t409 = true then ((impl_within.f a0_2 0 3).bind fun t410 => (some t410)) else (some false))) else (some false))
set_option maxHeartbeats 8000000 in
set_option maxRecDepth 100000 in
theorem impl_IsValidRow.calls (a0_0 : Int) (a0_1 : Int) (a0_2 : Int) (r : Bool) (w : World) (h : impl_IsValidRow.f a0_0 a0_1 a0_2 = some r) :
  Calls Try.prog 81 #[.agg #[.int .i64 a0_0, .int .i64 a0_1, .int .i64 a0_2]] w fun e w' => e = .returned (.bool r) ∧ Below w.heap.size w w' := by
 have hu42 := Try.underlying42; have HB := kp (Below.refl w.heap.size w); have H := h; clear h; unfold impl_IsValidRow.f at H; replace H := ob H; obtain ⟨t408, A2, H⟩ := H; by_cases c3 : t408 = true; subst c3; replace H := ip H; replace H := ob H; obtain ⟨t409, A4, H⟩ := H; by_cases c5 : t409 = true; subst c5; replace H := ip H; replace H := ob H; obtain ⟨t410, A6, H⟩ := H; obtain rfl := Option.some.inj H; rotate_left; replace c5 := Bool.eq_false_iff.mpr c5; subst c5; replace H := ie H; obtain rfl := Option.some.inj H; rotate_left; replace c3 := Bool.eq_false_iff.mpr c3; subst c3; replace H := ie H; obtain rfl := Option.some.inj H
 all_goals
  go_enter Try.func81, Try.ntmps81; go_wp2_with (first | ((with_reducible refine gate_dst (N := 1) rfl ?_); refine bx_ 1 #[.int .i64 a0_0, .int .i64 a0_1, .int .i64 a0_2] 42 ?_; intro gb407 hg w7 hbox hb; have BK407 := kp (hbox); have GE407 := kp (bs hg); replace HB := kp (below_step bb hb); clear hb hbox hg; obtain ⟨hcz8_0, hcz8_1, hcz8_2, hfz8_0, hfz8_1, hfz8_2⟩ := bf3 BK407.out) | ((with_reducible refine gate_callee (f := 52) rfl ?_); refine gl_ 5 Try.func52 #[.int .i64 a0_0, .int .i64 0, .int .i64 9] ?_; (with_reducible refine (impl_within.calls a0_0 0 9 _ _ A2.out).mono ?_); rintro e w' ⟨rfl, ⟨nd, rfl⟩⟩; refine ⟨_, rfl, ?_⟩) | (go_at_call 52; (with_reducible refine (impl_within.calls a0_1 0 99 _ _ A4.out).mono ?_); rintro e w' ⟨rfl, ⟨nd, rfl⟩⟩) | (go_at_call 52; (with_reducible refine (impl_within.calls a0_2 0 3 t410 _ A6.out).mono ?_); rintro e w' ⟨rfl, ⟨nd, rfl⟩⟩)); go_ret; exact ⟨er, bb⟩
def impl_allValid.l0 : Nat → List (S42) → Int → Int → Option (Bool)
 | 0, _, _, _ => none
 | k + 1, x5, x6, x7 => if x7 < x6 then (if 0 ≤ x7 then (if x7 < (x5.length : Int) then ((impl_IsValidRow.f ((rd_T42 x5 x7).f0) ((rd_T42 x5 x7).f1) ((rd_T42 x5 x7).f2)).bind fun t413 => (if t413 = true then (impl_allValid.l0 k x5 x6 (wrap64 (x7 + 1))) else (some false))) else (none)) else (none)) else (some true)
def impl_allValid.f (k : Nat) (l0 : List (S42)) : Option (Bool) := impl_allValid.l0 k l0 (l0.length : Int) 0
set_option maxHeartbeats 8000000 in
set_option maxRecDepth 100000 in
theorem impl_allValid.calls (k : Nat) (A0 : Option Addr) (c0 : Nat) (l0 : List (S42)) (r : Bool) (w : World) (hr0 : Kd.C k42 w A0 l0.length l0) (hc0 : l0.length ≤ c0) (h : impl_allValid.f k l0 = some r) :
  Calls Try.prog 78 #[.slice A0 l0.length c0] w fun e w' => e = .returned (.bool r) ∧ Below w.heap.size w w' := by
 have hu42 := Try.underlying42; have HR0 := kp hr0; have HC0 := kp hc0; clear hr0 hc0; have HB := kp (Below.refl w.heap.size w); have H := h; clear h; unfold impl_allValid.f at H; have H' := kp H; clear H; go_enter Try.func78, Try.ntmps78; go_wp2; go_loopg [7] k (fun kq v7 w' => ∃ (x7_1 : Int), v7 = .int .i64 x7_1 ∧ Aside0 (impl_allValid.l0 kq l0 (l0.length : Int) x7_1 = some r) ∧ Aside0 (kq ≤ k) ∧ Aside0 (Below w.heap.size w w')); case atStart => exact ⟨(0), vr, H', ⟨Nat.le_refl _⟩, ⟨bb⟩⟩
 case round =>
  clear H'; obtain ⟨x7_1, rfl, HA, HK1, HB⟩ := hrel
  cases gk with
  | zero => exact absurd HA.out (by simp [impl_allValid.l0])
  | succ k1 =>
   have H := HA.out; clear HA; simp only [impl_allValid.l0] at H; replace H := sp H; rcases H with ⟨c2b0, H⟩ | ⟨c2b0, H⟩
   ·replace H := sn H; obtain ⟨c3b0, H⟩ := H; replace H := sn H; obtain ⟨c4b0, H⟩ := H; replace H := ob H; obtain ⟨t413, A5, H⟩ := H; by_cases c6 : t413 = true; subst c6; replace H := ip H; have H' := kp H; clear H; have i0_ := kp True.intro; rotate_left; replace c6 := Bool.eq_false_iff.mpr c6; subst c6; replace H := ie H; obtain rfl := Option.some.inj H
    all_goals
     obtain ⟨ad411, rfl, hx411_0, hx411_1, hx411_2, p411, q411⟩ := ra_T42 HR0 HB x7_1 dt dt; go_wp2_with (first | ((with_reducible refine gate_dst (N := 4) rfl ?_); refine bx_ 4 #[.int .i64 0, .int .i64 0, .int .i64 0] 42 ?_; intro gb412 hg w7 hbox hb; have BK412 := kp (hbox); have GE412 := kp (bs hg); replace HB := kp (below_step bb hb); clear hb hbox hg; obtain ⟨hcz8_0, hcz8_1, hcz8_2, hfz8_0, hfz8_1, hfz8_2⟩ := bf3 BK412.out) | ((with_reducible refine gate_callee (f := 81) rfl ?_); refine gl_ 12 Try.func81 #[.agg #[.int .i64 ((rd_T42 l0 x7_1).f0), .int .i64 ((rd_T42 l0 x7_1).f1), .int .i64 ((rd_T42 l0 x7_1).f2)]] ?_; (with_reducible refine (impl_IsValidRow.calls ((rd_T42 l0 x7_1).f0) ((rd_T42 l0 x7_1).f1) ((rd_T42 l0 x7_1).f2) _ _ A5.out).mono ?_); rintro e w9 ⟨rfl, hb⟩; refine ⟨_, rfl, ?_⟩; replace BK412 := kp (blk_below (g := gb412) (o := .cells #[.int .i64 ((rd_T42 l0 x7_1).f0), .int .i64 ((rd_T42 l0 x7_1).f1), .int .i64 ((rd_T42 l0 x7_1).f2)] 42 (0, 0)) (kq3 BK412.out) hb); replace HB := kp (below_step bb hb); (try clear hb)))
     first
     | refine tg i0_ ?_; go_roundg k1; case measure => have := HK1.out; omega
       case rel => exact ⟨(wrap64 (x7_1 + 1)), vr, H', ⟨by have := HK1.out; omega⟩, ⟨bb⟩⟩
     | go_ret; exact ⟨er, bb⟩
   ·obtain rfl := Option.some.inj H; go_wp2; go_ret; exact ⟨er, bb⟩
def impl_AreValidRows.f (k : Nat) (l0 : List (S42)) : Option (Bool) := if (l0.length : Int) ≤ 24 then ((impl_allValid.f k l0).bind fun t414 => (some t414)) else (some false)
set_option maxHeartbeats 8000000 in
set_option maxRecDepth 100000 in
theorem impl_AreValidRows.calls (k : Nat) (A0 : Option Addr) (c0 : Nat) (l0 : List (S42)) (r : Bool) (w : World) (hr0 : Kd.C k42 w A0 l0.length l0) (hc0 : l0.length ≤ c0) (h : impl_AreValidRows.f k l0 = some r) :
  Calls Try.prog 45 #[.slice A0 l0.length c0] w fun e w' => e = .returned (.bool r) ∧ Below w.heap.size w w' := by
 have HR0 := kp hr0; have HC0 := kp hc0; clear hr0 hc0; have HB := kp (Below.refl w.heap.size w); have H := h; clear h; unfold impl_AreValidRows.f at H; by_cases c2 : (l0.length : Int) ≤ 24
 ·rw [if_pos c2] at H; have c2b0 : decide ((l0.length : Int) ≤ 24) = true := decide_eq_true c2; have c2b1 : decide (l0.length ≤ 24) = true := decide_eq_true (by omega); clear c2; replace H := ob H; obtain ⟨t414, A3, H⟩ := H; obtain rfl := Option.some.inj H; go_enter Try.func45, Try.ntmps45; go_wp2_with (first | (go_at_call 78; (with_reducible refine (impl_allValid.calls k _ _ l0 t414 _ ?side1 ?side2 A3.out).mono ?_); (case side1 => exact sC HR0.out); (case side2 => exact HC0.out); rintro e w4 ⟨rfl, hb⟩; replace HB := kp (below_step bb hb); (try clear hb))); go_ret; exact ⟨er, bb⟩
 ·rw [if_neg c2] at H; have c2b0 : decide ((l0.length : Int) ≤ 24) = false := decide_eq_false c2; have c2b1 : decide (l0.length ≤ 24) = false := decide_eq_false (by omega); clear c2; obtain rfl := Option.some.inj H; go_enter Try.func45, Try.ntmps45; go_wp2; go_ret; exact ⟨er, bb⟩
def impl_RowCost.f (a0_0 : Int) (a0_1 : Int) (a0_2 : Int) : Option (Int) := (impl_IsValidRow.f a0_0 a0_1 a0_2).bind fun t416 => (if t416 = true then (some (wrap64 (1 + a0_2))) else (some 0))
set_option maxHeartbeats 8000000 in
set_option maxRecDepth 100000 in
theorem impl_RowCost.calls (a0_0 : Int) (a0_1 : Int) (a0_2 : Int) (r : Int) (w : World) (h : impl_RowCost.f a0_0 a0_1 a0_2 = some r) :
  Calls Try.prog 56 #[.agg #[.int .i64 a0_0, .int .i64 a0_1, .int .i64 a0_2]] w fun e w' => e = .returned (.int .i64 r) ∧ Below w.heap.size w w' := by
 have hu42 := Try.underlying42; have HB := kp (Below.refl w.heap.size w); have H := h; clear h; unfold impl_RowCost.f at H; replace H := ob H; obtain ⟨t416, A2, H⟩ := H; by_cases c3 : t416 = true; subst c3; replace H := ip H; obtain rfl := Option.some.inj H; rotate_left; replace c3 := Bool.eq_false_iff.mpr c3; subst c3; replace H := ie H; obtain rfl := Option.some.inj H
 all_goals
  go_enter Try.func56, Try.ntmps56; go_wp2_with (first | ((with_reducible refine gate_dst (N := 1) rfl ?_); refine bx_ 1 #[.int .i64 a0_0, .int .i64 a0_1, .int .i64 a0_2] 42 ?_; intro gb415 hg w4 hbox hb; have BK415 := kp (hbox); have GE415 := kp (bs hg); replace HB := kp (below_step bb hb); clear hb hbox hg; obtain ⟨hcz5_0, hcz5_1, hcz5_2, hfz5_0, hfz5_1, hfz5_2⟩ := bf3 BK415.out) | ((with_reducible refine gate_callee (f := 81) rfl ?_); refine gl_ 4 Try.func81 #[.agg #[.int .i64 a0_0, .int .i64 a0_1, .int .i64 a0_2]] ?_; (with_reducible refine (impl_IsValidRow.calls a0_0 a0_1 a0_2 _ _ A2.out).mono ?_); rintro e w6 ⟨rfl, hb⟩; refine ⟨_, rfl, ?_⟩; replace BK415 := kp (kb BK415.out hb); replace HB := kp (below_step bb hb); (try clear hb); (try (have hz_ := bf3 BK415.out; obtain ⟨hcz7_0, hcz7_1, hcz7_2, hfz7_0, hfz7_1, hfz7_2⟩ := hz_)))); go_ret; exact ⟨er, bb⟩
def impl_TotalCost.l0 : Nat → Int → List (S42) → Int → Int → Option (Int)
 | 0, _, _, _, _ => none
 | k + 1, x3, x6, x7, x8 => if x8 < x7 then (if 0 ≤ x8 then (if x8 < (x6.length : Int) then ((impl_RowCost.f ((rd_T42 x6 x8).f0) ((rd_T42 x6 x8).f1) ((rd_T42 x6 x8).f2)).bind fun t419 => (impl_TotalCost.l0 k (wrap64 (x3 + t419)) x6 x7 (wrap64 (x8 + 1)))) else (none)) else (none)) else (some x3)
def impl_TotalCost.f (k : Nat) (l0 : List (S42)) : Option (Int) := impl_TotalCost.l0 k 0 l0 (l0.length : Int) 0
set_option maxHeartbeats 8000000 in
set_option maxRecDepth 100000 in
theorem impl_TotalCost.calls (k : Nat) (A0 : Option Addr) (c0 : Nat) (l0 : List (S42)) (r : Int) (w : World) (hr0 : Kd.C k42 w A0 l0.length l0) (hc0 : l0.length ≤ c0) (h : impl_TotalCost.f k l0 = some r) :
  Calls Try.prog 53 #[.slice A0 l0.length c0] w fun e w' => e = .returned (.int .i64 r) ∧ Below w.heap.size w w' := by
 have hu42 := Try.underlying42; have HR0 := kp hr0; have HC0 := kp hc0; clear hr0 hc0; have HB := kp (Below.refl w.heap.size w); have H := h; clear h; unfold impl_TotalCost.f at H; have H' := kp H; clear H; go_enter Try.func53, Try.ntmps53; go_wp2; go_loopg [3, 8] k (fun kq v3 v8 w' => ∃ (x3_1 : Int) (x8_1 : Int), v3 = .int .i64 x3_1 ∧ v8 = .int .i64 x8_1 ∧ Aside0 (impl_TotalCost.l0 kq x3_1 l0 (l0.length : Int) x8_1 = some r) ∧ Aside0 (kq ≤ k) ∧ Aside0 (Below w.heap.size w w')); case atStart => exact ⟨(0), (0), vr, vr, H', ⟨Nat.le_refl _⟩, ⟨bb⟩⟩
 case round =>
  clear H'; obtain ⟨x3_1, x8_1, rfl, rfl, HA, HK1, HB⟩ := hrel
  cases gk with
  | zero => exact absurd HA.out (by simp [impl_TotalCost.l0])
  | succ k1 =>
   have H := HA.out; clear HA; simp only [impl_TotalCost.l0] at H; replace H := sp H; rcases H with ⟨c2b0, H⟩ | ⟨c2b0, H⟩
   ·replace H := sn H; obtain ⟨c3b0, H⟩ := H; replace H := sn H; obtain ⟨c4b0, H⟩ := H; replace H := ob H; obtain ⟨t419, A5, H⟩ := H; have H' := kp H; clear H; obtain ⟨ad417, rfl, hx417_0, hx417_1, hx417_2, p417, q417⟩ := ra_T42 HR0 HB x8_1 dt dt; go_wp2_with (first | ((with_reducible refine gate_dst (N := 5) rfl ?_); refine bx_ 5 #[.int .i64 0, .int .i64 0, .int .i64 0] 42 ?_; intro gb418 hg w6 hbox hb; have BK418 := kp (hbox); have GE418 := kp (bs hg); replace HB := kp (below_step bb hb); clear hb hbox hg; obtain ⟨hcz7_0, hcz7_1, hcz7_2, hfz7_0, hfz7_1, hfz7_2⟩ := bf3 BK418.out) | ((with_reducible refine gate_callee (f := 56) rfl ?_); refine gl_ 14 Try.func56 #[.agg #[.int .i64 ((rd_T42 l0 x8_1).f0), .int .i64 ((rd_T42 l0 x8_1).f1), .int .i64 ((rd_T42 l0 x8_1).f2)]] ?_; (with_reducible refine (impl_RowCost.calls ((rd_T42 l0 x8_1).f0) ((rd_T42 l0 x8_1).f1) ((rd_T42 l0 x8_1).f2) t419 _ A5.out).mono ?_); rintro e w8 ⟨rfl, hb⟩; refine ⟨_, rfl, ?_⟩; replace BK418 := kp (blk_below (g := gb418) (o := .cells #[.int .i64 ((rd_T42 l0 x8_1).f0), .int .i64 ((rd_T42 l0 x8_1).f1), .int .i64 ((rd_T42 l0 x8_1).f2)] 42 (0, 0)) (kq3 BK418.out) hb); replace HB := kp (below_step bb hb); (try clear hb))); go_roundg k1; case measure => have := HK1.out; omega
    case rel => exact ⟨(wrap64 (x3_1 + t419)), (wrap64 (x8_1 + 1)), vr, vr, H', ⟨by have := HK1.out; omega⟩, ⟨bb⟩⟩
   ·obtain rfl := Option.some.inj H; go_wp2; go_ret; exact ⟨er, bb⟩
def impl_IsValidPage.f (k : Nat) (l0_0 : List (S42)) : Option (Bool) := (impl_AreValidRows.f k l0_0).bind fun t421 => (if t421 = true then ((impl_TotalCost.f k l0_0).bind fun t422 => ((impl_within.f t422 1 8).bind fun t423 => (some t423))) else (some false))
set_option maxHeartbeats 8000000 in
set_option maxRecDepth 100000 in
theorem impl_IsValidPage.calls (k : Nat) (A0_0 : Option Addr) (c0_0 : Nat) (l0_0 : List (S42)) (r : Bool) (w : World) (hr0_0 : Kd.C k42 w A0_0 l0_0.length l0_0) (hc0_0 : l0_0.length ≤ c0_0) (h : impl_IsValidPage.f k l0_0 = some r) :
  Calls Try.prog 18 #[.agg #[.slice A0_0 l0_0.length c0_0]] w fun e w' => e = .returned (.bool r) ∧ Below w.heap.size w w' := by
 have hu39 := Try.underlying39; have HR0_0 := kp hr0_0; have HC0_0 := kp hc0_0; clear hr0_0 hc0_0; have HB := kp (Below.refl w.heap.size w); have H := h; clear h; unfold impl_IsValidPage.f at H; replace H := ob H; obtain ⟨t421, A2, H⟩ := H; by_cases c3 : t421 = true; subst c3; replace H := ip H; replace H := ob H; obtain ⟨t422, A4, H⟩ := H; replace H := ob H; obtain ⟨t423, A5, H⟩ := H; obtain rfl := Option.some.inj H; rotate_left; replace c3 := Bool.eq_false_iff.mpr c3; subst c3; replace H := ie H; obtain rfl := Option.some.inj H
 all_goals
  go_enter Try.func18, Try.ntmps18; go_wp2_with (first | ((with_reducible refine gate_dst (N := 1) rfl ?_); refine bx_ 1 #[.slice A0_0 l0_0.length c0_0] 39 ?_; intro gb420 hg w6 hbox hb; have BK420 := kp (hbox); have GE420 := kp (bs hg); replace HB := kp (below_step bb hb); clear hb hbox hg; obtain ⟨hcz7_0, hfz7_0⟩ := bf1 BK420.out) | ((with_reducible refine gate_callee (f := 45) rfl ?_); refine gl_ 5 Try.func45 #[.slice A0_0 l0_0.length c0_0] ?_; (with_reducible refine (impl_AreValidRows.calls k _ _ l0_0 _ _ ?side1 ?side2 A2.out).mono ?_); (case side1 => exact cc HR0_0.out); (case side2 => exact HC0_0.out); rintro e w8 ⟨rfl, hb⟩; refine ⟨_, rfl, ?_⟩; replace BK420 := kp (kb BK420.out hb); replace HB := kp (below_step bb hb); (try clear hb); (try (have hz_ := bf1 BK420.out; obtain ⟨hcz9_0, hfz9_0⟩ := hz_))) | (go_at_call 53; (with_reducible refine (impl_TotalCost.calls k _ _ l0_0 t422 _ ?side1 ?side2 A4.out).mono ?_); (case side1 => exact cc HR0_0.out); (case side2 => exact HC0_0.out); rintro e w10 ⟨rfl, hb⟩; replace BK420 := kp (kb BK420.out hb); replace HB := kp (below_step bb hb); (try clear hb)) | (go_at_call 52; (with_reducible refine (impl_within.calls t422 1 8 t423 _ A5.out).mono ?_); rintro e w' ⟨rfl, ⟨nd, rfl⟩⟩)); go_ret; exact ⟨er, bb⟩
def impl_validPages.l0 : Nat → List (S39) → Int → Int → Option (Bool)
 | 0, _, _, _ => none
 | k + 1, x5, x6, x7 => if x7 < x6 then (if 0 ≤ x7 then (if x7 < (x5.length : Int) then ((impl_IsValidPage.f k ((rd_T39 x5 x7).f0)).bind fun t426 => (if t426 = true then (impl_validPages.l0 k x5 x6 (wrap64 (x7 + 1))) else (some false))) else (none)) else (none)) else (some true)
def impl_validPages.f (k : Nat) (l0 : List (S39)) : Option (Bool) := impl_validPages.l0 k l0 (l0.length : Int) 0
set_option maxHeartbeats 8000000 in
set_option maxRecDepth 100000 in
theorem impl_validPages.calls (k : Nat) (A0 : Option Addr) (c0 : Nat) (l0 : List (S39)) (r : Bool) (w : World) (hr0 : Kd.C k39 w A0 l0.length l0) (hc0 : l0.length ≤ c0) (h : impl_validPages.f k l0 = some r) :
  Calls Try.prog 65 #[.slice A0 l0.length c0] w fun e w' => e = .returned (.bool r) ∧ Below w.heap.size w w' := by
 have hu39 := Try.underlying39; have HR0 := kp hr0; have HC0 := kp hc0; clear hr0 hc0; have HB := kp (Below.refl w.heap.size w); have H := h; clear h; unfold impl_validPages.f at H; have H' := kp H; clear H; go_enter Try.func65, Try.ntmps65; go_wp2; go_loopg [7] k (fun kq v7 w' => ∃ (x7_1 : Int), v7 = .int .i64 x7_1 ∧ Aside0 (impl_validPages.l0 kq l0 (l0.length : Int) x7_1 = some r) ∧ Aside0 (kq ≤ k) ∧ Aside0 (Below w.heap.size w w')); case atStart => exact ⟨(0), vr, H', ⟨Nat.le_refl _⟩, ⟨bb⟩⟩
 case round =>
  clear H'; obtain ⟨x7_1, rfl, HA, HK1, HB⟩ := hrel
  cases gk with
  | zero => exact absurd HA.out (by simp [impl_validPages.l0])
  | succ k1 =>
   have H := HA.out; clear HA; simp only [impl_validPages.l0] at H; replace H := sp H; rcases H with ⟨c2b0, H⟩ | ⟨c2b0, H⟩
   ·replace H := sn H; obtain ⟨c3b0, H⟩ := H; replace H := sn H; obtain ⟨c4b0, H⟩ := H; replace H := ob H; obtain ⟨t426, A5, H⟩ := H; by_cases c6 : t426 = true; subst c6; replace H := ip H; have H' := kp H; clear H; have i0_ := kp True.intro; rotate_left; replace c6 := Bool.eq_false_iff.mpr c6; subst c6; replace H := ie H; obtain rfl := Option.some.inj H
    all_goals
     obtain ⟨ad424, A424_0, c424_0, rfl, hx424_0, HC424_0, HR424_0, p424, q424⟩ := ra_T39 HR0 HB x7_1 dt dt; go_wp2_with (first | ((with_reducible refine gate_dst (N := 4) rfl ?_); refine bx_ 4 #[.slice none 0 0] 39 ?_; intro gb425 hg w7 hbox hb; have BK425 := kp (hbox); have GE425 := kp (bs hg); replace HB := kp (below_step bb hb); clear hb hbox hg; obtain ⟨hcz8_0, hfz8_0⟩ := bf1 BK425.out) | ((with_reducible refine gate_callee (f := 18) rfl ?_); refine gl_ 12 Try.func18 #[.agg #[.slice A424_0 ((rd_T39 l0 x7_1).f0).length c424_0]] ?_; (with_reducible refine (impl_IsValidPage.calls k1 _ _ ((rd_T39 l0 x7_1).f0) _ _ ?side1 ?side2 A5.out).mono ?_); (case side1 => exact Kd.C_below HR424_0.out bb); (case side2 => exact HC424_0.out); rintro e w9 ⟨rfl, hb⟩; refine ⟨_, rfl, ?_⟩; replace BK425 := kp (blk_below (g := gb425) (o := .cells #[.slice A424_0 ((rd_T39 l0 x7_1).f0).length c424_0] 39 (0, 0)) (kq1 BK425.out) hb); replace HB := kp (below_step bb hb); (try clear hb)))
     first
     | refine tg i0_ ?_; go_roundg k1; case measure => have := HK1.out; omega
       case rel => exact ⟨(wrap64 (x7_1 + 1)), vr, H', ⟨by have := HK1.out; omega⟩, ⟨bb⟩⟩
     | go_ret; exact ⟨er, bb⟩
   ·obtain rfl := Option.some.inj H; go_wp2; go_ret; exact ⟨er, bb⟩
def impl_CountPages.l0 : Nat → Int → List (S87) → Int → Int → Option (Int)
 | 0, _, _, _, _ => none
 | k + 1, x3, x7, x8, x9 => if x9 < x8 then (if 0 ≤ x9 then (if x9 < (x7.length : Int) then (impl_CountPages.l0 k (wrap64 (x3 + (((rd_T87 x7 x9).f1).length : Int))) x7 x8 (wrap64 (x9 + 1))) else (none)) else (none)) else (some x3)
def impl_CountPages.f (k : Nat) (l0_0 : List (S87)) (a0_1 : Int) : Option (Int) := impl_CountPages.l0 k 0 l0_0 (l0_0.length : Int) 0
set_option maxHeartbeats 8000000 in
set_option maxRecDepth 100000 in
theorem impl_CountPages.calls (k : Nat) (A0_0 : Option Addr) (c0_0 : Nat) (l0_0 : List (S87)) (a0_1 : Int) (r : Int) (w : World) (hr0_0 : Kd.C k87 w A0_0 l0_0.length l0_0) (hc0_0 : l0_0.length ≤ c0_0) (h : impl_CountPages.f k l0_0 a0_1 = some r) :
  Calls Try.prog 71 #[.agg #[.slice A0_0 l0_0.length c0_0, .int .i64 a0_1]] w fun e w' => e = .returned (.int .i64 r) ∧ Below w.heap.size w w' := by
 have hu51 := Try.underlying51; have hu87 := Try.underlying87; have HR0_0 := kp hr0_0; have HC0_0 := kp hc0_0; clear hr0_0 hc0_0; have HB := kp (Below.refl w.heap.size w); have H := h; clear h; unfold impl_CountPages.f at H; have H' := kp H; clear H; go_enter Try.func71, Try.ntmps71; go_wp2_with (first | ((with_reducible refine gate_dst (N := 1) rfl ?_); refine bx_ 1 #[.slice A0_0 l0_0.length c0_0, .int .i64 a0_1] 51 ?_; intro gb427 hg w2 hbox hb; have BK427 := kp (hbox); have GE427 := kp (bs hg); replace HB := kp (below_step bb hb); clear hb hbox hg; obtain ⟨hcz3_0, hcz3_1, hfz3_0, hfz3_1⟩ := bf2 BK427.out)); (try simp only [Act.put, List.setIfInBounds_toArray, List.set_cons_zero, List.set_cons_succ]); go_loopg [3, 9] k (fun kq v3 v9 w' => ∃ (x3_1 : Int) (x9_1 : Int), v3 = .int .i64 x3_1 ∧ v9 = .int .i64 x9_1 ∧ Aside0 (impl_CountPages.l0 kq x3_1 l0_0 (l0_0.length : Int) x9_1 = some r) ∧ Aside0 (kq ≤ k) ∧ Aside0 (w'.heap[gb427]? = some (.cells #[(.slice A0_0 l0_0.length c0_0), .int .i64 a0_1] 51 (0, 0))) ∧ Aside0 (Below w.heap.size w w')); case atStart => exact ⟨(0), (0), vr, vr, H', ⟨Nat.le_refl _⟩, ⟨kk BK427.out⟩, ⟨bb⟩⟩
 case round =>
  clear H'; try clear hcz3_0
  try clear hcz3_1
  try clear hfz3_0
  try clear hfz3_1
  obtain ⟨x3_1, x9_1, rfl, rfl, HA, HK1, BK427, HB⟩ := hrel
  cases gk with
  | zero => exact absurd HA.out (by simp [impl_CountPages.l0])
  | succ k1 =>
   have H := HA.out; clear HA; simp only [impl_CountPages.l0] at H; replace H := sp H; rcases H with ⟨c4b0, H⟩ | ⟨c4b0, H⟩
   ·replace H := sn H; obtain ⟨c5b0, H⟩ := H; replace H := sn H; obtain ⟨c6b0, H⟩ := H; have H' := kp H; clear H; obtain ⟨ad428, A428_1, c428_1, rfl, hx428_0, hx428_1, hx428_2, hx428_3, HC428_1, HR428_1, p428, q428⟩ := ra_T87 HR0_0 HB x9_1 dt dt; go_wp2_with (first | ((with_reducible refine gate_dst (N := 5) rfl ?_); refine bx_ 5 #[.int .i64 0, .slice none 0 0, .int .i64 0, .bool false] 87 ?_; intro gb429 hg w7 hbox hb; have BK429 := kp (hbox); have GE429 := kp (bs hg); have NB427_429 := kp (bl hg BK427.out); have NB429_427 := kp (bg hg BK427.out); replace BK427 := kp (kb BK427.out hb); replace HB := kp (below_step bb hb); clear hb hbox hg; have hnb8 := NB429_427.out; have hnc8 := NB427_429.out; obtain ⟨hcz9_0, hcz9_1, hcz9_2, hcz9_3, hfz9_0, hfz9_1, hfz9_2, hfz9_3⟩ := bf4 BK429.out)); go_roundg k1; case measure => have := HK1.out; omega
    case rel => exact ⟨(wrap64 (x3_1 + (((rd_T87 l0_0 x9_1).f1).length : Int))), (wrap64 (x9_1 + 1)), vr, vr, H', ⟨by have := HK1.out; omega⟩, ⟨kf BK427.out⟩, ⟨bb⟩⟩
   ·obtain rfl := Option.some.inj H; go_wp2; go_ret; exact ⟨er, bb⟩
end Go.Proofs.Ytljpfogplcdcjaa.PFnSealedFiles
