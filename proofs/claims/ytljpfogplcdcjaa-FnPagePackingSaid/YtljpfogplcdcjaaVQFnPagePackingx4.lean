/- Out of a copy of the print, with function values told: nothing is claimed here. -/
import Derived.Test.YtljpfogplcdcjaaVQFnPagePackingx0
import Derived.Test.YtljpfogplcdcjaaVQFnPagePackingx3
import Derived.Test.YtljpfogplcdcjaaVShort
import Derived.Test.YtljpfogplcdcjaaVPress
namespace Go.Proofs.Ytljpfogplcdcjaa.PFnPagePacking
open Go.RowKit Go.Proofs.YtljpfogplcdcjaaW.PrintWords Go.Proofs.YtljpfogplcdcjaaW.PrintLast Go.Proofs.YtljpfogplcdcjaaW.PrintMore Go.Proofs.Ytljpfogplcdcjaa.Short Go.Proofs.Ytljpfogplcdcjaa.Press
attribute [local go_sem] max2_int min2_int max_two min_two max_three min_three max_four min_four   -- for this text's walks alone
set_option linter.unusedVariables false
set_option linter.unusedSimpArgs false
def impl_TotalCost.l0 : Nat → Int → List (S42) → Int → Int → Option (Int)
 | 0, _, _, _, _ => none
 | k + 1, x3, x6, x7, x8 => if x8 < x7 then (if 0 ≤ x8 then (if x8 < (x6.length : Int) then ((impl_RowCost.f ((rd_T42 x6 x8).f0) ((rd_T42 x6 x8).f1) ((rd_T42 x6 x8).f2)).bind fun t144 => (impl_TotalCost.l0 k (wrap64 (x3 + t144)) x6 x7 (wrap64 (x8 + 1)))) else (none)) else (none)) else (some x3)
def impl_TotalCost.f (k : Nat) (l0 : List (S42)) : Option (Int) := impl_TotalCost.l0 k 0 l0 (l0.length : Int) 0
theorem impl_TotalCost.mono_l : ∀ k, (∀ y0 y1 y2 y3, LeO (impl_TotalCost.l0 k y0 y1 y2 y3) (impl_TotalCost.l0 (k + 1) y0 y1 y2 y3))
 | 0 => fun _ _ _ _ r h => by simp [impl_TotalCost.l0] at h
 | k + 1 => by
  have ih0 := impl_TotalCost.mono_l k
  ·intro y0 y1 y2 y3
   unfold impl_TotalCost.l0
   repeat' first
   | (with_reducible exact ih0 _ _ _ _)
   | (with_reducible exact LeO.refl _)
   | (with_reducible exact LeO.none _)
   | (with_reducible refine LeO.ite ?_ ?_)
   | (with_reducible refine LeO.bind ?_ (fun _ => ?_))
theorem impl_TotalCost.mono : ∀ a0 k, LeO (impl_TotalCost.f k a0) (impl_TotalCost.f (k + 1) a0) := by
 intro a0 k
 have ih0 := impl_TotalCost.mono_l k
 unfold impl_TotalCost.f
 repeat' first
   | (with_reducible exact ih0 _ _ _ _)
   | (with_reducible exact LeO.refl _)
   | (with_reducible exact LeO.none _)
   | (with_reducible refine LeO.ite ?_ ?_)
   | (with_reducible refine LeO.bind ?_ (fun _ => ?_))
set_option maxHeartbeats 8000000 in
set_option maxRecDepth 100000 in
theorem impl_TotalCost.calls (k : Nat) (A0 : Option Addr) (c0 : Nat) (l0 : List (S42)) (r : Int) (w : World) (hr0 : Kd.C k42 w A0 l0.length l0) (hc0 : l0.length ≤ c0) (h : impl_TotalCost.f k l0 = some r) :
  Calls Try.prog 53 #[.slice A0 l0.length c0] w fun e w' => e = .returned (.int .i64 r) ∧ Below w.heap.size w w' := by
 have hu42 := Try.underlying42
 have HR0 := kp hr0
 have HC0 := kp hc0
 clear hr0 hc0
 have HB := kp (Below.refl w.heap.size w)
 have H : (impl_TotalCost.l0 k 0 l0 (l0.length : Int) 0) = some r := h
 clear h
 have H' := kp H
 clear H
 go_enter Try.func53, Try.ntmps53
 go_wp2
 go_loopg [3, 8] k (fun kq v3 v8 w' => ∃ (x3_1 : Int) (x8_1 : Int), v3 = .int .i64 x3_1 ∧ v8 = .int .i64 x8_1 ∧ Aside0 (impl_TotalCost.l0 kq x3_1 l0 (l0.length : Int) x8_1 = some r) ∧ Aside0 (kq ≤ k) ∧ Aside0 (Below w.heap.size w w'))
 case atStart => exact ⟨(0), (0), (by first | rfl | (simp; done) | (simp [*]; done)), (by first | rfl | (simp; done) | (simp [*]; done)), H', ⟨Nat.le_refl _⟩, ⟨bb⟩⟩
 case round =>
  clear H'; obtain ⟨x3_1, x8_1, rfl, rfl, HA, HK1, HB⟩ := hrel
  cases gk with
  | zero => exact absurd HA.out (by simp [impl_TotalCost.l0])
  | succ k1 =>
   have H := HA.out; clear HA; simp only [impl_TotalCost.l0] at H
   by_cases c2 : x8_1 < (l0.length : Int)
   ·rw [if_pos c2] at H; have c2b0 : decide (x8_1 < (l0.length : Int)) = true := decide_eq_true c2; clear c2
    by_cases c3 : 0 ≤ x8_1
    ·rw [if_pos c3] at H; have c3b0 : decide (0 ≤ x8_1) = true := decide_eq_true c3; clear c3
     by_cases c4 : x8_1 < (l0.length : Int)
     ·rw [if_pos c4] at H; have c4b0 : decide (x8_1 < (l0.length : Int)) = true := decide_eq_true c4; clear c4; replace H := Option.bind_eq_some_iff.mp H; obtain ⟨t144, A50, H⟩ := H; replace H : (impl_TotalCost.l0 k1 (wrap64 (x3_1 + t144)) l0 (l0.length : Int) (wrap64 (x8_1 + 1))) = some r := H; have A5 := kp A50; clear A50; have H' := kp H; clear H; have p142 : 0 ≤ (x8_1 : Int) := dt; have q142 : x8_1 < (l0.length : Int) := dt; obtain ⟨ad142, e142, hx142_0, hx142_1, hx142_2⟩ := at_T42 HR0.out x8_1 p142 q142; cases e142; replace hx142_0 := kc HB.out hx142_0; replace hx142_1 := kc HB.out hx142_1; replace hx142_2 := kc HB.out hx142_2; replace p142 := eq_true p142; replace q142 := eq_true q142
      go_wp2_with (first | ((with_reducible refine gate_dst (N := 5) rfl ?_); refine bx_ 5 #[.int .i64 0, .int .i64 0, .int .i64 0] 42 ?_; intro gb143 hg w6 hbox hb; have BK143 := kp (hbox); have GW143 := kp (bs hg); have GE143 := kp (bs hg); replace HB := kp (below_step bb hb); clear hb hbox hg; obtain ⟨hcz7_0, hcz7_1, hcz7_2, hfz7_0, hfz7_1, hfz7_2⟩ := bf3 BK143.out) | ((with_reducible refine gate_callee (f := 56) rfl ?_); refine gl_ 14 Try.func56 #[.agg #[.int .i64 ((rd_T42 l0 x8_1).f0), .int .i64 ((rd_T42 l0 x8_1).f1), .int .i64 ((rd_T42 l0 x8_1).f2)]] ?_; (with_reducible refine (impl_RowCost.calls ((rd_T42 l0 x8_1).f0) ((rd_T42 l0 x8_1).f1) ((rd_T42 l0 x8_1).f2) t144 _ A5.out).mono ?_); rintro e w8 ⟨rfl, hb⟩; refine ⟨_, rfl, ?_⟩; replace BK143 := kp (blk_below (g := gb143) (o := .cells #[.int .i64 ((rd_T42 l0 x8_1).f0), .int .i64 ((rd_T42 l0 x8_1).f1), .int .i64 ((rd_T42 l0 x8_1).f2)] 42 (0, 0)) (by refine blk_put (cs := #[.int .i64 ((rd_T42 l0 x8_1).f0), .int .i64 ((rd_T42 l0 x8_1).f1), .int .i64 0]) ?_ 2 _ rfl; refine blk_put (cs := #[.int .i64 ((rd_T42 l0 x8_1).f0), .int .i64 0, .int .i64 0]) ?_ 1 _ rfl; refine blk_put (cs := #[.int .i64 0, .int .i64 0, .int .i64 0]) ?_ 0 _ rfl; (with_reducible repeat (first | apply bN | apply bD | apply bA)); exact BK143.out) hb); replace HB := kp (below_step bb hb); (try clear hb)))
      go_roundg k1
      case measure => have := HK1.out; omega
      case rel => exact ⟨(wrap64 (x3_1 + t144)), (wrap64 (x8_1 + 1)), (by first | rfl | (simp; done) | (simp [*]; done)), (by first | rfl | (simp; done) | (simp [*]; done)), H', ⟨by have := HK1.out; omega⟩, ⟨bb⟩⟩
     ·rw [if_neg c4] at H; exact absurd H (by simp)
    ·rw [if_neg c3] at H; exact absurd H (by simp)
   ·rw [if_neg c2] at H; have c2b0 : decide (x8_1 < (l0.length : Int)) = false := decide_eq_false c2; clear c2; obtain rfl := Option.some.inj H; go_wp2; go_ret; exact ⟨er, bb⟩
def impl_WouldOverflow.f (k : Nat) (l0_0 : List (S42)) (a1_0 : Int) (a1_1 : Int) (a1_2 : Int) : Option (Bool) := (impl_TotalCost.f k l0_0).bind fun t147 => ((impl_RowCost.f a1_0 a1_1 a1_2).bind fun t148 => (some (decide ((wrap64 (t147 + t148)) > 8))))
theorem impl_WouldOverflow.mono : ∀ a0 a1 a2 a3 k, LeO (impl_WouldOverflow.f k a0 a1 a2 a3) (impl_WouldOverflow.f (k + 1) a0 a1 a2 a3) := by
 intro a0 a1 a2 a3 k
 unfold impl_WouldOverflow.f
 repeat' first
   | (with_reducible exact impl_TotalCost.mono _ _)
   | (with_reducible exact LeO.refl _)
   | (with_reducible exact LeO.none _)
   | (with_reducible refine LeO.ite ?_ ?_)
   | (with_reducible refine LeO.bind ?_ (fun _ => ?_))
def impl_WouldOverflow.T1 : Bool × List (List Nat × List Nat) := (true, [([], []), ([0], [0]), ([1], [1]), ([], []), ([3, 2], [3]), ([2, 4], [2, 4]), ([5], [5]), ([6, 4, 0, 1, 2, 3, 4, 5, 6], [6])])
def impl_WouldOverflow.B1 : List Nat := [0, 1, 3, 0, 15, 31, 63, 127]
theorem impl_WouldOverflow.tab1 : rtab .any (opsOf Try.f20 1) = impl_WouldOverflow.T1 := by kernel_rfl
theorem impl_WouldOverflow.bits1 : waitsOk impl_WouldOverflow.T1.2 impl_WouldOverflow.B1 = true := by kernel_rfl
set_option maxHeartbeats 8000000 in
set_option maxRecDepth 100000 in
theorem impl_WouldOverflow.calls (k : Nat) (A0_0 : Option Addr) (c0_0 : Nat) (l0_0 : List (S42)) (a1_0 : Int) (a1_1 : Int) (a1_2 : Int) (r : Bool) (w : World) (hr0_0 : Kd.C k42 w A0_0 l0_0.length l0_0) (hc0_0 : l0_0.length ≤ c0_0) (h : impl_WouldOverflow.f k l0_0 a1_0 a1_1 a1_2 = some r) :
  Calls Try.prog 20 #[.agg #[.slice A0_0 l0_0.length c0_0], .agg #[.int .i64 a1_0, .int .i64 a1_1, .int .i64 a1_2]] w fun e w' => e = .returned (.bool r) ∧ Below w.heap.size w w' := by
 have hu39 := Try.underlying39
 have hu42 := Try.underlying42
 have HR0_0 := kp hr0_0
 have HC0_0 := kp hc0_0
 clear hr0_0 hc0_0
 have HB := kp (Below.refl w.heap.size w)
 have H : ((impl_TotalCost.f k l0_0).bind fun t147 => ((impl_RowCost.f a1_0 a1_1 a1_2).bind fun t148 => (some (decide ((wrap64 (t147 + t148)) > 8))))) = some r := h
 clear h
 replace H := Option.bind_eq_some_iff.mp H
 obtain ⟨t147, A30, H⟩ := H
 replace H : ((impl_RowCost.f a1_0 a1_1 a1_2).bind fun t148 => (some (decide ((wrap64 (t147 + t148)) > 8)))) = some r := H
 have A3 := kp A30
 clear A30
 replace H := Option.bind_eq_some_iff.mp H
 obtain ⟨t148, A40, H⟩ := H
 replace H : (some (decide ((wrap64 (t147 + t148)) > 8))) = some r := H
 have A4 := kp A40
 clear A40
 obtain rfl := Option.some.inj H
 go_enter Try.func20, Try.ntmps20
 try go_wp2_with (first | ((with_reducible refine gate_dst (N := 2) rfl ?_); refine bx_ 2 #[.slice A0_0 l0_0.length c0_0] 39 ?_; intro gb145 hg w5 hbox hb; have BK145 := kp (hbox); have GW145 := kp (bs hg); have GE145 := kp (bs hg); replace HB := kp (below_step bb hb); clear hb hbox hg) | ((with_reducible refine gate_dst (N := 3) rfl ?_); refine bx_ 3 #[.int .i64 a1_0, .int .i64 a1_1, .int .i64 a1_2] 42 ?_; intro gb146 hg w6 hbox hb; have BK146 := kp (hbox); have GW146 := kp (bs hg); have GE146 := kp (bs hg); have NB145_146 := kp (bl hg BK145.out); have NB146_145 := kp (bg hg BK145.out); replace BK145 := kp (kb BK145.out hb); replace HB := kp (below_step bb hb); clear hb hbox hg))
 replace BK145 := kp (blk_drew BK145.out); replace BK146 := kp (blk_drew BK146.out); replace HB := kp (below_drew1 HB.out)
 refine start_ (n := 8) (S := fun w' => w'.cell? ⟨gb145, 0, none⟩ = some (.slice A0_0 l0_0.length c0_0) ∧ w'.cell? ⟨gb146, 0, none⟩ = some (.int .i64 a1_0) ∧ w'.cell? ⟨gb146, 1, none⟩ = some (.int .i64 a1_1) ∧ w'.cell? ⟨gb146, 2, none⟩ = some (.int .i64 a1_2)) (ds := []) #[false, false, false, false, false, false, false, false] (by kernel_rfl) rfl rfl ⟨bc BK145.out, bc BK146.out, bc BK146.out, bc BK146.out⟩ (fun hHeld => ?_); refine with_tabW impl_WouldOverflow.tab1 impl_WouldOverflow.bits1 (fun HT_ HW_ => ?_)
 generalize w6.drew = w7 at BK145 BK146 HB hHeld ⊢
 refine pq 0 5 HT_ ?_
 refine tq 1 6 HT_ HW_ hHeld ?_
 refine tq 3 8 HT_ HW_ hHeld ?_
 refine on_ 2 (some 7) HT_ (fun K hK => ?_)
 refine gs_ Try.func53 #[.slice A0_0 l0_0.length c0_0] ?_
 with_reducible refine (impl_TotalCost.calls k _ _ l0_0 t147 _ ?side1 ?side2 A3.out).mono ?_
 (case side1 => exact cc HR0_0.out)
 (case side2 => exact HC0_0.out)
 rintro e w8 ⟨rfl, hb⟩
 refine ⟨_, rfl, ?_⟩
 replace BK145 := kp (kb BK145.out hb); replace BK146 := kp (kb BK146.out hb); replace HB := kp (below_step bb hb)
 (try clear hb)
 (try clear hk)
 refine hK.out _ _ ⟨bc BK145.out, bc BK146.out, bc BK146.out, bc BK146.out⟩ (fun hHeld => ?_)
 clear hK K
 refine nm_ (some 7) ?_
 refine on_ 4 (some 9) HT_ (fun K hK => ?_)
 refine gs_ Try.func56 #[.agg #[.int .i64 a1_0, .int .i64 a1_1, .int .i64 a1_2]] ?_
 with_reducible refine (impl_RowCost.calls a1_0 a1_1 a1_2 t148 _ A4.out).mono ?_
 rintro e w9 ⟨rfl, hb⟩
 refine ⟨_, rfl, ?_⟩
 replace BK145 := kp (kb BK145.out hb); replace BK146 := kp (kb BK146.out hb); replace HB := kp (below_step bb hb)
 (try clear hb)
 (try clear hk)
 refine hK.out _ _ ⟨bc BK145.out, bc BK146.out, bc BK146.out, bc BK146.out⟩ (fun hHeld => ?_)
 clear hK K
 refine nm_ (some 9) ?_
 refine pq 5 10 HT_ ?_
 refine pq 6 11 HT_ ?_
 refine pq 7 4 HT_ ?_
 refine done_ (done_of HT_.out (by kernel_rfl)) ?_
 try go_wp2
 go_ret
 exact ⟨er, bb⟩
def impl_allValid.l0 : Nat → List (S42) → Int → Int → Option (Bool)
 | 0, _, _, _ => none
 | k + 1, x5, x6, x7 => if x7 < x6 then (if 0 ≤ x7 then (if x7 < (x5.length : Int) then ((impl_IsValidRow.f ((rd_T42 x5 x7).f0) ((rd_T42 x5 x7).f1) ((rd_T42 x5 x7).f2)).bind fun t151 => (if t151 = true then (impl_allValid.l0 k x5 x6 (wrap64 (x7 + 1))) else (some false))) else (none)) else (none)) else (some true)
def impl_allValid.f (k : Nat) (l0 : List (S42)) : Option (Bool) := impl_allValid.l0 k l0 (l0.length : Int) 0
theorem impl_allValid.mono_l : ∀ k, (∀ y0 y1 y2, LeO (impl_allValid.l0 k y0 y1 y2) (impl_allValid.l0 (k + 1) y0 y1 y2))
 | 0 => fun _ _ _ r h => by simp [impl_allValid.l0] at h
 | k + 1 => by
  have ih0 := impl_allValid.mono_l k
  ·intro y0 y1 y2
   unfold impl_allValid.l0
   repeat' first
   | (with_reducible exact ih0 _ _ _)
   | (with_reducible exact LeO.refl _)
   | (with_reducible exact LeO.none _)
   | (with_reducible refine LeO.ite ?_ ?_)
   | (with_reducible refine LeO.bind ?_ (fun _ => ?_))
theorem impl_allValid.mono : ∀ a0 k, LeO (impl_allValid.f k a0) (impl_allValid.f (k + 1) a0) := by
 intro a0 k
 have ih0 := impl_allValid.mono_l k
 unfold impl_allValid.f
 repeat' first
   | (with_reducible exact ih0 _ _ _)
   | (with_reducible exact LeO.refl _)
   | (with_reducible exact LeO.none _)
   | (with_reducible refine LeO.ite ?_ ?_)
   | (with_reducible refine LeO.bind ?_ (fun _ => ?_))
set_option maxHeartbeats 8000000 in
set_option maxRecDepth 100000 in
theorem impl_allValid.calls (k : Nat) (A0 : Option Addr) (c0 : Nat) (l0 : List (S42)) (r : Bool) (w : World) (hr0 : Kd.C k42 w A0 l0.length l0) (hc0 : l0.length ≤ c0) (h : impl_allValid.f k l0 = some r) :
  Calls Try.prog 78 #[.slice A0 l0.length c0] w fun e w' => e = .returned (.bool r) ∧ Below w.heap.size w w' := by
 have hu42 := Try.underlying42
 have HR0 := kp hr0
 have HC0 := kp hc0
 clear hr0 hc0
 have HB := kp (Below.refl w.heap.size w)
 have H : (impl_allValid.l0 k l0 (l0.length : Int) 0) = some r := h
 clear h
 have H' := kp H
 clear H
 go_enter Try.func78, Try.ntmps78
 go_wp2
 go_loopg [7] k (fun kq v7 w' => ∃ (x7_1 : Int), v7 = .int .i64 x7_1 ∧ Aside0 (impl_allValid.l0 kq l0 (l0.length : Int) x7_1 = some r) ∧ Aside0 (kq ≤ k) ∧ Aside0 (Below w.heap.size w w'))
 case atStart => exact ⟨(0), (by first | rfl | (simp; done) | (simp [*]; done)), H', ⟨Nat.le_refl _⟩, ⟨bb⟩⟩
 case round =>
  clear H'; obtain ⟨x7_1, rfl, HA, HK1, HB⟩ := hrel
  cases gk with
  | zero => exact absurd HA.out (by simp [impl_allValid.l0])
  | succ k1 =>
   have H := HA.out; clear HA; simp only [impl_allValid.l0] at H
   by_cases c2 : x7_1 < (l0.length : Int)
   ·rw [if_pos c2] at H; have c2b0 : decide (x7_1 < (l0.length : Int)) = true := decide_eq_true c2; clear c2
    by_cases c3 : 0 ≤ x7_1
    ·rw [if_pos c3] at H; have c3b0 : decide (0 ≤ x7_1) = true := decide_eq_true c3; clear c3
     by_cases c4 : x7_1 < (l0.length : Int)
     ·rw [if_pos c4] at H; have c4b0 : decide (x7_1 < (l0.length : Int)) = true := decide_eq_true c4; clear c4; replace H := Option.bind_eq_some_iff.mp H; obtain ⟨t151, A50, H⟩ := H; replace H : (if t151 = true then (impl_allValid.l0 k1 l0 (l0.length : Int) (wrap64 (x7_1 + 1))) else (some false)) = some r := H; have A5 := kp A50; clear A50
      by_cases c6 : t151 = true
      ·subst c6; have H1 : (impl_allValid.l0 k1 l0 (l0.length : Int) (wrap64 (x7_1 + 1))) = some r := by rw [if_pos rfl] at H; exact H
       clear H; have H := H1; clear H1; have H' := kp H; clear H; have p149 : 0 ≤ (x7_1 : Int) := dt; have q149 : x7_1 < (l0.length : Int) := dt; obtain ⟨ad149, e149, hx149_0, hx149_1, hx149_2⟩ := at_T42 HR0.out x7_1 p149 q149; cases e149; replace hx149_0 := kc HB.out hx149_0; replace hx149_1 := kc HB.out hx149_1; replace hx149_2 := kc HB.out hx149_2; replace p149 := eq_true p149; replace q149 := eq_true q149
       go_wp2_with (first | ((with_reducible refine gate_dst (N := 4) rfl ?_); refine bx_ 4 #[.int .i64 0, .int .i64 0, .int .i64 0] 42 ?_; intro gb150 hg w7 hbox hb; have BK150 := kp (hbox); have GW150 := kp (bs hg); have GE150 := kp (bs hg); replace HB := kp (below_step bb hb); clear hb hbox hg; obtain ⟨hcz8_0, hcz8_1, hcz8_2, hfz8_0, hfz8_1, hfz8_2⟩ := bf3 BK150.out) | ((with_reducible refine gate_callee (f := 81) rfl ?_); refine gl_ 12 Try.func81 #[.agg #[.int .i64 ((rd_T42 l0 x7_1).f0), .int .i64 ((rd_T42 l0 x7_1).f1), .int .i64 ((rd_T42 l0 x7_1).f2)]] ?_; (with_reducible refine (impl_IsValidRow.calls ((rd_T42 l0 x7_1).f0) ((rd_T42 l0 x7_1).f1) ((rd_T42 l0 x7_1).f2) true _ A5.out).mono ?_); rintro e w9 ⟨rfl, hb⟩; refine ⟨_, rfl, ?_⟩; replace BK150 := kp (blk_below (g := gb150) (o := .cells #[.int .i64 ((rd_T42 l0 x7_1).f0), .int .i64 ((rd_T42 l0 x7_1).f1), .int .i64 ((rd_T42 l0 x7_1).f2)] 42 (0, 0)) (by refine blk_put (cs := #[.int .i64 ((rd_T42 l0 x7_1).f0), .int .i64 ((rd_T42 l0 x7_1).f1), .int .i64 0]) ?_ 2 _ rfl; refine blk_put (cs := #[.int .i64 ((rd_T42 l0 x7_1).f0), .int .i64 0, .int .i64 0]) ?_ 1 _ rfl; refine blk_put (cs := #[.int .i64 0, .int .i64 0, .int .i64 0]) ?_ 0 _ rfl; (with_reducible repeat (first | apply bN | apply bD | apply bA)); exact BK150.out) hb); replace HB := kp (below_step bb hb); (try clear hb)))
       go_roundg k1
       case measure => have := HK1.out; omega
       case rel => exact ⟨(wrap64 (x7_1 + 1)), (by first | rfl | (simp; done) | (simp [*]; done)), H', ⟨by have := HK1.out; omega⟩, ⟨bb⟩⟩
      ·replace c6 := Bool.eq_false_iff.mpr c6; subst c6; have H1 : (some false) = some r := by rw [if_neg (show ¬ (false = true) by decide)] at H; exact H
       clear H; have H := H1; clear H1; obtain rfl := Option.some.inj H; have p149 : 0 ≤ (x7_1 : Int) := dt; have q149 : x7_1 < (l0.length : Int) := dt; obtain ⟨ad149, e149, hx149_0, hx149_1, hx149_2⟩ := at_T42 HR0.out x7_1 p149 q149; cases e149; replace hx149_0 := kc HB.out hx149_0; replace hx149_1 := kc HB.out hx149_1; replace hx149_2 := kc HB.out hx149_2; replace p149 := eq_true p149; replace q149 := eq_true q149
       go_wp2_with (first | ((with_reducible refine gate_dst (N := 4) rfl ?_); refine bx_ 4 #[.int .i64 0, .int .i64 0, .int .i64 0] 42 ?_; intro gb150 hg w10 hbox hb; have BK150 := kp (hbox); have GW150 := kp (bs hg); have GE150 := kp (bs hg); replace HB := kp (below_step bb hb); clear hb hbox hg; obtain ⟨hcz11_0, hcz11_1, hcz11_2, hfz11_0, hfz11_1, hfz11_2⟩ := bf3 BK150.out) | ((with_reducible refine gate_callee (f := 81) rfl ?_); refine gl_ 12 Try.func81 #[.agg #[.int .i64 ((rd_T42 l0 x7_1).f0), .int .i64 ((rd_T42 l0 x7_1).f1), .int .i64 ((rd_T42 l0 x7_1).f2)]] ?_; (with_reducible refine (impl_IsValidRow.calls ((rd_T42 l0 x7_1).f0) ((rd_T42 l0 x7_1).f1) ((rd_T42 l0 x7_1).f2) false _ A5.out).mono ?_); rintro e w12 ⟨rfl, hb⟩; refine ⟨_, rfl, ?_⟩; replace BK150 := kp (blk_below (g := gb150) (o := .cells #[.int .i64 ((rd_T42 l0 x7_1).f0), .int .i64 ((rd_T42 l0 x7_1).f1), .int .i64 ((rd_T42 l0 x7_1).f2)] 42 (0, 0)) (by refine blk_put (cs := #[.int .i64 ((rd_T42 l0 x7_1).f0), .int .i64 ((rd_T42 l0 x7_1).f1), .int .i64 0]) ?_ 2 _ rfl; refine blk_put (cs := #[.int .i64 ((rd_T42 l0 x7_1).f0), .int .i64 0, .int .i64 0]) ?_ 1 _ rfl; refine blk_put (cs := #[.int .i64 0, .int .i64 0, .int .i64 0]) ?_ 0 _ rfl; (with_reducible repeat (first | apply bN | apply bD | apply bA)); exact BK150.out) hb); replace HB := kp (below_step bb hb); (try clear hb)))
       go_ret; exact ⟨er, bb⟩
     ·rw [if_neg c4] at H; exact absurd H (by simp)
    ·rw [if_neg c3] at H; exact absurd H (by simp)
   ·rw [if_neg c2] at H; have c2b0 : decide (x7_1 < (l0.length : Int)) = false := decide_eq_false c2; clear c2; obtain rfl := Option.some.inj H; go_wp2; go_ret; exact ⟨er, bb⟩
def impl_AreValidRows.f (k : Nat) (l0 : List (S42)) : Option (Bool) := if (l0.length : Int) ≤ 24 then ((impl_allValid.f k l0).bind fun t152 => (some t152)) else (some false)
theorem impl_AreValidRows.mono : ∀ a0 k, LeO (impl_AreValidRows.f k a0) (impl_AreValidRows.f (k + 1) a0) := by
 intro a0 k
 unfold impl_AreValidRows.f
 repeat' first
   | (with_reducible exact impl_allValid.mono _ _)
   | (with_reducible exact LeO.refl _)
   | (with_reducible exact LeO.none _)
   | (with_reducible refine LeO.ite ?_ ?_)
   | (with_reducible refine LeO.bind ?_ (fun _ => ?_))
set_option maxHeartbeats 8000000 in
set_option maxRecDepth 100000 in
theorem impl_AreValidRows.calls (k : Nat) (A0 : Option Addr) (c0 : Nat) (l0 : List (S42)) (r : Bool) (w : World) (hr0 : Kd.C k42 w A0 l0.length l0) (hc0 : l0.length ≤ c0) (h : impl_AreValidRows.f k l0 = some r) :
  Calls Try.prog 45 #[.slice A0 l0.length c0] w fun e w' => e = .returned (.bool r) ∧ Below w.heap.size w w' := by
 have HR0 := kp hr0
 have HC0 := kp hc0
 clear hr0 hc0
 have HB := kp (Below.refl w.heap.size w)
 have H : (if (l0.length : Int) ≤ 24 then ((impl_allValid.f k l0).bind fun t152 => (some t152)) else (some false)) = some r := h
 clear h
 by_cases c2 : (l0.length : Int) ≤ 24
 ·rw [if_pos c2] at H; have c2b0 : decide ((l0.length : Int) ≤ 24) = true := decide_eq_true c2; have c2b1 : decide (l0.length ≤ 24) = true := decide_eq_true (by omega); clear c2; replace H := Option.bind_eq_some_iff.mp H; obtain ⟨t152, A30, H⟩ := H; replace H : (some t152) = some r := H; have A3 := kp A30; clear A30; obtain rfl := Option.some.inj H
  go_enter Try.func45, Try.ntmps45
  go_wp2_with (first | (go_at_call 78; (with_reducible refine (impl_allValid.calls k _ _ l0 t152 _ ?side1 ?side2 A3.out).mono ?_); (case side1 => repeat (first | exact HR0.out | (with_reducible refine Kd.C_alloc ?_ _) | (with_reducible refine Kd.C_drewN ?_ _) | (with_reducible refine Kd.C_drew ?_))); (case side2 => exact HC0.out); rintro e w4 ⟨rfl, hb⟩; replace HB := kp (below_step bb hb); (try clear hb)))
  go_ret; exact ⟨er, bb⟩
 ·rw [if_neg c2] at H; have c2b0 : decide ((l0.length : Int) ≤ 24) = false := decide_eq_false c2; have c2b1 : decide (l0.length ≤ 24) = false := decide_eq_false (by omega); clear c2; obtain rfl := Option.some.inj H
  go_enter Try.func45, Try.ntmps45
  go_wp2; go_ret; exact ⟨er, bb⟩
end Go.Proofs.Ytljpfogplcdcjaa.PFnPagePacking
