/- Out of a copy of the print, with function values told: nothing is claimed here. -/
import Derived.Test.YtinniedbgfgclaaVQFnDiskOperationsx0
import Derived.Test.YtinniedbgfgclaaVPress
import Derived.Test.YtinniedbgfgclaaVFoldT
namespace Go.Proofs.Ytinniedbgfgclaa.PFnDiskOperations
open Go.RowKit Go.Proofs.YtinniedbgfgclaaW.PrintWords Go.Proofs.YtinniedbgfgclaaW.PrintLast Go.Proofs.YtinniedbgfgclaaW.PrintMore Go.Proofs.Ytinniedbgfgclaa.Press Go.Proofs.Ytinniedbgfgclaa.Fold
attribute [local go_sem] max2_int min2_int max_two min_two max_three min_three max_four min_four   -- for this text's walks alone
set_option linter.unusedVariables false
set_option linter.unusedSimpArgs false
def impl_fileAt.l0 : Nat → Int → List (S80) → Int → Int → Option (Int)
 | 0, _, _, _, _ => none
 | k + 1, x1, x8, x9, x10 => if x10 < x9 then (if 0 ≤ x10 then (if x10 < (x8.length : Int) then (if ((rd_T80 x8 x10).f0) = x1 then (some x10) else (impl_fileAt.l0 k x1 x8 x9 (wrap64 (x10 + 1)))) else (none)) else (none)) else (some (-1))
def impl_fileAt.f (k : Nat) (l0_0 : List (S80)) (a0_1 : Int) (a1 : Int) : Option (Int) := impl_fileAt.l0 k a1 l0_0 (l0_0.length : Int) 0
set_option maxHeartbeats 8000000 in
set_option maxRecDepth 100000 in
theorem impl_fileAt.calls (k : Nat) (A0_0 : Option Addr) (c0_0 : Nat) (l0_0 : List (S80)) (a0_1 : Int) (a1 : Int) (r : Int) (w : World) (hr0_0 : Kd.C k80 w A0_0 l0_0.length l0_0) (hc0_0 : l0_0.length ≤ c0_0) (h : impl_fileAt.f k l0_0 a0_1 a1 = some r) :
  Calls Try.prog 65 #[.agg #[.slice A0_0 l0_0.length c0_0, .int .i64 a0_1], .int .i64 a1] w fun e w' => e = .returned (.int .i64 r) ∧ Below w.heap.size w w' := by
 have hu28 := Try.underlying28; have hu80 := Try.underlying80; have HR0_0 := kp hr0_0; have HC0_0 := kp hc0_0; clear hr0_0 hc0_0; have HB := kp (Below.refl w.heap.size w); have H := h; clear h; unfold impl_fileAt.f at H; have H' := kp H; clear H; go_enter Try.func65, Try.ntmps65; go_wp2_with (first | ((with_reducible refine gate_dst (N := 2) rfl ?_); refine bx_ 2 #[.slice A0_0 l0_0.length c0_0, .int .i64 a0_1] 28 ?_; intro gb274 hg w3 hbox hb; have BK274 := kp (hbox); have GE274 := kp (bs hg); replace HB := kp (below_step bb hb); clear hb hbox hg; obtain ⟨hcz4_0, hcz4_1, hfz4_0, hfz4_1⟩ := bf2 BK274.out)); (try simp only [Act.put, List.setIfInBounds_toArray, List.set_cons_zero, List.set_cons_succ]); go_loopg [10] k (fun kq v10 w' => ∃ (x10_1 : Int), v10 = .int .i64 x10_1 ∧ Aside0 (impl_fileAt.l0 kq a1 l0_0 (l0_0.length : Int) x10_1 = some r) ∧ Aside0 (kq ≤ k) ∧ Aside0 (w'.heap[gb274]? = some (.cells #[(.slice A0_0 l0_0.length c0_0), .int .i64 a0_1] 28 (0, 0))) ∧ Aside0 (Below w.heap.size w w')); case atStart => exact ⟨(0), vr, H', ⟨Nat.le_refl _⟩, ⟨by (with_reducible repeat (first | refine blk_drewN ?_ _ | refine blk_drew ?_ | refine blk_alloc ?_ _)); exact BK274.out⟩, ⟨bb⟩⟩
 case round =>
  clear H'; try clear hcz4_0
  try clear hcz4_1
  try clear hfz4_0
  try clear hfz4_1
  obtain ⟨x10_1, rfl, HA, HK1, BK274, HB⟩ := hrel
  cases gk with
  | zero => exact absurd HA.out (by simp [impl_fileAt.l0])
  | succ k1 =>
   have H := HA.out; clear HA; simp only [impl_fileAt.l0] at H; replace H := sp H; rcases H with ⟨c5b0, H⟩ | ⟨c5b0, H⟩
   ·replace H := sn H; obtain ⟨c6b0, H⟩ := H; replace H := sn H; obtain ⟨c7b0, H⟩ := H; by_cases c8 : ((rd_T80 l0_0 x10_1).f0) = a1; rw [if_pos c8] at H; have c8b0 : (((rd_T80 l0_0 x10_1).f0) == a1) = true := beq_iff_eq.mpr c8; have c8b1 : (((rd_T80 l0_0 x10_1).f0) != a1) = false := bne_eq_false_iff_eq.mpr c8; clear c8; obtain rfl := Option.some.inj H; rotate_left; rw [if_neg c8] at H; have c8b0 : (((rd_T80 l0_0 x10_1).f0) == a1) = false := beq_eq_false_iff_ne.mpr c8; have c8b1 : (((rd_T80 l0_0 x10_1).f0) != a1) = true := bne_iff_ne.mpr c8; have H' := kp H; clear H; have i1_ := kp True.intro
    all_goals
     obtain ⟨ad275, A275_1, c275_1, rfl, hx275_0, hx275_1, hx275_2, hx275_3, HC275_1, HR275_1, p275, q275⟩ := ra_T80 HR0_0 HB x10_1 dt dt; go_wp2_with (first | ((with_reducible refine gate_dst (N := 6) rfl ?_); refine bx_ 6 #[.int .i64 0, .slice none 0 0, .int .i64 0, .bool false] 80 ?_; intro gb276 hg w9 hbox hb; have BK276 := kp (hbox); have GE276 := kp (bs hg); have NB274_276 := kp (bl hg BK274.out); have NB276_274 := kp (bg hg BK274.out); replace BK274 := kp (kb BK274.out hb); replace HB := kp (below_step bb hb); clear hb hbox hg; have hnb10 := NB276_274.out; have hnc10 := NB274_276.out; obtain ⟨hcz11_0, hcz11_1, hcz11_2, hcz11_3, hfz11_0, hfz11_1, hfz11_2, hfz11_3⟩ := bf4 BK276.out))
     first
     | refine tg i1_ ?_; go_roundg k1; case measure => have := HK1.out; omega
       case rel => exact ⟨(wrap64 (x10_1 + 1)), vr, H', ⟨by have := HK1.out; omega⟩, ⟨by (with_reducible repeat (first | refine blk_drewN ?_ _ | refine blk_drew ?_ | refine blk_alloc ?_ _)); refine blk_far ?_ NB274_276.out _; (with_reducible repeat (first | refine blk_drewN ?_ _ | refine blk_drew ?_ | refine blk_alloc ?_ _)); refine blk_far ?_ NB274_276.out _; (with_reducible repeat (first | refine blk_drewN ?_ _ | refine blk_drew ?_ | refine blk_alloc ?_ _)); refine blk_far ?_ NB274_276.out _; (with_reducible repeat (first | refine blk_drewN ?_ _ | refine blk_drew ?_ | refine blk_alloc ?_ _)); refine blk_far ?_ NB274_276.out _; (with_reducible repeat (first | refine blk_drewN ?_ _ | refine blk_drew ?_ | refine blk_alloc ?_ _)); exact BK274.out⟩, ⟨bb⟩⟩
     | go_ret; exact ⟨er, bb⟩
   ·obtain rfl := Option.some.inj H; go_wp2; go_ret; exact ⟨er, bb⟩
end Go.Proofs.Ytinniedbgfgclaa.PFnDiskOperations
