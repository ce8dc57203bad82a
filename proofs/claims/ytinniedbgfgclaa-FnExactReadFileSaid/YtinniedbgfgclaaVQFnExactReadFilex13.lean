/- Out of a copy of the print, with function values told: nothing is claimed here. -/
import Derived.Test.YtinniedbgfgclaaVQFnExactReadFilex0
import Derived.Test.YtinniedbgfgclaaVPress
namespace Go.Proofs.Ytinniedbgfgclaa.PFnExactReadFile
open Go.RowKit Go.Proofs.YtinniedbgfgclaaW.PrintWords Go.Proofs.YtinniedbgfgclaaW.PrintLast Go.Proofs.YtinniedbgfgclaaW.PrintMore Go.Proofs.Ytinniedbgfgclaa.Press
attribute [local go_sem] max2_int min2_int max_two min_two max_three min_three max_four min_four   -- for this text's walks alone
set_option linter.unusedVariables false
set_option linter.unusedSimpArgs false
/-! ### spec_l6At: function 62 -/
def spec_l6At.l0 : Nat → Int → Int → List (S80) → Int → Option (Int)
 | 0, _, _, _, _ => none
 | k + 1, x1, x5, x323000, x323001 => if x5 < (x323000.length : Int) then (if 0 ≤ x5 then (if ((rd_T80 x323000 x5).f0) = x1 then (some x5) else (spec_l6At.l0 k x1 (wrap64 (x5 + 1)) x323000 x323001)) else (none)) else (some (-1))
def spec_l6At.f (k : Nat) (l0_0 : List (S80)) (a0_1 : Int) (a1 : Int) : Option (Int) := spec_l6At.l0 k a1 0 l0_0 a0_1
set_option maxHeartbeats 8000000 in
set_option maxRecDepth 100000 in
theorem spec_l6At.calls (k : Nat) (A0_0 : Option Addr) (c0_0 : Nat) (l0_0 : List (S80)) (a0_1 : Int) (a1 : Int) (r : Int) (w : World) (hr0_0 : Kd.C k80 w A0_0 l0_0.length l0_0) (hc0_0 : l0_0.length ≤ c0_0) (h : spec_l6At.f k l0_0 a0_1 a1 = some r) :
  Calls Try.prog 62 #[.agg #[.slice A0_0 l0_0.length c0_0, .int .i64 a0_1], .int .i64 a1] w fun e w' => e = .returned (.int .i64 r) ∧ Below w.heap.size w w' := by
 have hu28 := Try.underlying28
 have HR0_0 := kp hr0_0
 have HC0_0 := kp hc0_0
 clear hr0_0 hc0_0
 have HB := kp (Below.refl w.heap.size w)
 have H : (spec_l6At.l0 k a1 0 l0_0 a0_1) = some r := h
 clear h
 have H' := kp H
 clear H
 go_enter Try.func62, Try.ntmps62
 go_wp2_with (first | ((with_reducible refine gate_dst (N := 2) rfl ?_); refine bx_ 2 #[.slice A0_0 l0_0.length c0_0, .int .i64 a0_1] 28 ?_; intro gb322 hg w3 hbox hb; have n0_ := kp (below_step (by with_reducible repeat (first | exact HB.out | apply below_alloc | apply pw_below_drewN | apply below_drew1)) hb); have n1_ := kp (hbox); have n2_ := kp ((by rw [hg]; exact (below_size (by with_reducible repeat (first | exact HB.out | apply below_alloc | apply pw_below_drewN | apply below_drew1))) : w.heap.size ≤ gb322)); have n3_ := kp ((by rw [hg]; exact (below_size (by with_reducible repeat (first | exact HB.out | apply below_alloc | apply pw_below_drewN | apply below_drew1))) : w.heap.size ≤ gb322)); clear HB; have HB := n0_; have BK322 := n1_; have GW322 := n2_; have GE322 := n3_; clear n0_ n1_ n2_ n3_; clear hb hbox hg))
 (try simp only [Act.put, List.setIfInBounds_toArray, List.set_cons_zero, List.set_cons_succ])
 go_loopg [5] k (fun kq v5 w' => ∃ (x5_1 : Int), v5 = .int .i64 x5_1 ∧ Aside0 (spec_l6At.l0 kq a1 x5_1 l0_0 a0_1 = some r) ∧ Aside0 (kq ≤ k) ∧ Aside0 (w'.heap[gb322]? = some (.cells #[(.slice A0_0 l0_0.length c0_0), .int .i64 a0_1] 28 (0, 0))) ∧ Aside0 (Below w.heap.size w w'))
 case atStart => exact ⟨(0), (by first | rfl | (simp; done) | (simp [*]; done)), H', ⟨Nat.le_refl _⟩, ⟨by (with_reducible repeat (first | refine blk_drewN ?_ _ | refine blk_drew ?_ | refine blk_alloc ?_ _)); exact BK322.out⟩, ⟨by with_reducible repeat (first | exact HB.out | apply below_alloc | apply pw_below_drewN | apply below_drew1 | refine below_set ?_ GE322.out)⟩⟩
 case round =>
  clear H'
  try clear p2
  obtain ⟨x5_1, rfl, HA, HK1, BK322, HB⟩ := hrel
  cases gk with
  | zero => exact absurd HA.out (by simp [spec_l6At.l0])
  | succ k1 =>
   have H := HA.out; clear HA; simp only [spec_l6At.l0] at H
   by_cases c4 : x5_1 < (l0_0.length : Int)
   ·rw [if_pos c4] at H; have c4b0 : decide (x5_1 < (l0_0.length : Int)) = true := decide_eq_true c4; clear c4
    by_cases c5 : 0 ≤ x5_1
    ·rw [if_pos c5] at H; have c5b0 : decide (0 ≤ x5_1) = true := decide_eq_true c5; clear c5
     by_cases c6 : ((rd_T80 l0_0 x5_1).f0) = a1
     ·rw [if_pos c6] at H; have c6b0 : (((rd_T80 l0_0 x5_1).f0) == a1) = true := beq_iff_eq.mpr c6; have c6b1 : (((rd_T80 l0_0 x5_1).f0) != a1) = false := bne_eq_false_iff_eq.mpr c6; clear c6; obtain rfl := Option.some.inj H; have hcz7_0 : wr.cell? ⟨gb322, 0, none⟩ = some (.slice A0_0 l0_0.length c0_0) := (blk_cell BK322.out 0).trans rfl; have hcz7_1 : wr.cell? ⟨gb322, 1, none⟩ = some (.int .i64 a0_1) := (blk_cell BK322.out 1).trans rfl; have hfz7_0 := blk_frozen BK322.out 0; have hfz7_1 := blk_frozen BK322.out 1; have p323 : 0 ≤ (x5_1 : Int) := dt; have q323 : x5_1 < (l0_0.length : Int) := dt; obtain ⟨ad323, A323_1, c323_1, e323, hx323_0, hx323_1, hx323_2, hx323_3, hl323_1, hi323_1⟩ := at_T80 HR0_0.out x5_1 p323 q323; cases e323; replace hx323_0 := kc HB.out hx323_0; replace hx323_1 := kc HB.out hx323_1; replace hx323_2 := kc HB.out hx323_2; replace hx323_3 := kc HB.out hx323_3; have HR323_1 := kp hi323_1; have HC323_1 := kp hl323_1; clear hi323_1 hl323_1; replace p323 := eq_true p323; replace q323 := eq_true q323; go_wp2; go_ret; exact ⟨er, by with_reducible repeat (first | exact HB.out | apply below_alloc | apply pw_below_drewN | apply below_drew1 | refine below_set ?_ GE322.out)⟩
     ·rw [if_neg c6] at H; have c6b0 : (((rd_T80 l0_0 x5_1).f0) == a1) = false := beq_eq_false_iff_ne.mpr c6; have c6b1 : (((rd_T80 l0_0 x5_1).f0) != a1) = true := bne_iff_ne.mpr c6; have H' := kp H; clear H; have hcz8_0 : wr.cell? ⟨gb322, 0, none⟩ = some (.slice A0_0 l0_0.length c0_0) := (blk_cell BK322.out 0).trans rfl; have hcz8_1 : wr.cell? ⟨gb322, 1, none⟩ = some (.int .i64 a0_1) := (blk_cell BK322.out 1).trans rfl; have hfz8_0 := blk_frozen BK322.out 0; have hfz8_1 := blk_frozen BK322.out 1; have p323 : 0 ≤ (x5_1 : Int) := dt; have q323 : x5_1 < (l0_0.length : Int) := dt; obtain ⟨ad323, A323_1, c323_1, e323, hx323_0, hx323_1, hx323_2, hx323_3, hl323_1, hi323_1⟩ := at_T80 HR0_0.out x5_1 p323 q323; cases e323; replace hx323_0 := kc HB.out hx323_0; replace hx323_1 := kc HB.out hx323_1; replace hx323_2 := kc HB.out hx323_2; replace hx323_3 := kc HB.out hx323_3; have HR323_1 := kp hi323_1; have HC323_1 := kp hl323_1; clear hi323_1 hl323_1; replace p323 := eq_true p323; replace q323 := eq_true q323; go_wp2
      go_roundg k1
      case measure => have := HK1.out; omega
      case rel => exact ⟨(wrap64 (x5_1 + 1)), (by first | rfl | (simp; done) | (simp [*]; done)), H', ⟨by have := HK1.out; omega⟩, ⟨by (with_reducible repeat (first | refine blk_drewN ?_ _ | refine blk_drew ?_ | refine blk_alloc ?_ _)); exact BK322.out⟩, ⟨by with_reducible repeat (first | exact HB.out | apply below_alloc | apply pw_below_drewN | apply below_drew1 | refine below_set ?_ GE322.out)⟩⟩
    ·rw [if_neg c5] at H; exact absurd H (by simp)
   ·rw [if_neg c4] at H; have c4b0 : decide (x5_1 < (l0_0.length : Int)) = false := decide_eq_false c4; clear c4; obtain rfl := Option.some.inj H; have hcz9_0 : wr.cell? ⟨gb322, 0, none⟩ = some (.slice A0_0 l0_0.length c0_0) := (blk_cell BK322.out 0).trans rfl; have hcz9_1 : wr.cell? ⟨gb322, 1, none⟩ = some (.int .i64 a0_1) := (blk_cell BK322.out 1).trans rfl; have hfz9_0 := blk_frozen BK322.out 0; have hfz9_1 := blk_frozen BK322.out 1; go_wp2; go_ret; exact ⟨er, by with_reducible repeat (first | exact HB.out | apply below_alloc | apply pw_below_drewN | apply below_drew1 | refine below_set ?_ GE322.out)⟩
/-! ### spec_UnpackPages: function 79 -/
def spec_UnpackPages.l0 : Nat → List (S39) → List (S95) → Int → Option ((List (S95)))
 | 0, _, _, _ => none
 | k + 1, x0, x3, x4 => if x4 < (x0.length : Int) then (if 0 ≤ x4 then (if x3.length + ((rd_T39 x0 x4).f0).length < 5864062014805 then (spec_UnpackPages.l0 k x0 (x3 ++ ((rd_T39 x0 x4).f0)) (wrap64 (x4 + 1))) else (none)) else (none)) else (some x3)
def spec_UnpackPages.f (k : Nat) (l0 : List (S39)) : Option ((List (S95))) := spec_UnpackPages.l0 k l0 (([] : List (S95))) 0
set_option maxHeartbeats 8000000 in
set_option maxRecDepth 100000 in
theorem spec_UnpackPages.calls (k : Nat) (A0 : Option Addr) (c0 : Nat) (l0 : List (S39)) (r : List (S95)) (w : World) (hr0 : Kd.C k39 w A0 l0.length l0) (hc0 : l0.length ≤ c0) (h : spec_UnpackPages.f k l0 = some r) :
  Calls Try.prog 79 #[.slice A0 l0.length c0] w fun e w' => ∃ v0_ : Value, e = .returned (v0_) ∧ Kd.R k95 95 w' w.heap.size (fun _ => True) v0_ r ∧ Below w.heap.size w w' := by
 have HR0 := kp hr0
 have HC0 := kp hc0
 clear hr0 hc0
 have HB := kp (Below.refl w.heap.size w)
 have H : (spec_UnpackPages.l0 k l0 (([] : List (S95))) 0) = some r := h
 clear h
 obtain ⟨y324, hy324⟩ : ∃ y_ : List (S95), y_ = (([] : List (S95))) := ⟨_, rfl⟩
 replace H : (spec_UnpackPages.l0 k l0 y324 0) = some r := by first | (rw [hy324]; with_reducible exact H) | (have H2_ := (Option.bind_some _ _).symm.trans H; rw [hy324]; with_reducible exact H2_) | (have H2_ := (Option.bind_some _ _).symm.trans H; with_reducible exact H2_) | with_reducible exact H | (rw [hy324]; exact H) | exact H
 have Ny324 := kp hy324
 clear hy324
 have H' := kp H
 clear H
 go_enter Try.func79, Try.ntmps79
 go_wp2_with (first | ((with_reducible refine gate_dst (N := 5) rfl ?_); refine Kd.R_lit k95 _ 95 ?hg (N := 5) ?hd (xs := ([] : List (S95))) (inner := []) (ok := fun _ => True) (okp := fun _ => True) ?hr ?hp (fun _ hk => hk) trivial (Below.refl _ _) (Nat.le_refl _) (by simp) ?_; (case hd => rfl); (case hg => rfl); (case hr => first | (go_simp; done) | (go_simp; rfl)); (case hp => exact (Reps.none _ _)); intro v325 w2 ho3 hb hg_ hnew_; clear hg_ hnew_; (first | rw [← Ny324.out] at ho3 | (simp only [Int.reduceToNat] at ho3; rw [← Ny324.out] at ho3)); have n0_ := kp (Kd.R_lower ho3 (below_size (by with_reducible repeat (first | exact HB.out | apply below_alloc | apply pw_below_drewN | apply below_drew1)))); have n1_ := kp (below_step (by with_reducible repeat (first | exact HB.out | apply below_alloc | apply pw_below_drewN | apply below_drew1)) hb); clear HB; have HO326 := n0_; have HB := n1_; clear n0_ n1_; clear hb ho3))
 (try simp only [Act.put, List.setIfInBounds_toArray, List.set_cons_zero, List.set_cons_succ])
 go_loopg [3, 4] k (fun kq v3 v4 w' => ∃ (x3_1 : List (S95)) (x4_1 : Int), v4 = .int .i64 x4_1 ∧ Aside0 (spec_UnpackPages.l0 kq l0 x3_1 x4_1 = some r) ∧ Aside0 (kq ≤ k) ∧ Aside0 (Kd.R k95 95 w' w.heap.size (fun _ => True) v3 x3_1) ∧ Aside0 (Below w.heap.size w w'))
 case atStart => exact ⟨(y324), (0), (by first | rfl | (simp; done) | (simp [*]; done)), H', ⟨Nat.le_refl _⟩, ⟨by (with_reducible repeat (first | apply Kd.R_alloc | apply Kd.R_drewN | apply Kd.R_drew)); exact HO326.out⟩, ⟨by with_reducible repeat (first | exact HB.out | apply below_alloc | apply pw_below_drewN | apply below_drew1)⟩⟩
 case round =>
  clear H'
  try clear p2
  obtain ⟨x3_1, x4_1, rfl, HA, HK1, HO_3, HB⟩ := hrel
  cases gk with
  | zero => exact absurd HA.out (by simp [spec_UnpackPages.l0])
  | succ k1 =>
   have H := HA.out; clear HA; simp only [spec_UnpackPages.l0] at H
   by_cases c4 : x4_1 < (l0.length : Int)
   ·rw [if_pos c4] at H; have c4b0 : decide (x4_1 < (l0.length : Int)) = true := decide_eq_true c4; clear c4
    by_cases c5 : 0 ≤ x4_1
    ·rw [if_pos c5] at H; have c5b0 : decide (0 ≤ x4_1) = true := decide_eq_true c5; clear c5
     by_cases c6 : x3_1.length + ((rd_T39 l0 x4_1).f0).length < 5864062014805
     ·rw [if_pos c6] at H; have LMc6 := kp c6; clear c6; obtain ⟨y328, hy328⟩ : ∃ y_ : List (S95), y_ = (x3_1 ++ ((rd_T39 l0 x4_1).f0)) := ⟨_, rfl⟩; replace H : (spec_UnpackPages.l0 k1 l0 y328 (wrap64 (x4_1 + 1))) = some r := by first | (rw [hy328]; with_reducible exact H) | (have H2_ := (Option.bind_some _ _).symm.trans H; rw [hy328]; with_reducible exact H2_) | (have H2_ := (Option.bind_some _ _).symm.trans H; with_reducible exact H2_) | with_reducible exact H | (rw [hy328]; exact H) | exact H
      have Ny328 := kp hy328; clear hy328; have H' := kp H; clear H; have p327 : 0 ≤ (x4_1 : Int) := dt; have q327 : x4_1 < (l0.length : Int) := dt; obtain ⟨ad327, A327_0, c327_0, e327, hx327_0, hl327_0, hi327_0⟩ := at_T39 HR0.out x4_1 p327 q327; cases e327; replace hx327_0 := kc HB.out hx327_0; have HR327_0 := kp hi327_0; have HC327_0 := kp hl327_0; clear hi327_0 hl327_0; replace p327 := eq_true p327; replace q327 := eq_true q327
      go_wp2_with (first | ((with_reducible refine gate_builtin (b := .append) (xs := #[.tmp 12, .tmp 17]) rfl ?_); at_builtin; refine Kd.R_append_rows k95 (w0 := w) w.heap.size rfl (.tmp 12) (.tmp 17) 37 95 (.agg #[(.int .i64 0), (.int .i64 0), (.int .i64 0)]) 24 rfl Try.underlying37 info95 rfl (by decide) (by omega) u3 x3_1 ((rd_T39 l0 x4_1).f0) _ _ _ (fun _ => True) (fun _ => False) rfl rfl ?aO ?aR (fun _ _ h => h) (fun _ h => h.elim) ?aF ?aB ?aS ?aL ?_; (case aR => repeat (first | exact (Kd.C_below HR327_0.out HB.out) | (with_reducible refine Kd.C_alloc ?_ _) | (with_reducible refine Kd.C_drewN ?_ _) | (with_reducible refine Kd.C_drew ?_))); (case aB => exact (by with_reducible repeat (first | exact HB.out | apply below_alloc | apply pw_below_drewN | apply below_drew1))); (case aF => exact (fun _ _ => trivial)); (case aO => exact (by (with_reducible repeat (first | apply Kd.R_alloc | apply Kd.R_drewN | apply Kd.R_drew)); exact HO_3.out)); (case aS => exact (below_size (by with_reducible repeat (first | exact HB.out | apply below_alloc | apply pw_below_drewN | apply below_drew1)))); (case aL => have := LMc6.out; omega); intro v329 w7 ho hb hg hat; rw [← Ny328.out] at ho; have n0_ := kp (hb); have n1_ := kp (ho); clear HB; clear HO_3; have HB := n0_; have HO330 := n1_; clear n0_ n1_; clear ho hb hg hat))
      go_roundg k1
      case measure => have := HK1.out; omega
      case rel => exact ⟨(y328), (wrap64 (x4_1 + 1)), (by first | rfl | (simp; done) | (simp [*]; done)), H', ⟨by have := HK1.out; omega⟩, ⟨by (with_reducible repeat (first | apply Kd.R_alloc | apply Kd.R_drewN | apply Kd.R_drew)); exact HO330.out⟩, ⟨by with_reducible repeat (first | exact HB.out | apply below_alloc | apply pw_below_drewN | apply below_drew1)⟩⟩
     ·rw [if_neg c6] at H; exact absurd H (by simp)
    ·rw [if_neg c5] at H; exact absurd H (by simp)
   ·rw [if_neg c4] at H; have c4b0 : decide (x4_1 < (l0.length : Int)) = false := decide_eq_false c4; clear c4; obtain rfl := Option.some.inj H; go_wp2; go_ret; exact ⟨_, er, by (with_reducible repeat (first | apply Kd.R_alloc | apply Kd.R_drewN | apply Kd.R_drew)); exact HO_3.out, by with_reducible repeat (first | exact HB.out | apply below_alloc | apply pw_below_drewN | apply below_drew1)⟩
end Go.Proofs.Ytinniedbgfgclaa.PFnExactReadFile
