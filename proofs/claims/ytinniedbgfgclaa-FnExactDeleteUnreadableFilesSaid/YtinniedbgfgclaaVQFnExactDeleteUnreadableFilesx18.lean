/- Out of a copy of the print, with function values told: nothing is claimed here. -/
import Derived.Test.YtinniedbgfgclaaVQFnExactDeleteUnreadableFilesx0
import Derived.Test.YtinniedbgfgclaaVQFnExactDeleteUnreadableFilesx17
import Derived.Test.YtinniedbgfgclaaVShort
import Derived.Test.YtinniedbgfgclaaVPress
namespace Go.Proofs.Ytinniedbgfgclaa.PFnExactDeleteUnreadableFiles
open Go.RowKit Go.Proofs.YtinniedbgfgclaaW.PrintWords Go.Proofs.YtinniedbgfgclaaW.PrintLast Go.Proofs.YtinniedbgfgclaaW.PrintMore Go.Proofs.Ytinniedbgfgclaa.Short Go.Proofs.Ytinniedbgfgclaa.Press
attribute [local go_sem] max2_int min2_int max_two min_two max_three min_three max_four min_four   -- for this text's walks alone
set_option linter.unusedVariables false
set_option linter.unusedSimpArgs false
def impl_clone.f (l0 : List (S95)) : Option ((List (S95))) := if l0.length < 5864062014805 then (some l0) else (none)
set_option maxHeartbeats 8000000 in
set_option maxRecDepth 100000 in
theorem impl_clone.calls (A0 : Option Addr) (c0 : Nat) (l0 : List (S95)) (r : List (S95)) (w : World) (hr0 : Kd.C k95 w A0 l0.length l0) (hc0 : l0.length ≤ c0) (h : impl_clone.f l0 = some r) :
  Calls Try.prog 74 #[.slice A0 l0.length c0] w fun e w' => ∃ v0_ : Value, e = .returned (v0_) ∧ Kd.R k95 95 w' w.heap.size (fun _ => True) v0_ r ∧ Below w.heap.size w w' := by
 have HR0 := kp hr0
 clear hr0
 unfold impl_clone.f at h
 by_cases hl : l0.length < 5864062014805
 ·rw [if_pos hl] at h; obtain rfl := Option.some.inj h; have HL := kp hl; have HC := kp hc0; clear hl hc0 h
  go_enter Try.func74, Try.ntmps74
  go_wp2_with (at_builtin; refine Kd.R_append_rows k95 (w0 := w) w.heap.size rfl (.const (.slice none 0 0)) (.tmp 3) 37 95 (.agg #[(.int .i64 0), (.int .i64 0), (.int .i64 0)]) 24 rfl Try.underlying37 info95 rfl (by decide) (by omega) (.slice none 0 0) [] l0 _ _ _ (fun _ => True) (fun _ => False) rfl rfl ?aO ?aR (fun _ _ h => h) (fun _ h => h.elim) ?aF ?aB ?aS ?aL ?_; (case aR => exact HR0.out); (case aB => exact Below.refl _ _); (case aF => exact (fun _ _ => trivial)); (case aO => exact Kd.R_nil _ _ _ _ _); (case aS => exact Nat.le_refl _); (case aL => have := HL.out; simp only [List.length_nil]; omega); intro v1 w1 ho hb hg hat; rw [List.nil_append] at ho; have HO := kp ho; have HB := kp hb; clear ho hb hg hat; obtain ⟨A1, c1, e1⟩ := Kd.R_slice HO.out; subst e1)
  go_ret; exact ⟨_, rfl, HO.out, HB.out⟩
 ·rw [if_neg hl] at h; cases h
def impl_clonePages.l0 : Nat → List (S39) → List (S39) → Int → Int → Option ((List (S39)))
 | 0, _, _, _, _ => none
 | k + 1, x3, x6, x7, x8 => if x8 < x7 then (if 0 ≤ x8 then (if x8 < (x6.length : Int) then ((impl_clone.f ((rd_T39 x6 x8).f0)).bind fun t412 => (if x3.length < 5864062014805 then (impl_clonePages.l0 k (x3 ++ [(⟨t412⟩ : S39)]) x6 x7 (wrap64 (x8 + 1))) else (none))) else (none)) else (none)) else (some x3)
def impl_clonePages.f (k : Nat) (l0 : List (S39)) : Option ((List (S39))) := impl_clonePages.l0 k ([] : List (S39)) l0 (l0.length : Int) 0
theorem impl_clonePages.mono_l : ∀ k, (∀ y0 y1 y2 y3, LeO (impl_clonePages.l0 k y0 y1 y2 y3) (impl_clonePages.l0 (k + 1) y0 y1 y2 y3))
 | 0 => fun _ _ _ _ r h => by simp [impl_clonePages.l0] at h
 | k + 1 => by
  have ih0 := impl_clonePages.mono_l k
  ·intro y0 y1 y2 y3
   unfold impl_clonePages.l0
   repeat' first
   | (with_reducible exact ih0 _ _ _ _)
   | (with_reducible exact LeO.refl _)
   | (with_reducible exact LeO.none _)
   | (with_reducible refine LeO.ite ?_ ?_)
   | (with_reducible refine LeO.bind ?_ (fun _ => ?_))
theorem impl_clonePages.mono : ∀ a0 k, LeO (impl_clonePages.f k a0) (impl_clonePages.f (k + 1) a0) := by
 intro a0 k
 have ih0 := impl_clonePages.mono_l k
 unfold impl_clonePages.f
 repeat' first
   | (with_reducible exact ih0 _ _ _ _)
   | (with_reducible exact LeO.refl _)
   | (with_reducible exact LeO.none _)
   | (with_reducible refine LeO.ite ?_ ?_)
   | (with_reducible refine LeO.bind ?_ (fun _ => ?_))
set_option maxHeartbeats 8000000 in
set_option maxRecDepth 100000 in
theorem impl_clonePages.calls (k : Nat) (A0 : Option Addr) (c0 : Nat) (l0 : List (S39)) (r : List (S39)) (w : World) (hr0 : Kd.C k39 w A0 l0.length l0) (hc0 : l0.length ≤ c0) (h : impl_clonePages.f k l0 = some r) :
  Calls Try.prog 97 #[.slice A0 l0.length c0] w fun e w' => ∃ v0_ : Value, e = .returned (v0_) ∧ Kd.S k39 39 w' w.heap.size (fun _ => True) v0_ r ∧ Below w.heap.size w w' := by
 have hu39 := Try.underlying39
 have HR0 := kp hr0
 have HC0 := kp hc0
 clear hr0 hc0
 have HB := kp (Below.refl w.heap.size w)
 have H : (impl_clonePages.l0 k ([] : List (S39)) l0 (l0.length : Int) 0) = some r := h
 clear h
 have H' := kp H
 clear H
 go_enter Try.func97, Try.ntmps97
 go_wp2
 go_loopg [3, 8] k (fun kq v3 v8 w' => ∃ (x3_1 : List (S39)) (x8_1 : Int), v8 = .int .i64 x8_1 ∧ Aside0 (impl_clonePages.l0 kq x3_1 l0 (l0.length : Int) x8_1 = some r) ∧ Aside0 (kq ≤ k) ∧ Aside0 (Kd.S k39 39 w' w.heap.size (fun _ => True) v3 x3_1) ∧ Aside0 (Below w.heap.size w w'))
 case atStart => exact ⟨(([] : List (S39))), (0), (by first | rfl | (simp; done) | (simp [*]; done)), H', ⟨Nat.le_refl _⟩, ⟨by first | exact Kd.S_nil _ _ _ _ _ | exact Kd.N_nil _ _ _ _ _ | exact Kd.V_nil _ _ _ _ _ | exact Kd.Q_nil _ _ _ _ _ | exact Kd.R_nil _ _ _ _ _⟩, ⟨bb⟩⟩
 case round =>
  clear H'; obtain ⟨x3_1, x8_1, rfl, HA, HK1, HO_3, HB⟩ := hrel
  cases gk with
  | zero => exact absurd HA.out (by simp [impl_clonePages.l0])
  | succ k1 =>
   have H := HA.out; clear HA; simp only [impl_clonePages.l0] at H
   by_cases c2 : x8_1 < (l0.length : Int)
   ·rw [if_pos c2] at H; have c2b0 : decide (x8_1 < (l0.length : Int)) = true := decide_eq_true c2; clear c2
    by_cases c3 : 0 ≤ x8_1
    ·rw [if_pos c3] at H; have c3b0 : decide (0 ≤ x8_1) = true := decide_eq_true c3; clear c3
     by_cases c4 : x8_1 < (l0.length : Int)
     ·rw [if_pos c4] at H; have c4b0 : decide (x8_1 < (l0.length : Int)) = true := decide_eq_true c4; clear c4; replace H := Option.bind_eq_some_iff.mp H; obtain ⟨t412, A50, H⟩ := H; replace H : (if x3_1.length < 5864062014805 then (impl_clonePages.l0 k1 (x3_1 ++ [(⟨t412⟩ : S39)]) l0 (l0.length : Int) (wrap64 (x8_1 + 1))) else (none)) = some r := H; have A5 := kp A50; clear A50
      by_cases c6 : x3_1.length < 5864062014805
      ·rw [if_pos c6] at H; have LMc6 := kp c6; clear c6; obtain ⟨y415, hy415⟩ : ∃ y_ : List (S39), y_ = (x3_1 ++ [(⟨t412⟩ : S39)]) := ⟨_, rfl⟩; replace H : (impl_clonePages.l0 k1 y415 l0 (l0.length : Int) (wrap64 (x8_1 + 1))) = some r := by first | (rw [hy415]; with_reducible exact H) | (have H2_ := (Option.bind_some _ _).symm.trans H; rw [hy415]; with_reducible exact H2_) | (have H2_ := (Option.bind_some _ _).symm.trans H; with_reducible exact H2_) | with_reducible exact H | (rw [hy415]; exact H) | exact H
       have Ny415 := kp hy415; clear hy415; have H' := kp H; clear H; have p410 : 0 ≤ (x8_1 : Int) := dt; have q410 : x8_1 < (l0.length : Int) := dt; obtain ⟨ad410, A410_0, c410_0, e410, hx410_0, hl410_0, hi410_0⟩ := at_T39 HR0.out x8_1 p410 q410; cases e410; replace hx410_0 := kc HB.out hx410_0; have HR410_0 := kp hi410_0; have HC410_0 := kp hl410_0; clear hi410_0 hl410_0; replace p410 := eq_true p410; replace q410 := eq_true q410
       go_wp2_with (first | ((with_reducible refine gate_dst (N := 5) rfl ?_); refine bx_ 5 #[.slice none 0 0] 39 ?_; intro gb411 hg w7 hbox hb; have n0_ := kp (Kd.S_below (Kd.S_elderB (by (with_reducible repeat (first | apply Kd.S_alloc | apply Kd.S_drewN | apply Kd.S_drew)); exact HO_3.out) gb411 (Nat.le_of_eq hg.symm)) hb); have n1_ := kp (below_step bb hb); have n2_ := kp (hbox); have n3_ := kp (bs hg); have n4_ := kp (bs hg); clear HO_3; clear HB; have HO_3 := n0_; have HB := n1_; have BK411 := n2_; have GW411 := n3_; have GE411 := n4_; clear n0_ n1_ n2_ n3_ n4_; clear hb hbox hg; have hcz8_0 : w7.cell? ⟨gb411, 0, none⟩ = some (.slice none 0 0) := (blk_cell BK411.out 0).trans rfl; have hfz8_0 := blk_frozen BK411.out 0) | ((with_reducible refine gate_callee (f := 74) rfl ?_); refine gl_ 15 Try.func74 #[.slice A410_0 ((rd_T39 l0 x8_1).f0).length c410_0] ?_; (with_reducible refine (impl_clone.calls _ _ ((rd_T39 l0 x8_1).f0) t412 _ ?side1 ?side2 A5.out).mono ?_); (case side1 => exact Kd.C_below HR410_0.out bb); (case side2 => exact HC410_0.out); rintro e w9 ⟨v413, rfl, ho0, hb⟩; refine ⟨_, rfl, ?_⟩; have n0_ := kp (Kd.S_elder' (by (with_reducible repeat (first | apply Kd.S_alloc | apply Kd.S_drewN | apply Kd.S_drew)); exact (Kd.S_mono (Kd.S_far (p := ⟨gb411, 0, none⟩) (Kd.S_mono HO_3.out (fun k_ hk => (⟨hk, hk.2⟩ : _ ∧ k_ ≠ gb411))) (fun _ hk => hk.2) (.slice A410_0 ((rd_T39 l0 x8_1).f0).length c410_0)) (fun _ h_ => h_.1))) (Kd.R_base ho0) hb); have n1_ := kp (Kd.R_lower ho0 (below_size bb)); have n2_ := kp (blk_below (g := gb411) (o := .cells #[.slice A410_0 ((rd_T39 l0 x8_1).f0).length c410_0] 39 (0, 0)) (by refine blk_put (cs := #[.slice none 0 0]) ?_ 0 _ rfl; (with_reducible repeat (first | apply bN | apply bD | apply bA)); exact BK411.out) hb); have n3_ := kp (below_step bb hb); clear HO_3; clear BK411; clear HB; have HO_3 := n0_; have HO414 := n1_; have BK411 := n2_; have HB := n3_; clear n0_ n1_ n2_ n3_; (try clear hb); (try clear ho0); obtain ⟨Ao10, co10, eo10⟩ := Kd.R_slice HO414.out; subst eo10) | ((with_reducible refine gate_builtin (b := .append) (xs := #[.tmp 12, .tmp 17]) rfl ?_); at_builtin; refine Kd.S_append k39 (w0 := w) w.heap.size rfl (.tmp 12) (.tmp 17) 59 39 (.agg #[(.slice none 0 0)]) 24 rfl Try.underlying59 info39 rfl (by decide) (by omega) u3 x3_1 (⟨t412⟩ : S39) [.slice Ao10 t412.length co10] (fun k_ => k_ ≠ gb411) (fun k_ => some k_ = (.slice Ao10 t412.length co10 : Value).ownBlock) rfl rfl ?aP (fun k_ hk_ => ((Kd.R_mono (ok' := fun k_ => ((fun k_ => k_ ≠ gb411)) k_ ∧ some k_ ≠ (u3 : Value).ownBlock) (Kd.R_types (Kd.R_apart' (HO414.out) (Kd.S_typed HO_3.out) (by decide)) BK411.out (by decide)) (fun k_ hk => ⟨hk.2, hk.1.2⟩))).1 k_ hk_.symm) ?aF ?aO ?aB ?aS ?aL ?_; (case aP => exact k39_mkM _ _ _ (⟨t412⟩ : S39) (Kd.R_mono (Kd.R_tight rfl (Kd.R_mono (ok' := fun k_ => ((fun k_ => k_ ≠ gb411)) k_ ∧ some k_ ≠ (u3 : Value).ownBlock) (Kd.R_types (Kd.R_apart' (HO414.out) (Kd.S_typed HO_3.out) (by decide)) BK411.out (by decide)) (fun k_ hk => ⟨hk.2, hk.1.2⟩))) (fun _ h_ => h_))); (case aB => exact bb); (case aF => exact (fun k_ hk => Kd.freshB (g := gb411) (o := .cells #[.slice A410_0 ((rd_T39 l0 x8_1).f0).length c410_0] 39 (0, 0)) (kk BK411.out) k_ hk)); (case aO => exact (by (with_reducible repeat (first | apply Kd.S_alloc | apply Kd.S_drewN | apply Kd.S_drew)); exact Kd.S_mono HO_3.out (fun k_ hk => ⟨hk.1.2, fun e_ => hk.2 e_⟩))); (case aS => exact (below_size bb)); (case aL => have := LMc6.out; omega); intro v416 w11 ho hb hg hat; rw [← Ny415.out] at ho; have n0_ := kp (blk_grown (g := gb411) (o := .cells #[.slice A410_0 ((rd_T39 l0 x8_1).f0).length c410_0] 39 (0, 0)) (kk BK411.out) hg (Kd.S_away HO_3.out (fun _ hk => hk.1.2))); have n1_ := kp (hb); have n2_ := kp (ho); clear BK411; clear HB; clear HO_3; clear HO414; have BK411 := n0_; have HB := n1_; have HO417 := n2_; clear n0_ n1_ n2_; clear ho hb hg hat))
       go_roundg k1
       case measure => have := HK1.out; omega
       case rel => exact ⟨(y415), (wrap64 (x8_1 + 1)), (by first | rfl | (simp; done) | (simp [*]; done)), H', ⟨by have := HK1.out; omega⟩, ⟨by (with_reducible repeat (first | apply Kd.S_alloc | apply Kd.S_drewN | apply Kd.S_drew)); exact Kd.S_mono HO417.out (fun _ hk => trivial)⟩, ⟨bb⟩⟩
      ·rw [if_neg c6] at H; exact absurd H (by simp)
     ·rw [if_neg c4] at H; exact absurd H (by simp)
    ·rw [if_neg c3] at H; exact absurd H (by simp)
   ·rw [if_neg c2] at H; have c2b0 : decide (x8_1 < (l0.length : Int)) = false := decide_eq_false c2; clear c2; obtain rfl := Option.some.inj H; go_wp2; go_ret; exact ⟨_, er, by (with_reducible repeat (first | apply Kd.S_alloc | apply Kd.S_drewN | apply Kd.S_drew)); exact HO_3.out, bb⟩
def impl_cloneDisk.l0 : Nat → List (S80) → Int → Int → List (S80) → Int → Option ((List (S80)) × Int)
 | 0, _, _, _, _, _ => none
 | k + 1, x10, x11, x12, x421000, x421001 => if x12 < x11 then (if 0 ≤ x12 then (if x12 < (x10.length : Int) then ((impl_clonePages.f k ((rd_T80 x10 x12).f1)).bind fun t423 => (if x421000.length < 2932031007402 then (impl_cloneDisk.l0 k x10 x11 (wrap64 (x12 + 1)) (x421000 ++ [(⟨(rd_T80 x10 x12).f0, t423, (rd_T80 x10 x12).f2, (rd_T80 x10 x12).f3⟩ : S80)]) x421001) else (none))) else (none)) else (none)) else (some (x421000, x421001))
def impl_cloneDisk.f (k : Nat) (l0_0 : List (S80)) (a0_1 : Int) : Option ((List (S80)) × Int) := impl_cloneDisk.l0 k l0_0 (l0_0.length : Int) 0 ([] : List (S80)) a0_1
theorem impl_cloneDisk.mono_l : ∀ k, (∀ y0 y1 y2 y3 y4, LeO (impl_cloneDisk.l0 k y0 y1 y2 y3 y4) (impl_cloneDisk.l0 (k + 1) y0 y1 y2 y3 y4))
 | 0 => fun _ _ _ _ _ r h => by simp [impl_cloneDisk.l0] at h
 | k + 1 => by
  have ih0 := impl_cloneDisk.mono_l k
  ·intro y0 y1 y2 y3 y4
   unfold impl_cloneDisk.l0
   repeat' first
   | (with_reducible exact ih0 _ _ _ _ _)
   | (with_reducible exact impl_clonePages.mono _ _)
   | (with_reducible exact LeO.refl _)
   | (with_reducible exact LeO.none _)
   | (with_reducible refine LeO.ite ?_ ?_)
   | (with_reducible refine LeO.bind ?_ (fun _ => ?_))
theorem impl_cloneDisk.mono : ∀ a0 a1 k, LeO (impl_cloneDisk.f k a0 a1) (impl_cloneDisk.f (k + 1) a0 a1) := by
 intro a0 a1 k
 have ih0 := impl_cloneDisk.mono_l k
 unfold impl_cloneDisk.f
 repeat' first
   | (with_reducible exact ih0 _ _ _ _ _)
   | (with_reducible exact impl_clonePages.mono _ _)
   | (with_reducible exact LeO.refl _)
   | (with_reducible exact LeO.none _)
   | (with_reducible refine LeO.ite ?_ ?_)
   | (with_reducible refine LeO.bind ?_ (fun _ => ?_))
def impl_cloneDisk.T5 : Bool × List (List Nat × List Nat) := (true, [([], []), ([0], [0]), ([], []), ([2], [2]), ([], []), ([4], [4]), ([5], [5]), ([], []), ([7], [7]), ([], []), ([9], [9]), ([3, 6, 8, 10], [3, 6, 8, 10]), ([11], [11]), ([1, 12, 6], [1, 12]), ([0, 1, 2, 3, 4, 5, 6, 7, 8, 9, 10, 11, 12, 13], []), ([14, 13, 13, 0, 1, 2, 3, 4, 5, 6, 7, 8, 9, 10, 11, 12, 13], [13, 14])])
def impl_cloneDisk.B5 : List Nat := [0, 1, 0, 4, 0, 16, 48, 0, 128, 0, 512, 2044, 4092, 8191, 16383, 32767]
theorem impl_cloneDisk.tab5 : rtab .any (opsOf Try.f64 5) = impl_cloneDisk.T5 := by kernel_rfl
theorem impl_cloneDisk.bits5 : waitsOk impl_cloneDisk.T5.2 impl_cloneDisk.B5 = true := by kernel_rfl
def impl_DeleteUnreadableFiles.l0 : Nat → List (S80) → List (S80) → Int → Int → List (S80) → Int → List (S80) → Int → Option ((List (S80)) × Int)
 | 0, _, _, _, _, _, _, _, _ => none
 | k + 1, x4, x13, x14, x15, x430000, x430001, x436000, x436001 => if x15 < x14 then (if 0 ≤ x15 then (if x15 < (x13.length : Int) then ((impl_ReadFile.f k x430000 x430001 ((rd_T80 x13 x15).f0)).bind fun bt441 => (if bt441.2 = true then (if x4.length < 2932031007402 then (impl_DeleteUnreadableFiles.l0 k (x4 ++ [(⟨(rd_T80 x13 x15).f0, (rd_T80 x13 x15).f1, (rd_T80 x13 x15).f2, (rd_T80 x13 x15).f3⟩ : S80)]) x13 x14 (wrap64 (x15 + 1)) x430000 x430001 x436000 x436001) else (none)) else (impl_DeleteUnreadableFiles.l0 k x4 x13 x14 (wrap64 (x15 + 1)) x430000 x430001 x436000 x436001))) else (none)) else (none)) else (some (x4, x436001))
def impl_DeleteUnreadableFiles.f (k : Nat) (l0_0 : List (S80)) (a0_1 : Int) : Option ((List (S80)) × Int) := (impl_cloneDisk.f k l0_0 a0_1).bind fun bt431 => (impl_DeleteUnreadableFiles.l0 k (([] : List (S80))) bt431.1 (bt431.1.length : Int) 0 l0_0 a0_1 bt431.1 bt431.2)
theorem impl_DeleteUnreadableFiles.mono_l : ∀ k, (∀ y0 y1 y2 y3 y4 y5 y6 y7, LeO (impl_DeleteUnreadableFiles.l0 k y0 y1 y2 y3 y4 y5 y6 y7) (impl_DeleteUnreadableFiles.l0 (k + 1) y0 y1 y2 y3 y4 y5 y6 y7))
 | 0 => fun _ _ _ _ _ _ _ _ r h => by simp [impl_DeleteUnreadableFiles.l0] at h
 | k + 1 => by
  have ih0 := impl_DeleteUnreadableFiles.mono_l k
  ·intro y0 y1 y2 y3 y4 y5 y6 y7
   unfold impl_DeleteUnreadableFiles.l0
   repeat' first
   | (with_reducible exact ih0 _ _ _ _ _ _ _ _)
   | (with_reducible exact impl_ReadFile.mono _ _ _ _)
   | (with_reducible exact impl_cloneDisk.mono _ _ _)
   | (with_reducible exact LeO.refl _)
   | (with_reducible exact LeO.none _)
   | (with_reducible refine LeO.ite ?_ ?_)
   | (with_reducible refine LeO.bind ?_ (fun _ => ?_))
theorem impl_DeleteUnreadableFiles.mono : ∀ a0 a1 k, LeO (impl_DeleteUnreadableFiles.f k a0 a1) (impl_DeleteUnreadableFiles.f (k + 1) a0 a1) := by
 intro a0 a1 k
 have ih0 := impl_DeleteUnreadableFiles.mono_l k
 unfold impl_DeleteUnreadableFiles.f
 repeat' first
   | (with_reducible exact ih0 _ _ _ _ _ _ _ _)
   | (with_reducible exact impl_ReadFile.mono _ _ _ _)
   | (with_reducible exact impl_cloneDisk.mono _ _ _)
   | (with_reducible exact LeO.refl _)
   | (with_reducible exact LeO.none _)
   | (with_reducible refine LeO.ite ?_ ?_)
   | (with_reducible refine LeO.bind ?_ (fun _ => ?_))
end Go.Proofs.Ytinniedbgfgclaa.PFnExactDeleteUnreadableFiles
