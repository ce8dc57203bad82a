/- Out of a copy of the print, with function values told: nothing is claimed here. -/
import Derived.Test.YtljpfogplcdcjaaVQFnSealedFilesx0
import Derived.Test.YtljpfogplcdcjaaVPress
import Derived.Test.YtljpfogplcdcjaaVFoldT
namespace Go.Proofs.Ytljpfogplcdcjaa.PFnSealedFiles
open Go.RowKit Go.Proofs.YtljpfogplcdcjaaW.PrintWords Go.Proofs.YtljpfogplcdcjaaW.PrintLast Go.Proofs.YtljpfogplcdcjaaW.PrintMore Go.Proofs.Ytljpfogplcdcjaa.Press Go.Proofs.Ytljpfogplcdcjaa.Fold
attribute [local go_sem] max2_int min2_int max_two min_two max_three min_three max_four min_four   -- for this text's walks alone
set_option linter.unusedVariables false
set_option linter.unusedSimpArgs false
def spec_UnpackPages.l0 : Nat → List (S39) → List (S42) → Int → Option ((List (S42)))
 | 0, _, _, _ => none
 | k + 1, x0, x3, x4 => if x4 < (x0.length : Int) then (if 0 ≤ x4 then (if x3.length + ((rd_T39 x0 x4).f0).length < 5864062014805 then (spec_UnpackPages.l0 k x0 (x3 ++ ((rd_T39 x0 x4).f0)) (wrap64 (x4 + 1))) else (none)) else (none)) else (some x3)
def spec_UnpackPages.f (k : Nat) (l0 : List (S39)) : Option ((List (S42))) := spec_UnpackPages.l0 k l0 (([] : List (S42))) 0
set_option maxHeartbeats 8000000 in
set_option maxRecDepth 100000 in
theorem spec_UnpackPages.calls (k : Nat) (A0 : Option Addr) (c0 : Nat) (l0 : List (S39)) (r : List (S42)) (w : World) (hr0 : Kd.C k39 w A0 l0.length l0) (hc0 : l0.length ≤ c0) (h : spec_UnpackPages.f k l0 = some r) :
  Calls Try.prog 96 #[.slice A0 l0.length c0] w fun e w' => ∃ v0_ : Value, e = .returned (v0_) ∧ Kd.R k42 42 w' w.heap.size (fun _ => True) v0_ r ∧ Below w.heap.size w w' := by
 have HR0 := kp hr0; have HC0 := kp hc0; clear hr0 hc0; have HB := kp (Below.refl w.heap.size w); have H := h; clear h; unfold spec_UnpackPages.f at H; obtain ⟨y655, hy655⟩ : ∃ y_ : List (S42), y_ = (([] : List (S42))) := ⟨_, rfl⟩; replace H : (spec_UnpackPages.l0 k l0 y655 0) = some r := by first | (rw [hy655]; with_reducible exact H) | (have H2_ := (Option.bind_some _ _).symm.trans H; rw [hy655]; with_reducible exact H2_) | (have H2_ := (Option.bind_some _ _).symm.trans H; with_reducible exact H2_) | with_reducible exact H | (rw [hy655]; exact H) | exact H
 have Ny655 := kp hy655; clear hy655; have H' := kp H; clear H; go_enter Try.func96, Try.ntmps96; go_wp2_with (first | ((with_reducible refine gate_dst (N := 5) rfl ?_); refine Kd.R_lit k42 _ 42 ?hg (N := 5) ?hd (xs := ([] : List (S42))) (inner := []) (ok := fun _ => True) (okp := fun _ => True) ?hr ?hp (fun _ hk => hk) trivial (Below.refl _ _) (Nat.le_refl _) (by simp) ?_; (case hd => rfl); (case hg => rfl); (case hr => first | (go_simp; done) | (go_simp; rfl)); (case hp => exact (Reps.none _ _)); intro v656 w2 ho3 hb hg_ hnew_; clear hg_ hnew_; (first | rw [← Ny655.out] at ho3 | (simp only [Int.reduceToNat] at ho3; rw [← Ny655.out] at ho3)); have HO657 := kp (Kd.R_lower ho3 (below_size bb)); replace HB := kp (below_step bb hb); clear hb ho3)); (try simp only [Act.put, List.setIfInBounds_toArray, List.set_cons_zero, List.set_cons_succ]); go_loopg [3, 4] k (fun kq v3 v4 w' => ∃ (x3_1 : List (S42)) (x4_1 : Int), v4 = .int .i64 x4_1 ∧ Aside0 (spec_UnpackPages.l0 kq l0 x3_1 x4_1 = some r) ∧ Aside0 (kq ≤ k) ∧ Aside0 (Kd.R k42 42 w' w.heap.size (fun _ => True) v3 x3_1) ∧ Aside0 (Below w.heap.size w w')); case atStart => exact ⟨(y655), (0), vr, H', ⟨Nat.le_refl _⟩, ⟨sR HO657.out⟩, ⟨bb⟩⟩
 case round =>
  clear H'; obtain ⟨x3_1, x4_1, rfl, HA, HK1, HO_3, HB⟩ := hrel
  cases gk with
  | zero => exact absurd HA.out (by simp [spec_UnpackPages.l0])
  | succ k1 =>
   have H := HA.out; clear HA; simp only [spec_UnpackPages.l0] at H; replace H := sp H; rcases H with ⟨c4b0, H⟩ | ⟨c4b0, H⟩
   ·replace H := sn H; obtain ⟨c5b0, H⟩ := H; by_cases c6 : x3_1.length + ((rd_T39 l0 x4_1).f0).length < 5864062014805
    ·rw [if_pos c6] at H; have LMc6 := kp c6; clear c6; obtain ⟨y659, hy659⟩ : ∃ y_ : List (S42), y_ = (x3_1 ++ ((rd_T39 l0 x4_1).f0)) := ⟨_, rfl⟩; replace H : (spec_UnpackPages.l0 k1 l0 y659 (wrap64 (x4_1 + 1))) = some r := by first | (rw [hy659]; with_reducible exact H) | (have H2_ := (Option.bind_some _ _).symm.trans H; rw [hy659]; with_reducible exact H2_) | (have H2_ := (Option.bind_some _ _).symm.trans H; with_reducible exact H2_) | with_reducible exact H | (rw [hy659]; exact H) | exact H
     have Ny659 := kp hy659; clear hy659; have H' := kp H; clear H; obtain ⟨ad658, A658_0, c658_0, rfl, hx658_0, HC658_0, HR658_0, p658, q658⟩ := ra_T39 HR0 HB x4_1 dt dt; go_wp2_with (first | ((with_reducible refine gate_builtin (b := .append) (xs := #[.tmp 12, .tmp 17]) rfl ?_); at_builtin; refine Kd.R_append_rows k42 (w0 := w) w.heap.size rfl (.tmp 12) (.tmp 17) 26 42 (.agg #[(.int .i64 0), (.int .i64 0), (.int .i64 0)]) 24 rfl Try.underlying26 info42 rfl (by decide) (by omega) u3 x3_1 ((rd_T39 l0 x4_1).f0) _ _ _ (fun _ => True) (fun _ => False) rfl rfl ?aO ?aR (fun _ _ h => h) (fun _ h => h.elim) ?aF ?aB ?aS ?aL ?_; (case aR => repeat (first | exact (Kd.C_below HR658_0.out HB.out) | (with_reducible refine Kd.C_alloc ?_ _) | (with_reducible refine Kd.C_drewN ?_ _) | (with_reducible refine Kd.C_drew ?_))); (case aB => exact bb); (case aF => exact (fun _ _ => trivial)); (case aO => exact (sR HO_3.out)); (case aS => exact (below_size bb)); (case aL => have := LMc6.out; omega); intro v660 w7 ho hb hg hat; rw [← Ny659.out] at ho; replace HB := kp (hb); have HO661 := kp (ho); clear HO_3; clear ho hb hg hat)); go_roundg k1; case measure => have := HK1.out; omega
     case rel => exact ⟨(y659), (wrap64 (x4_1 + 1)), vr, H', ⟨by have := HK1.out; omega⟩, ⟨sR HO661.out⟩, ⟨bb⟩⟩
    ·rw [if_neg c6] at H; exact absurd H (by simp)
   ·obtain rfl := Option.some.inj H; go_wp2; go_ret; exact ⟨_, er, by (with_reducible repeat (first | apply Kd.R_alloc | apply Kd.R_drewN | apply Kd.R_drew)); exact HO_3.out, bb⟩
end Go.Proofs.Ytljpfogplcdcjaa.PFnSealedFiles
