/- Out of a copy of the print, with function values told: nothing is claimed here. -/
import Derived.Test.YtljpfogplcdcjaaVQFnSealedFilesx0
import Derived.Test.YtljpfogplcdcjaaVQFnSealedFilesx12
import Derived.Test.YtljpfogplcdcjaaVQFnSealedFilesx16
import Derived.Test.YtljpfogplcdcjaaVShort
import Derived.Test.YtljpfogplcdcjaaVPress
import Derived.Test.YtljpfogplcdcjaaVFoldT
namespace Go.Proofs.Ytljpfogplcdcjaa.PFnSealedFiles
open Go.RowKit Go.Proofs.YtljpfogplcdcjaaW.PrintWords Go.Proofs.YtljpfogplcdcjaaW.PrintLast Go.Proofs.YtljpfogplcdcjaaW.PrintMore Go.Proofs.Ytljpfogplcdcjaa.Short Go.Proofs.Ytljpfogplcdcjaa.Press Go.Proofs.Ytljpfogplcdcjaa.Fold
attribute [local go_sem] max2_int min2_int max_two min_two max_three min_three max_four min_four   -- for this text's walks alone
set_option linter.unusedVariables false
set_option linter.unusedSimpArgs false
def impl_rowTexts.l0 : Nat → List ByteArray → List (S42) → Int → Int → Option (ByteArray)
 | 0, _, _, _, _ => none
 | k + 1, x3, x7, x8, x9 => if x9 < x8 then (if 0 ≤ x9 then (if x9 < (x7.length : Int) then ((impl_FormatRow.f k ((rd_T42 x7 x9).f0) ((rd_T42 x7 x9).f1) ((rd_T42 x7 x9).f2)).bind fun t500 => (if x3.length < 8796093022208 then (impl_rowTexts.l0 k (x3 ++ [t500]) x7 x8 (wrap64 (x9 + 1))) else (none))) else (none)) else (none)) else ((impl_joined.f k x3 (⟨#[32]⟩ : ByteArray)).bind fun t504 => (some t504))
def impl_rowTexts.f (k : Nat) (l0 : List (S42)) : Option (ByteArray) := impl_rowTexts.l0 k (([] : List ByteArray)) l0 (l0.length : Int) 0
set_option maxHeartbeats 8000000 in
set_option maxRecDepth 100000 in
theorem impl_rowTexts.calls (k : Nat) (A0 : Option Addr) (c0 : Nat) (l0 : List (S42)) (r : ByteArray) (w : World) (hr0 : Kd.C k42 w A0 l0.length l0) (hc0 : l0.length ≤ c0) (h : impl_rowTexts.f k l0 = some r) :
  Calls Try.prog 88 #[.slice A0 l0.length c0] w fun e w' => e = .returned (.string r) ∧ Below w.heap.size w w' := by
 have hu42 := Try.underlying42; have HR0 := kp hr0; have HC0 := kp hc0; clear hr0 hc0; have HB := kp (Below.refl w.heap.size w); have H := h; clear h; unfold impl_rowTexts.f at H; obtain ⟨y495, hy495⟩ : ∃ y_ : List ByteArray, y_ = (([] : List ByteArray)) := ⟨_, rfl⟩; replace H : (impl_rowTexts.l0 k y495 l0 (l0.length : Int) 0) = some r := by first | (rw [hy495]; with_reducible exact H) | (have H2_ := (Option.bind_some _ _).symm.trans H; rw [hy495]; with_reducible exact H2_) | (have H2_ := (Option.bind_some _ _).symm.trans H; with_reducible exact H2_) | with_reducible exact H | (rw [hy495]; exact H) | exact H
 have Ny495 := kp hy495; clear hy495; have H' := kp H; clear H; go_enter Try.func88, Try.ntmps88; go_wp2_with (first | ((with_reducible refine gate_dst (N := 6) rfl ?_); refine Kd.R_lit Kd.string _ 9 ?hg (N := 6) ?hd (xs := ([] : List ByteArray)) (inner := []) (ok := fun _ => True) (okp := fun _ => True) ?hr ?hp (fun _ hk => hk) trivial (Below.refl _ _) (Nat.le_refl _) (by simp) ?_; (case hd => rfl); (case hg => rfl); (case hr => first | (go_simp; done) | (go_simp; rfl)); (case hp => exact (Reps.none _ _)); intro v496 w2 ho3 hb hg_ hnew_; clear hg_ hnew_; (first | rw [← Ny495.out] at ho3 | (simp only [Int.reduceToNat] at ho3; rw [← Ny495.out] at ho3)); have HO497 := kp (Kd.R_lower ho3 (below_size bb)); replace HB := kp (below_step bb hb); clear hb ho3)); (try simp only [Act.put, List.setIfInBounds_toArray, List.set_cons_zero, List.set_cons_succ]); go_loopg [3, 9] k (fun kq v3 v9 w' => ∃ (x3_1 : List ByteArray) (x9_1 : Int), v9 = .int .i64 x9_1 ∧ Aside0 (impl_rowTexts.l0 kq x3_1 l0 (l0.length : Int) x9_1 = some r) ∧ Aside0 (kq ≤ k) ∧ Aside0 (Kd.R Kd.string 9 w' w.heap.size (fun _ => True) v3 x3_1) ∧ Aside0 (Below w.heap.size w w')); case atStart => exact ⟨(y495), (0), vr, H', ⟨Nat.le_refl _⟩, ⟨sN HO497.out⟩, ⟨bb⟩⟩
 case round =>
  clear H'; obtain ⟨x3_1, x9_1, rfl, HA, HK1, HO_3, HB⟩ := hrel
  cases gk with
  | zero => exact absurd HA.out (by simp [impl_rowTexts.l0])
  | succ k1 =>
   have H := HA.out; clear HA; simp only [impl_rowTexts.l0] at H; replace H := sp H; rcases H with ⟨c4b0, H⟩ | ⟨c4b0, H⟩
   ·replace H := sn H; obtain ⟨c5b0, H⟩ := H; replace H := sn H; obtain ⟨c6b0, H⟩ := H; replace H := ob H; obtain ⟨t500, A7, H⟩ := H; by_cases c8 : x3_1.length < 8796093022208
    ·rw [if_pos c8] at H; have LMc8 := kp c8; clear c8; obtain ⟨y501, hy501⟩ : ∃ y_ : List ByteArray, y_ = (x3_1 ++ [t500]) := ⟨_, rfl⟩; replace H : (impl_rowTexts.l0 k1 y501 l0 (l0.length : Int) (wrap64 (x9_1 + 1))) = some r := by first | (rw [hy501]; with_reducible exact H) | (have H2_ := (Option.bind_some _ _).symm.trans H; rw [hy501]; with_reducible exact H2_) | (have H2_ := (Option.bind_some _ _).symm.trans H; with_reducible exact H2_) | with_reducible exact H | (rw [hy501]; exact H) | exact H
     have Ny501 := kp hy501; clear hy501; have H' := kp H; clear H; obtain ⟨ad498, rfl, hx498_0, hx498_1, hx498_2, p498, q498⟩ := ra_T42 HR0 HB x9_1 dt dt
     go_wp2_with (first | ((with_reducible refine gate_dst (N := 5) rfl ?_); refine bx_ 5 #[.int .i64 0, .int .i64 0, .int .i64 0] 42 ?_; intro gb499 hg w9 hbox hb; replace HO_3 := kp (Kd.R_below (sN HO_3.out) hb); have BK499 := kp (hbox); have GE499 := kp (bs hg); replace HB := kp (below_step bb hb); clear hb hbox hg; obtain ⟨hcz10_0, hcz10_1, hcz10_2, hfz10_0, hfz10_1, hfz10_2⟩ := bf3 BK499.out) | ((with_reducible refine gate_callee (f := 101) rfl ?_); refine gl_ 15 Try.func101 #[.agg #[.int .i64 ((rd_T42 l0 x9_1).f0), .int .i64 ((rd_T42 l0 x9_1).f1), .int .i64 ((rd_T42 l0 x9_1).f2)]] ?_; (with_reducible refine (impl_FormatRow.calls k1 ((rd_T42 l0 x9_1).f0) ((rd_T42 l0 x9_1).f1) ((rd_T42 l0 x9_1).f2) t500 _ A7.out).mono ?_); rintro e w11 ⟨rfl, hb⟩; refine ⟨_, rfl, ?_⟩; replace HO_3 := kp (Kd.R_below (by (with_reducible repeat (first | apply rA | apply rN | apply rD)); exact (Kd.R_mono (Kd.R_far (p := ⟨gb499, 2, none⟩) (Kd.R_far (p := ⟨gb499, 1, none⟩) (Kd.R_far (p := ⟨gb499, 0, none⟩) (Kd.R_types HO_3.out BK499.out (by decide)) (fun _ hk => hk.2) (.int .i64 ((rd_T42 l0 x9_1).f0))) (fun _ hk => hk.2) (.int .i64 ((rd_T42 l0 x9_1).f1))) (fun _ hk => hk.2) (.int .i64 ((rd_T42 l0 x9_1).f2))) (fun _ h_ => h_.1))) hb); replace BK499 := kp (blk_below (g := gb499) (o := .cells #[.int .i64 ((rd_T42 l0 x9_1).f0), .int .i64 ((rd_T42 l0 x9_1).f1), .int .i64 ((rd_T42 l0 x9_1).f2)] 42 (0, 0)) (kq3 BK499.out) hb); replace HB := kp (below_step bb hb); (try clear hb)) | ((with_reducible refine gate_builtin (b := .append) (xs := #[.tmp 13, .tmp 16]) rfl ?_); at_builtin; refine Kd.R_append Kd.string (w0 := w) w.heap.size rfl (.tmp 13) (.tmp 16) 80 9 (.string ⟨#[]⟩) 16 rfl Try.underlying80 info9 rfl (by decide) (by omega) u3 x3_1 t500 [.string t500] (fun _ => True) (fun _ => False) rfl rfl ?aP (fun _ hk => hk.elim) ?aF ?aO ?aB ?aS ?aL ?_; (case aP => exact rfl); (case aB => exact bb); (case aF => exact (fun _ _ => trivial)); (case aO => exact (sN HO_3.out)); (case aS => exact (below_size bb)); (case aL => have := LMc8.out; omega); intro v502 w12 ho hb hg hat; rw [← Ny501.out] at ho; replace BK499 := kp (blk_grown (g := gb499) (o := .cells #[.int .i64 ((rd_T42 l0 x9_1).f0), .int .i64 ((rd_T42 l0 x9_1).f1), .int .i64 ((rd_T42 l0 x9_1).f2)] 42 (0, 0)) (kk BK499.out) hg (Kd.R_ne HO_3.out BK499.out (by decide))); replace HB := kp (hb); have HO503 := kp (ho); clear HO_3; clear ho hb hg hat))
     go_roundg k1; case measure => have := HK1.out; omega
     case rel => exact ⟨(y501), (wrap64 (x9_1 + 1)), vr, H', ⟨by have := HK1.out; omega⟩, ⟨sN HO503.out⟩, ⟨bb⟩⟩
    ·rw [if_neg c8] at H; exact absurd H (by simp)
   ·replace H := ob H; obtain ⟨t504, A13, H⟩ := H; obtain rfl := Option.some.inj H; obtain ⟨Ao14, co14, eo14⟩ := Kd.R_slice HO_3.out; subst eo14; go_wp2_with (first | ((with_reducible refine gate_callee (f := 102) rfl ?_); refine gl_ 20 Try.func102 #[.slice Ao14 x3_1.length co14, .string (⟨#[32]⟩ : ByteArray)] ?_; (with_reducible refine (impl_joined.calls k1 _ _ x3_1 (⟨#[32]⟩ : ByteArray) t504 _ ?side1 ?side2 A13.out).mono ?_); (case side1 => exact sC (Kd.R_reads' HO_3.out).2.2); (case side2 => exact (Kd.R_reads' HO_3.out).2.1); rintro e w' ⟨rfl, ⟨nd, rfl⟩⟩; refine ⟨_, rfl, ?_⟩)); go_ret; exact ⟨er, bb⟩
def impl_FormatRows.f (k : Nat) (l0 : List (S42)) : Option (ByteArray) := (impl_AreValidRows.f k l0).bind fun t505 => (if t505 = true then ((impl_rowTexts.f k l0).bind fun t506 => (some t506)) else (some (⟨#[]⟩ : ByteArray)))
set_option maxHeartbeats 8000000 in
set_option maxRecDepth 100000 in
theorem impl_FormatRows.calls (k : Nat) (A0 : Option Addr) (c0 : Nat) (l0 : List (S42)) (r : ByteArray) (w : World) (hr0 : Kd.C k42 w A0 l0.length l0) (hc0 : l0.length ≤ c0) (h : impl_FormatRows.f k l0 = some r) :
  Calls Try.prog 66 #[.slice A0 l0.length c0] w fun e w' => e = .returned (.string r) ∧ Below w.heap.size w w' := by
 have HR0 := kp hr0; have HC0 := kp hc0; clear hr0 hc0; have HB := kp (Below.refl w.heap.size w); have H := h; clear h; unfold impl_FormatRows.f at H; replace H := ob H; obtain ⟨t505, A2, H⟩ := H; by_cases c3 : t505 = true; subst c3; replace H := ip H; replace H := ob H; obtain ⟨t506, A4, H⟩ := H; obtain rfl := Option.some.inj H; rotate_left; replace c3 := Bool.eq_false_iff.mpr c3; subst c3; replace H := ie H; obtain rfl := Option.some.inj H
 all_goals
  go_enter Try.func66, Try.ntmps66; go_wp2_with (first | ((with_reducible refine gate_callee (f := 45) rfl ?_); refine gl_ 4 Try.func45 #[.slice A0 l0.length c0] ?_; (with_reducible refine (impl_AreValidRows.calls k _ _ l0 _ _ ?side1 ?side2 A2.out).mono ?_); (case side1 => exact sC HR0.out); (case side2 => exact HC0.out); rintro e w5 ⟨rfl, hb⟩; refine ⟨_, rfl, ?_⟩; replace HB := kp (below_step bb hb); (try clear hb)) | ((with_reducible refine gate_callee (f := 88) rfl ?_); refine gl_ 7 Try.func88 #[.slice A0 l0.length c0] ?_; (with_reducible refine (impl_rowTexts.calls k _ _ l0 t506 _ ?side1 ?side2 A4.out).mono ?_); (case side1 => exact cc HR0.out); (case side2 => exact HC0.out); rintro e w6 ⟨rfl, hb⟩; refine ⟨_, rfl, ?_⟩; replace HB := kp (below_step bb hb); (try clear hb))); go_ret; exact ⟨er, bb⟩
def impl_FormatPages.l0 : Nat → ByteArray → List (S39) → Int → Int → Option (ByteArray)
 | 0, _, _, _, _ => none
 | k + 1, x3, x9, x10, x11 => if x11 < x10 then (if 0 ≤ x11 then (if x11 < (x9.length : Int) then ((impl_FormatRows.f k ((rd_T39 x9 x11).f0)).bind fun t510 => (if 1 + t510.size ≤ 9223372036854775807 then (if ((⟨#[91]⟩ : ByteArray) ++ t510).size + 1 ≤ 9223372036854775807 then (if x3.size + (((⟨#[91]⟩ : ByteArray) ++ t510) ++ (⟨#[93]⟩ : ByteArray)).size ≤ 9223372036854775807 then (impl_FormatPages.l0 k (x3 ++ (((⟨#[91]⟩ : ByteArray) ++ t510) ++ (⟨#[93]⟩ : ByteArray))) x9 x10 (wrap64 (x11 + 1))) else (none)) else (none)) else (none))) else (none)) else (none)) else (some x3)
def impl_FormatPages.f (k : Nat) (l0 : List (S39)) : Option (ByteArray) := (impl_validPages.f k l0).bind fun t507 => (if t507 = true then (impl_FormatPages.l0 k (⟨#[]⟩ : ByteArray) l0 (l0.length : Int) 0) else (some (⟨#[]⟩ : ByteArray)))
set_option maxHeartbeats 8000000 in
set_option maxRecDepth 100000 in
theorem impl_FormatPages.calls (k : Nat) (A0 : Option Addr) (c0 : Nat) (l0 : List (S39)) (r : ByteArray) (w : World) (hr0 : Kd.C k39 w A0 l0.length l0) (hc0 : l0.length ≤ c0) (h : impl_FormatPages.f k l0 = some r) :
  Calls Try.prog 25 #[.slice A0 l0.length c0] w fun e w' => e = .returned (.string r) ∧ Below w.heap.size w w' := by
 have hu39 := Try.underlying39; have HR0 := kp hr0; have HC0 := kp hc0; clear hr0 hc0; have HB := kp (Below.refl w.heap.size w); have H := h; clear h; unfold impl_FormatPages.f at H; replace H := ob H; obtain ⟨t507, A2, H⟩ := H; by_cases c3 : t507 = true; subst c3; replace H := ip H; have H' := kp H; clear H; have i0_ := kp True.intro; rotate_left; replace c3 := Bool.eq_false_iff.mpr c3; subst c3; replace H := ie H; obtain rfl := Option.some.inj H
 all_goals
  go_enter Try.func25, Try.ntmps25; go_wp2_with (first | ((with_reducible refine gate_callee (f := 65) rfl ?_); refine gl_ 7 Try.func65 #[.slice A0 l0.length c0] ?_; (with_reducible refine (impl_validPages.calls k _ _ l0 _ _ ?side1 ?side2 A2.out).mono ?_); (case side1 => exact sC HR0.out); (case side2 => exact HC0.out); rintro e w4 ⟨rfl, hb⟩; refine ⟨_, rfl, ?_⟩; replace HB := kp (below_step bb hb); (try clear hb)))
  first
  | refine tg i0_ ?_; (try simp only [Act.put, List.setIfInBounds_toArray, List.set_cons_zero, List.set_cons_succ]); go_loopg [3, 11] k (fun kq v3 v11 w' => ∃ (x3_1 : ByteArray) (x11_1 : Int), v3 = .string x3_1 ∧ v11 = .int .i64 x11_1 ∧ Aside0 (impl_FormatPages.l0 kq x3_1 l0 (l0.length : Int) x11_1 = some r) ∧ Aside0 (kq ≤ k) ∧ Aside0 (Below w.heap.size w w')); case atStart => exact ⟨((⟨#[]⟩ : ByteArray)), (0), vr, vr, H', ⟨Nat.le_refl _⟩, ⟨bb⟩⟩
    case round =>
     clear H'; try clear c3
     obtain ⟨x3_1, x11_1, rfl, rfl, HA, HK1, HB⟩ := hrel
     cases gk with
     | zero => exact absurd HA.out (by simp [impl_FormatPages.l0])
     | succ k1 =>
      have H := HA.out; clear HA; simp only [impl_FormatPages.l0] at H; replace H := sp H; rcases H with ⟨c5b0, H⟩ | ⟨c5b0, H⟩
      ·replace H := sn H; obtain ⟨c6b0, H⟩ := H; replace H := sn H; obtain ⟨c7b0, H⟩ := H; replace H := ob H; obtain ⟨t510, A8, H⟩ := H; by_cases c9 : 1 + t510.size ≤ 9223372036854775807
       ·rw [if_pos c9] at H; have c9b0 := eq_true c9; have c9b1 : decide (1 + t510.size ≤ 9223372036854775807) = true := decide_eq_true c9; try have c9b2 : (9223372036854775807 < 1 + t510.size) = False := eq_false (Nat.not_lt.2 c9)
        by_cases c10 : ((⟨#[91]⟩ : ByteArray) ++ t510).size + 1 ≤ 9223372036854775807
        ·rw [if_pos c10] at H; have c10b0 := eq_true c10; have c10b1 : decide (((⟨#[91]⟩ : ByteArray) ++ t510).size + 1 ≤ 9223372036854775807) = true := decide_eq_true c10; try have c10b2 : (9223372036854775807 < ((⟨#[91]⟩ : ByteArray) ++ t510).size + 1) = False := eq_false (Nat.not_lt.2 c10)
         have c10b3 : (9223372036854775807 < 1 + t510.size + 1) = False := eq_false (by have h_ := c10; have e_ : (⟨#[46]⟩ : ByteArray).size = 1 := rfl; have e2_ : (⟨#[32]⟩ : ByteArray).size = 1 := rfl; have e3_ : (⟨#[91]⟩ : ByteArray).size = 1 := rfl; have e4_ : (⟨#[93]⟩ : ByteArray).size = 1 := rfl; simp only [ByteArray.size_append] at h_; omega); by_cases c11 : x3_1.size + (((⟨#[91]⟩ : ByteArray) ++ t510) ++ (⟨#[93]⟩ : ByteArray)).size ≤ 9223372036854775807
         ·rw [if_pos c11] at H; have c11b0 := eq_true c11; have c11b1 : decide (x3_1.size + (((⟨#[91]⟩ : ByteArray) ++ t510) ++ (⟨#[93]⟩ : ByteArray)).size ≤ 9223372036854775807) = true := decide_eq_true c11; try have c11b2 : (9223372036854775807 < x3_1.size + (((⟨#[91]⟩ : ByteArray) ++ t510) ++ (⟨#[93]⟩ : ByteArray)).size) = False := eq_false (Nat.not_lt.2 c11)
          have c11b3 : (9223372036854775807 < x3_1.size + 1 + t510.size + 1) = False := eq_false (by have h_ := c11; have e_ : (⟨#[46]⟩ : ByteArray).size = 1 := rfl; have e2_ : (⟨#[32]⟩ : ByteArray).size = 1 := rfl; have e3_ : (⟨#[91]⟩ : ByteArray).size = 1 := rfl; have e4_ : (⟨#[93]⟩ : ByteArray).size = 1 := rfl; simp only [ByteArray.size_append] at h_; omega); have H' := kp H; clear H; obtain ⟨ad508, A508_0, c508_0, rfl, hx508_0, HC508_0, HR508_0, p508, q508⟩ := ra_T39 HR0 HB x11_1 dt dt; go_wp2_with (first | ((with_reducible refine gate_dst (N := 5) rfl ?_); refine bx_ 5 #[.slice none 0 0] 39 ?_; intro gb509 hg w12 hbox hb; have BK509 := kp (hbox); have GE509 := kp (bs hg); replace HB := kp (below_step bb hb); clear hb hbox hg; obtain ⟨hcz13_0, hfz13_0⟩ := bf1 BK509.out) | ((with_reducible refine gate_callee (f := 66) rfl ?_); refine gl_ 18 Try.func66 #[.slice A508_0 ((rd_T39 l0 x11_1).f0).length c508_0] ?_; (with_reducible refine (impl_FormatRows.calls k1 _ _ ((rd_T39 l0 x11_1).f0) t510 _ ?side1 ?side2 A8.out).mono ?_); (case side1 => exact Kd.C_below HR508_0.out bb); (case side2 => exact HC508_0.out); rintro e w14 ⟨rfl, hb⟩; refine ⟨_, rfl, ?_⟩; replace BK509 := kp (blk_below (g := gb509) (o := .cells #[.slice A508_0 ((rd_T39 l0 x11_1).f0).length c508_0] 39 (0, 0)) (kq1 BK509.out) hb); replace HB := kp (below_step bb hb); (try clear hb))); go_roundg k1; case measure => have := HK1.out; omega
          case rel => exact ⟨(x3_1 ++ (((⟨#[91]⟩ : ByteArray) ++ t510) ++ (⟨#[93]⟩ : ByteArray))), (wrap64 (x11_1 + 1)), vr, vr, H', ⟨by have := HK1.out; omega⟩, ⟨bb⟩⟩
         ·rw [if_neg c11] at H; exact absurd H (by simp)
        ·rw [if_neg c10] at H; exact absurd H (by simp)
       ·rw [if_neg c9] at H; exact absurd H (by simp)
      ·obtain rfl := Option.some.inj H; go_wp2; go_ret; exact ⟨er, bb⟩
  | go_ret; exact ⟨er, bb⟩
def impl_UnpackPages.l0 : Nat → List (S42) → List (S39) → Int → Int → Option ((List (S42)))
 | 0, _, _, _, _ => none
 | k + 1, x3, x7, x8, x9 => if x9 < x8 then (if 0 ≤ x9 then (if x9 < (x7.length : Int) then (if x3.length + ((rd_T39 x7 x9).f0).length < 5864062014805 then (impl_UnpackPages.l0 k (x3 ++ ((rd_T39 x7 x9).f0)) x7 x8 (wrap64 (x9 + 1))) else (none)) else (none)) else (none)) else (some x3)
def impl_UnpackPages.f (k : Nat) (l0 : List (S39)) : Option ((List (S42))) := impl_UnpackPages.l0 k (([] : List (S42))) l0 (l0.length : Int) 0
set_option maxHeartbeats 8000000 in
set_option maxRecDepth 100000 in
theorem impl_UnpackPages.calls (k : Nat) (A0 : Option Addr) (c0 : Nat) (l0 : List (S39)) (r : List (S42)) (w : World) (hr0 : Kd.C k39 w A0 l0.length l0) (hc0 : l0.length ≤ c0) (h : impl_UnpackPages.f k l0 = some r) :
  Calls Try.prog 27 #[.slice A0 l0.length c0] w fun e w' => ∃ v0_ : Value, e = .returned (v0_) ∧ Kd.R k42 42 w' w.heap.size (fun _ => True) v0_ r ∧ Below w.heap.size w w' := by
 have hu39 := Try.underlying39; have HR0 := kp hr0; have HC0 := kp hc0; clear hr0 hc0; have HB := kp (Below.refl w.heap.size w); have H := h; clear h; unfold impl_UnpackPages.f at H; obtain ⟨y511, hy511⟩ : ∃ y_ : List (S42), y_ = (([] : List (S42))) := ⟨_, rfl⟩; replace H : (impl_UnpackPages.l0 k y511 l0 (l0.length : Int) 0) = some r := by first | (rw [hy511]; with_reducible exact H) | (have H2_ := (Option.bind_some _ _).symm.trans H; rw [hy511]; with_reducible exact H2_) | (have H2_ := (Option.bind_some _ _).symm.trans H; with_reducible exact H2_) | with_reducible exact H | (rw [hy511]; exact H) | exact H
 have Ny511 := kp hy511; clear hy511; have H' := kp H; clear H; go_enter Try.func27, Try.ntmps27; go_wp2_with (first | ((with_reducible refine gate_dst (N := 6) rfl ?_); refine Kd.R_lit k42 _ 42 ?hg (N := 6) ?hd (xs := ([] : List (S42))) (inner := []) (ok := fun _ => True) (okp := fun _ => True) ?hr ?hp (fun _ hk => hk) trivial (Below.refl _ _) (Nat.le_refl _) (by simp) ?_; (case hd => rfl); (case hg => rfl); (case hr => first | (go_simp; done) | (go_simp; rfl)); (case hp => exact (Reps.none _ _)); intro v512 w2 ho3 hb hg_ hnew_; clear hg_ hnew_; (first | rw [← Ny511.out] at ho3 | (simp only [Int.reduceToNat] at ho3; rw [← Ny511.out] at ho3)); have HO513 := kp (Kd.R_lower ho3 (below_size bb)); replace HB := kp (below_step bb hb); clear hb ho3)); (try simp only [Act.put, List.setIfInBounds_toArray, List.set_cons_zero, List.set_cons_succ]); go_loopg [3, 9] k (fun kq v3 v9 w' => ∃ (x3_1 : List (S42)) (x9_1 : Int), v9 = .int .i64 x9_1 ∧ Aside0 (impl_UnpackPages.l0 kq x3_1 l0 (l0.length : Int) x9_1 = some r) ∧ Aside0 (kq ≤ k) ∧ Aside0 (Kd.R k42 42 w' w.heap.size (fun _ => True) v3 x3_1) ∧ Aside0 (Below w.heap.size w w')); case atStart => exact ⟨(y511), (0), vr, H', ⟨Nat.le_refl _⟩, ⟨sN HO513.out⟩, ⟨bb⟩⟩
 case round =>
  clear H'; obtain ⟨x3_1, x9_1, rfl, HA, HK1, HO_3, HB⟩ := hrel
  cases gk with
  | zero => exact absurd HA.out (by simp [impl_UnpackPages.l0])
  | succ k1 =>
   have H := HA.out; clear HA; simp only [impl_UnpackPages.l0] at H; replace H := sp H; rcases H with ⟨c4b0, H⟩ | ⟨c4b0, H⟩
   ·replace H := sn H; obtain ⟨c5b0, H⟩ := H; replace H := sn H; obtain ⟨c6b0, H⟩ := H; by_cases c7 : x3_1.length + ((rd_T39 l0 x9_1).f0).length < 5864062014805
    ·rw [if_pos c7] at H; have LMc7 := kp c7; clear c7; obtain ⟨y516, hy516⟩ : ∃ y_ : List (S42), y_ = (x3_1 ++ ((rd_T39 l0 x9_1).f0)) := ⟨_, rfl⟩; replace H : (impl_UnpackPages.l0 k1 y516 l0 (l0.length : Int) (wrap64 (x9_1 + 1))) = some r := by first | (rw [hy516]; with_reducible exact H) | (have H2_ := (Option.bind_some _ _).symm.trans H; rw [hy516]; with_reducible exact H2_) | (have H2_ := (Option.bind_some _ _).symm.trans H; with_reducible exact H2_) | with_reducible exact H | (rw [hy516]; exact H) | exact H
     have Ny516 := kp hy516; clear hy516; have H' := kp H; clear H; obtain ⟨ad514, A514_0, c514_0, rfl, hx514_0, HC514_0, HR514_0, p514, q514⟩ := ra_T39 HR0 HB x9_1 dt dt; go_wp2_with (first | ((with_reducible refine gate_dst (N := 5) rfl ?_); refine bx_ 5 #[.slice none 0 0] 39 ?_; intro gb515 hg w8 hbox hb; replace HO_3 := kp (Kd.R_below (sN HO_3.out) hb); have BK515 := kp (hbox); have GE515 := kp (bs hg); replace HB := kp (below_step bb hb); clear hb hbox hg; obtain ⟨hcz9_0, hfz9_0⟩ := bf1 BK515.out) | ((with_reducible refine gate_builtin (b := .append) (xs := #[.tmp 13, .tmp 15]) rfl ?_); at_builtin; refine Kd.R_append_rows k42 (w0 := w) w.heap.size rfl (.tmp 13) (.tmp 15) 26 42 (.agg #[(.int .i64 0), (.int .i64 0), (.int .i64 0)]) 24 rfl Try.underlying26 info42 rfl (by decide) (by omega) u3 x3_1 ((rd_T39 l0 x9_1).f0) _ _ _ (fun _ => True) (fun _ => False) rfl rfl ?aO ?aR (fun _ _ h => h) (fun _ h => h.elim) ?aF ?aB ?aS ?aL ?_; (case aR => exact Kd.C_below HR514_0.out bb); (case aB => exact bb); (case aF => exact (fun _ _ => trivial)); (case aO => exact (by (with_reducible repeat (first | apply rA | apply rN | apply rD)); exact Kd.R_mono (Kd.R_far (p := ⟨gb515, 0, none⟩) (Kd.R_types HO_3.out BK515.out (by decide)) (fun _ hk => hk.2) (.slice A514_0 ((rd_T39 l0 x9_1).f0).length c514_0)) (fun _ hk => trivial))); (case aS => exact (below_size bb)); (case aL => have := LMc7.out; omega); intro v517 w10 ho hb hg hat; rw [← Ny516.out] at ho; replace BK515 := kp (blk_grown (g := gb515) (o := .cells #[.slice A514_0 ((rd_T39 l0 x9_1).f0).length c514_0] 39 (0, 0)) (kq1 BK515.out) hg (Kd.R_ne HO_3.out BK515.out (by decide))); replace HB := kp (hb); have HO518 := kp (ho); clear HO_3; clear ho hb hg hat)); go_roundg k1; case measure => have := HK1.out; omega
     case rel => exact ⟨(y516), (wrap64 (x9_1 + 1)), vr, H', ⟨by have := HK1.out; omega⟩, ⟨sN HO518.out⟩, ⟨bb⟩⟩
    ·rw [if_neg c7] at H; exact absurd H (by simp)
   ·obtain rfl := Option.some.inj H; go_wp2; go_ret; exact ⟨_, er, by (with_reducible repeat (first | apply rA | apply rN | apply rD)); exact HO_3.out, bb⟩
def impl_fileAt.l0 : Nat → Int → List (S87) → Int → Int → Option (Int)
 | 0, _, _, _, _ => none
 | k + 1, x1, x8, x9, x10 => if x10 < x9 then (if 0 ≤ x10 then (if x10 < (x8.length : Int) then (if ((rd_T87 x8 x10).f0) = x1 then (some x10) else (impl_fileAt.l0 k x1 x8 x9 (wrap64 (x10 + 1)))) else (none)) else (none)) else (some (-1))
def impl_fileAt.f (k : Nat) (l0_0 : List (S87)) (a0_1 : Int) (a1 : Int) : Option (Int) := impl_fileAt.l0 k a1 l0_0 (l0_0.length : Int) 0
set_option maxHeartbeats 8000000 in
set_option maxRecDepth 100000 in
theorem impl_fileAt.calls (k : Nat) (A0_0 : Option Addr) (c0_0 : Nat) (l0_0 : List (S87)) (a0_1 : Int) (a1 : Int) (r : Int) (w : World) (hr0_0 : Kd.C k87 w A0_0 l0_0.length l0_0) (hc0_0 : l0_0.length ≤ c0_0) (h : impl_fileAt.f k l0_0 a0_1 a1 = some r) :
  Calls Try.prog 73 #[.agg #[.slice A0_0 l0_0.length c0_0, .int .i64 a0_1], .int .i64 a1] w fun e w' => e = .returned (.int .i64 r) ∧ Below w.heap.size w w' := by
 have hu51 := Try.underlying51; have hu87 := Try.underlying87; have HR0_0 := kp hr0_0; have HC0_0 := kp hc0_0; clear hr0_0 hc0_0; have HB := kp (Below.refl w.heap.size w); have H := h; clear h; unfold impl_fileAt.f at H; have H' := kp H; clear H; go_enter Try.func73, Try.ntmps73; go_wp2_with (first | ((with_reducible refine gate_dst (N := 2) rfl ?_); refine bx_ 2 #[.slice A0_0 l0_0.length c0_0, .int .i64 a0_1] 51 ?_; intro gb519 hg w3 hbox hb; have BK519 := kp (hbox); have GE519 := kp (bs hg); replace HB := kp (below_step bb hb); clear hb hbox hg; obtain ⟨hcz4_0, hcz4_1, hfz4_0, hfz4_1⟩ := bf2 BK519.out)); (try simp only [Act.put, List.setIfInBounds_toArray, List.set_cons_zero, List.set_cons_succ]); go_loopg [10] k (fun kq v10 w' => ∃ (x10_1 : Int), v10 = .int .i64 x10_1 ∧ Aside0 (impl_fileAt.l0 kq a1 l0_0 (l0_0.length : Int) x10_1 = some r) ∧ Aside0 (kq ≤ k) ∧ Aside0 (w'.heap[gb519]? = some (.cells #[(.slice A0_0 l0_0.length c0_0), .int .i64 a0_1] 51 (0, 0))) ∧ Aside0 (Below w.heap.size w w')); case atStart => exact ⟨(0), vr, H', ⟨Nat.le_refl _⟩, ⟨kk BK519.out⟩, ⟨bb⟩⟩
 case round =>
  clear H'; try clear hcz4_0
  try clear hcz4_1
  try clear hfz4_0
  try clear hfz4_1
  obtain ⟨x10_1, rfl, HA, HK1, BK519, HB⟩ := hrel
  cases gk with
  | zero => exact absurd HA.out (by simp [impl_fileAt.l0])
  | succ k1 =>
   have H := HA.out; clear HA; simp only [impl_fileAt.l0] at H; replace H := sp H; rcases H with ⟨c5b0, H⟩ | ⟨c5b0, H⟩
   ·replace H := sn H; obtain ⟨c6b0, H⟩ := H; replace H := sn H; obtain ⟨c7b0, H⟩ := H; by_cases c8 : ((rd_T87 l0_0 x10_1).f0) = a1; rw [if_pos c8] at H; have c8b0 : (((rd_T87 l0_0 x10_1).f0) == a1) = true := beq_iff_eq.mpr c8; have c8b1 : (((rd_T87 l0_0 x10_1).f0) != a1) = false := bne_eq_false_iff_eq.mpr c8; clear c8; obtain rfl := Option.some.inj H; rotate_left; rw [if_neg c8] at H; have c8b0 : (((rd_T87 l0_0 x10_1).f0) == a1) = false := beq_eq_false_iff_ne.mpr c8; have c8b1 : (((rd_T87 l0_0 x10_1).f0) != a1) = true := bne_iff_ne.mpr c8; have H' := kp H; clear H; have i1_ := kp True.intro
    all_goals
     obtain ⟨ad520, A520_1, c520_1, rfl, hx520_0, hx520_1, hx520_2, hx520_3, HC520_1, HR520_1, p520, q520⟩ := ra_T87 HR0_0 HB x10_1 dt dt; go_wp2_with (first | ((with_reducible refine gate_dst (N := 6) rfl ?_); refine bx_ 6 #[.int .i64 0, .slice none 0 0, .int .i64 0, .bool false] 87 ?_; intro gb521 hg w9 hbox hb; have BK521 := kp (hbox); have GE521 := kp (bs hg); have NB519_521 := kp (bl hg BK519.out); have NB521_519 := kp (bg hg BK519.out); replace BK519 := kp (kb BK519.out hb); replace HB := kp (below_step bb hb); clear hb hbox hg; have hnb10 := NB521_519.out; have hnc10 := NB519_521.out; obtain ⟨hcz11_0, hcz11_1, hcz11_2, hcz11_3, hfz11_0, hfz11_1, hfz11_2, hfz11_3⟩ := bf4 BK521.out))
     first
     | refine tg i1_ ?_; go_roundg k1; case measure => have := HK1.out; omega
       case rel => exact ⟨(wrap64 (x10_1 + 1)), vr, H', ⟨by have := HK1.out; omega⟩, ⟨kf BK519.out⟩, ⟨bb⟩⟩
     | go_ret; exact ⟨er, bb⟩
   ·obtain rfl := Option.some.inj H; go_wp2; go_ret; exact ⟨er, bb⟩
def impl_ChecksumOf.l0 : Nat → ByteArray → Int → Int → Int → Option (Int)
 | 0, _, _, _, _ => none
 | k + 1, x0, x3, x6, x7 => if x7 < x6 then (if 0 ≤ x7 then (if x7 < (x0.size : Int) then (impl_ChecksumOf.l0 k x0 (Int.tmod (wrap64 ((wrap64 ((wrap64 (37 * x3)) + (wrap64 (bt x0 x7)))) + 1)) 65521) x6 (wrap64 (x7 + 1))) else (none)) else (none)) else (some x3)
def impl_ChecksumOf.f (k : Nat) (a0 : ByteArray) : Option (Int) := impl_ChecksumOf.l0 k a0 11 (a0.size : Int) 0
set_option maxHeartbeats 8000000 in
set_option maxRecDepth 100000 in
theorem impl_ChecksumOf.calls (k : Nat) (a0 : ByteArray) (r : Int) (w : World) (h : impl_ChecksumOf.f k a0 = some r) :
  Calls Try.prog 74 #[.string a0] w fun e w' => e = .returned (.int .i64 r) ∧ Drawn0 w w' := by
 have H := h; clear h; unfold impl_ChecksumOf.f at H; have H' := kp H; clear H; go_enter Try.func74, Try.ntmps74; go_wp2; go_loopg [3, 7] k (fun kq v3 v7 w' => ∃ (x3_1 : Int) (x7_1 : Int), v3 = .int .i64 x3_1 ∧ v7 = .int .i64 x7_1 ∧ Aside0 (impl_ChecksumOf.l0 kq a0 x3_1 (a0.size : Int) x7_1 = some r) ∧ Aside0 (kq ≤ k) ∧ Drawn0 w w'); case atStart => exact ⟨(11), (0), vr, vr, H', ⟨Nat.le_refl _⟩, by repeat (first | exact Drawn0.refl _ | apply Drawn0.step)⟩
 case round =>
  clear H'; obtain ⟨x3_1, x7_1, rfl, rfl, HA, HK1, ⟨m1, rfl⟩⟩ := hrel
  cases gk with
  | zero => exact absurd HA.out (by simp [impl_ChecksumOf.l0])
  | succ k1 =>
   have H := HA.out; clear HA; simp only [impl_ChecksumOf.l0] at H; replace H := sp H; rcases H with ⟨c2b0, H⟩ | ⟨c2b0, H⟩
   ·replace H := sn H; obtain ⟨c3b0, H⟩ := H; replace H := sn H; obtain ⟨c4b0, H⟩ := H; have H' := kp H; clear H; have p5 : 0 ≤ (x7_1 : Int) := dt; have q5 : x7_1 < (a0.size : Int) := dt; have hx5 := bt_at a0 x7_1; replace p5 := eq_true p5; replace q5 := eq_true q5; go_wp2; go_roundg k1; case measure => have := HK1.out; omega
    case rel => exact ⟨(Int.tmod (wrap64 ((wrap64 ((wrap64 (37 * x3_1)) + (wrap64 (bt a0 x7_1)))) + 1)) 65521), (wrap64 (x7_1 + 1)), vr, vr, H', ⟨by have := HK1.out; omega⟩, by repeat (first | exact Drawn0.refl _ | apply Drawn0.step)⟩
   ·obtain rfl := Option.some.inj H; go_wp2; go_ret; exact ⟨by first | rfl | (simp; done) | (simp [*]; done), by repeat (first | exact Drawn0.refl _ | apply Drawn0.step)⟩
end Go.Proofs.Ytljpfogplcdcjaa.PFnSealedFiles
