/- Out of a copy of the print, with function values told: nothing is claimed here. -/
import Derived.Test.YtbcpfppiaeelbaaVQFnMultisetsx0
import Derived.Test.YtbcpfppiaeelbaaVShort
import Derived.Test.YtbcpfppiaeelbaaVPress
namespace Go.Proofs.Ytbcpfppiaeelbaa.PFnMultisets
open Go.RowKit Go.Proofs.YtbcpfppiaeelbaaW.PrintWords Go.Proofs.YtbcpfppiaeelbaaW.PrintLast Go.Proofs.YtbcpfppiaeelbaaW.PrintMore Go.Proofs.Ytbcpfppiaeelbaa.Short Go.Proofs.Ytbcpfppiaeelbaa.Press
attribute [local go_sem] max2_int min2_int max_two min_two max_three min_three max_four min_four   -- for this text's walks alone
set_option linter.unusedVariables false
set_option linter.unusedSimpArgs false
def impl_Row_55.l0 : Nat → List (S36) → Int → Int → Int → Int → Option ((List (S36)))
 | 0, _, _, _, _, _ => none
 | k + 1, x0, x1, x2, x3, x10 => if x10 < x3 then (if 0 ≤ (wrap64 (x2 + x10)) then (if (wrap64 (x2 + x10)) < (x0.length : Int) then (if 0 ≤ (wrap64 (x1 + x10)) then (if (wrap64 (x1 + x10)) < (x0.length : Int) then (impl_Row_55.l0 k ((x0.set ((wrap64 (x1 + x10)) : Int).toNat (⟨(rd_T36 x0 (wrap64 (x2 + x10))).f0, (rd_T36 x0 (wrap64 (x2 + x10))).f1, (rd_T36 x0 (wrap64 (x2 + x10))).f2⟩ : S36)).set ((wrap64 (x2 + x10)) : Int).toNat (⟨(rd_T36 x0 (wrap64 (x1 + x10))).f0, (rd_T36 x0 (wrap64 (x1 + x10))).f1, (rd_T36 x0 (wrap64 (x1 + x10))).f2⟩ : S36)) x1 x2 x3 (wrap64 (x10 + 1))) else (none)) else (none)) else (none)) else (none)) else (some x0)
def impl_Row_55.f (k : Nat) (l0 : List (S36)) (a1 : Int) (a2 : Int) (a3 : Int)  : Option ((List (S36))) := impl_Row_55.l0 k l0 a1 a2 a3 0
def impl_Row_55.T3 : Bool × List (List Nat × List Nat) := (true, [([], []), ([], []), ([], []), ([1, 2], [1, 2]), ([], []), ([], []), ([], []), ([5, 6], [5, 6]), ([], []), ([], []), ([], []), ([9, 10], [9, 10]), ([8, 11], [8, 11]), ([12], [12]), ([], []), ([], []), ([], []), ([15, 16], [15, 16]), ([14, 17], [14, 17]), ([18], [18]), ([0, 3, 0, 1, 2, 3, 8, 9, 10, 11, 12, 13, 19], [0, 3]), ([20, 13, 0, 1, 2, 3, 8, 9, 10, 11, 12, 13, 19], [13, 20]), ([4, 7, 0, 1, 2, 3, 4, 5, 6, 7, 8, 9, 10, 11, 12, 13, 14, 15, 16, 17, 18, 19, 20, 21], [4, 7]), ([22, 19, 21, 0, 1, 2, 3, 4, 5, 6, 7, 8, 9, 10, 11, 12, 13, 14, 15, 16, 17, 18, 19, 20, 21], [19, 22])])
def impl_Row_55.B3 : List Nat := [0, 0, 0, 6, 0, 0, 0, 96, 0, 0, 0, 1536, 3840, 7936, 0, 0, 0, 98304, 245760, 507904, 1048335, 2096911, 4194303, 8388607]
theorem impl_Row_55.tab3 : rtab .any (opsOf Try.f55 3) = impl_Row_55.T3 := by kernel_rfl
theorem impl_Row_55.bits3 : waitsOk impl_Row_55.T3.2 impl_Row_55.B3 = true := by kernel_rfl
set_option maxHeartbeats 8000000 in
set_option maxRecDepth 100000 in
theorem impl_Row_55.calls (k : Nat) (P0_ : Nat → Prop) (u9000_ : Value) (l0 : List (S36)) (a1 : Int) (a2 : Int) (a3 : Int)  (r : List (S36)) (w0 w : World) (hB : Below w0.heap.size w0 w) (ho0 : Kd.R k36 36 w w0.heap.size P0_ u9000_ l0) (h : impl_Row_55.f k l0 a1 a2 a3 = some r) :
  Calls Try.prog 55 #[u9000_, .int .i64 a1, .int .i64 a2, .int .i64 a3, .func (.func 25) #[] #[]] w fun e w' => e = .returned (.tuple #[]) ∧ Kd.R k36 36 w' w0.heap.size (fun k_ => (P0_ k_ ∨ w.heap.size ≤ k_)) u9000_ r ∧ Below w0.heap.size w0 w' ∧ Kept w w' (fun k_ => P0_ k_) := by
 have hu36 := Try.underlying36
 have HO0 := kp (show Kd.R k36 36 w w0.heap.size (fun k_ => (P0_ k_ ∨ w.heap.size ≤ k_)) u9000_ l0 from Kd.R_mono ho0 (fun k_ hk => (.inl hk)))
 have HK := kp (Kept.refl w (fun k_ => P0_ k_))
 have HW0 := kp hB.size
 have HB := kp hB
 clear hB
 have H : (impl_Row_55.l0 k l0 a1 a2 a3 0) = some r := h
 clear h
 have H' := kp H
 clear H
 go_enter Try.func55, Try.ntmps55
 go_wp2
 go_loopg [10] k (fun kq v10 w' => ∃ (x0_1 : List (S36)) (x10_1 : Int), v10 = .int .i64 x10_1 ∧ Aside0 (impl_Row_55.l0 kq x0_1 a1 a2 a3 x10_1 = some r) ∧ Aside0 (kq ≤ k) ∧ Aside0 (Kd.R k36 36 w' w0.heap.size (fun k_ => (P0_ k_ ∨ w.heap.size ≤ k_)) u9000_ x0_1) ∧ Aside0 (Kept w w' (fun k_ => P0_ k_)) ∧ Aside0 (Below w0.heap.size w0 w'))
 case atStart => exact ⟨(l0), (0), (by first | rfl | (simp; done) | (simp [*]; done)), H', ⟨Nat.le_refl _⟩, ⟨by (with_reducible repeat (first | apply rA | apply rN | apply rD)); exact HO0.out⟩, ⟨by repeat (first | (with_reducible first | exact HK.out | apply Kept.alloc | apply Kept.drewN | apply Kept.drew) | exact HK.out)⟩, ⟨bb⟩⟩
 case round =>
  clear H'
  try clear p2
  try clear c5
  obtain ⟨x0_1, x10_1, rfl, HA, HK1, HO_0, HK, HB⟩ := hrel
  cases gk with
  | zero => exact absurd HA.out (by simp [impl_Row_55.l0])
  | succ k1 =>
   have H := HA.out; clear HA; simp only [impl_Row_55.l0] at H
   by_cases c6 : x10_1 < a3
   ·rw [if_pos c6] at H; have c6b0 : decide (x10_1 < a3) = true := decide_eq_true c6; clear c6; obtain ⟨ji7, hji7⟩ : ∃ j_ : Int, (wrap64 (a2 + x10_1)) = j_ := ⟨_, rfl⟩; replace H : (if 0 ≤ (ji7) then (if (ji7) < (x0_1.length : Int) then (if 0 ≤ (wrap64 (a1 + x10_1)) then (if (wrap64 (a1 + x10_1)) < (x0_1.length : Int) then (impl_Row_55.l0 k1 ((x0_1.set ((wrap64 (a1 + x10_1)) : Int).toNat (⟨(rd_T36 x0_1 (ji7)).f0, (rd_T36 x0_1 (ji7)).f1, (rd_T36 x0_1 (ji7)).f2⟩ : S36)).set ((ji7) : Int).toNat (⟨(rd_T36 x0_1 (wrap64 (a1 + x10_1))).f0, (rd_T36 x0_1 (wrap64 (a1 + x10_1))).f1, (rd_T36 x0_1 (wrap64 (a1 + x10_1))).f2⟩ : S36)) a1 a2 a3 (wrap64 (x10_1 + 1))) else (none)) else (none)) else (none)) else (none)) = some r := by first | (rw [hji7] at H; exact H) | (simp only [hji7] at H ⊢; exact H)
    have hji7w : (IntKind.i64.wrap (a2 + x10_1)) = ji7 := (i64_w _).trans hji7
    by_cases c8 : 0 ≤ (ji7)
    ·rw [if_pos c8] at H; have c8b0 : decide (0 ≤ (ji7)) = true := decide_eq_true c8; clear c8
     by_cases c9 : (ji7) < (x0_1.length : Int)
     ·rw [if_pos c9] at H; have c9b0 : decide ((ji7) < (x0_1.length : Int)) = true := decide_eq_true c9; clear c9; obtain ⟨ji10, hji10⟩ : ∃ j_ : Int, (wrap64 (a1 + x10_1)) = j_ := ⟨_, rfl⟩; replace H : (if 0 ≤ (ji10) then (if (ji10) < (x0_1.length : Int) then (impl_Row_55.l0 k1 ((x0_1.set ((ji10) : Int).toNat (⟨(rd_T36 x0_1 (ji7)).f0, (rd_T36 x0_1 (ji7)).f1, (rd_T36 x0_1 (ji7)).f2⟩ : S36)).set ((ji7) : Int).toNat (⟨(rd_T36 x0_1 (ji10)).f0, (rd_T36 x0_1 (ji10)).f1, (rd_T36 x0_1 (ji10)).f2⟩ : S36)) a1 a2 a3 (wrap64 (x10_1 + 1))) else (none)) else (none)) = some r := by first | (rw [hji10] at H; exact H) | (simp only [hji10] at H ⊢; exact H)
      have hji10w : (IntKind.i64.wrap (a1 + x10_1)) = ji10 := (i64_w _).trans hji10; (try rw [hji10] at hji7); (try rw [hji10] at hji7w)
      by_cases c11 : 0 ≤ (ji10)
      ·rw [if_pos c11] at H; have c11b0 : decide (0 ≤ (ji10)) = true := decide_eq_true c11; clear c11
       by_cases c12 : (ji10) < (x0_1.length : Int)
       ·rw [if_pos c12] at H; have c12b0 : decide ((ji10) < (x0_1.length : Int)) = true := decide_eq_true c12; clear c12; obtain ⟨y189, hy189⟩ : ∃ y_ : List (S36), y_ = (x0_1.set ((ji10) : Int).toNat (⟨(rd_T36 x0_1 (ji7)).f0, (rd_T36 x0_1 (ji7)).f1, (rd_T36 x0_1 (ji7)).f2⟩ : S36)) := ⟨_, rfl⟩; replace H : (impl_Row_55.l0 k1 (y189.set ((ji7) : Int).toNat (⟨(rd_T36 x0_1 (ji10)).f0, (rd_T36 x0_1 (ji10)).f1, (rd_T36 x0_1 (ji10)).f2⟩ : S36)) a1 a2 a3 (wrap64 (x10_1 + 1))) = some r := by first | (rw [hy189]; with_reducible exact H) | (have H2_ := (Option.bind_some _ _).symm.trans H; rw [hy189]; with_reducible exact H2_) | (have H2_ := (Option.bind_some _ _).symm.trans H; with_reducible exact H2_) | with_reducible exact H | (rw [hy189]; exact H) | exact H
        have Ny189 := kp hy189; clear hy189; obtain ⟨y190, hy190⟩ : ∃ y_ : List (S36), y_ = (y189.set ((ji7) : Int).toNat (⟨(rd_T36 x0_1 (ji10)).f0, (rd_T36 x0_1 (ji10)).f1, (rd_T36 x0_1 (ji10)).f2⟩ : S36)) := ⟨_, rfl⟩; replace H : (impl_Row_55.l0 k1 y190 a1 a2 a3 (wrap64 (x10_1 + 1))) = some r := by first | (rw [hy190]; with_reducible exact H) | (have H2_ := (Option.bind_some _ _).symm.trans H; rw [hy190]; with_reducible exact H2_) | (have H2_ := (Option.bind_some _ _).symm.trans H; with_reducible exact H2_) | with_reducible exact H | (rw [hy190]; exact H) | exact H
        have Ny190 := kp hy190; clear hy190; have H' := kp H; clear H
        try go_wp2
        have n0_ := kp (Kd.R_drew HO_0.out); have n1_ := kp (Kept.drew HK.out); have n2_ := kp (below_drew1 HB.out); clear HO_0; clear HK; clear HB; have HO_0 := n0_; have HK := n1_; have HB := n2_; clear n0_ n1_ n2_; obtain ⟨Ao16, co16, eo16⟩ := Kd.R_slice HO_0.out; (first | subst eo16 | (injection eo16 with f1_ f2_ f3_; have f4_ := f1_.symm; have f5_ := f3_.symm; clear f1_ f2_ f3_; subst f4_; subst f5_)); have p187 : 0 ≤ ((ji7) : Int) := dt; have q187 : (ji7) < (x0_1.length : Int) := dt; obtain ⟨ad187, e187, hx187_0, hx187_1, hx187_2⟩ := at_T36 (Kd.R_reads' HO_0.out).2.2 (ji7) p187 q187; cases e187; replace p187 := eq_true p187; replace q187 := eq_true q187; have p188 : 0 ≤ ((ji10) : Int) := dt; have q188 : (ji10) < (x0_1.length : Int) := dt; obtain ⟨ad188, e188, hx188_0, hx188_1, hx188_2⟩ := at_T36 (Kd.R_reads' HO_0.out).2.2 (ji10) p188 q188; obtain rfl : ad187 = ad188 := (by injection e188); replace p188 := eq_true p188; replace q188 := eq_true q188; have p13 : 0 ≤ ((ji10) : Int) := dt; have q13 : ((ji10) : Int) < ((x0_1.length : Int) : Int) := dt; obtain ⟨go13, co13, eo13, gb13, gl13, cl13, HG13⟩ := Kd.R_form HO_0.out (by omega); (first | cases eo13 | (injection eo13 with ea_ en_ ec_; (first | subst ea_ | (injection ea_ with ea_; subst ea_)); subst ec_; clear en_)); have GB13 := kp gb13; have GG13 := kp HG13; clear gb13 gl13 HG13; have HMgo13 := kp (show (P0_ go13 ∨ w.heap.size ≤ go13) from (HO_0.out.1 _ rfl)); (first | simp only [add_plain] at hx187_0 | skip)
        (first | simp only [add_plain] at hx187_1 | skip); (first | simp only [add_plain] at hx187_2 | skip); (first | simp only [add_plain] at hx188_0 | skip); (first | simp only [add_plain] at hx188_1 | skip); (first | simp only [add_plain] at hx188_2 | skip); obtain ⟨ce13, hcl13, hM13, hcc13, hfr13⟩ := Kd.R_elem HO_0.out z36 ((ji10) : Int) p13 q13; obtain rfl := k36_openM hM13; have hx13_0 : World.cell? _ ⟨go13, ((ji10) : Int).toNat * 3, none⟩ = some (.int .i64 ((rd_T36 x0_1 (ji10)).f0)) := hcc13 0 _ rfl; have hx13_1 : World.cell? _ ⟨go13, ((ji10) : Int).toNat * 3 + 1, none⟩ = some (.int .i64 ((rd_T36 x0_1 (ji10)).f1)) := hcc13 1 _ rfl; have hx13_2 : World.cell? _ ⟨go13, ((ji10) : Int).toNat * 3 + 2, none⟩ = some (.int .i64 ((rd_T36 x0_1 (ji10)).f2)) := hcc13 2 _ rfl; have hf13_0 : World.frozen? _ ⟨go13, ((ji10) : Int).toNat * 3, none⟩ = false := hfr13 0; have hf13_1 : World.frozen? _ ⟨go13, ((ji10) : Int).toNat * 3 + 1, none⟩ = false := hfr13 1; have hf13_2 : World.frozen? _ ⟨go13, ((ji10) : Int).toNat * 3 + 2, none⟩ = false := hfr13 2; clear hcl13 hcc13 hfr13 hM13; replace p13 := eq_true p13; replace q13 := eq_true q13; obtain ⟨ce17, hcl17, hM17, hcc17, hfr17⟩ := Kd.R_elem HO_0.out z36 ((ji10) : Int) (dt) (by have h_ : ((ji10) : Int) < ((x0_1.length : Int) : Int) := dt; first | exact h_ | (have e_ := (Kd.R_reads' HO_0.out).1; omega) | simpa using h_); obtain rfl := k36_openM hM17
        have HP17 := (Kd.R_seg HO_0.out ((ji10) : Int) (dt) (by have h_ : ((ji10) : Int) < ((x0_1.length : Int) : Int) := dt; first | exact h_ | (have e_ := (Kd.R_reads' HO_0.out).1; omega) | simpa using h_) (seg := [.int .i64 ((rd_T36 x0_1 (ji7)).f0), .int .i64 ((rd_T36 x0_1 (ji7)).f1), .int .i64 ((rd_T36 x0_1 (ji7)).f2)]) (j := 0) hcl17 hcc17 (show 3 ≤ 3 from by decide) (x' := (⟨(rd_T36 x0_1 (ji7)).f0, (rd_T36 x0_1 (ji7)).f1, (rd_T36 x0_1 (ji7)).f2⟩ : S36)) (k36_mkM _ _ _ (⟨(rd_T36 x0_1 (ji7)).f0, (rd_T36 x0_1 (ji7)).f1, (rd_T36 x0_1 (ji7)).f2⟩ : S36) ) (fun _ hk => hk)).1; rw [← Ny189.out] at HP17; have HQ17 := kp HP17; clear hcl17 hcc17 hfr17 hM17 HP17; have p14 : 0 ≤ ((ji7) : Int) := dt; have q14 : ((ji7) : Int) < ((x0_1.length : Int) : Int) := dt; obtain ⟨ce14, hcl14, hM14, hcc14, hfr14⟩ := Kd.R_elem HQ17.out z36 ((ji7) : Int) p14 q14; obtain rfl := k36_openM hM14; have hx14_0 : World.cell? _ ⟨go13, ((ji7) : Int).toNat * 3, none⟩ = some (.int .i64 ((rd_T36 y189 (ji7)).f0)) := hcc14 0 _ rfl; have hx14_1 : World.cell? _ ⟨go13, ((ji7) : Int).toNat * 3 + 1, none⟩ = some (.int .i64 ((rd_T36 y189 (ji7)).f1)) := hcc14 1 _ rfl; have hx14_2 : World.cell? _ ⟨go13, ((ji7) : Int).toNat * 3 + 2, none⟩ = some (.int .i64 ((rd_T36 y189 (ji7)).f2)) := hcc14 2 _ rfl; have hf14_0 : World.frozen? _ ⟨go13, ((ji7) : Int).toNat * 3, none⟩ = false := hfr14 0; have hf14_1 : World.frozen? _ ⟨go13, ((ji7) : Int).toNat * 3 + 1, none⟩ = false := hfr14 1
        have hf14_2 : World.frozen? _ ⟨go13, ((ji7) : Int).toNat * 3 + 2, none⟩ = false := hfr14 2; clear hcl14 hcc14 hfr14 hM14; replace p14 := eq_true p14; replace q14 := eq_true q14; obtain ⟨ce18, hcl18, hM18, hcc18, hfr18⟩ := Kd.R_elem HQ17.out z36 ((ji7) : Int) (dt) (by have h_ : ((ji7) : Int) < ((x0_1.length : Int) : Int) := dt; first | exact h_ | (have e_ := (Kd.R_reads' HO_0.out).1; omega) | simpa using h_); obtain rfl := k36_openM hM18; have HP18 := (Kd.R_seg HQ17.out ((ji7) : Int) (dt) (by have h_ : ((ji7) : Int) < ((x0_1.length : Int) : Int) := dt; first | exact h_ | (have e_ := (Kd.R_reads' HO_0.out).1; omega) | simpa using h_) (seg := [.int .i64 ((rd_T36 x0_1 (ji10)).f0), .int .i64 ((rd_T36 x0_1 (ji10)).f1), .int .i64 ((rd_T36 x0_1 (ji10)).f2)]) (j := 0) hcl18 hcc18 (show 3 ≤ 3 from by decide) (x' := (⟨(rd_T36 x0_1 (ji10)).f0, (rd_T36 x0_1 (ji10)).f1, (rd_T36 x0_1 (ji10)).f2⟩ : S36)) (k36_mkM _ _ _ (⟨(rd_T36 x0_1 (ji10)).f0, (rd_T36 x0_1 (ji10)).f1, (rd_T36 x0_1 (ji10)).f2⟩ : S36) ) (fun _ hk => hk)).1; rw [← Ny190.out] at HP18; have HQ18 := kp HP18; clear hcl18 hcc18 hfr18 hM18 HP18; (try simp only [World.setCells, show k36.sz = 3 from rfl, Nat.add_zero] at hx13_0); (try simp only [World.setCells, show k36.sz = 3 from rfl, Nat.add_zero] at hx13_1); (try simp only [World.setCells, show k36.sz = 3 from rfl, Nat.add_zero] at hx13_2); (try simp only [World.setCells, show k36.sz = 3 from rfl, Nat.add_zero] at hf13_0)
        (try simp only [World.setCells, show k36.sz = 3 from rfl, Nat.add_zero] at hf13_1); (try simp only [World.setCells, show k36.sz = 3 from rfl, Nat.add_zero] at hf13_2); (try simp only [World.setCells, show k36.sz = 3 from rfl, Nat.add_zero] at hx14_0); (try simp only [World.setCells, show k36.sz = 3 from rfl, Nat.add_zero] at hx14_1); (try simp only [World.setCells, show k36.sz = 3 from rfl, Nat.add_zero] at hx14_2); (try simp only [World.setCells, show k36.sz = 3 from rfl, Nat.add_zero] at hf14_0); (try simp only [World.setCells, show k36.sz = 3 from rfl, Nat.add_zero] at hf14_1); (try simp only [World.setCells, show k36.sz = 3 from rfl, Nat.add_zero] at hf14_2)
        refine start_ (n := 24) (S := fun w' => w'.cell? ⟨go13, ((ji7)).toNat * 3, none⟩ = some (.int .i64 ((rd_T36 x0_1 (ji7)).f0)) ∧ w'.cell? ⟨go13, ((ji7)).toNat * 3 + 1, none⟩ = some (.int .i64 ((rd_T36 x0_1 (ji7)).f1)) ∧ w'.cell? ⟨go13, ((ji7)).toNat * 3 + 2, none⟩ = some (.int .i64 ((rd_T36 x0_1 (ji7)).f2)) ∧ w'.cell? ⟨go13, ((ji10)).toNat * 3, none⟩ = some (.int .i64 ((rd_T36 x0_1 (ji10)).f0)) ∧ w'.cell? ⟨go13, ((ji10)).toNat * 3 + 1, none⟩ = some (.int .i64 ((rd_T36 x0_1 (ji10)).f1)) ∧ w'.cell? ⟨go13, ((ji10)).toNat * 3 + 2, none⟩ = some (.int .i64 ((rd_T36 x0_1 (ji10)).f2))) (ds := [21, 23]) #[false, false, false, false, false, false, false, false, false, false, false, false, false, false, false, false, false, false, false, false, false, false, false, false] (by kernel_rfl) rfl rfl ⟨hx187_0, hx187_1, hx187_2, hx188_0, hx188_1, hx188_2⟩ (fun hHeld => ?_); refine with_tabW impl_Row_55.tab3 impl_Row_55.bits3 (fun HT_ HW_ => ?_)
        generalize wr.drew = w15 at HO_0 HK HB GG13 HQ17 HQ18 hf13_0 hf13_1 hf13_2 hf14_0 hf14_1 hf14_2 hx13_0 hx13_1 hx13_2 hx14_0 hx14_1 hx14_2 hx187_0 hx187_1 hx187_2 hx188_0 hx188_1 hx188_2 hHeld ⊢
        refine pq 0 16 HT_ ?_
        refine pq 1 17 HT_ ?_
        refine pq 2 18 HT_ ?_
        refine pq 3 19 HT_ ?_
        refine pq 4 20 HT_ ?_
        refine pq 5 21 HT_ ?_
        refine pq 6 22 HT_ ?_
        refine pq 7 23 HT_ ?_
        refine pq 8 24 HT_ ?_
        refine pq 9 25 HT_ ?_
        refine pq 10 26 HT_ ?_
        refine pq 11 27 HT_ ?_
        refine pq 12 28 HT_ ?_
        refine pq 14 30 HT_ ?_
        refine pq 15 31 HT_ ?_
        refine pq 16 32 HT_ ?_
        refine pq 17 33 HT_ ?_
        refine pq 18 34 HT_ ?_
        refine tq 13 29 HT_ HW_ hHeld ?_
        refine tq 19 35 HT_ HW_ hHeld ?_
        refine pq 20 36 HT_ ?_
        refine last_ (i := 21) (N := none) #[true, true, true, true, true, true, true, true, true, true, true, true, true, true, true, true, true, true, true, true, true, true, false, false] rfl rfl (one_of HT_.out (by kernel_rfl)) (by decide) (fun K hK => ?_)
        refine skip_ (w1 := ?_) (by rfl) rfl ?_ ?_
        rotate_left
        ·go_simp
         rfl
        refine hK.out _ _ ?_; clear hK K
        refine pq 22 37 HT_ ?_
        refine last_ (i := 23) (N := none) #[true, true, true, true, true, true, true, true, true, true, true, true, true, true, true, true, true, true, true, true, true, true, true, true] rfl rfl (one_of HT_.out (by kernel_rfl)) (by decide) (fun K hK => ?_)
        refine skip_ (w1 := ?_) (by rfl) rfl ?_ ?_
        rotate_left
        ·go_simp
         rfl
        refine hK.out _ _ ?_; clear hK K; refine done_ (done_of HT_.out (by kernel_rfl)) ?_
        try go_wp2
        go_roundg k1
        case measure => have := HK1.out; omega
        case rel => exact ⟨(y190), (wrap64 (x10_1 + 1)), (by first | rfl | (simp; done) | (simp [*]; done)), H', ⟨by have := HK1.out; omega⟩, ⟨by (with_reducible repeat (first | apply rA | apply rN | apply rD)); exact HQ18.out⟩, ⟨by repeat (first | (with_reducible first | exact HK.out | apply Kept.alloc | apply Kept.drewN | apply Kept.drew | refine Kept.setCell ?_ HMgo13.out _ | refine Kept.setCell ?_ HMgo13.out _ | refine Kept.setCell ?_ HMgo13.out _ | refine Kept.setCell ?_ HMgo13.out _ | refine Kept.setCell ?_ HMgo13.out _ | refine Kept.setCell ?_ HMgo13.out _) | exact HK.out)⟩, ⟨bb⟩⟩
       ·rw [if_neg c12] at H; exact absurd H (by simp)
      ·rw [if_neg c11] at H; exact absurd H (by simp)
     ·rw [if_neg c9] at H; exact absurd H (by simp)
    ·rw [if_neg c8] at H; exact absurd H (by simp)
   ·rw [if_neg c6] at H; have c6b0 : decide (x10_1 < a3) = false := decide_eq_false c6; clear c6; obtain rfl := Option.some.inj H; go_wp2
    first | go_end0 | ((try simp only [Exit.inBlock, Exit.then]); refine bodyPost_ret (results_none rfl _ _ _) rfl ?_)
    exact ⟨er, by (with_reducible repeat (first | apply rA | apply rN | apply rD)); exact HO_0.out, bb, by repeat (first | (with_reducible first | exact HK.out | apply Kept.alloc | apply Kept.drewN | apply Kept.drew) | exact HK.out)⟩
def impl_Row_54.l0 : Nat → List (S36) → Int → Int → Int → Option ((List (S36)))
 | 0, _, _, _, _ => none
 | k + 1, x0, x2, x10, x11 => if x10 = x11 then ((impl_Row_55.f k x0 (wrap64 (x2 - x10)) x2 x10).bind fun t191 => (some t191)) else (if x10 > x11 then ((impl_Row_55.f k x0 (wrap64 (x2 - x10)) x2 x11).bind fun t192 => (impl_Row_54.l0 k t192 x2 (wrap64 (x10 - x11)) x11)) else ((impl_Row_55.f k x0 (wrap64 (x2 - x10)) (wrap64 ((wrap64 (x2 + x11)) - x10)) x10).bind fun t193 => (impl_Row_54.l0 k t193 x2 x10 (wrap64 (x11 - x10)))))
def impl_Row_54.f (k : Nat) (l0 : List (S36)) (a1 : Int) (a2 : Int) (a3 : Int)  : Option ((List (S36))) := impl_Row_54.l0 k l0 a2 (wrap64 (a2 - a1)) (wrap64 (a3 - a2))
set_option maxHeartbeats 8000000 in
set_option maxRecDepth 100000 in
theorem impl_Row_54.calls (k : Nat) (P0_ : Nat → Prop) (u9000_ : Value) (l0 : List (S36)) (a1 : Int) (a2 : Int) (a3 : Int)  (r : List (S36)) (w0 w : World) (hB : Below w0.heap.size w0 w) (ho0 : Kd.R k36 36 w w0.heap.size P0_ u9000_ l0) (h : impl_Row_54.f k l0 a1 a2 a3 = some r) :
  Calls Try.prog 54 #[u9000_, .int .i64 a1, .int .i64 a2, .int .i64 a3, .func (.func 25) #[] #[]] w fun e w' => e = .returned (.tuple #[]) ∧ Kd.R k36 36 w' w0.heap.size (fun k_ => (P0_ k_ ∨ w.heap.size ≤ k_)) u9000_ r ∧ Below w0.heap.size w0 w' ∧ Kept w w' (fun k_ => P0_ k_) := by
 have HO0 := kp (show Kd.R k36 36 w w0.heap.size (fun k_ => (P0_ k_ ∨ w.heap.size ≤ k_)) u9000_ l0 from Kd.R_mono ho0 (fun k_ hk => (.inl hk)))
 have HK := kp (Kept.refl w (fun k_ => P0_ k_))
 have HW0 := kp hB.size
 have HB := kp hB
 clear hB
 have H : (impl_Row_54.l0 k l0 a2 (wrap64 (a2 - a1)) (wrap64 (a3 - a2))) = some r := h
 clear h
 have H' := kp H
 clear H
 go_enter Try.func54, Try.ntmps54
 go_wp2
 go_loopg [10, 11] k (fun kq v10 v11 w' => ∃ (x0_1 : List (S36)) (x10_1 : Int) (x11_1 : Int), v10 = .int .i64 x10_1 ∧ v11 = .int .i64 x11_1 ∧ Aside0 (impl_Row_54.l0 kq x0_1 a2 x10_1 x11_1 = some r) ∧ Aside0 (kq ≤ k) ∧ Aside0 (Kd.R k36 36 w' w0.heap.size (fun k_ => (P0_ k_ ∨ w.heap.size ≤ k_)) u9000_ x0_1) ∧ Aside0 (Kept w w' (fun k_ => P0_ k_)) ∧ Aside0 (Below w0.heap.size w0 w'))
 case atStart => exact ⟨(l0), (wrap64 (a2 - a1)), (wrap64 (a3 - a2)), (by first | rfl | (simp; done) | (simp [*]; done)), (by first | rfl | (simp; done) | (simp [*]; done)), H', ⟨Nat.le_refl _⟩, ⟨by (with_reducible repeat (first | apply rA | apply rN | apply rD)); exact HO0.out⟩, ⟨by repeat (first | (with_reducible first | exact HK.out | apply Kept.alloc | apply Kept.drewN | apply Kept.drew) | exact HK.out)⟩, ⟨bb⟩⟩
 case round =>
  clear H'
  try clear p2
  try clear c5
  obtain ⟨x0_1, x10_1, x11_1, rfl, rfl, HA, HK1, HO_0, HK, HB⟩ := hrel
  cases gk with
  | zero => exact absurd HA.out (by simp [impl_Row_54.l0])
  | succ k1 =>
   have H := HA.out; clear HA; simp only [impl_Row_54.l0] at H
   by_cases c6 : x10_1 = x11_1
   ·rw [if_pos c6] at H; have c6b0 : (x10_1 == x11_1) = true := beq_iff_eq.mpr c6; have c6b1 : (x10_1 != x11_1) = false := bne_eq_false_iff_eq.mpr c6; clear c6; replace H := Option.bind_eq_some_iff.mp H; obtain ⟨t191, A70, H⟩ := H; replace H : (some t191) = some r := H; have A7 := kp A70; clear A70; obtain rfl := Option.some.inj H; obtain ⟨Ao8, co8, eo8⟩ := Kd.R_slice HO_0.out; subst eo8
    go_wp2_with (first | ((with_reducible refine gate_callee (f := 55) rfl ?_); refine gl_ 57 Try.func55 #[.slice Ao8 x0_1.length co8, .int .i64 (wrap64 (a2 - x10_1)), .int .i64 a2, .int .i64 x10_1, .func (.func 25) #[] #[]] ?_; (with_reducible refine (impl_Row_55.calls k1 (fun k_ => some k_ = (.slice Ao8 x0_1.length co8 : Value).ownBlock) (.slice Ao8 x0_1.length co8) x0_1 (wrap64 (a2 - x10_1)) a2 x10_1 t191 w0 _ ?side1 ?side2 A7.out).mono ?_); (case side1 => with_reducible repeat (first | exact HB.out | apply cA | apply cN | apply cD)); (case side2 => exact Kd.R_tight rfl HO_0.out); rintro e w9 ⟨rfl, hy0, hb, hkp⟩; refine ⟨_, rfl, ?_⟩; have n0_ := kp (Kd.R_reok rfl hy0 (fun k_ e_ => HO_0.out.1 k_ e_)); have n1_ := kp (Kept.then_ (S := (fun k_ => P0_ k_)) (by repeat (first | (with_reducible first | exact HK.out | apply Kept.alloc | apply Kept.drewN | apply Kept.drew) | exact HK.out)) hkp (fun k_ hs_ => (fun e_ => (HO_0.out.1 k_ e_.symm)) hs_)); have n2_ := kp (hb); clear HO_0; clear HK; clear HB; have HO_0 := n0_; have HK := n1_; have HB := n2_; clear n0_ n1_ n2_; (try clear hb); (try clear hkp); (try clear hy0)))
    first | go_end0 | ((try simp only [Exit.inBlock, Exit.then]); refine bodyPost_ret (results_none rfl _ _ _) rfl ?_)
    exact ⟨er, by (with_reducible repeat (first | apply rA | apply rN | apply rD)); exact HO_0.out, bb, by repeat (first | (with_reducible first | exact HK.out | apply Kept.alloc | apply Kept.drewN | apply Kept.drew) | exact HK.out)⟩
   ·rw [if_neg c6] at H; have c6b0 : (x10_1 == x11_1) = false := beq_eq_false_iff_ne.mpr c6; have c6b1 : (x10_1 != x11_1) = true := bne_iff_ne.mpr c6
    by_cases c10 : x10_1 > x11_1
    ·rw [if_pos c10] at H; have c10b0 : decide (x11_1 < x10_1) = true := decide_eq_true c10; clear c10; replace H := Option.bind_eq_some_iff.mp H; obtain ⟨t192, A110, H⟩ := H; replace H : (impl_Row_54.l0 k1 t192 a2 (wrap64 (x10_1 - x11_1)) x11_1) = some r := H; have A11 := kp A110; clear A110; have H' := kp H; clear H; obtain ⟨Ao12, co12, eo12⟩ := Kd.R_slice HO_0.out; subst eo12
     go_wp2_with (first | ((with_reducible refine gate_callee (f := 55) rfl ?_); refine gl_ 31 Try.func55 #[.slice Ao12 x0_1.length co12, .int .i64 (wrap64 (a2 - x10_1)), .int .i64 a2, .int .i64 x11_1, .func (.func 25) #[] #[]] ?_; (with_reducible refine (impl_Row_55.calls k1 (fun k_ => some k_ = (.slice Ao12 x0_1.length co12 : Value).ownBlock) (.slice Ao12 x0_1.length co12) x0_1 (wrap64 (a2 - x10_1)) a2 x11_1 t192 w0 _ ?side1 ?side2 A11.out).mono ?_); (case side1 => with_reducible repeat (first | exact HB.out | apply cA | apply cN | apply cD)); (case side2 => exact Kd.R_tight rfl HO_0.out); rintro e w13 ⟨rfl, hy0, hb, hkp⟩; refine ⟨_, rfl, ?_⟩; have n0_ := kp (Kd.R_reok rfl hy0 (fun k_ e_ => HO_0.out.1 k_ e_)); have n1_ := kp (Kept.then_ (S := (fun k_ => P0_ k_)) (by repeat (first | (with_reducible first | exact HK.out | apply Kept.alloc | apply Kept.drewN | apply Kept.drew) | exact HK.out)) hkp (fun k_ hs_ => (fun e_ => (HO_0.out.1 k_ e_.symm)) hs_)); have n2_ := kp (hb); clear HO_0; clear HK; clear HB; have HO_0 := n0_; have HK := n1_; have HB := n2_; clear n0_ n1_ n2_; (try clear hb); (try clear hkp); (try clear hy0)))
     go_roundg k1
     case measure => have := HK1.out; omega
     case rel => exact ⟨(t192), (wrap64 (x10_1 - x11_1)), (x11_1), (by first | rfl | (simp; done) | (simp [*]; done)), (by first | rfl | (simp; done) | (simp [*]; done)), H', ⟨by have := HK1.out; omega⟩, ⟨by (with_reducible repeat (first | apply rA | apply rN | apply rD)); exact HO_0.out⟩, ⟨by repeat (first | (with_reducible first | exact HK.out | apply Kept.alloc | apply Kept.drewN | apply Kept.drew) | exact HK.out)⟩, ⟨bb⟩⟩
    ·rw [if_neg c10] at H; have c10b0 : decide (x11_1 < x10_1) = false := decide_eq_false c10; clear c10; replace H := Option.bind_eq_some_iff.mp H; obtain ⟨t193, A140, H⟩ := H; replace H : (impl_Row_54.l0 k1 t193 a2 x10_1 (wrap64 (x11_1 - x10_1))) = some r := H; have A14 := kp A140; clear A140; have H' := kp H; clear H; obtain ⟨Ao15, co15, eo15⟩ := Kd.R_slice HO_0.out; subst eo15
     go_wp2_with (first | ((with_reducible refine gate_callee (f := 55) rfl ?_); refine gl_ 46 Try.func55 #[.slice Ao15 x0_1.length co15, .int .i64 (wrap64 (a2 - x10_1)), .int .i64 (wrap64 ((wrap64 (a2 + x11_1)) - x10_1)), .int .i64 x10_1, .func (.func 25) #[] #[]] ?_; (with_reducible refine (impl_Row_55.calls k1 (fun k_ => some k_ = (.slice Ao15 x0_1.length co15 : Value).ownBlock) (.slice Ao15 x0_1.length co15) x0_1 (wrap64 (a2 - x10_1)) (wrap64 ((wrap64 (a2 + x11_1)) - x10_1)) x10_1 t193 w0 _ ?side1 ?side2 A14.out).mono ?_); (case side1 => with_reducible repeat (first | exact HB.out | apply cA | apply cN | apply cD)); (case side2 => exact Kd.R_tight rfl HO_0.out); rintro e w16 ⟨rfl, hy0, hb, hkp⟩; refine ⟨_, rfl, ?_⟩; have n0_ := kp (Kd.R_reok rfl hy0 (fun k_ e_ => HO_0.out.1 k_ e_)); have n1_ := kp (Kept.then_ (S := (fun k_ => P0_ k_)) (by repeat (first | (with_reducible first | exact HK.out | apply Kept.alloc | apply Kept.drewN | apply Kept.drew) | exact HK.out)) hkp (fun k_ hs_ => (fun e_ => (HO_0.out.1 k_ e_.symm)) hs_)); have n2_ := kp (hb); clear HO_0; clear HK; clear HB; have HO_0 := n0_; have HK := n1_; have HB := n2_; clear n0_ n1_ n2_; (try clear hb); (try clear hkp); (try clear hy0)))
     go_roundg k1
     case measure => have := HK1.out; omega
     case rel => exact ⟨(t193), (x10_1), (wrap64 (x11_1 - x10_1)), (by first | rfl | (simp; done) | (simp [*]; done)), (by first | rfl | (simp; done) | (simp [*]; done)), H', ⟨by have := HK1.out; omega⟩, ⟨by (with_reducible repeat (first | apply rA | apply rN | apply rD)); exact HO_0.out⟩, ⟨by repeat (first | (with_reducible first | exact HK.out | apply Kept.alloc | apply Kept.drewN | apply Kept.drew) | exact HK.out)⟩, ⟨bb⟩⟩
end Go.Proofs.Ytbcpfppiaeelbaa.PFnMultisets
