/- Out of a copy of the print, with function values told: nothing is claimed here. -/
import Derived.Test.YtbcpfppiaeelbaaVQFnMultisetsx0
import Derived.Test.YtbcpfppiaeelbaaVQFnMultisetsx4
import Derived.Test.YtbcpfppiaeelbaaVFnVal
import Derived.Test.YtbcpfppiaeelbaaVShort
import Derived.Test.YtbcpfppiaeelbaaVPress
namespace Go.Proofs.Ytbcpfppiaeelbaa.PFnMultisets
open Go.RowKit Go.Proofs.YtbcpfppiaeelbaaW.PrintWords Go.Proofs.YtbcpfppiaeelbaaW.PrintLast Go.Proofs.YtbcpfppiaeelbaaW.PrintMore Go.Proofs.Ytbcpfppiaeelbaa.FnVal Go.Proofs.Ytbcpfppiaeelbaa.Short Go.Proofs.Ytbcpfppiaeelbaa.Press
attribute [local go_sem] max2_int min2_int max_two min_two max_three min_three max_four min_four   -- for this text's walks alone
set_option linter.unusedVariables false
set_option linter.unusedSimpArgs false
mutual
def impl_Row_52.l0 : Nat → List (S36) → Int → Int → Int → Option ((List (S36)))
 | 0, _, _, _, _ => none
 | k + 1, x0, x1, x2, x8 => if x8 < x2 then (impl_Row_52.l1 k x0 x1 x2 x8 x8) else (some x0)
def impl_Row_52.l1 : Nat → List (S36) → Int → Int → Int → Int → Option ((List (S36)))
 | 0, _, _, _, _, _ => none
 | k + 1, x0, x1, x2, x8, x9 => if x9 > x1 then (if 0 ≤ x9 then (if x9 < (x0.length : Int) then (if 0 ≤ (wrap64 (x9 - 1)) then (if (wrap64 (x9 - 1)) < (x0.length : Int) then ((impl_CompareRows.f ((rd_T36 x0 x9).f0) ((rd_T36 x0 x9).f1) ((rd_T36 x0 x9).f2) ((rd_T36 x0 (wrap64 (x9 - 1))).f0) ((rd_T36 x0 (wrap64 (x9 - 1))).f1) ((rd_T36 x0 (wrap64 (x9 - 1))).f2)).bind fun t182 => (if t182 < 0 then (impl_Row_52.l1 k ((x0.set (x9 : Int).toNat (⟨(rd_T36 x0 (wrap64 (x9 - 1))).f0, (rd_T36 x0 (wrap64 (x9 - 1))).f1, (rd_T36 x0 (wrap64 (x9 - 1))).f2⟩ : S36)).set ((wrap64 (x9 - 1)) : Int).toNat (⟨(rd_T36 x0 x9).f0, (rd_T36 x0 x9).f1, (rd_T36 x0 x9).f2⟩ : S36)) x1 x2 x8 (wrap64 (x9 - 1))) else (impl_Row_52.l0 k x0 x1 x2 (wrap64 (x8 + 1))))) else (none)) else (none)) else (none)) else (none)) else (impl_Row_52.l0 k x0 x1 x2 (wrap64 (x8 + 1)))
end
def impl_Row_52.f (k : Nat) (l0 : List (S36)) (a1 : Int) (a2 : Int)  : Option ((List (S36))) := impl_Row_52.l0 k l0 a1 a2 (wrap64 (a1 + 1))
def impl_Row_52.T4 : Bool × List (List Nat × List Nat) := (true, [([], []), ([], []), ([0, 1], [0, 1]), ([2], [2]), ([3], [3]), ([3], [3]), ([3], [3]), ([5, 6, 3], [3, 5, 6]), ([7, 3], [3, 7]), ([3], [3]), ([3], [3]), ([10, 3], [3, 10]), ([9, 11, 3], [3, 9, 11]), ([12, 3], [3, 12]), ([4, 8, 13, 3, 3], [3, 4, 8, 13]), ([14, 3], [3, 14]), ([3, 15], [3, 15])])
def impl_Row_52.B4 : List Nat := [0, 0, 3, 7, 15, 15, 15, 111, 239, 15, 15, 1039, 3599, 7695, 16383, 32767, 65535]
theorem impl_Row_52.tab4 : rtab .any (opsOf Try.f52 4) = impl_Row_52.T4 := by kernel_rfl
theorem impl_Row_52.bits4 : waitsOk impl_Row_52.T4.2 impl_Row_52.B4 = true := by kernel_rfl
def impl_Row_52.T6 : Bool × List (List Nat × List Nat) := (true, [([], []), ([], []), ([], []), ([], []), ([3], [3]), ([], []), ([], []), ([6], [6]), ([5, 7], [5, 7]), ([8], [8]), ([], []), ([], []), ([10, 11], [10, 11]), ([12], [12]), ([0, 1, 0, 1, 5, 6, 7, 8, 9, 13], [0, 1]), ([14, 9, 0, 1, 5, 6, 7, 8, 9, 13], [9, 14]), ([2, 4, 0, 1, 2, 3, 4, 5, 6, 7, 8, 9, 10, 11, 12, 13, 14, 15], [2, 4]), ([16, 13, 15, 0, 1, 2, 3, 4, 5, 6, 7, 8, 9, 10, 11, 12, 13, 14, 15], [13, 16])])
def impl_Row_52.B6 : List Nat := [0, 0, 0, 0, 8, 0, 0, 64, 224, 480, 0, 0, 3072, 7168, 16355, 32739, 65535, 131071]
theorem impl_Row_52.tab6 : rtab .any (opsOf Try.f52 6) = impl_Row_52.T6 := by kernel_rfl
theorem impl_Row_52.bits6 : waitsOk impl_Row_52.T6.2 impl_Row_52.B6 = true := by kernel_rfl
set_option maxHeartbeats 8000000 in
set_option maxRecDepth 100000 in
theorem impl_Row_52.calls (k : Nat) (P0_ : Nat → Prop) (u9000_ : Value) (l0 : List (S36)) (a1 : Int) (a2 : Int)  (r : List (S36)) (w0 w : World) (hB : Below w0.heap.size w0 w) (ho0 : Kd.R k36 36 w w0.heap.size P0_ u9000_ l0) (h : impl_Row_52.f k l0 a1 a2 = some r) :
  Calls Try.prog 52 #[u9000_, .int .i64 a1, .int .i64 a2, .func (.func 25) #[] #[]] w fun e w' => e = .returned (.tuple #[]) ∧ Kd.R k36 36 w' w0.heap.size (fun k_ => (P0_ k_ ∨ w.heap.size ≤ k_)) u9000_ r ∧ Below w0.heap.size w0 w' ∧ Kept w w' (fun k_ => P0_ k_) := by
 have hu36 := Try.underlying36
 have HO0 := kp (show Kd.R k36 36 w w0.heap.size (fun k_ => (P0_ k_ ∨ w.heap.size ≤ k_)) u9000_ l0 from Kd.R_mono ho0 (fun k_ hk => (.inl hk)))
 have HK := kp (Kept.refl w (fun k_ => P0_ k_))
 have HW0 := kp hB.size
 have HB := kp hB
 clear hB
 have H : (impl_Row_52.l0 k l0 a1 a2 (wrap64 (a1 + 1))) = some r := h
 clear h
 have H' := kp H
 clear H
 go_enter Try.func52, Try.ntmps52
 go_wp2
 go_loopg [8] k (fun kq v8 w' => ∃ (x0_1 : List (S36)) (x8_1 : Int), v8 = .int .i64 x8_1 ∧ Aside0 (impl_Row_52.l0 kq x0_1 a1 a2 x8_1 = some r) ∧ Aside0 (kq ≤ k) ∧ Aside0 (Kd.R k36 36 w' w0.heap.size (fun k_ => (P0_ k_ ∨ w.heap.size ≤ k_)) u9000_ x0_1) ∧ Aside0 (Kept w w' (fun k_ => P0_ k_)) ∧ Aside0 (Below w0.heap.size w0 w'))
 case atStart => exact ⟨(l0), (wrap64 (a1 + 1)), (by first | rfl | (simp; done) | (simp [*]; done)), H', ⟨Nat.le_refl _⟩, ⟨by (with_reducible repeat (first | apply rA | apply rN | apply rD)); exact HO0.out⟩, ⟨by repeat (first | (with_reducible first | exact HK.out | apply Kept.alloc | apply Kept.drewN | apply Kept.drew) | exact HK.out)⟩, ⟨bb⟩⟩
 case round =>
  clear H'
  try clear p2
  obtain ⟨x0_1, x8_1, rfl, HA, HK1, HO_0, HK, HB⟩ := hrel
  cases gk with
  | zero => exact absurd HA.out (by simp [impl_Row_52.l0])
  | succ k1 =>
   have H := HA.out; clear HA; simp only [impl_Row_52.l0] at H
   by_cases c5 : x8_1 < a2
   ·rw [if_pos c5] at H; have c5b0 : decide (x8_1 < a2) = true := decide_eq_true c5; clear c5; have H' := kp H; clear H; go_wp2
    go_loopg [9] k1 (fun kq v9 w' => ∃ (x0_2 : List (S36)) (x9_2 : Int), v9 = .int .i64 x9_2 ∧ Aside0 (impl_Row_52.l1 kq x0_2 a1 a2 x8_1 x9_2 = some r) ∧ Aside0 (kq ≤ k1) ∧ Aside0 (Kd.R k36 36 w' w0.heap.size (fun k_ => (P0_ k_ ∨ w.heap.size ≤ k_)) u9000_ x0_2) ∧ Aside0 (Kept w w' (fun k_ => P0_ k_)) ∧ Aside0 (Below w0.heap.size w0 w'))
    case atStart => exact ⟨(x0_1), (x8_1), (by first | rfl | (simp; done) | (simp [*]; done)), H', ⟨Nat.le_refl _⟩, ⟨by (with_reducible repeat (first | apply rA | apply rN | apply rD)); exact HO_0.out⟩, ⟨by repeat (first | (with_reducible first | exact HK.out | apply Kept.alloc | apply Kept.drewN | apply Kept.drew) | exact HK.out)⟩, ⟨bb⟩⟩
    case round =>
     clear H'
     try clear p2
     try clear c5
     try clear c5b0
     try clear p2
     obtain ⟨x0_2, x9_2, rfl, HA, HK2, HO_0, HK, HB⟩ := hrel
     cases gk with
     | zero => exact absurd HA.out (by simp [impl_Row_52.l1])
     | succ k2 =>
      have H := HA.out; clear HA; simp only [impl_Row_52.l1] at H
      by_cases c6 : x9_2 > a1
      ·rw [if_pos c6] at H; have c6b0 : decide (a1 < x9_2) = true := decide_eq_true c6; clear c6
       by_cases c7 : 0 ≤ x9_2
       ·rw [if_pos c7] at H; have c7b0 : decide (0 ≤ x9_2) = true := decide_eq_true c7; clear c7
        by_cases c8 : x9_2 < (x0_2.length : Int)
        ·rw [if_pos c8] at H; have c8b0 : decide (x9_2 < (x0_2.length : Int)) = true := decide_eq_true c8; clear c8; obtain ⟨ji9, hji9⟩ : ∃ j_ : Int, (wrap64 (x9_2 - 1)) = j_ := ⟨_, rfl⟩; replace H : (if 0 ≤ (ji9) then (if (ji9) < (x0_2.length : Int) then ((impl_CompareRows.f ((rd_T36 x0_2 x9_2).f0) ((rd_T36 x0_2 x9_2).f1) ((rd_T36 x0_2 x9_2).f2) ((rd_T36 x0_2 (ji9)).f0) ((rd_T36 x0_2 (ji9)).f1) ((rd_T36 x0_2 (ji9)).f2)).bind fun t182 => (if t182 < 0 then (impl_Row_52.l1 k2 ((x0_2.set (x9_2 : Int).toNat (⟨(rd_T36 x0_2 (ji9)).f0, (rd_T36 x0_2 (ji9)).f1, (rd_T36 x0_2 (ji9)).f2⟩ : S36)).set ((ji9) : Int).toNat (⟨(rd_T36 x0_2 x9_2).f0, (rd_T36 x0_2 x9_2).f1, (rd_T36 x0_2 x9_2).f2⟩ : S36)) a1 a2 x8_1 ji9) else (impl_Row_52.l0 k2 x0_2 a1 a2 (wrap64 (x8_1 + 1))))) else (none)) else (none)) = some r := by first | (rw [hji9] at H; exact H) | (simp only [hji9] at H ⊢; exact H)
         have hji9w : (IntKind.i64.wrap (x9_2 - 1)) = ji9 := (i64_w _).trans hji9
         by_cases c10 : 0 ≤ (ji9)
         ·rw [if_pos c10] at H; have c10b0 : decide (0 ≤ (ji9)) = true := decide_eq_true c10; clear c10
          by_cases c11 : (ji9) < (x0_2.length : Int)
          ·rw [if_pos c11] at H; have c11b0 : decide ((ji9) < (x0_2.length : Int)) = true := decide_eq_true c11; clear c11; replace H := Option.bind_eq_some_iff.mp H; obtain ⟨t182, A120, H⟩ := H; replace H : (if t182 < 0 then (impl_Row_52.l1 k2 ((x0_2.set (x9_2 : Int).toNat (⟨(rd_T36 x0_2 (ji9)).f0, (rd_T36 x0_2 (ji9)).f1, (rd_T36 x0_2 (ji9)).f2⟩ : S36)).set ((ji9) : Int).toNat (⟨(rd_T36 x0_2 x9_2).f0, (rd_T36 x0_2 x9_2).f1, (rd_T36 x0_2 x9_2).f2⟩ : S36)) a1 a2 x8_1 ji9) else (impl_Row_52.l0 k2 x0_2 a1 a2 (wrap64 (x8_1 + 1)))) = some r := H; have A12 := kp A120; clear A120
           by_cases c13 : t182 < 0
           ·rw [if_pos c13] at H; have c13b0 : decide (t182 < 0) = true := decide_eq_true c13; clear c13; obtain ⟨y185, hy185⟩ : ∃ y_ : List (S36), y_ = (x0_2.set (x9_2 : Int).toNat (⟨(rd_T36 x0_2 (ji9)).f0, (rd_T36 x0_2 (ji9)).f1, (rd_T36 x0_2 (ji9)).f2⟩ : S36)) := ⟨_, rfl⟩; replace H : (impl_Row_52.l1 k2 (y185.set ((ji9) : Int).toNat (⟨(rd_T36 x0_2 x9_2).f0, (rd_T36 x0_2 x9_2).f1, (rd_T36 x0_2 x9_2).f2⟩ : S36)) a1 a2 x8_1 ji9) = some r := by first | (rw [hy185]; with_reducible exact H) | (have H2_ := (Option.bind_some _ _).symm.trans H; rw [hy185]; with_reducible exact H2_) | (have H2_ := (Option.bind_some _ _).symm.trans H; with_reducible exact H2_) | with_reducible exact H | (rw [hy185]; exact H) | exact H
            have Ny185 := kp hy185; clear hy185; obtain ⟨y186, hy186⟩ : ∃ y_ : List (S36), y_ = (y185.set ((ji9) : Int).toNat (⟨(rd_T36 x0_2 x9_2).f0, (rd_T36 x0_2 x9_2).f1, (rd_T36 x0_2 x9_2).f2⟩ : S36)) := ⟨_, rfl⟩; replace H : (impl_Row_52.l1 k2 y186 a1 a2 x8_1 ji9) = some r := by first | (rw [hy186]; with_reducible exact H) | (have H2_ := (Option.bind_some _ _).symm.trans H; rw [hy186]; with_reducible exact H2_) | (have H2_ := (Option.bind_some _ _).symm.trans H; with_reducible exact H2_) | with_reducible exact H | (rw [hy186]; exact H) | exact H
            have Ny186 := kp hy186; clear hy186; have H' := kp H; clear H
            try go_wp2
            have n0_ := kp (Kd.R_drew HO_0.out); have n1_ := kp (Kept.drew HK.out); have n2_ := kp (below_drew1 HB.out); clear HO_0; clear HK; clear HB; have HO_0 := n0_; have HK := n1_; have HB := n2_; clear n0_ n1_ n2_; obtain ⟨Ao17, co17, eo17⟩ := Kd.R_slice HO_0.out; (first | subst eo17 | (injection eo17 with f1_ f2_ f3_; have f4_ := f1_.symm; have f5_ := f3_.symm; clear f1_ f2_ f3_; subst f4_; subst f5_)); have p180 : 0 ≤ (x9_2 : Int) := dt; have q180 : x9_2 < (x0_2.length : Int) := dt; obtain ⟨ad180, e180, hx180_0, hx180_1, hx180_2⟩ := at_T36 (Kd.R_reads' HO_0.out).2.2 x9_2 p180 q180; cases e180; replace p180 := eq_true p180; replace q180 := eq_true q180; have p181 : 0 ≤ ((ji9) : Int) := dt; have q181 : (ji9) < (x0_2.length : Int) := dt; obtain ⟨ad181, e181, hx181_0, hx181_1, hx181_2⟩ := at_T36 (Kd.R_reads' HO_0.out).2.2 (ji9) p181 q181; obtain rfl : ad180 = ad181 := (by injection e181); replace p181 := eq_true p181; replace q181 := eq_true q181
            refine start_ (n := 17) (S := fun w' => w'.cell? (ad180.add ((x9_2).toNat * 3)) = some (.int .i64 ((rd_T36 x0_2 x9_2).f0)) ∧ w'.cell? ⟨(ad180.add ((x9_2).toNat * 3)).block, (ad180.add ((x9_2).toNat * 3)).off + 1, none⟩ = some (.int .i64 ((rd_T36 x0_2 x9_2).f1)) ∧ w'.cell? ⟨(ad180.add ((x9_2).toNat * 3)).block, (ad180.add ((x9_2).toNat * 3)).off + 2, none⟩ = some (.int .i64 ((rd_T36 x0_2 x9_2).f2)) ∧ w'.cell? (ad180.add (((ji9)).toNat * 3)) = some (.int .i64 ((rd_T36 x0_2 (ji9)).f0)) ∧ w'.cell? ⟨(ad180.add (((ji9)).toNat * 3)).block, (ad180.add (((ji9)).toNat * 3)).off + 1, none⟩ = some (.int .i64 ((rd_T36 x0_2 (ji9)).f1)) ∧ w'.cell? ⟨(ad180.add (((ji9)).toNat * 3)).block, (ad180.add (((ji9)).toNat * 3)).off + 2, none⟩ = some (.int .i64 ((rd_T36 x0_2 (ji9)).f2))) (ds := []) #[false, false, false, false, false, false, false, false, false, false, false, false, false, false, false, false, false] (by kernel_rfl) rfl rfl ⟨hx180_0, hx180_1, hx180_2, hx181_0, hx181_1, hx181_2⟩ (fun hHeld => ?_); refine with_tabW impl_Row_52.tab4 impl_Row_52.bits4 (fun HT_ HW_ => ?_)
            generalize wr.drew = w16 at HO_0 HK HB hx180_0 hx180_1 hx180_2 hx181_0 hx181_1 hx181_2 hHeld ⊢
            refine pq 0 18 HT_ ?_
            refine pq 1 19 HT_ ?_
            refine pq 2 20 HT_ ?_
            refine pq 3 21 HT_ ?_
            refine pq 4 22 HT_ ?_
            refine pq 5 23 HT_ ?_
            refine pq 6 24 HT_ ?_
            refine pq 7 25 HT_ ?_
            refine pq 9 27 HT_ ?_
            refine pq 10 28 HT_ ?_
            refine pq 11 29 HT_ ?_
            refine pq 12 30 HT_ ?_
            refine tq 8 26 HT_ HW_ hHeld ?_
            refine tq 13 31 HT_ HW_ hHeld ?_
            refine on_ 14 (some 32) HT_ (fun K hK => ?_)
            refine goesD_ Try.func25 (by kernel_rfl) rfl #[.agg #[.int .i64 ((rd_T36 x0_2 x9_2).f0), .int .i64 ((rd_T36 x0_2 x9_2).f1), .int .i64 ((rd_T36 x0_2 x9_2).f2)], .agg #[.int .i64 ((rd_T36 x0_2 (ji9)).f0), .int .i64 ((rd_T36 x0_2 (ji9)).f1), .int .i64 ((rd_T36 x0_2 (ji9)).f2)]] (by rfl) rfl rfl rfl (by (try simp only [List.map_toArray, List.map_cons, List.map_nil]); first | done | (simp only [hji9]; rfl) | rfl | (simp only [List.length_drop, List.length_take]; rfl)) ?_
            with_reducible refine (impl_CompareRows.calls ((rd_T36 x0_2 x9_2).f0) ((rd_T36 x0_2 x9_2).f1) ((rd_T36 x0_2 x9_2).f2) ((rd_T36 x0_2 (ji9)).f0) ((rd_T36 x0_2 (ji9)).f1) ((rd_T36 x0_2 (ji9)).f2) t182 _ A12.out).mono ?_
            rintro e w18 ⟨rfl, hb⟩; have HS0_ := (hb.cell (World.block_lt_of_cell? _ _ (hHeld.1))).trans (hHeld.1); have HS1_ := (hb.cell (World.block_lt_of_cell? _ _ (hHeld.2.1))).trans (hHeld.2.1); have HS2_ := (hb.cell (World.block_lt_of_cell? _ _ (hHeld.2.2.1))).trans (hHeld.2.2.1); have HS3_ := (hb.cell (World.block_lt_of_cell? _ _ (hHeld.2.2.2.1))).trans (hHeld.2.2.2.1); have HS4_ := (hb.cell (World.block_lt_of_cell? _ _ (hHeld.2.2.2.2.1))).trans (hHeld.2.2.2.2.1); have HS5_ := (hb.cell (World.block_lt_of_cell? _ _ (hHeld.2.2.2.2.2))).trans (hHeld.2.2.2.2.2); refine ⟨_, rfl, ?_⟩; have n0_ := kp (Kd.R_below (by (with_reducible repeat (first | apply rA | apply rN | apply rD)); exact HO_0.out) hb); have n1_ := kp (Kept.below (S := (fun k_ => P0_ k_)) (by repeat (first | (with_reducible first | exact HK.out | apply Kept.alloc | apply Kept.drewN | apply Kept.drew) | exact HK.out)) hb); have n2_ := kp (below_step bb hb); clear HO_0; clear HK; clear HB; have HO_0 := n0_; have HK := n1_; have HB := n2_; clear n0_ n1_ n2_; (try clear hb); (try clear hk); refine hK.out _ _ ⟨HS0_, HS1_, HS2_, HS3_, HS4_, HS5_⟩ (fun hHeld => ?_); clear hK K; refine nm_ (some 32) ?_
            refine pq 15 33 HT_ ?_
            refine pq 16 34 HT_ ?_
            refine done_ (done_of HT_.out (by kernel_rfl)) ?_
            try go_wp2
            have n0_ := kp (Kd.R_drew HO_0.out); have n1_ := kp (Kept.drew HK.out); have n2_ := kp (below_drew1 HB.out); clear HO_0; clear HK; clear HB; have HO_0 := n0_; have HK := n1_; have HB := n2_; clear n0_ n1_ n2_; have p183 : 0 ≤ ((ji9) : Int) := dt; have q183 : (ji9) < (x0_2.length : Int) := dt; obtain ⟨ad183, e183, hx183_0, hx183_1, hx183_2⟩ := at_T36 (Kd.R_reads' HO_0.out).2.2 (ji9) p183 q183; obtain rfl : ad180 = ad183 := (by injection e183); replace p183 := eq_true p183; replace q183 := eq_true q183; have p184 : 0 ≤ (x9_2 : Int) := dt; have q184 : x9_2 < (x0_2.length : Int) := dt; obtain ⟨ad184, e184, hx184_0, hx184_1, hx184_2⟩ := at_T36 (Kd.R_reads' HO_0.out).2.2 x9_2 p184 q184; obtain rfl : ad180 = ad184 := (by injection e184); replace p184 := eq_true p184; replace q184 := eq_true q184; have p14 : 0 ≤ (x9_2 : Int) := dt; have q14 : (x9_2 : Int) < ((x0_2.length : Int) : Int) := dt; obtain ⟨go14, co14, eo14, gb14, gl14, cl14, HG14⟩ := Kd.R_form HO_0.out (by omega); (first | cases eo14 | (injection eo14 with ea_ en_ ec_; (first | subst ea_ | (injection ea_ with ea_; subst ea_)); subst ec_; clear en_)); have GB14 := kp gb14; have GG14 := kp HG14; clear gb14 gl14 HG14; have HMgo14 := kp (show (P0_ go14 ∨ w.heap.size ≤ go14) from (HO_0.out.1 _ rfl)); (first | simp only [add_plain] at hx180_0 | skip); (first | simp only [add_plain] at hx180_1 | skip); (first | simp only [add_plain] at hx180_2 | skip); (first | simp only [add_plain] at hx181_0 | skip)
            (first | simp only [add_plain] at hx181_1 | skip); (first | simp only [add_plain] at hx181_2 | skip); (first | simp only [add_plain] at hx183_0 | skip); (first | simp only [add_plain] at hx183_1 | skip); (first | simp only [add_plain] at hx183_2 | skip); (first | simp only [add_plain] at hx184_0 | skip); (first | simp only [add_plain] at hx184_1 | skip); (first | simp only [add_plain] at hx184_2 | skip); obtain ⟨ce14, hcl14, hM14, hcc14, hfr14⟩ := Kd.R_elem HO_0.out z36 (x9_2 : Int) p14 q14; obtain rfl := k36_openM hM14; have hx14_0 : World.cell? _ ⟨go14, (x9_2 : Int).toNat * 3, none⟩ = some (.int .i64 ((rd_T36 x0_2 x9_2).f0)) := hcc14 0 _ rfl; have hx14_1 : World.cell? _ ⟨go14, (x9_2 : Int).toNat * 3 + 1, none⟩ = some (.int .i64 ((rd_T36 x0_2 x9_2).f1)) := hcc14 1 _ rfl; have hx14_2 : World.cell? _ ⟨go14, (x9_2 : Int).toNat * 3 + 2, none⟩ = some (.int .i64 ((rd_T36 x0_2 x9_2).f2)) := hcc14 2 _ rfl; have hf14_0 : World.frozen? _ ⟨go14, (x9_2 : Int).toNat * 3, none⟩ = false := hfr14 0; have hf14_1 : World.frozen? _ ⟨go14, (x9_2 : Int).toNat * 3 + 1, none⟩ = false := hfr14 1; have hf14_2 : World.frozen? _ ⟨go14, (x9_2 : Int).toNat * 3 + 2, none⟩ = false := hfr14 2; clear hcl14 hcc14 hfr14 hM14; replace p14 := eq_true p14; replace q14 := eq_true q14
            obtain ⟨ce20, hcl20, hM20, hcc20, hfr20⟩ := Kd.R_elem HO_0.out z36 (x9_2 : Int) (dt) (by have h_ : (x9_2 : Int) < ((x0_2.length : Int) : Int) := dt; first | exact h_ | (have e_ := (Kd.R_reads' HO_0.out).1; omega) | simpa using h_); obtain rfl := k36_openM hM20; have HP20 := (Kd.R_seg HO_0.out (x9_2 : Int) (dt) (by have h_ : (x9_2 : Int) < ((x0_2.length : Int) : Int) := dt; first | exact h_ | (have e_ := (Kd.R_reads' HO_0.out).1; omega) | simpa using h_) (seg := [.int .i64 ((rd_T36 x0_2 (ji9)).f0), .int .i64 ((rd_T36 x0_2 (ji9)).f1), .int .i64 ((rd_T36 x0_2 (ji9)).f2)]) (j := 0) hcl20 hcc20 (show 3 ≤ 3 from by decide) (x' := (⟨(rd_T36 x0_2 (ji9)).f0, (rd_T36 x0_2 (ji9)).f1, (rd_T36 x0_2 (ji9)).f2⟩ : S36)) (k36_mkM _ _ _ (⟨(rd_T36 x0_2 (ji9)).f0, (rd_T36 x0_2 (ji9)).f1, (rd_T36 x0_2 (ji9)).f2⟩ : S36) ) (fun _ hk => hk)).1; rw [← Ny185.out] at HP20; have HQ20 := kp HP20; clear hcl20 hcc20 hfr20 hM20 HP20; have p15 : 0 ≤ ((ji9) : Int) := dt; have q15 : ((ji9) : Int) < ((x0_2.length : Int) : Int) := dt; obtain ⟨ce15, hcl15, hM15, hcc15, hfr15⟩ := Kd.R_elem HQ20.out z36 ((ji9) : Int) p15 q15; obtain rfl := k36_openM hM15; have hx15_0 : World.cell? _ ⟨go14, ((ji9) : Int).toNat * 3, none⟩ = some (.int .i64 ((rd_T36 y185 (ji9)).f0)) := hcc15 0 _ rfl; have hx15_1 : World.cell? _ ⟨go14, ((ji9) : Int).toNat * 3 + 1, none⟩ = some (.int .i64 ((rd_T36 y185 (ji9)).f1)) := hcc15 1 _ rfl
            have hx15_2 : World.cell? _ ⟨go14, ((ji9) : Int).toNat * 3 + 2, none⟩ = some (.int .i64 ((rd_T36 y185 (ji9)).f2)) := hcc15 2 _ rfl; have hf15_0 : World.frozen? _ ⟨go14, ((ji9) : Int).toNat * 3, none⟩ = false := hfr15 0; have hf15_1 : World.frozen? _ ⟨go14, ((ji9) : Int).toNat * 3 + 1, none⟩ = false := hfr15 1; have hf15_2 : World.frozen? _ ⟨go14, ((ji9) : Int).toNat * 3 + 2, none⟩ = false := hfr15 2; clear hcl15 hcc15 hfr15 hM15; replace p15 := eq_true p15; replace q15 := eq_true q15; obtain ⟨ce21, hcl21, hM21, hcc21, hfr21⟩ := Kd.R_elem HQ20.out z36 ((ji9) : Int) (dt) (by have h_ : ((ji9) : Int) < ((x0_2.length : Int) : Int) := dt; first | exact h_ | (have e_ := (Kd.R_reads' HO_0.out).1; omega) | simpa using h_); obtain rfl := k36_openM hM21; have HP21 := (Kd.R_seg HQ20.out ((ji9) : Int) (dt) (by have h_ : ((ji9) : Int) < ((x0_2.length : Int) : Int) := dt; first | exact h_ | (have e_ := (Kd.R_reads' HO_0.out).1; omega) | simpa using h_) (seg := [.int .i64 ((rd_T36 x0_2 x9_2).f0), .int .i64 ((rd_T36 x0_2 x9_2).f1), .int .i64 ((rd_T36 x0_2 x9_2).f2)]) (j := 0) hcl21 hcc21 (show 3 ≤ 3 from by decide) (x' := (⟨(rd_T36 x0_2 x9_2).f0, (rd_T36 x0_2 x9_2).f1, (rd_T36 x0_2 x9_2).f2⟩ : S36)) (k36_mkM _ _ _ (⟨(rd_T36 x0_2 x9_2).f0, (rd_T36 x0_2 x9_2).f1, (rd_T36 x0_2 x9_2).f2⟩ : S36) ) (fun _ hk => hk)).1; rw [← Ny186.out] at HP21; have HQ21 := kp HP21; clear hcl21 hcc21 hfr21 hM21 HP21
            (try simp only [World.setCells, show k36.sz = 3 from rfl, Nat.add_zero] at hx14_0); (try simp only [World.setCells, show k36.sz = 3 from rfl, Nat.add_zero] at hx14_1); (try simp only [World.setCells, show k36.sz = 3 from rfl, Nat.add_zero] at hx14_2); (try simp only [World.setCells, show k36.sz = 3 from rfl, Nat.add_zero] at hf14_0); (try simp only [World.setCells, show k36.sz = 3 from rfl, Nat.add_zero] at hf14_1); (try simp only [World.setCells, show k36.sz = 3 from rfl, Nat.add_zero] at hf14_2); (try simp only [World.setCells, show k36.sz = 3 from rfl, Nat.add_zero] at hx15_0); (try simp only [World.setCells, show k36.sz = 3 from rfl, Nat.add_zero] at hx15_1); (try simp only [World.setCells, show k36.sz = 3 from rfl, Nat.add_zero] at hx15_2); (try simp only [World.setCells, show k36.sz = 3 from rfl, Nat.add_zero] at hf15_0); (try simp only [World.setCells, show k36.sz = 3 from rfl, Nat.add_zero] at hf15_1); (try simp only [World.setCells, show k36.sz = 3 from rfl, Nat.add_zero] at hf15_2)
            refine start_ (n := 18) (S := fun w' => w'.cell? ⟨go14, ((ji9)).toNat * 3, none⟩ = some (.int .i64 ((rd_T36 x0_2 (ji9)).f0)) ∧ w'.cell? ⟨go14, ((ji9)).toNat * 3 + 1, none⟩ = some (.int .i64 ((rd_T36 x0_2 (ji9)).f1)) ∧ w'.cell? ⟨go14, ((ji9)).toNat * 3 + 2, none⟩ = some (.int .i64 ((rd_T36 x0_2 (ji9)).f2)) ∧ w'.cell? ⟨go14, ((x9_2).toNat * 3), none⟩ = some (.int .i64 ((rd_T36 x0_2 x9_2).f0)) ∧ w'.cell? ⟨go14, ((x9_2).toNat * 3) + 1, none⟩ = some (.int .i64 ((rd_T36 x0_2 x9_2).f1)) ∧ w'.cell? ⟨go14, ((x9_2).toNat * 3) + 2, none⟩ = some (.int .i64 ((rd_T36 x0_2 x9_2).f2))) (ds := [15, 17]) #[false, false, false, false, false, false, false, false, false, false, false, false, false, false, false, false, false, false] (by kernel_rfl) rfl rfl ⟨hx183_0, hx183_1, hx183_2, hx184_0, hx184_1, hx184_2⟩ (fun hHeld => ?_); refine with_tabW impl_Row_52.tab6 impl_Row_52.bits6 (fun HT_ HW_ => ?_)
            generalize w18.drew = w19 at HO_0 HK HB GG14 HQ20 HQ21 hf14_0 hf14_1 hf14_2 hf15_0 hf15_1 hf15_2 hx14_0 hx14_1 hx14_2 hx15_0 hx15_1 hx15_2 hx180_0 hx180_1 hx180_2 hx181_0 hx181_1 hx181_2 hx183_0 hx183_1 hx183_2 hx184_0 hx184_1 hx184_2 hHeld ⊢
            refine pq 0 37 HT_ ?_
            refine pq 1 38 HT_ ?_
            refine pq 2 39 HT_ ?_
            refine pq 3 40 HT_ ?_
            refine pq 4 41 HT_ ?_
            refine pq 5 42 HT_ ?_
            refine pq 6 43 HT_ ?_
            refine pq 7 44 HT_ ?_
            refine pq 8 45 HT_ ?_
            refine pq 10 47 HT_ ?_
            refine pq 11 48 HT_ ?_
            refine pq 12 49 HT_ ?_
            refine tq 9 46 HT_ HW_ hHeld ?_
            refine tq 13 50 HT_ HW_ hHeld ?_
            refine pq 14 51 HT_ ?_
            refine last_ (i := 15) (N := none) #[true, true, true, true, true, true, true, true, true, true, true, true, true, true, true, true, false, false] rfl rfl (one_of HT_.out (by kernel_rfl)) (by decide) (fun K hK => ?_)
            refine skip_ (w1 := ?_) (by rfl) rfl ?_ ?_
            rotate_left
            ·go_simp
             rfl
            refine hK.out _ _ ?_; clear hK K
            refine pq 16 52 HT_ ?_
            refine last_ (i := 17) (N := none) #[true, true, true, true, true, true, true, true, true, true, true, true, true, true, true, true, true, true] rfl rfl (one_of HT_.out (by kernel_rfl)) (by decide) (fun K hK => ?_)
            refine skip_ (w1 := ?_) (by rfl) rfl ?_ ?_
            rotate_left
            ·go_simp
             rfl
            refine hK.out _ _ ?_; clear hK K; refine done_ (done_of HT_.out (by kernel_rfl)) ?_
            try go_wp2
            go_roundg k2
            case measure => have := HK1.out; have := HK2.out; omega
            case rel => exact ⟨(y186), (ji9), (by first | rfl | (simp; done) | (simp only [← hji9] <;> (first | rfl | simp)) | (simp [*]; done)), H', ⟨by have := HK1.out; have := HK2.out; omega⟩, ⟨by (with_reducible repeat (first | apply rA | apply rN | apply rD)); exact HQ21.out⟩, ⟨by repeat (first | (with_reducible first | exact HK.out | apply Kept.alloc | apply Kept.drewN | apply Kept.drew | refine Kept.setCell ?_ HMgo14.out _ | refine Kept.setCell ?_ HMgo14.out _ | refine Kept.setCell ?_ HMgo14.out _ | refine Kept.setCell ?_ HMgo14.out _ | refine Kept.setCell ?_ HMgo14.out _ | refine Kept.setCell ?_ HMgo14.out _) | exact HK.out)⟩, ⟨bb⟩⟩
           ·rw [if_neg c13] at H; have c13b0 : decide (t182 < 0) = false := decide_eq_false c13; clear c13; have H' := kp H; clear H
            try go_wp2
            have n0_ := kp (Kd.R_drew HO_0.out); have n1_ := kp (Kept.drew HK.out); have n2_ := kp (below_drew1 HB.out); clear HO_0; clear HK; clear HB; have HO_0 := n0_; have HK := n1_; have HB := n2_; clear n0_ n1_ n2_; obtain ⟨Ao23, co23, eo23⟩ := Kd.R_slice HO_0.out; (first | subst eo23 | (injection eo23 with f1_ f2_ f3_; have f4_ := f1_.symm; have f5_ := f3_.symm; clear f1_ f2_ f3_; subst f4_; subst f5_)); have p180 : 0 ≤ (x9_2 : Int) := dt; have q180 : x9_2 < (x0_2.length : Int) := dt; obtain ⟨ad180, e180, hx180_0, hx180_1, hx180_2⟩ := at_T36 (Kd.R_reads' HO_0.out).2.2 x9_2 p180 q180; cases e180; replace p180 := eq_true p180; replace q180 := eq_true q180; have p181 : 0 ≤ ((ji9) : Int) := dt; have q181 : (ji9) < (x0_2.length : Int) := dt; obtain ⟨ad181, e181, hx181_0, hx181_1, hx181_2⟩ := at_T36 (Kd.R_reads' HO_0.out).2.2 (ji9) p181 q181; obtain rfl : ad180 = ad181 := (by injection e181); replace p181 := eq_true p181; replace q181 := eq_true q181
            refine start_ (n := 17) (S := fun w' => w'.cell? (ad180.add ((x9_2).toNat * 3)) = some (.int .i64 ((rd_T36 x0_2 x9_2).f0)) ∧ w'.cell? ⟨(ad180.add ((x9_2).toNat * 3)).block, (ad180.add ((x9_2).toNat * 3)).off + 1, none⟩ = some (.int .i64 ((rd_T36 x0_2 x9_2).f1)) ∧ w'.cell? ⟨(ad180.add ((x9_2).toNat * 3)).block, (ad180.add ((x9_2).toNat * 3)).off + 2, none⟩ = some (.int .i64 ((rd_T36 x0_2 x9_2).f2)) ∧ w'.cell? (ad180.add (((ji9)).toNat * 3)) = some (.int .i64 ((rd_T36 x0_2 (ji9)).f0)) ∧ w'.cell? ⟨(ad180.add (((ji9)).toNat * 3)).block, (ad180.add (((ji9)).toNat * 3)).off + 1, none⟩ = some (.int .i64 ((rd_T36 x0_2 (ji9)).f1)) ∧ w'.cell? ⟨(ad180.add (((ji9)).toNat * 3)).block, (ad180.add (((ji9)).toNat * 3)).off + 2, none⟩ = some (.int .i64 ((rd_T36 x0_2 (ji9)).f2))) (ds := []) #[false, false, false, false, false, false, false, false, false, false, false, false, false, false, false, false, false] (by kernel_rfl) rfl rfl ⟨hx180_0, hx180_1, hx180_2, hx181_0, hx181_1, hx181_2⟩ (fun hHeld => ?_); refine with_tabW impl_Row_52.tab4 impl_Row_52.bits4 (fun HT_ HW_ => ?_)
            generalize wr.drew = w22 at HO_0 HK HB hx180_0 hx180_1 hx180_2 hx181_0 hx181_1 hx181_2 hHeld ⊢
            refine pq 0 18 HT_ ?_
            refine pq 1 19 HT_ ?_
            refine pq 2 20 HT_ ?_
            refine pq 3 21 HT_ ?_
            refine pq 4 22 HT_ ?_
            refine pq 5 23 HT_ ?_
            refine pq 6 24 HT_ ?_
            refine pq 7 25 HT_ ?_
            refine pq 9 27 HT_ ?_
            refine pq 10 28 HT_ ?_
            refine pq 11 29 HT_ ?_
            refine pq 12 30 HT_ ?_
            refine tq 8 26 HT_ HW_ hHeld ?_
            refine tq 13 31 HT_ HW_ hHeld ?_
            refine on_ 14 (some 32) HT_ (fun K hK => ?_)
            refine goesD_ Try.func25 (by kernel_rfl) rfl #[.agg #[.int .i64 ((rd_T36 x0_2 x9_2).f0), .int .i64 ((rd_T36 x0_2 x9_2).f1), .int .i64 ((rd_T36 x0_2 x9_2).f2)], .agg #[.int .i64 ((rd_T36 x0_2 (ji9)).f0), .int .i64 ((rd_T36 x0_2 (ji9)).f1), .int .i64 ((rd_T36 x0_2 (ji9)).f2)]] (by rfl) rfl rfl rfl (by (try simp only [List.map_toArray, List.map_cons, List.map_nil]); first | done | (simp only [hji9]; rfl) | rfl | (simp only [List.length_drop, List.length_take]; rfl)) ?_
            with_reducible refine (impl_CompareRows.calls ((rd_T36 x0_2 x9_2).f0) ((rd_T36 x0_2 x9_2).f1) ((rd_T36 x0_2 x9_2).f2) ((rd_T36 x0_2 (ji9)).f0) ((rd_T36 x0_2 (ji9)).f1) ((rd_T36 x0_2 (ji9)).f2) t182 _ A12.out).mono ?_
            rintro e w24 ⟨rfl, hb⟩; have HS0_ := (hb.cell (World.block_lt_of_cell? _ _ (hHeld.1))).trans (hHeld.1); have HS1_ := (hb.cell (World.block_lt_of_cell? _ _ (hHeld.2.1))).trans (hHeld.2.1); have HS2_ := (hb.cell (World.block_lt_of_cell? _ _ (hHeld.2.2.1))).trans (hHeld.2.2.1); have HS3_ := (hb.cell (World.block_lt_of_cell? _ _ (hHeld.2.2.2.1))).trans (hHeld.2.2.2.1); have HS4_ := (hb.cell (World.block_lt_of_cell? _ _ (hHeld.2.2.2.2.1))).trans (hHeld.2.2.2.2.1); have HS5_ := (hb.cell (World.block_lt_of_cell? _ _ (hHeld.2.2.2.2.2))).trans (hHeld.2.2.2.2.2); refine ⟨_, rfl, ?_⟩; have n0_ := kp (Kd.R_below (by (with_reducible repeat (first | apply rA | apply rN | apply rD)); exact HO_0.out) hb); have n1_ := kp (Kept.below (S := (fun k_ => P0_ k_)) (by repeat (first | (with_reducible first | exact HK.out | apply Kept.alloc | apply Kept.drewN | apply Kept.drew) | exact HK.out)) hb); have n2_ := kp (below_step bb hb); clear HO_0; clear HK; clear HB; have HO_0 := n0_; have HK := n1_; have HB := n2_; clear n0_ n1_ n2_; (try clear hb); (try clear hk); refine hK.out _ _ ⟨HS0_, HS1_, HS2_, HS3_, HS4_, HS5_⟩ (fun hHeld => ?_); clear hK K; refine nm_ (some 32) ?_
            refine pq 15 33 HT_ ?_
            refine pq 16 34 HT_ ?_
            refine done_ (done_of HT_.out (by kernel_rfl)) ?_
            try go_wp2
            go_roundg k2
            case measure => have := HK1.out; have := HK2.out; omega
            case rel => exact ⟨(x0_2), (wrap64 (x8_1 + 1)), (by first | rfl | (simp; done) | (simp [*]; done)), H', ⟨by have := HK1.out; have := HK2.out; omega⟩, ⟨by (with_reducible repeat (first | apply rA | apply rN | apply rD)); exact HO_0.out⟩, ⟨by repeat (first | (with_reducible first | exact HK.out | apply Kept.alloc | apply Kept.drewN | apply Kept.drew) | exact HK.out)⟩, ⟨bb⟩⟩
          ·rw [if_neg c11] at H; exact absurd H (by simp)
         ·rw [if_neg c10] at H; exact absurd H (by simp)
        ·rw [if_neg c8] at H; exact absurd H (by simp)
       ·rw [if_neg c7] at H; exact absurd H (by simp)
      ·rw [if_neg c6] at H; have c6b0 : decide (a1 < x9_2) = false := decide_eq_false c6; clear c6; have H' := kp H; clear H
       try go_wp2
       have n0_ := kp (Kd.R_drew HO_0.out); have n1_ := kp (Kept.drew HK.out); have n2_ := kp (below_drew1 HB.out); clear HO_0; clear HK; clear HB; have HO_0 := n0_; have HK := n1_; have HB := n2_; clear n0_ n1_ n2_
       refine start_ (n := 17) (S := fun w' => True) (ds := []) #[false, false, false, false, false, false, false, false, false, false, false, false, false, false, false, false, false] (by kernel_rfl) rfl rfl trivial (fun hHeld => ?_); refine with_tabW impl_Row_52.tab4 impl_Row_52.bits4 (fun HT_ HW_ => ?_)
       generalize wr.drew = w25 at HO_0 HK HB hHeld ⊢
       refine pq 0 18 HT_ ?_
       refine pq 1 19 HT_ ?_
       refine pq 2 20 HT_ ?_
       refine pq 3 21 HT_ ?_
       refine uq 4 22 HT_ ?_
       refine uq 5 23 HT_ ?_
       refine uq 6 24 HT_ ?_
       refine uq 7 25 HT_ ?_
       refine uq 8 26 HT_ ?_
       refine uq 9 27 HT_ ?_
       refine uq 10 28 HT_ ?_
       refine uq 11 29 HT_ ?_
       refine uq 12 30 HT_ ?_
       refine uq 13 31 HT_ ?_
       refine uq 14 32 HT_ ?_
       refine uq 15 33 HT_ ?_
       refine pq 16 34 HT_ ?_
       refine done_ (done_of HT_.out (by kernel_rfl)) ?_
       try go_wp2
       go_roundg k2
       case measure => have := HK1.out; have := HK2.out; omega
       case rel => exact ⟨(x0_2), (wrap64 (x8_1 + 1)), (by first | rfl | (simp; done) | (simp [*]; done)), H', ⟨by have := HK1.out; have := HK2.out; omega⟩, ⟨by (with_reducible repeat (first | apply rA | apply rN | apply rD)); exact HO_0.out⟩, ⟨by repeat (first | (with_reducible first | exact HK.out | apply Kept.alloc | apply Kept.drewN | apply Kept.drew) | exact HK.out)⟩, ⟨bb⟩⟩
   ·rw [if_neg c5] at H; have c5b0 : decide (x8_1 < a2) = false := decide_eq_false c5; clear c5; obtain rfl := Option.some.inj H; go_wp2
    first | go_end0 | ((try simp only [Exit.inBlock, Exit.then]); refine bodyPost_ret (results_none rfl _ _ _) rfl ?_)
    exact ⟨er, by (with_reducible repeat (first | apply rA | apply rN | apply rD)); exact HO_0.out, bb, by repeat (first | (with_reducible first | exact HK.out | apply Kept.alloc | apply Kept.drewN | apply Kept.drew) | exact HK.out)⟩
end Go.Proofs.Ytbcpfppiaeelbaa.PFnMultisets
