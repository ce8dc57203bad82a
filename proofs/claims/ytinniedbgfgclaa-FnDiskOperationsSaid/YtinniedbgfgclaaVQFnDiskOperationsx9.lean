/- Out of a copy of the print, with function values told: nothing is claimed here. -/
import Derived.Test.YtinniedbgfgclaaVQFnDiskOperationsx0
import Derived.Test.YtinniedbgfgclaaVQFnDiskOperationsx7
import Derived.Test.YtinniedbgfgclaaVShort
import Derived.Test.YtinniedbgfgclaaVPress
import Derived.Test.YtinniedbgfgclaaVFoldT
namespace Go.Proofs.Ytinniedbgfgclaa.PFnDiskOperations
open Go.RowKit Go.Proofs.YtinniedbgfgclaaW.PrintWords Go.Proofs.YtinniedbgfgclaaW.PrintLast Go.Proofs.YtinniedbgfgclaaW.PrintMore Go.Proofs.Ytinniedbgfgclaa.Short Go.Proofs.Ytinniedbgfgclaa.Press Go.Proofs.Ytinniedbgfgclaa.Fold
attribute [local go_sem] max2_int min2_int max_two min_two max_three min_three max_four min_four   -- for this text's walks alone
set_option linter.unusedVariables false
set_option linter.unusedSimpArgs false
def impl_ChecksumOf.l0 : Nat → ByteArray → Int → Int → Int → Option (Int)
 | 0, _, _, _, _ => none
 | k + 1, x0, x3, x6, x7 => if x7 < x6 then (if 0 ≤ x7 then (if x7 < (x0.size : Int) then (impl_ChecksumOf.l0 k x0 (Int.tmod (wrap64 ((wrap64 ((wrap64 (37 * x3)) + (wrap64 (bt x0 x7)))) + 1)) 65521) x6 (wrap64 (x7 + 1))) else (none)) else (none)) else (some x3)
def impl_ChecksumOf.f (k : Nat) (a0 : ByteArray) : Option (Int) := impl_ChecksumOf.l0 k a0 11 (a0.size : Int) 0
set_option maxHeartbeats 8000000 in
set_option maxRecDepth 100000 in
theorem impl_ChecksumOf.calls (k : Nat) (a0 : ByteArray) (r : Int) (w : World) (h : impl_ChecksumOf.f k a0 = some r) :
  Calls Try.prog 37 #[.string a0] w fun e w' => e = .returned (.int .i64 r) ∧ Drawn0 w w' := by
 have H := h; clear h; unfold impl_ChecksumOf.f at H; have H' := kp H; clear H; go_enter Try.func37, Try.ntmps37; go_wp2; go_loopg [3, 7] k (fun kq v3 v7 w' => ∃ (x3_1 : Int) (x7_1 : Int), v3 = .int .i64 x3_1 ∧ v7 = .int .i64 x7_1 ∧ Aside0 (impl_ChecksumOf.l0 kq a0 x3_1 (a0.size : Int) x7_1 = some r) ∧ Aside0 (kq ≤ k) ∧ Drawn0 w w'); case atStart => exact ⟨(11), (0), vr, vr, H', ⟨Nat.le_refl _⟩, by repeat (first | exact Drawn0.refl _ | apply Drawn0.step)⟩
 case round =>
  clear H'; obtain ⟨x3_1, x7_1, rfl, rfl, HA, HK1, ⟨m1, rfl⟩⟩ := hrel
  cases gk with
  | zero => exact absurd HA.out (by simp [impl_ChecksumOf.l0])
  | succ k1 =>
   have H := HA.out; clear HA; simp only [impl_ChecksumOf.l0] at H; replace H := sp H; rcases H with ⟨c2b0, H⟩ | ⟨c2b0, H⟩
   ·replace H := sn H; obtain ⟨c3b0, H⟩ := H; replace H := sn H; obtain ⟨c4b0, H⟩ := H; have H' := kp H; clear H; have p5 : 0 ≤ (x7_1 : Int) := dt; have q5 : x7_1 < (a0.size : Int) := dt; have hx5 := bt_at a0 x7_1; replace p5 := eq_true p5; replace q5 := eq_true q5; go_wp2; go_roundg k1; case measure => have := HK1.out; omega
    case rel => exact ⟨(Int.tmod (wrap64 ((wrap64 ((wrap64 (37 * x3_1)) + (wrap64 (bt a0 x7_1)))) + 1)) 65521), (wrap64 (x7_1 + 1)), vr, vr, H', ⟨by have := HK1.out; omega⟩, by repeat (first | exact Drawn0.refl _ | apply Drawn0.step)⟩
   ·obtain rfl := Option.some.inj H; go_wp2; go_ret; exact ⟨by first | rfl | (simp; done) | (simp [*]; done), by repeat (first | exact Drawn0.refl _ | apply Drawn0.step)⟩
def impl_decimal.f : Nat → Int → Option (ByteArray)
 | 0, _ => none
 | k + 1, a0 => if a0 < 10 then (some (strOfNums (([(IntKind.u64.wrap (48 + a0)) % 256] : List Int)))) else ((impl_decimal.f k (IntKind.u64.wrap (Int.tdiv a0 10))).bind fun t227 => ((some (([(IntKind.u64.wrap (48 + (Int.tmod a0 10))) % 256] : List Int) : List Int)).bind fun y228 => (if t227.size + (strOfNums y228).size ≤ 9223372036854775807 then (some (t227 ++ (strOfNums y228))) else (none))))
def impl_decimal.T3 : Bool × List (List Nat × List Nat) := (true, [([], []), ([0], [0]), ([1], [1]), ([], []), ([3], [3]), ([4], [4]), ([5], [5]), ([6], [6]), ([7], [7]), ([2, 8], [2, 8]), ([9, 2, 0, 1, 2, 3, 4, 5, 6, 7, 8, 9], [9])])
def impl_decimal.B3 : List Nat := [0, 1, 3, 0, 8, 24, 56, 120, 248, 511, 1023]
theorem impl_decimal.tab3 : rtab .any (opsOf Try.f127 3) = impl_decimal.T3 := by kernel_rfl
theorem impl_decimal.bits3 : waitsOk impl_decimal.T3.2 impl_decimal.B3 = true := by kernel_rfl
set_option maxHeartbeats 8000000 in
set_option maxRecDepth 100000 in
theorem impl_decimal.calls (k : Nat) : ∀ (a0 : Int) (r : ByteArray) (w : World) (h : impl_decimal.f k a0 = some r),
  Calls Try.prog 127 #[.int .u64 a0] w fun e w' => e = .returned (.string r) ∧ Below w.heap.size w w' := by
 induction k using Nat.strongRecOn with
 | _ k ih =>
  intro a0 r w h
  cases k with
  | zero => exact absurd h (by simp [impl_decimal.f])
  | succ k =>
   simp only [impl_decimal.f] at h; have HB := kp (Below.refl w.heap.size w); have H : (if a0 < 10 then (some (strOfNums (([(IntKind.u64.wrap (48 + a0)) % 256] : List Int)))) else ((impl_decimal.f k (IntKind.u64.wrap (Int.tdiv a0 10))).bind fun t227 => ((some (([(IntKind.u64.wrap (48 + (Int.tmod a0 10))) % 256] : List Int) : List Int)).bind fun y228 => (if t227.size + (strOfNums y228).size ≤ 9223372036854775807 then (some (t227 ++ (strOfNums y228))) else (none))))) = some r := h; clear h; replace H := sp H; rcases H with ⟨c2b0, H⟩ | ⟨c2b0, H⟩
   ·obtain ⟨y224, hy224⟩ : ∃ y_ : List Int, y_ = (([(IntKind.u64.wrap (48 + a0)) % 256] : List Int)) := ⟨_, rfl⟩; replace H : (some (strOfNums y224)) = some r := by first | (rw [hy224]; with_reducible exact H) | (have H2_ := (Option.bind_some _ _).symm.trans H; rw [hy224]; with_reducible exact H2_) | (have H2_ := (Option.bind_some _ _).symm.trans H; with_reducible exact H2_) | with_reducible exact H | (rw [hy224]; exact H) | exact H
    have Ny224 := kp hy224; clear hy224; obtain rfl := Option.some.inj H; go_enter Try.func127, Try.ntmps127; go_wp2_with (first | ((with_reducible refine gate_dst (N := 8) rfl ?_); refine Kd.R_lit (Kd.int .u8) _ 5 ?hg (N := 8) ?hd (xs := ([(IntKind.u64.wrap (48 + a0)) % 256] : List Int)) (inner := [.int .u8 ((IntKind.u64.wrap (48 + a0)) % 256)]) (ok := fun _ => True) (okp := fun _ => True) ?hr ?hp (fun _ hk => hk) trivial (Below.refl _ _) (Nat.le_refl _) (by simp) ?_; (case hd => rfl); (case hg => rfl); (case hr => first | (go_simp; done) | (go_simp; rfl)); (case hp => exact (Reps.one (show Kd.M (Kd.int .u8) _ _ _ ((IntKind.u64.wrap (48 + a0)) % 256) [.int .u8 ((IntKind.u64.wrap (48 + a0)) % 256)] from rfl) (Reps.none _ _))); intro v225 w3 ho4 hb hg_ hnew_; clear hg_ hnew_; (first | rw [← Ny224.out] at ho4 | (simp only [Int.reduceToNat] at ho4; rw [← Ny224.out] at ho4)); have HO226 := kp (Kd.R_lower ho4 (below_size bb)); replace HB := kp (below_step bb hb); clear hb ho4; have hcv5 := own_string (P := Try.prog) Try.underlying35 Try.underlying5 Try.underlying9 (Kd.own_of_R HO226.out))); go_ret; exact ⟨er, bb⟩
   ·replace H := ob H; obtain ⟨t227, A6, H⟩ := H; obtain ⟨y228, hy228⟩ : ∃ y_ : List Int, y_ = (([(IntKind.u64.wrap (48 + (Int.tmod a0 10))) % 256] : List Int)) := ⟨_, rfl⟩; replace H : (if t227.size + (strOfNums y228).size ≤ 9223372036854775807 then (some (t227 ++ (strOfNums y228))) else (none)) = some r := by first | (rw [hy228]; with_reducible exact H) | (have H2_ := (Option.bind_some _ _).symm.trans H; rw [hy228]; with_reducible exact H2_) | (have H2_ := (Option.bind_some _ _).symm.trans H; with_reducible exact H2_) | with_reducible exact H | (rw [hy228]; exact H) | exact H
    have Ny228 := kp hy228; clear hy228; by_cases c7 : t227.size + (strOfNums y228).size ≤ 9223372036854775807
    ·rw [if_pos c7] at H; have c7b0 := eq_true c7; have c7b1 : decide (t227.size + (strOfNums y228).size ≤ 9223372036854775807) = true := decide_eq_true c7; try have c7b2 : (9223372036854775807 < t227.size + (strOfNums y228).size) = False := eq_false (Nat.not_lt.2 c7)
     obtain rfl := Option.some.inj H; go_enter Try.func127, Try.ntmps127; try go_wp2
     replace HB := kp (below_drew1 HB.out); refine start_ (n := 11) (S := fun w' => True) (ds := []) #[false, false, false, false, false, false, false, false, false, false, false] (by kernel_rfl) rfl rfl trivial (fun hHeld => ?_); refine with_tabW impl_decimal.tab3 impl_decimal.bits3 (fun HT_ HW_ => ?_); generalize w.drew = w8 at HB hHeld ⊢; refine pq 0 10 HT_ ?_; refine pq 1 11 HT_ ?_; refine pq 3 13 HT_ ?_; refine pq 4 14 HT_ ?_; refine pq 5 15 HT_ ?_; refine pq 6 16 HT_ ?_; refine join_ (σ := Value) 2 #[true, true, true, true, true, true, true, true, true, false, false] (fun s_ => [(12, .string t227), (17, s_), (18, .string (strOfNums y228))]) (fun s_ w' => (Kd.R (Kd.int .u8) 5 w' w.heap.size (fun _ => True) s_ y228) ∧ (Below w.heap.size w w')) ?_ ?_; rotate_left
     ·intro hCont; refine two_ (i := 2) (j := 7) (Ni := some 12) (Nj := some 17) #[true, true, true, true, true, true, true, false, false, false, false] #[true, true, false, true, true, true, true, true, false, false, false] rfl rfl rfl rfl (two_of HT_.out (by kernel_rfl)) (by decide) (by decide) (fun K hK => ?_) (fun K hK => ?_)
      ·skip; refine gs_ Try.func127 #[.int .u64 (IntKind.u64.wrap (Int.tdiv a0 10))] ?_; with_reducible refine (ih k (by omega) (IntKind.u64.wrap (Int.tdiv a0 10)) t227 _ A6.out).mono ?_
       rintro e w9 ⟨rfl, hb⟩; refine ⟨_, rfl, ?_⟩; replace HB := kp (below_step bb hb); (try clear hb); (try clear hk); refine hK.out _ _ trivial (fun hHeld => ?_); clear hK K; refine nm_ (some 12) ?_; refine on_ 7 (some 17) HT_ (fun K hK => ?_); refine Kd.R_lit_step (Kd.int .u8) _ 5 ?hg (N := 17) ?hd (xs := ([(IntKind.u64.wrap (48 + (Int.tmod a0 10))) % 256] : List Int)) (inner := [.int .u8 ((IntKind.u64.wrap (48 + (Int.tmod a0 10))) % 256)]) (ok := fun _ => True) (okp := fun _ => True) ?hr ?hp (fun _ hk => hk) trivial (Below.refl _ _) (Nat.le_refl _) (by simp) ?_; (case hd => rfl); (case hg => rfl); (case hr => first | (go_simp; done) | (go_simp; rfl)); (case hp => exact (Reps.one (show Kd.M (Kd.int .u8) _ _ _ ((IntKind.u64.wrap (48 + (Int.tmod a0 10))) % 256) [.int .u8 ((IntKind.u64.wrap (48 + (Int.tmod a0 10))) % 256)] from rfl) (Reps.none _ _))); intro v229 w10 ho11 hb hg_ hnew_; clear hg_ hnew_; (first | rw [← Ny228.out] at ho11 | (simp only [Int.reduceToNat] at ho11; rw [← Ny228.out] at ho11)); have HO230 := kp (Kd.R_lower ho11 (below_size bb)); replace HB := kp (below_step bb hb); clear hb ho11; refine hK.out _ _ trivial (fun hHeld => ?_); clear hK K; refine nm_ (some 17) ?_; refine on_ 8 (some 18) HT_ (fun K hK => ?_); have hcv12 := own_string (P := Try.prog) Try.underlying35 Try.underlying5 Try.underlying9 (Kd.own_of_R HO230.out); refine value_ (w1 := ?_) (v := ?_) (by rfl) rfl ?_ ?_; rotate_left 2
       ·go_simp; constructor
        ·rfl
        ·rfl
       clear hcv12; refine hK.out _ _ trivial (fun hHeld => ?_); clear hK K; refine nm_ (some 18) ?_; exact norm_ (by simp only [putAll, Act.put, List.setIfInBounds_toArray, List.set_cons_zero, List.set_cons_succ]) (hCont (v229) _ ⟨(sN HO230.out), bb⟩)
      ·skip; refine Kd.R_lit_step (Kd.int .u8) _ 5 ?hg (N := 17) ?hd (xs := ([(IntKind.u64.wrap (48 + (Int.tmod a0 10))) % 256] : List Int)) (inner := [.int .u8 ((IntKind.u64.wrap (48 + (Int.tmod a0 10))) % 256)]) (ok := fun _ => True) (okp := fun _ => True) ?hr ?hp (fun _ hk => hk) trivial (Below.refl _ _) (Nat.le_refl _) (by simp) ?_; (case hd => rfl); (case hg => rfl); (case hr => first | (go_simp; done) | (go_simp; rfl)); (case hp => exact (Reps.one (show Kd.M (Kd.int .u8) _ _ _ ((IntKind.u64.wrap (48 + (Int.tmod a0 10))) % 256) [.int .u8 ((IntKind.u64.wrap (48 + (Int.tmod a0 10))) % 256)] from rfl) (Reps.none _ _))); intro v229 w9 ho10 hb hg_ hnew_; clear hg_ hnew_; (first | rw [← Ny228.out] at ho10 | (simp only [Int.reduceToNat] at ho10; rw [← Ny228.out] at ho10)); have HO230 := kp (Kd.R_lower ho10 (below_size bb)); replace HB := kp (below_step bb hb); clear hb ho10; refine hK.out _ _ trivial (fun hHeld => ?_); clear hK K; refine nm_ (some 17) ?_; refine two_ (i := 2) (j := 8) (Ni := some 12) (Nj := some 18) #[true, true, true, true, true, true, true, true, false, false, false] #[true, true, false, true, true, true, true, true, true, false, false] rfl rfl rfl rfl (two_of HT_.out (by kernel_rfl)) (by decide) (by decide) (fun K hK => ?_) (fun K hK => ?_)
       ·skip; refine gs_ Try.func127 #[.int .u64 (IntKind.u64.wrap (Int.tdiv a0 10))] ?_; with_reducible refine (ih k (by omega) (IntKind.u64.wrap (Int.tdiv a0 10)) t227 _ A6.out).mono ?_
        rintro e w11 ⟨rfl, hb⟩; refine ⟨_, rfl, ?_⟩; replace HO230 := kp (Kd.R_below (sN HO230.out) hb); replace HB := kp (below_step bb hb); (try clear hb); (try clear hk); refine hK.out _ _ trivial (fun hHeld => ?_); clear hK K; refine nm_ (some 12) ?_; refine on_ 8 (some 18) HT_ (fun K hK => ?_); have hcv12 := own_string (P := Try.prog) Try.underlying35 Try.underlying5 Try.underlying9 (Kd.own_of_R HO230.out); refine value_ (w1 := ?_) (v := ?_) (by rfl) rfl ?_ ?_; rotate_left 2
        ·go_simp; constructor
         ·rfl
         ·rfl
        clear hcv12; refine hK.out _ _ trivial (fun hHeld => ?_); clear hK K; refine nm_ (some 18) ?_; exact norm_ (by simp only [putAll, Act.put, List.setIfInBounds_toArray, List.set_cons_zero, List.set_cons_succ]) (hCont (v229) _ ⟨(sN HO230.out), bb⟩)
       ·skip; have hcv11 := own_string (P := Try.prog) Try.underlying35 Try.underlying5 Try.underlying9 (Kd.own_of_R HO230.out); refine value_ (w1 := ?_) (v := ?_) (by rfl) rfl ?_ ?_; rotate_left 2
        ·go_simp; constructor
         ·rfl
         ·rfl
        clear hcv11; refine hK.out _ _ trivial (fun hHeld => ?_); clear hK K; refine nm_ (some 18) ?_; refine on_ 2 (some 12) HT_ (fun K hK => ?_); refine gs_ Try.func127 #[.int .u64 (IntKind.u64.wrap (Int.tdiv a0 10))] ?_; with_reducible refine (ih k (by omega) (IntKind.u64.wrap (Int.tdiv a0 10)) t227 _ A6.out).mono ?_
        rintro e w12 ⟨rfl, hb⟩; refine ⟨_, rfl, ?_⟩; replace HO230 := kp (Kd.R_below (sN HO230.out) hb); replace HB := kp (below_step bb hb); (try clear hb); (try clear hk); refine hK.out _ _ trivial (fun hHeld => ?_); clear hK K; refine nm_ (some 12) ?_; exact norm_ (by simp only [putAll, Act.put, List.setIfInBounds_toArray, List.set_cons_zero, List.set_cons_succ]) (hCont (v229) _ ⟨(sN HO230.out), bb⟩)
     rintro v229 w13 ⟨h0_, h1_⟩; have n0_ : Aside0 (Kd.R (Kd.int .u8) 5 w13 w.heap.size (fun _ => True) v229 y228) := ⟨h0_⟩; have n1_ : Aside0 (Below w.heap.size w w13) := ⟨h1_⟩; clear HB; clear h0_ h1_; have HO230 := n0_; have HB := n1_; clear n0_ n1_; have hHeld := trivial; refine norm_ (a' := ?_) ?_ ?_; rotate_left
     ·simp only [putAll, Act.put, List.setIfInBounds_toArray, List.set_cons_zero, List.set_cons_succ]; rfl
     refine pq 9 19 HT_ ?_; refine pq 10 2 HT_ ?_; refine done_ (done_of HT_.out (by kernel_rfl)) ?_; try go_wp2
     go_ret; exact ⟨er, bb⟩
    ·rw [if_neg c7] at H; exact absurd H (by simp)
def impl_FormatInt.f (k : Nat) (a0 : Int) : Option (ByteArray) := if a0 < 0 then ((impl_decimal.f k (IntKind.u64.wrap (-(IntKind.u64.wrap (a0))))).bind fun t231 => (if 1 + t231.size ≤ 9223372036854775807 then (some ((⟨#[45]⟩ : ByteArray) ++ t231)) else (none))) else ((impl_decimal.f k (IntKind.u64.wrap (a0))).bind fun t232 => (some t232))
set_option maxHeartbeats 8000000 in
set_option maxRecDepth 100000 in
theorem impl_FormatInt.calls (k : Nat) (a0 : Int) (r : ByteArray) (w : World) (h : impl_FormatInt.f k a0 = some r) :
  Calls Try.prog 126 #[.int .i64 a0] w fun e w' => e = .returned (.string r) ∧ Below w.heap.size w w' := by
 have HB := kp (Below.refl w.heap.size w); have H := h; clear h; unfold impl_FormatInt.f at H; replace H := sp H; rcases H with ⟨c2b0, H⟩ | ⟨c2b0, H⟩
 replace H := ob H; obtain ⟨t231, A3, H⟩ := H; by_cases c4 : 1 + t231.size ≤ 9223372036854775807; rw [if_pos c4] at H; have c4b0 := eq_true c4; have c4b1 : decide (1 + t231.size ≤ 9223372036854775807) = true := decide_eq_true c4; have i0_ := kp True.intro; rotate_left; rw [if_neg c4] at H; exact absurd H (by simp); replace H := ob H; obtain ⟨t232, A6, H⟩ := H; obtain rfl := Option.some.inj H
 all_goals
  first
  | refine tg i0_ ?_; try have c4b2 : (9223372036854775807 < 1 + t231.size) = False := eq_false (Nat.not_lt.2 c4)
    obtain rfl := Option.some.inj H
  | skip
  go_enter Try.func126, Try.ntmps126; go_wp2_with (first | ((with_reducible refine gate_callee (f := 127) rfl ?_); refine gl_ 8 Try.func127 #[.int .u64 (IntKind.u64.wrap (-(IntKind.u64.wrap (a0))))] ?_; (with_reducible refine (impl_decimal.calls k (IntKind.u64.wrap (-(IntKind.u64.wrap (a0)))) t231 _ A3.out).mono ?_); rintro e w5 ⟨rfl, hb⟩; refine ⟨_, rfl, ?_⟩; replace HB := kp (below_step bb hb); (try clear hb)) | ((with_reducible refine gate_callee (f := 127) rfl ?_); refine gl_ 12 Try.func127 #[.int .u64 (IntKind.u64.wrap (a0))] ?_; (with_reducible refine (impl_decimal.calls k (IntKind.u64.wrap (a0)) t232 _ A6.out).mono ?_); rintro e w7 ⟨rfl, hb⟩; refine ⟨_, rfl, ?_⟩; replace HB := kp (below_step bb hb); (try clear hb))); go_ret; exact ⟨er, bb⟩
def impl_FormatRow.f (k : Nat) (a0_0 : Int) (a0_1 : Int) (a0_2 : Int) : Option (ByteArray) := (impl_IsValidRow.f a0_0 a0_1 a0_2).bind fun t234 => (if t234 = true then ((impl_FormatInt.f k a0_0).bind fun t235 => (if t235.size + 1 ≤ 9223372036854775807 then ((impl_FormatInt.f k a0_1).bind fun t236 => (if (t235 ++ (⟨#[46]⟩ : ByteArray)).size + t236.size ≤ 9223372036854775807 then (if ((t235 ++ (⟨#[46]⟩ : ByteArray)) ++ t236).size + 1 ≤ 9223372036854775807 then ((impl_FormatInt.f k a0_2).bind fun t237 => (if (((t235 ++ (⟨#[46]⟩ : ByteArray)) ++ t236) ++ (⟨#[46]⟩ : ByteArray)).size + t237.size ≤ 9223372036854775807 then (some ((((t235 ++ (⟨#[46]⟩ : ByteArray)) ++ t236) ++ (⟨#[46]⟩ : ByteArray)) ++ t237)) else (none))) else (none)) else (none))) else (none))) else (some (⟨#[]⟩ : ByteArray)))
def impl_FormatRow.T3 : Bool × List (List Nat × List Nat) := (true, [([], []), ([0], [0]), ([1], [1]), ([2], [2]), ([], []), ([4], [4]), ([5, 2], [5]), ([3, 6], [3, 6]), ([7], [7]), ([], []), ([9], [9]), ([10, 6], [10]), ([8, 11], [8, 11]), ([12, 11, 0, 1, 2, 3, 4, 5, 6, 7, 8, 9, 10, 11, 12], [12])])
def impl_FormatRow.B3 : List Nat := [0, 1, 3, 7, 0, 16, 55, 127, 255, 0, 512, 1655, 4095, 8191]
theorem impl_FormatRow.tab3 : rtab .any (opsOf Try.f121 3) = impl_FormatRow.T3 := by kernel_rfl
theorem impl_FormatRow.bits3 : waitsOk impl_FormatRow.T3.2 impl_FormatRow.B3 = true := by kernel_rfl
set_option maxHeartbeats 8000000 in
set_option maxRecDepth 100000 in
theorem impl_FormatRow.calls (k : Nat) (a0_0 : Int) (a0_1 : Int) (a0_2 : Int) (r : ByteArray) (w : World) (h : impl_FormatRow.f k a0_0 a0_1 a0_2 = some r) :
  Calls Try.prog 121 #[.agg #[.int .i64 a0_0, .int .i64 a0_1, .int .i64 a0_2]] w fun e w' => e = .returned (.string r) ∧ Below w.heap.size w w' := by
 have hu95 := Try.underlying95; have HB := kp (Below.refl w.heap.size w); have H := h; clear h; unfold impl_FormatRow.f at H; replace H := ob H; obtain ⟨t234, A2, H⟩ := H; by_cases c3 : t234 = true
 ·subst c3; replace H := ip H; replace H := ob H; obtain ⟨t235, A4, H⟩ := H; by_cases c5 : t235.size + 1 ≤ 9223372036854775807
  ·rw [if_pos c5] at H; have c5b0 := eq_true c5; have c5b1 : decide (t235.size + 1 ≤ 9223372036854775807) = true := decide_eq_true c5; try have c5b2 : (9223372036854775807 < t235.size + 1) = False := eq_false (Nat.not_lt.2 c5)
   replace H := ob H; obtain ⟨t236, A6, H⟩ := H; by_cases c7 : (t235 ++ (⟨#[46]⟩ : ByteArray)).size + t236.size ≤ 9223372036854775807
   ·rw [if_pos c7] at H; have c7b0 := eq_true c7; have c7b1 : decide ((t235 ++ (⟨#[46]⟩ : ByteArray)).size + t236.size ≤ 9223372036854775807) = true := decide_eq_true c7; try have c7b2 : (9223372036854775807 < (t235 ++ (⟨#[46]⟩ : ByteArray)).size + t236.size) = False := eq_false (Nat.not_lt.2 c7)
    have c7b3 : (9223372036854775807 < t235.size + 1 + t236.size) = False := eq_false (by have h_ := c7; have e_ : (⟨#[46]⟩ : ByteArray).size = 1 := rfl; have e2_ : (⟨#[32]⟩ : ByteArray).size = 1 := rfl; have e3_ : (⟨#[91]⟩ : ByteArray).size = 1 := rfl; have e4_ : (⟨#[93]⟩ : ByteArray).size = 1 := rfl; simp only [ByteArray.size_append] at h_; omega); by_cases c8 : ((t235 ++ (⟨#[46]⟩ : ByteArray)) ++ t236).size + 1 ≤ 9223372036854775807
    ·rw [if_pos c8] at H; have c8b0 := eq_true c8; have c8b1 : decide (((t235 ++ (⟨#[46]⟩ : ByteArray)) ++ t236).size + 1 ≤ 9223372036854775807) = true := decide_eq_true c8; try have c8b2 : (9223372036854775807 < ((t235 ++ (⟨#[46]⟩ : ByteArray)) ++ t236).size + 1) = False := eq_false (Nat.not_lt.2 c8)
     have c8b3 : (9223372036854775807 < t235.size + 1 + t236.size + 1) = False := eq_false (by have h_ := c8; have e_ : (⟨#[46]⟩ : ByteArray).size = 1 := rfl; have e2_ : (⟨#[32]⟩ : ByteArray).size = 1 := rfl; have e3_ : (⟨#[91]⟩ : ByteArray).size = 1 := rfl; have e4_ : (⟨#[93]⟩ : ByteArray).size = 1 := rfl; simp only [ByteArray.size_append] at h_; omega); replace H := ob H; obtain ⟨t237, A9, H⟩ := H; by_cases c10 : (((t235 ++ (⟨#[46]⟩ : ByteArray)) ++ t236) ++ (⟨#[46]⟩ : ByteArray)).size + t237.size ≤ 9223372036854775807
     ·rw [if_pos c10] at H; have c10b0 := eq_true c10; have c10b1 : decide ((((t235 ++ (⟨#[46]⟩ : ByteArray)) ++ t236) ++ (⟨#[46]⟩ : ByteArray)).size + t237.size ≤ 9223372036854775807) = true := decide_eq_true c10; try have c10b2 : (9223372036854775807 < (((t235 ++ (⟨#[46]⟩ : ByteArray)) ++ t236) ++ (⟨#[46]⟩ : ByteArray)).size + t237.size) = False := eq_false (Nat.not_lt.2 c10)
      have c10b3 : (9223372036854775807 < t235.size + 1 + t236.size + 1 + t237.size) = False := eq_false (by have h_ := c10; have e_ : (⟨#[46]⟩ : ByteArray).size = 1 := rfl; have e2_ : (⟨#[32]⟩ : ByteArray).size = 1 := rfl; have e3_ : (⟨#[91]⟩ : ByteArray).size = 1 := rfl; have e4_ : (⟨#[93]⟩ : ByteArray).size = 1 := rfl; simp only [ByteArray.size_append] at h_; omega); obtain rfl := Option.some.inj H; go_enter Try.func121, Try.ntmps121; try go_wp2_with (first | ((with_reducible refine gate_dst (N := 1) rfl ?_); refine bx_ 1 #[.int .i64 a0_0, .int .i64 a0_1, .int .i64 a0_2] 95 ?_; intro gb233 hg w11 hbox hb; have BK233 := kp (hbox); have GE233 := kp (bs hg); replace HB := kp (below_step bb hb); clear hb hbox hg; obtain ⟨hcz12_0, hcz12_1, hcz12_2, hfz12_0, hfz12_1, hfz12_2⟩ := bf3 BK233.out) | ((with_reducible refine gate_callee (f := 125) rfl ?_); refine gl_ 4 Try.func125 #[.agg #[.int .i64 a0_0, .int .i64 a0_1, .int .i64 a0_2]] ?_; (with_reducible refine (impl_IsValidRow.calls a0_0 a0_1 a0_2 true _ A2.out).mono ?_); rintro e w13 ⟨rfl, hb⟩; refine ⟨_, rfl, ?_⟩; replace BK233 := kp (kb BK233.out hb); replace HB := kp (below_step bb hb); (try clear hb)))
      replace BK233 := kp (blk_drew BK233.out); replace HB := kp (below_drew1 HB.out); refine st_ 14 impl_FormatRow.tab3 impl_FormatRow.bits3 (hz3 BK233) (fun hHeld HT_ HW_ => ?_); generalize w13.drew = w14 at BK233 HB hHeld ⊢; refine pq 0 6 HT_ ?_; refine pq 4 10 HT_ ?_; refine pq 9 15 HT_ ?_; refine tq 1 7 HT_ HW_ hHeld ?_; refine tq 5 11 HT_ HW_ hHeld ?_; refine tq 10 16 HT_ HW_ hHeld ?_; refine on_ 2 (some 8) HT_ (fun K hK => ?_); refine gs_ Try.func126 #[.int .i64 a0_0] ?_; with_reducible refine (impl_FormatInt.calls k a0_0 t235 _ A4.out).mono ?_
      rintro e w15 ⟨rfl, hb⟩; refine ⟨_, rfl, ?_⟩; replace BK233 := kp (kb BK233.out hb); replace HB := kp (below_step bb hb); (try clear hb); (try clear hk); refine hk_ 8 hK (fun hHeld => ?_); clear hK K; refine pq 3 9 HT_ ?_; refine on_ 6 (some 12) HT_ (fun K hK => ?_); refine gs_ Try.func126 #[.int .i64 a0_1] ?_; with_reducible refine (impl_FormatInt.calls k a0_1 t236 _ A6.out).mono ?_
      rintro e w16 ⟨rfl, hb⟩; refine ⟨_, rfl, ?_⟩; replace BK233 := kp (kb BK233.out hb); replace HB := kp (below_step bb hb); (try clear hb); (try clear hk); refine hk_ 12 hK (fun hHeld => ?_); clear hK K; refine pq 7 13 HT_ ?_; refine pq 8 14 HT_ ?_; refine on_ 11 (some 17) HT_ (fun K hK => ?_); refine gs_ Try.func126 #[.int .i64 a0_2] ?_; with_reducible refine (impl_FormatInt.calls k a0_2 t237 _ A9.out).mono ?_
      rintro e w17 ⟨rfl, hb⟩; refine ⟨_, rfl, ?_⟩; replace BK233 := kp (kb BK233.out hb); replace HB := kp (below_step bb hb); (try clear hb); (try clear hk); refine hk_ 17 hK (fun hHeld => ?_); clear hK K; refine pq 12 18 HT_ ?_; refine pq 13 2 HT_ ?_; refine done_ (done_of HT_.out (by kernel_rfl)) ?_; try go_wp2
      go_ret; exact ⟨er, bb⟩
     ·rw [if_neg c10] at H; exact absurd H (by simp)
    ·rw [if_neg c8] at H; exact absurd H (by simp)
   ·rw [if_neg c7] at H; exact absurd H (by simp)
  ·rw [if_neg c5] at H; exact absurd H (by simp)
 ·replace c3 := Bool.eq_false_iff.mpr c3; subst c3; replace H := ie H; obtain rfl := Option.some.inj H; go_enter Try.func121, Try.ntmps121; go_wp2_with (first | ((with_reducible refine gate_dst (N := 1) rfl ?_); refine bx_ 1 #[.int .i64 a0_0, .int .i64 a0_1, .int .i64 a0_2] 95 ?_; intro gb233 hg w18 hbox hb; have BK233 := kp (hbox); have GE233 := kp (bs hg); replace HB := kp (below_step bb hb); clear hb hbox hg; obtain ⟨hcz19_0, hcz19_1, hcz19_2, hfz19_0, hfz19_1, hfz19_2⟩ := bf3 BK233.out) | ((with_reducible refine gate_callee (f := 125) rfl ?_); refine gl_ 4 Try.func125 #[.agg #[.int .i64 a0_0, .int .i64 a0_1, .int .i64 a0_2]] ?_; (with_reducible refine (impl_IsValidRow.calls a0_0 a0_1 a0_2 false _ A2.out).mono ?_); rintro e w20 ⟨rfl, hb⟩; refine ⟨_, rfl, ?_⟩; replace BK233 := kp (kb BK233.out hb); replace HB := kp (below_step bb hb); (try clear hb))); go_ret; exact ⟨er, bb⟩
def impl_joined.l0 : Nat → ByteArray → ByteArray → List ByteArray → Int → Int → Option (ByteArray)
 | 0, _, _, _, _, _ => none
 | k + 1, x1, x5, x8, x9, x10 => if x10 < x9 then (if 0 ≤ x10 then (if x10 < (x8.length : Int) then (if x10 > 0 then (if x5.size + x1.size ≤ 9223372036854775807 then (if (x5 ++ x1).size + (rdOf ByteArray.empty x8 x10).size ≤ 9223372036854775807 then (impl_joined.l0 k x1 ((x5 ++ x1) ++ (rdOf ByteArray.empty x8 x10)) x8 x9 (wrap64 (x10 + 1))) else (none)) else (none)) else (if x5.size + (rdOf ByteArray.empty x8 x10).size ≤ 9223372036854775807 then (impl_joined.l0 k x1 (x5 ++ (rdOf ByteArray.empty x8 x10)) x8 x9 (wrap64 (x10 + 1))) else (none))) else (none)) else (none)) else (some x5)
def impl_joined.f (k : Nat) (l0 : List ByteArray) (a1 : ByteArray) : Option (ByteArray) := impl_joined.l0 k a1 (⟨#[]⟩ : ByteArray) l0 (l0.length : Int) 0
set_option maxHeartbeats 8000000 in
set_option maxRecDepth 100000 in
theorem impl_joined.calls (k : Nat) (A0 : Option Addr) (c0 : Nat) (l0 : List ByteArray) (a1 : ByteArray) (r : ByteArray) (w : World) (hr0 : Kd.C Kd.string w A0 l0.length l0) (hc0 : l0.length ≤ c0) (h : impl_joined.f k l0 a1 = some r) :
  Calls Try.prog 122 #[.slice A0 l0.length c0, .string a1] w fun e w' => e = .returned (.string r) ∧ Drawn0 w w' := by
 have HR0 := kp hr0; have HC0 := kp hc0; clear hr0 hc0; have H := h; clear h; unfold impl_joined.f at H; have H' := kp H; clear H; go_enter Try.func122, Try.ntmps122; go_wp2; go_loopg [5, 10] k (fun kq v5 v10 w' => ∃ (x5_1 : ByteArray) (x10_1 : Int), v5 = .string x5_1 ∧ v10 = .int .i64 x10_1 ∧ Aside0 (impl_joined.l0 kq a1 x5_1 l0 (l0.length : Int) x10_1 = some r) ∧ Aside0 (kq ≤ k) ∧ Drawn0 w w'); case atStart => exact ⟨((⟨#[]⟩ : ByteArray)), (0), vr, vr, H', ⟨Nat.le_refl _⟩, by repeat (first | exact Drawn0.refl _ | apply Drawn0.step)⟩
 case round =>
  clear H'; obtain ⟨x5_1, x10_1, rfl, rfl, HA, HK1, ⟨m1, rfl⟩⟩ := hrel
  cases gk with
  | zero => exact absurd HA.out (by simp [impl_joined.l0])
  | succ k1 =>
   have H := HA.out; clear HA; simp only [impl_joined.l0] at H; replace H := sp H; rcases H with ⟨c3b0, H⟩ | ⟨c3b0, H⟩
   ·replace H := sn H; obtain ⟨c4b0, H⟩ := H; replace H := sn H; obtain ⟨c5b0, H⟩ := H; replace H := sp H; rcases H with ⟨c6b0, H⟩ | ⟨c6b0, H⟩
    ·by_cases c7 : x5_1.size + a1.size ≤ 9223372036854775807
     ·rw [if_pos c7] at H; have c7b0 := eq_true c7; have c7b1 : decide (x5_1.size + a1.size ≤ 9223372036854775807) = true := decide_eq_true c7; try have c7b2 : (9223372036854775807 < x5_1.size + a1.size) = False := eq_false (Nat.not_lt.2 c7)
      by_cases c8 : (x5_1 ++ a1).size + (rdOf ByteArray.empty l0 x10_1).size ≤ 9223372036854775807
      ·rw [if_pos c8] at H; have c8b0 := eq_true c8; have c8b1 : decide ((x5_1 ++ a1).size + (rdOf ByteArray.empty l0 x10_1).size ≤ 9223372036854775807) = true := decide_eq_true c8; try have c8b2 : (9223372036854775807 < (x5_1 ++ a1).size + (rdOf ByteArray.empty l0 x10_1).size) = False := eq_false (Nat.not_lt.2 c8)
       have c8b3 : (9223372036854775807 < x5_1.size + a1.size + (rdOf ByteArray.empty l0 x10_1).size) = False := eq_false (by have h_ := c8; have e_ : (⟨#[46]⟩ : ByteArray).size = 1 := rfl; have e2_ : (⟨#[32]⟩ : ByteArray).size = 1 := rfl; have e3_ : (⟨#[91]⟩ : ByteArray).size = 1 := rfl; have e4_ : (⟨#[93]⟩ : ByteArray).size = 1 := rfl; simp only [ByteArray.size_append] at h_; omega); have H' := kp H; clear H; have p238 : 0 ≤ (x10_1 : Int) := dt; have q238 : x10_1 < (l0.length : Int) := dt; obtain ⟨ad238, e238, hx238_0⟩ := Kd.at_string HR0.out x10_1 p238 q238; cases e238; replace p238 := eq_true p238; replace q238 := eq_true q238; go_wp2; go_roundg k1; case measure => have := HK1.out; omega
       case rel => exact ⟨((x5_1 ++ a1) ++ (rdOf ByteArray.empty l0 x10_1)), (wrap64 (x10_1 + 1)), vr, vr, H', ⟨by have := HK1.out; omega⟩, by repeat (first | exact Drawn0.refl _ | apply Drawn0.step)⟩
      ·rw [if_neg c8] at H; exact absurd H (by simp)
     ·rw [if_neg c7] at H; exact absurd H (by simp)
    ·by_cases c9 : x5_1.size + (rdOf ByteArray.empty l0 x10_1).size ≤ 9223372036854775807
     ·rw [if_pos c9] at H; have c9b0 := eq_true c9; have c9b1 : decide (x5_1.size + (rdOf ByteArray.empty l0 x10_1).size ≤ 9223372036854775807) = true := decide_eq_true c9; try have c9b2 : (9223372036854775807 < x5_1.size + (rdOf ByteArray.empty l0 x10_1).size) = False := eq_false (Nat.not_lt.2 c9)
      have H' := kp H; clear H; have p238 : 0 ≤ (x10_1 : Int) := dt; have q238 : x10_1 < (l0.length : Int) := dt; obtain ⟨ad238, e238, hx238_0⟩ := Kd.at_string HR0.out x10_1 p238 q238; cases e238; replace p238 := eq_true p238; replace q238 := eq_true q238; go_wp2; go_roundg k1; case measure => have := HK1.out; omega
      case rel => exact ⟨(x5_1 ++ (rdOf ByteArray.empty l0 x10_1)), (wrap64 (x10_1 + 1)), vr, vr, H', ⟨by have := HK1.out; omega⟩, by repeat (first | exact Drawn0.refl _ | apply Drawn0.step)⟩
     ·rw [if_neg c9] at H; exact absurd H (by simp)
   ·obtain rfl := Option.some.inj H; go_wp2; go_ret; exact ⟨by first | rfl | (simp; done) | (simp [*]; done), by repeat (first | exact Drawn0.refl _ | apply Drawn0.step)⟩
end Go.Proofs.Ytinniedbgfgclaa.PFnDiskOperations
