/- Out of a copy of the print, with function values told: nothing is claimed here. -/
import Derived.Test.YtljpfogplcdcjaaVQFnSealedFilesx0
import Derived.Test.YtljpfogplcdcjaaVQFnSealedFilesx2
import Derived.Test.YtljpfogplcdcjaaVShort
import Derived.Test.YtljpfogplcdcjaaVPress
import Derived.Test.YtljpfogplcdcjaaVFoldT
namespace Go.Proofs.Ytljpfogplcdcjaa.PFnSealedFiles
open Go.RowKit Go.Proofs.YtljpfogplcdcjaaW.PrintWords Go.Proofs.YtljpfogplcdcjaaW.PrintLast Go.Proofs.YtljpfogplcdcjaaW.PrintMore Go.Proofs.Ytljpfogplcdcjaa.Short Go.Proofs.Ytljpfogplcdcjaa.Press Go.Proofs.Ytljpfogplcdcjaa.Fold
attribute [local go_sem] max2_int min2_int max_two min_two max_three min_three max_four min_four   -- for this text's walks alone
set_option linter.unusedVariables false
set_option linter.unusedSimpArgs false
def IsS93 (w0 W : World) (g : Nat) (f0 : List Int) (f1 : Int) (f2 : Int) : Prop := ∃ A0 c0, W.heap[g]? = some (.cells #[.slice A0 f0.length c0, .int .i64 f1, .int .i64 f2] 93 (0, 0)) ∧ w0.heap.size ≤ g ∧ Kd.C (Kd.int .u8) w0 A0 f0.length f0
theorem IsS93.grown {w0 W : World} {g : Nat} {f0 : List Int} {f1 : Int} {f2 : Int} {W1 : World} {row : Option Nat} (h : IsS93 w0 W g f0 f1 f2) (hw : W.grownBy W1 row) (hne : some g ≠ row) : IsS93 w0 W1 g f0 f1 f2 := by
 obtain ⟨A0, c0, hb, hg, hr0⟩ := h
 exact ⟨A0, c0, blk_grown hb hw hne, hg, hr0⟩
theorem IsS93.own_neN {w0 W : World} {g : Nat} {f0 : List Int} {f1 : Int} {f2 : Int} {α : Type} {d : Kd α} {e : Nat} {base : Nat} {ok : Nat → Prop} {v : Value} {xs : List α} (h : IsS93 w0 W g f0 f1 f2) (ho : Kd.N d e W base ok v xs) (ht : e ≠ 93) : some g ≠ v.ownBlock := by
 obtain ⟨A0, c0, hb, hg, hr0⟩ := h
 exact Kd.N_ne ho hb ht
theorem IsS93.fresh {w0 W : World} {g : Nat} {f0 : List Int} {f1 : Int} {f2 : Int} (h : IsS93 w0 W g f0 f1 f2) : ∀ k, W.heap.size ≤ k → k ≠ g := by
 obtain ⟨A0, c0, hb, hg, hr0⟩ := h
 exact Kd.freshB hb
theorem IsS93.below {w0 W : World} {g : Nat} {f0 : List Int} {f1 : Int} {f2 : Int} {W1 : World} (h : IsS93 w0 W g f0 f1 f2) (hw : Below W.heap.size W W1) : IsS93 w0 W1 g f0 f1 f2 := h.grown (grown_of_below hw none) (by simp)
theorem IsS93.alloc {w0 W : World} {g : Nat} {f0 : List Int} {f1 : Int} {f2 : Int} (h : IsS93 w0 W g f0 f1 f2) (o : Obj) : IsS93 w0 (W.alloc o) g f0 f1 f2 := h.below (below_alloc (Below.refl _ _) o)
theorem IsS93.drewN {w0 W : World} {g : Nat} {f0 : List Int} {f1 : Int} {f2 : Int} (h : IsS93 w0 W g f0 f1 f2) (m : Nat) : IsS93 w0 (W.drewN m) g f0 f1 f2 := h
theorem IsS93.drew {w0 W : World} {g : Nat} {f0 : List Int} {f1 : Int} {f2 : Int} (h : IsS93 w0 W g f0 f1 f2) : IsS93 w0 W.drew g f0 f1 f2 := h
theorem IsS93.apart {w0 W : World} {g : Nat} {f0 : List Int} {f1 : Int} {f2 : Int} {α : Type} {d : Kd α} {e : Nat} {base : Nat} {ok : Nat → Prop} {v : Value} {xs : List α} (h : IsS93 w0 W g f0 f1 f2) (ho : d.R e W base ok v xs) (ht : ∀ q, q ∈ e :: d.E → q ≠ 93) : d.R e W base (fun k => ok k ∧ k ≠ g) v xs := by
 obtain ⟨A0, c0, hb, hg, hr0⟩ := h
 exact Kd.R_types ho hb ht
theorem IsS93.own_ne {w0 W : World} {g : Nat} {f0 : List Int} {f1 : Int} {f2 : Int} {α : Type} {d : Kd α} {e : Nat} {base : Nat} {ok : Nat → Prop} {v : Value} {xs : List α} (h : IsS93 w0 W g f0 f1 f2) (ho : d.R e W base ok v xs) (ht : e ≠ 93) : some g ≠ v.ownBlock := by
 obtain ⟨A0, c0, hb, hg, hr0⟩ := h
 exact Kd.R_ne ho hb ht
theorem IsS93.lt {w0 W : World} {g : Nat} {f0 : List Int} {f1 : Int} {f2 : Int} (h : IsS93 w0 W g f0 f1 f2) : g < W.heap.size := by
 obtain ⟨A0, c0, hb, hg, hr0⟩ := h
 exact blk_lt hb
theorem IsS93.ge {w0 W : World} {g : Nat} {f0 : List Int} {f1 : Int} {f2 : Int} (h : IsS93 w0 W g f0 f1 f2) : w0.heap.size ≤ g := by
 obtain ⟨A0, c0, hb, hg, hr0⟩ := h
 exact hg
theorem IsS93.ne_blk {w0 W : World} {g : Nat} {f0 : List Int} {f1 : Int} {f2 : Int} {a : Nat} {cs : Array Value} {t : TypeId} {fr : Nat × Nat} (h : IsS93 w0 W g f0 f1 f2) (hb2 : W.heap[a]? = some (.cells cs t fr)) (ht : t ≠ 93) : g ≠ a := by
 obtain ⟨A0, c0, hb, hg, hr0⟩ := h
 rintro rfl
 rw [hb] at hb2
 injection hb2 with hb2
 injection hb2 with _ ht2
 exact ht ht2.symm
theorem IsS93.far {w0 W : World} {g : Nat} {f0 : List Int} {f1 : Int} {f2 : Int} {p : Addr} (h : IsS93 w0 W g f0 f1 f2) (hne : g ≠ p.block) (u : Value) : IsS93 w0 (W.setCell p u) g f0 f1 f2 := by
 obtain ⟨A0, c0, hb, hg, hr0⟩ := h
 exact ⟨A0, c0, blk_far hb hne u, hg, hr0⟩
theorem cellS93_0 {W : World} {g : Nat} {A0 : Option Addr} {c0 : Nat} {f0 : List Int} {f1 : Int} {f2 : Int} (h : W.heap[g]? = some (.cells #[.slice A0 f0.length c0, .int .i64 f1, .int .i64 f2] 93 (0, 0))) : W.cell? ⟨g, 0, none⟩ = some (.slice A0 f0.length c0) := (blk_cell h 0).trans rfl
theorem cellS93_1 {W : World} {g : Nat} {A0 : Option Addr} {c0 : Nat} {f0 : List Int} {f1 : Int} {f2 : Int} (h : W.heap[g]? = some (.cells #[.slice A0 f0.length c0, .int .i64 f1, .int .i64 f2] 93 (0, 0))) : W.cell? ⟨g, 1, none⟩ = some (.int .i64 f1) := (blk_cell h 1).trans rfl
theorem IsS93.set_1 {w0 W : World} {g : Nat} {f0 : List Int} {f1 : Int} {f2 : Int} (h : IsS93 w0 W g f0 f1 f2) (x : Int) : IsS93 w0 (W.setCell ⟨g, 1, none⟩ (.int .i64 x)) g f0 x f2 := by
 obtain ⟨A0, c0, hb, hg, hr0⟩ := h
 exact ⟨A0, c0, by simpa using blk_set hb 1 (.int .i64 x), hg, hr0⟩
theorem cellS93_2 {W : World} {g : Nat} {A0 : Option Addr} {c0 : Nat} {f0 : List Int} {f1 : Int} {f2 : Int} (h : W.heap[g]? = some (.cells #[.slice A0 f0.length c0, .int .i64 f1, .int .i64 f2] 93 (0, 0))) : W.cell? ⟨g, 2, none⟩ = some (.int .i64 f2) := (blk_cell h 2).trans rfl
theorem IsS93.set_2 {w0 W : World} {g : Nat} {f0 : List Int} {f1 : Int} {f2 : Int} (h : IsS93 w0 W g f0 f1 f2) (x : Int) : IsS93 w0 (W.setCell ⟨g, 2, none⟩ (.int .i64 x)) g f0 f1 x := by
 obtain ⟨A0, c0, hb, hg, hr0⟩ := h
 exact ⟨A0, c0, by simpa using blk_set hb 2 (.int .i64 x), hg, hr0⟩
theorem iS {p q : Prop} (a : q) (h : q → p := by intro h_; repeat (first | (with_reducible first | exact h_ | apply IsS93.alloc | apply IsS93.drewN | apply IsS93.drew | apply IsS93.set_1 | apply IsS93.set_2 | refine IsS93.far ?_ (Aside0.out (by assumption)) _) | exact h_)) : p := h a
theorem bI {p : Prop} (h : p := by with_reducible repeat (first | exact HB.out | apply below_alloc | apply pw_below_drewN | apply below_drew1 | refine below_set ?_ (Aside0.out (by assumption)) | refine below_set ?_ (IsS93.ge (Aside0.out (by assumption))))) : p := h
def spec_l1New.l0 : Nat → List Int → Int → Int → Option (List Int × Int × Int)
 | 0, _, _, _ => none
 | k + 1, x0, x3, x4 => if x4 < (x0.length : Int) then (if x4 < 4000 then (if 0 ≤ x4 then (spec_l1New.l0 k x0 (Go.bits .and .i64 (wrap64 ((wrap64 ((wrap64 (x3 * 131)) + (wrap64 (rd x0 x4)))) + 7)) 1073741823) (wrap64 (x4 + 1))) else (none)) else (some (x0, 0, x3))) else (some (x0, 0, x3))
def spec_l1New.f (k : Nat) (l0 : List Int) : Option (List Int × Int × Int) := spec_l1New.l0 k l0 (wrap64 (10101 + (l0.length : Int))) 0
set_option maxHeartbeats 8000000 in
set_option maxRecDepth 100000 in
theorem spec_l1New.calls (k : Nat) (A0 : Option Addr) (c0 : Nat) (l0 : List Int) (r1 : List Int) (r2 : Int) (r3 : Int) (w0 w : World) (hB : Below w0.heap.size w0 w) (hr0 : Kd.C (Kd.int .u8) w0 A0 l0.length l0) (hc0 : l0.length ≤ c0) (h : spec_l1New.f k l0 = some (r1, r2, r3)) :
  Calls Try.prog 50 #[.slice A0 l0.length c0] w fun e w' => ∃ g_ : Nat, e = .returned (.pointer (some ⟨g_, 0, none⟩)) ∧ IsS93 w0 w' g_ r1 r2 r3 ∧ Below w0.heap.size w0 w' ∧ Below w.heap.size w w' := by
 have hu93 := Try.underlying93; have HR0 := kp hr0; have HC0 := kp hc0; clear hr0 hc0; have HBW := kp (Below.refl w.heap.size w); have HW0 := kp hB.size; have HB := kp hB; clear hB; have H := h; clear h; unfold spec_l1New.f at H; have H' := kp H; clear H; go_enter Try.func50, Try.ntmps50; go_wp2; go_loopg [3, 4] k (fun kq v3 v4 w' => ∃ (x3_1 : Int) (x4_1 : Int), v3 = .int .i64 x3_1 ∧ v4 = .int .i64 x4_1 ∧ Aside0 (spec_l1New.l0 kq l0 x3_1 x4_1 = some (r1, r2, r3)) ∧ Aside0 (kq ≤ k) ∧ Aside0 (Below w0.heap.size w0 w') ∧ Aside0 (Below w.heap.size w w')); case atStart => exact ⟨(wrap64 (10101 + (l0.length : Int))), (0), vr, vr, H', ⟨Nat.le_refl _⟩, ⟨bb⟩, ⟨by repeat (first | (with_reducible first | exact HBW.out | apply cA | apply cN | apply cD) | exact HBW.out)⟩⟩
 case round =>
  clear H'; obtain ⟨x3_1, x4_1, rfl, rfl, HA, HK1, HB, HBW⟩ := hrel
  cases gk with
  | zero => exact absurd HA.out (by simp [spec_l1New.l0])
  | succ k1 =>
   have H := HA.out; clear HA; simp only [spec_l1New.l0] at H; replace H := sp H; rcases H with ⟨c2b0, H⟩ | ⟨c2b0, H⟩
   ·replace H := sp H; rcases H with ⟨c3b0, H⟩ | ⟨c3b0, H⟩
    ·replace H := sn H; obtain ⟨c4b0, H⟩ := H; have H' := kp H; clear H; have p138 : 0 ≤ (x4_1 : Int) := dt; have q138 : x4_1 < (l0.length : Int) := dt; obtain ⟨ad138, e138, hx138_0⟩ := Kd.at_int HR0.out x4_1 p138 q138; cases e138; replace hx138_0 := pw_cell_below HB.out hx138_0; replace p138 := eq_true p138; replace q138 := eq_true q138; go_wp2; go_roundg k1; case measure => have := HK1.out; omega
     case rel => exact ⟨(Go.bits .and .i64 (wrap64 ((wrap64 ((wrap64 (x3_1 * 131)) + (wrap64 (rd l0 x4_1)))) + 7)) 1073741823), (wrap64 (x4_1 + 1)), vr, vr, H', ⟨by have := HK1.out; omega⟩, ⟨bb⟩, ⟨by repeat (first | (with_reducible first | exact HBW.out | apply cA | apply cN | apply cD) | exact HBW.out)⟩⟩
    ·simp only [Option.some.injEq, Prod.mk.injEq] at H; obtain ⟨rfl, rfl, rfl⟩ := H; go_wp2_with (first | ((with_reducible refine gate_dst (N := 31) rfl ?_); refine bx_ 31 #[.slice A0 l0.length c0, .int .i64 0, .int .i64 x3_1] 93 ?_; intro gb139 hg w5 hbox hb; replace HB := kp (below_step bb hb); have BK139 := kp (hbox); have GW139 := kp ((by rw [hg]; exact (below_size (by repeat (first | (with_reducible first | exact HBW.out | apply cA | apply cN | apply cD) | exact HBW.out))) : w.heap.size ≤ gb139)); have GE139 := kp ((Nat.le_trans HW0.out (by rw [hg]; exact (below_size (by repeat (first | (with_reducible first | exact HBW.out | apply cA | apply cN | apply cD) | exact HBW.out))) : w.heap.size ≤ gb139) : w0.heap.size ≤ gb139)); replace HBW := kp (below_step HBW.out hb); clear hb hbox hg)); go_ret; exact ⟨_, rfl, (show IsS93 w0 _ gb139 l0 0 x3_1 from ⟨_, _, by (with_reducible repeat (first | apply bN | apply bD | apply bA)); exact BK139.out, GE139.out, HR0.out⟩), bb, by repeat (first | (with_reducible first | exact HBW.out | apply cA | apply cN | apply cD | refine below_set ?_ GW139.out) | exact HBW.out)⟩
   ·simp only [Option.some.injEq, Prod.mk.injEq] at H; obtain ⟨rfl, rfl, rfl⟩ := H; go_wp2_with (first | ((with_reducible refine gate_dst (N := 31) rfl ?_); refine bx_ 31 #[.slice A0 l0.length c0, .int .i64 0, .int .i64 x3_1] 93 ?_; intro gb140 hg w6 hbox hb; replace HB := kp (below_step bb hb); have BK140 := kp (hbox); have GW140 := kp ((by rw [hg]; exact (below_size (by repeat (first | (with_reducible first | exact HBW.out | apply cA | apply cN | apply cD) | exact HBW.out))) : w.heap.size ≤ gb140)); have GE140 := kp ((Nat.le_trans HW0.out (by rw [hg]; exact (below_size (by repeat (first | (with_reducible first | exact HBW.out | apply cA | apply cN | apply cD) | exact HBW.out))) : w.heap.size ≤ gb140) : w0.heap.size ≤ gb140)); replace HBW := kp (below_step HBW.out hb); clear hb hbox hg)); go_ret; exact ⟨_, rfl, (show IsS93 w0 _ gb140 l0 0 x3_1 from ⟨_, _, by (with_reducible repeat (first | apply bN | apply bD | apply bA)); exact BK140.out, GE140.out, HR0.out⟩), bb, by repeat (first | (with_reducible first | exact HBW.out | apply cA | apply cN | apply cD | refine below_set ?_ GW140.out) | exact HBW.out)⟩
def spec_CountPages.l0 : Nat → Int → Int → List (S87) → Int → Option (Int)
 | 0, _, _, _, _ => none
 | k + 1, x3, x4, x142000, x142001 => if x4 < (x142000.length : Int) then (if 0 ≤ x4 then (spec_CountPages.l0 k (wrap64 (x3 + (((rd_T87 x142000 x4).f1).length : Int))) (wrap64 (x4 + 1)) x142000 x142001) else (none)) else (some x3)
def spec_CountPages.f (k : Nat) (l0_0 : List (S87)) (a0_1 : Int) : Option (Int) := spec_CountPages.l0 k 0 0 l0_0 a0_1
set_option maxHeartbeats 8000000 in
set_option maxRecDepth 100000 in
theorem spec_CountPages.calls (k : Nat) (A0_0 : Option Addr) (c0_0 : Nat) (l0_0 : List (S87)) (a0_1 : Int) (r : Int) (w : World) (hr0_0 : Kd.C k87 w A0_0 l0_0.length l0_0) (hc0_0 : l0_0.length ≤ c0_0) (h : spec_CountPages.f k l0_0 a0_1 = some r) :
  Calls Try.prog 38 #[.agg #[.slice A0_0 l0_0.length c0_0, .int .i64 a0_1]] w fun e w' => e = .returned (.int .i64 r) ∧ Below w.heap.size w w' := by
 have hu51 := Try.underlying51; have HR0_0 := kp hr0_0; have HC0_0 := kp hc0_0; clear hr0_0 hc0_0; have HB := kp (Below.refl w.heap.size w); have H := h; clear h; unfold spec_CountPages.f at H; have H' := kp H; clear H; go_enter Try.func38, Try.ntmps38; go_wp2_with (first | ((with_reducible refine gate_dst (N := 1) rfl ?_); refine bx_ 1 #[.slice A0_0 l0_0.length c0_0, .int .i64 a0_1] 51 ?_; intro gb141 hg w2 hbox hb; have BK141 := kp (hbox); have GE141 := kp (bs hg); replace HB := kp (below_step bb hb); clear hb hbox hg)); (try simp only [Act.put, List.setIfInBounds_toArray, List.set_cons_zero, List.set_cons_succ]); go_loopg [3, 4] k (fun kq v3 v4 w' => ∃ (x3_1 : Int) (x4_1 : Int), v3 = .int .i64 x3_1 ∧ v4 = .int .i64 x4_1 ∧ Aside0 (spec_CountPages.l0 kq x3_1 x4_1 l0_0 a0_1 = some r) ∧ Aside0 (kq ≤ k) ∧ Aside0 (w'.heap[gb141]? = some (.cells #[(.slice A0_0 l0_0.length c0_0), .int .i64 a0_1] 51 (0, 0))) ∧ Aside0 (Below w.heap.size w w')); case atStart => exact ⟨(0), (0), vr, vr, H', ⟨Nat.le_refl _⟩, ⟨kk BK141.out⟩, ⟨bb⟩⟩
 case round =>
  clear H'; obtain ⟨x3_1, x4_1, rfl, rfl, HA, HK1, BK141, HB⟩ := hrel
  cases gk with
  | zero => exact absurd HA.out (by simp [spec_CountPages.l0])
  | succ k1 =>
   have H := HA.out; clear HA; simp only [spec_CountPages.l0] at H; replace H := sp H; rcases H with ⟨c3b0, H⟩ | ⟨c3b0, H⟩
   ·replace H := sn H; obtain ⟨c4b0, H⟩ := H; have H' := kp H; clear H; obtain ⟨hcz5_0, hcz5_1, hfz5_0, hfz5_1⟩ := bf2 BK141.out; obtain ⟨ad142, A142_1, c142_1, rfl, hx142_0, hx142_1, hx142_2, hx142_3, HC142_1, HR142_1, p142, q142⟩ := ra_T87 HR0_0 HB x4_1 dt dt; go_wp2; go_roundg k1; case measure => have := HK1.out; omega
    case rel => exact ⟨(wrap64 (x3_1 + (((rd_T87 l0_0 x4_1).f1).length : Int))), (wrap64 (x4_1 + 1)), vr, vr, H', ⟨by have := HK1.out; omega⟩, ⟨kk BK141.out⟩, ⟨bb⟩⟩
   ·obtain rfl := Option.some.inj H; obtain ⟨hcz6_0, hcz6_1, hfz6_0, hfz6_1⟩ := bf2 BK141.out; go_wp2; go_ret; exact ⟨er, bb⟩
def spec_IsValidPage.f (k : Nat) (l0_0 : List (S42)) : Option (Bool) := (spec_AreValidRows.f k l0_0).bind fun t144 => (if t144 = true then ((spec_TotalCost.f k l0_0).bind fun t145 => ((spec_l1In.f t145 1 8).bind fun t146 => (some t146))) else (some false))
set_option maxHeartbeats 8000000 in
set_option maxRecDepth 100000 in
theorem spec_IsValidPage.calls (k : Nat) (A0_0 : Option Addr) (c0_0 : Nat) (l0_0 : List (S42)) (r : Bool) (w : World) (hr0_0 : Kd.C k42 w A0_0 l0_0.length l0_0) (hc0_0 : l0_0.length ≤ c0_0) (h : spec_IsValidPage.f k l0_0 = some r) :
  Calls Try.prog 19 #[.agg #[.slice A0_0 l0_0.length c0_0]] w fun e w' => e = .returned (.bool r) ∧ Below w.heap.size w w' := by
 have hu39 := Try.underlying39; have HR0_0 := kp hr0_0; have HC0_0 := kp hc0_0; clear hr0_0 hc0_0; have HB := kp (Below.refl w.heap.size w); have H := h; clear h; unfold spec_IsValidPage.f at H; replace H := ob H; obtain ⟨t144, A2, H⟩ := H; by_cases c3 : t144 = true; subst c3; replace H := ip H; replace H := ob H; obtain ⟨t145, A4, H⟩ := H; replace H := ob H; obtain ⟨t146, A5, H⟩ := H; obtain rfl := Option.some.inj H; rotate_left; replace c3 := Bool.eq_false_iff.mpr c3; subst c3; replace H := ie H; obtain rfl := Option.some.inj H
 all_goals
  go_enter Try.func19, Try.ntmps19; go_wp2_with (first | ((with_reducible refine gate_dst (N := 1) rfl ?_); refine bx_ 1 #[.slice A0_0 l0_0.length c0_0] 39 ?_; intro gb143 hg w6 hbox hb; have BK143 := kp (hbox); have GE143 := kp (bs hg); replace HB := kp (below_step bb hb); clear hb hbox hg; obtain ⟨hcz7_0, hfz7_0⟩ := bf1 BK143.out) | ((with_reducible refine gate_callee (f := 17) rfl ?_); refine gl_ 5 Try.func17 #[.slice A0_0 l0_0.length c0_0] ?_; (with_reducible refine (spec_AreValidRows.calls k _ _ l0_0 _ _ ?side1 ?side2 A2.out).mono ?_); (case side1 => exact cc HR0_0.out); (case side2 => exact HC0_0.out); rintro e w8 ⟨rfl, hb⟩; refine ⟨_, rfl, ?_⟩; replace BK143 := kp (kb BK143.out hb); replace HB := kp (below_step bb hb); (try clear hb); (try (have hz_ := bf1 BK143.out; obtain ⟨hcz9_0, hfz9_0⟩ := hz_))) | (go_at_call 55; (with_reducible refine (spec_TotalCost.calls k _ _ l0_0 t145 _ ?side1 ?side2 A4.out).mono ?_); (case side1 => exact cc HR0_0.out); (case side2 => exact HC0_0.out); rintro e w10 ⟨rfl, hb⟩; replace BK143 := kp (kb BK143.out hb); replace HB := kp (below_step bb hb); (try clear hb)) | (go_at_call 54; (with_reducible refine (spec_l1In.calls t145 1 8 t146 _ A5.out).mono ?_); rintro e w' ⟨rfl, ⟨nd, rfl⟩⟩)); go_ret; exact ⟨er, bb⟩
def spec_l4Pages.l0 : Nat → List (S39) → Int → Option (Bool)
 | 0, _, _ => none
 | k + 1, x0, x3 => if x3 < (x0.length : Int) then (if 0 ≤ x3 then ((spec_IsValidPage.f k ((rd_T39 x0 x3).f0)).bind fun t148 => (if t148 = true then (spec_l4Pages.l0 k x0 (wrap64 (x3 + 1))) else (some false))) else (none)) else (some true)
def spec_l4Pages.f (k : Nat) (l0 : List (S39)) : Option (Bool) := spec_l4Pages.l0 k l0 0
set_option maxHeartbeats 8000000 in
set_option maxRecDepth 100000 in
theorem spec_l4Pages.calls (k : Nat) (A0 : Option Addr) (c0 : Nat) (l0 : List (S39)) (r : Bool) (w : World) (hr0 : Kd.C k39 w A0 l0.length l0) (hc0 : l0.length ≤ c0) (h : spec_l4Pages.f k l0 = some r) :
  Calls Try.prog 64 #[.slice A0 l0.length c0] w fun e w' => e = .returned (.bool r) ∧ Below w.heap.size w w' := by
 have hu39 := Try.underlying39; have HR0 := kp hr0; have HC0 := kp hc0; clear hr0 hc0; have HB := kp (Below.refl w.heap.size w); have H := h; clear h; unfold spec_l4Pages.f at H; have H' := kp H; clear H; go_enter Try.func64, Try.ntmps64; go_wp2; go_loopg [3] k (fun kq v3 w' => ∃ (x3_1 : Int), v3 = .int .i64 x3_1 ∧ Aside0 (spec_l4Pages.l0 kq l0 x3_1 = some r) ∧ Aside0 (kq ≤ k) ∧ Aside0 (Below w.heap.size w w')); case atStart => exact ⟨(0), vr, H', ⟨Nat.le_refl _⟩, ⟨bb⟩⟩
 case round =>
  clear H'; obtain ⟨x3_1, rfl, HA, HK1, HB⟩ := hrel
  cases gk with
  | zero => exact absurd HA.out (by simp [spec_l4Pages.l0])
  | succ k1 =>
   have H := HA.out; clear HA; simp only [spec_l4Pages.l0] at H; replace H := sp H; rcases H with ⟨c2b0, H⟩ | ⟨c2b0, H⟩
   ·replace H := sn H; obtain ⟨c3b0, H⟩ := H; replace H := ob H; obtain ⟨t148, A4, H⟩ := H; by_cases c5 : t148 = true; subst c5; replace H := ip H; have H' := kp H; clear H; have i0_ := kp True.intro; rotate_left; replace c5 := Bool.eq_false_iff.mpr c5; subst c5; replace H := ie H; obtain rfl := Option.some.inj H
    all_goals
     obtain ⟨ad147, A147_0, c147_0, rfl, hx147_0, HC147_0, HR147_0, p147, q147⟩ := ra_T39 HR0 HB x3_1 dt dt; go_wp2_with (first | ((with_reducible refine gate_callee (f := 19) rfl ?_); refine gl_ 14 Try.func19 #[.agg #[.slice A147_0 ((rd_T39 l0 x3_1).f0).length c147_0]] ?_; (with_reducible refine (spec_IsValidPage.calls k1 _ _ ((rd_T39 l0 x3_1).f0) _ _ ?side1 ?side2 A4.out).mono ?_); (case side1 => exact cc HR147_0.out); (case side2 => exact HC147_0.out); rintro e w6 ⟨rfl, hb⟩; refine ⟨_, rfl, ?_⟩; replace HB := kp (below_step bb hb); (try clear hb)))
     first
     | refine tg i0_ ?_; go_roundg k1; case measure => have := HK1.out; omega
       case rel => exact ⟨(wrap64 (x3_1 + 1)), vr, H', ⟨by have := HK1.out; omega⟩, ⟨bb⟩⟩
     | go_ret; exact ⟨er, bb⟩
   ·obtain rfl := Option.some.inj H; go_wp2; go_ret; exact ⟨er, bb⟩
end Go.Proofs.Ytljpfogplcdcjaa.PFnSealedFiles
