/- Out of a copy of the print, with function values told: nothing is claimed here. -/
import Derived.Test.YtljpfogplcdcjaaVQFnPagePackingx0
import Derived.Test.YtljpfogplcdcjaaVQFnPagePackingx2
import Derived.Test.YtljpfogplcdcjaaVQFnPagePackingx3
import Derived.Test.YtljpfogplcdcjaaVQFnPagePackingx6
import Derived.Test.YtljpfogplcdcjaaVShort
import Derived.Test.YtljpfogplcdcjaaVPress
namespace Go.Proofs.Ytljpfogplcdcjaa.PFnPagePacking
open Go.RowKit Go.Proofs.YtljpfogplcdcjaaW.PrintWords Go.Proofs.YtljpfogplcdcjaaW.PrintLast Go.Proofs.YtljpfogplcdcjaaW.PrintMore Go.Proofs.Ytljpfogplcdcjaa.Short Go.Proofs.Ytljpfogplcdcjaa.Press
attribute [local go_sem] max2_int min2_int max_two min_two max_three min_three max_four min_four   -- for this text's walks alone
set_option linter.unusedVariables false
set_option linter.unusedSimpArgs false
def spec_IsValidPage.f (k : Nat) (l0_0 : List (S42)) : Option (Bool) := (spec_AreValidRows.f k l0_0).bind fun t299 => (if t299 = true then ((spec_TotalCost.f k l0_0).bind fun t300 => ((spec_l1In.f t300 1 8).bind fun t301 => (some t301))) else (some false))
theorem spec_IsValidPage.mono : ∀ a0 k, LeO (spec_IsValidPage.f k a0) (spec_IsValidPage.f (k + 1) a0) := by
 intro a0 k
 unfold spec_IsValidPage.f
 repeat' first
   | (with_reducible exact spec_AreValidRows.mono _ _)
   | (with_reducible exact spec_TotalCost.mono _ _)
   | (with_reducible exact LeO.refl _)
   | (with_reducible exact LeO.none _)
   | (with_reducible refine LeO.ite ?_ ?_)
   | (with_reducible refine LeO.bind ?_ (fun _ => ?_))
set_option maxHeartbeats 8000000 in
set_option maxRecDepth 100000 in
theorem spec_IsValidPage.calls (k : Nat) (A0_0 : Option Addr) (c0_0 : Nat) (l0_0 : List (S42)) (r : Bool) (w : World) (hr0_0 : Kd.C k42 w A0_0 l0_0.length l0_0) (hc0_0 : l0_0.length ≤ c0_0) (h : spec_IsValidPage.f k l0_0 = some r) :
  Calls Try.prog 19 #[.agg #[.slice A0_0 l0_0.length c0_0]] w fun e w' => e = .returned (.bool r) ∧ Below w.heap.size w w' := by
 have hu39 := Try.underlying39
 have HR0_0 := kp hr0_0
 have HC0_0 := kp hc0_0
 clear hr0_0 hc0_0
 have HB := kp (Below.refl w.heap.size w)
 have H : ((spec_AreValidRows.f k l0_0).bind fun t299 => (if t299 = true then ((spec_TotalCost.f k l0_0).bind fun t300 => ((spec_l1In.f t300 1 8).bind fun t301 => (some t301))) else (some false))) = some r := h
 clear h
 replace H := Option.bind_eq_some_iff.mp H
 obtain ⟨t299, A20, H⟩ := H
 replace H : (if t299 = true then ((spec_TotalCost.f k l0_0).bind fun t300 => ((spec_l1In.f t300 1 8).bind fun t301 => (some t301))) else (some false)) = some r := H
 have A2 := kp A20
 clear A20
 by_cases c3 : t299 = true
 ·subst c3; have H1 : ((spec_TotalCost.f k l0_0).bind fun t300 => ((spec_l1In.f t300 1 8).bind fun t301 => (some t301))) = some r := by rw [if_pos rfl] at H; exact H
  clear H; have H := H1; clear H1; replace H := Option.bind_eq_some_iff.mp H; obtain ⟨t300, A40, H⟩ := H; replace H : ((spec_l1In.f t300 1 8).bind fun t301 => (some t301)) = some r := H; have A4 := kp A40; clear A40; replace H := Option.bind_eq_some_iff.mp H; obtain ⟨t301, A50, H⟩ := H; replace H : (some t301) = some r := H; have A5 := kp A50; clear A50; obtain rfl := Option.some.inj H
  go_enter Try.func19, Try.ntmps19
  go_wp2_with (first | ((with_reducible refine gate_dst (N := 1) rfl ?_); refine bx_ 1 #[.slice A0_0 l0_0.length c0_0] 39 ?_; intro gb298 hg w6 hbox hb; have BK298 := kp (hbox); have GW298 := kp (bs hg); have GE298 := kp (bs hg); replace HB := kp (below_step bb hb); clear hb hbox hg; obtain ⟨hcz7_0, hfz7_0⟩ := bf1 BK298.out) | ((with_reducible refine gate_callee (f := 17) rfl ?_); refine gl_ 5 Try.func17 #[.slice A0_0 l0_0.length c0_0] ?_; (with_reducible refine (spec_AreValidRows.calls k _ _ l0_0 true _ ?side1 ?side2 A2.out).mono ?_); (case side1 => exact cc HR0_0.out); (case side2 => exact HC0_0.out); rintro e w8 ⟨rfl, hb⟩; refine ⟨_, rfl, ?_⟩; replace BK298 := kp (kb BK298.out hb); replace HB := kp (below_step bb hb); (try clear hb); obtain ⟨hcz9_0, hfz9_0⟩ := bf1 BK298.out) | (go_at_call 55; (with_reducible refine (spec_TotalCost.calls k _ _ l0_0 t300 _ ?side1 ?side2 A4.out).mono ?_); (case side1 => exact cc HR0_0.out); (case side2 => exact HC0_0.out); rintro e w10 ⟨rfl, hb⟩; replace BK298 := kp (kb BK298.out hb); replace HB := kp (below_step bb hb); (try clear hb)) | (go_at_call 54; (with_reducible refine (spec_l1In.calls t300 1 8 t301 _ A5.out).mono ?_); rintro e w' ⟨rfl, ⟨nd, rfl⟩⟩))
  go_ret; exact ⟨er, bb⟩
 ·replace c3 := Bool.eq_false_iff.mpr c3; subst c3; have H1 : (some false) = some r := by rw [if_neg (show ¬ (false = true) by decide)] at H; exact H
  clear H; have H := H1; clear H1; obtain rfl := Option.some.inj H
  go_enter Try.func19, Try.ntmps19
  go_wp2_with (first | ((with_reducible refine gate_dst (N := 1) rfl ?_); refine bx_ 1 #[.slice A0_0 l0_0.length c0_0] 39 ?_; intro gb298 hg w11 hbox hb; have BK298 := kp (hbox); have GW298 := kp (bs hg); have GE298 := kp (bs hg); replace HB := kp (below_step bb hb); clear hb hbox hg; obtain ⟨hcz12_0, hfz12_0⟩ := bf1 BK298.out) | ((with_reducible refine gate_callee (f := 17) rfl ?_); refine gl_ 5 Try.func17 #[.slice A0_0 l0_0.length c0_0] ?_; (with_reducible refine (spec_AreValidRows.calls k _ _ l0_0 false _ ?side1 ?side2 A2.out).mono ?_); (case side1 => exact cc HR0_0.out); (case side2 => exact HC0_0.out); rintro e w13 ⟨rfl, hb⟩; refine ⟨_, rfl, ?_⟩; replace BK298 := kp (kb BK298.out hb); replace HB := kp (below_step bb hb); (try clear hb)))
  go_ret; exact ⟨er, bb⟩
section
variable {α : Type} {d : Kd α} {e g n cap : Nat} {W : World} {base : Nat} {ok oki : Nat → Prop} {xs : List α} {i : Int} {c : List Value}
theorem H_cell (h : Kd.H d e W base ok (.slice (some ⟨g, 0, none⟩) n cap) xs i oki c) (h0 : 0 ≤ i) (h1 : i < n) {j : Nat} {u : Value} (hc : c[j]? = some u) : W.cell? ⟨g, i.toNat * d.sz + j, none⟩ = some u := by
 obtain ⟨_, _, _, _, _, hcc, _⟩ := Kd.H_raw h h0 h1
 exact hcc j u hc
theorem H_frozen (h : Kd.H d e W base ok (.slice (some ⟨g, 0, none⟩) n cap) xs i oki c) (h0 : 0 ≤ i) (h1 : i < n) (j : Nat) : W.frozen? ⟨g, i.toNat * d.sz + j, none⟩ = false := by
 obtain ⟨_, _, hraw, _, _, _, _⟩ := Kd.H_raw h h0 h1
 obtain ⟨_, _, _, _, hf⟩ := Kd.R_elem hraw [] i h0 h1
 exact hf j
end
section
variable {g n cap base : Nat} {W : World} {ok oki okp : Nat → Prop} {xs : List S39} {i : Int} {u v : Value} {c : List Value}
theorem H_cell39 (h : Kd.H k39 39 W base ok (.slice (some ⟨g, 0, none⟩) n cap) xs i oki c) (h0 : 0 ≤ i) (h1 : i < n) (hc : c[0]? = some u) : W.cell? ⟨g, i.toNat, none⟩ = some u := by
 have e := H_cell h h0 h1 hc
 rwa [show k39.sz = 1 from rfl, Nat.mul_one, Nat.add_zero] at e
theorem H_frozen39 (h : Kd.H k39 39 W base ok (.slice (some ⟨g, 0, none⟩) n cap) xs i oki c) (h0 : 0 ≤ i) (h1 : i < n) : W.frozen? ⟨g, i.toNat, none⟩ = false := by
 have e := H_frozen h h0 h1 0
 rwa [show k39.sz = 1 from rfl, Nat.mul_one, Nat.add_zero] at e
theorem seg39 (h : Kd.H k39 39 W base ok (.slice (some ⟨g, 0, none⟩) n cap) xs i oki [u]) (h0 : 0 ≤ i) (h1 : i < n) {x' : S39} (hM : k39.M W base okp x' [v]) (hokp : ∀ k, okp k → oki k) :
  Kd.S k39 39 (W.setCell ⟨g, i.toNat, none⟩ v) base ok (.slice (some ⟨g, 0, none⟩) n cap) (xs.set i.toNat x') := by
 have e := (Kd.S_seg0 h h0 h1 (seg := [v]) (j := 0) (show 1 ≤ 1 from Nat.le_refl _) (x' := x') hM hokp).1
 rw [show k39.sz = 1 from rfl, Nat.mul_one, Nat.add_zero] at e
 exact e
end
def spec_l4Draw.j0 : Nat → List (S39) → Bool → List Int → Int → Int → Option ((List (S39)) × Int × Int)
 | 0, _, _, _, _, _ => none
 | k + 1, x3, x14, x1000, x1001, x1002 => if x14 = true then ((spec_l1Below.f x1000 x1001 x1002 (x3.length : Int)).bind fun bt313 => ((spec_l1Once.f x1000 bt313.2.1 bt313.2.2 2).bind fun bt316 => (if bt316.1 = true then (if 0 ≤ bt313.1 then (if bt313.1 < (x3.length : Int) then (some ((x3.set (bt313.1 : Int).toNat (⟨([] : List (S42))⟩ : S39)), bt316.2.1, bt316.2.2)) else (none)) else (none)) else (if 0 ≤ bt313.1 then (if bt313.1 < (x3.length : Int) then ((spec_l2Rows.f k x1000 bt316.2.1 bt316.2.2 4).bind fun bt321 => (if ((rd_T39 x3 bt313.1).f0).length + bt321.1.length < 5864062014805 then (some ((x3.set (bt313.1 : Int).toNat (⟨(rd_T39 x3 bt313.1).f0 ++ bt321.1⟩ : S39)), bt321.2.1, bt321.2.2)) else (none))) else (none)) else (none))))) else (some (x3, x1001, x1002))
def spec_l4Draw.f (k : Nat) (s0_0 : List Int) (s0_1 : Int) (s0_2 : Int) : Option ((List (S39)) × Int × Int) := (spec_l2Rows.f k s0_0 s0_1 s0_2 9).bind fun bt302 => ((spec_PackPages.f k bt302.1).bind fun t307 => (if (t307.length : Int) > 0 then ((spec_l1Once.f s0_0 bt302.2.1 bt302.2.2 8).bind fun bt310 => (spec_l4Draw.j0 k t307 bt310.1 s0_0 bt310.2.1 bt310.2.2)) else (spec_l4Draw.j0 k t307 false s0_0 bt302.2.1 bt302.2.2)))
theorem spec_l4Draw.mono_l : ∀ k, (∀ y0 y1 y2 y3 y4, LeO (spec_l4Draw.j0 k y0 y1 y2 y3 y4) (spec_l4Draw.j0 (k + 1) y0 y1 y2 y3 y4))
 | 0 => fun _ _ _ _ _ r h => by simp [spec_l4Draw.j0] at h
 | k + 1 => by
  have ih0 := spec_l4Draw.mono_l k
  ·intro y0 y1 y2 y3 y4
   unfold spec_l4Draw.j0
   repeat' first
   | (with_reducible exact ih0 _ _ _ _ _)
   | (with_reducible exact spec_PackPages.mono _ _)
   | (with_reducible exact spec_l2Rows.mono _ _ _ _ _)
   | (with_reducible exact LeO.refl _)
   | (with_reducible exact LeO.none _)
   | (with_reducible refine LeO.ite ?_ ?_)
   | (with_reducible refine LeO.bind ?_ (fun _ => ?_))
theorem spec_l4Draw.mono : ∀ a0 a1 a2 k, LeO (spec_l4Draw.f k a0 a1 a2) (spec_l4Draw.f (k + 1) a0 a1 a2) := by
 intro a0 a1 a2 k
 have ih0 := spec_l4Draw.mono_l k
 unfold spec_l4Draw.f
 repeat' first
   | (with_reducible exact ih0 _ _ _ _ _)
   | (with_reducible exact spec_PackPages.mono _ _)
   | (with_reducible exact spec_l2Rows.mono _ _ _ _ _)
   | (with_reducible exact LeO.refl _)
   | (with_reducible exact LeO.none _)
   | (with_reducible refine LeO.ite ?_ ?_)
   | (with_reducible refine LeO.bind ?_ (fun _ => ?_))
set_option maxHeartbeats 8000000 in
set_option maxRecDepth 100000 in
theorem spec_l4Draw.calls (k : Nat) (g : Nat) (s0_0 : List Int) (s0_1 : Int) (s0_2 : Int) (r1 : List (S39)) (r2 : Int) (r3 : Int) (w0 w : World) (hI : IsS93 w0 w g s0_0 s0_1 s0_2) (hB : Below w0.heap.size w0 w) (h : spec_l4Draw.f k s0_0 s0_1 s0_2 = some (r1, r2, r3)) :
  Calls Try.prog 57 #[.pointer (some ⟨g, 0, none⟩)] w fun e w' => ∃ v0_ : Value, e = .returned (v0_) ∧ Kd.N k39 39 w' w.heap.size (fun k_ => (w.heap.size ≤ k_)) v0_ r1 ∧ IsS93 w0 w' g s0_0 r2 r3 ∧ Below w0.heap.size w0 w' ∧ KeepBut w w' g none := by
 have HI0 := kp hI
 have HK := kp (KeepBut.refl w g none)
 have HL := kp hB.size
 clear hI
 have HW0 := kp hB.size
 have HB := kp hB
 clear hB
 have H : ((spec_l2Rows.f k s0_0 s0_1 s0_2 9).bind fun bt302 => ((spec_PackPages.f k bt302.1).bind fun t307 => (if (t307.length : Int) > 0 then ((spec_l1Once.f s0_0 bt302.2.1 bt302.2.2 8).bind fun bt310 => (spec_l4Draw.j0 k t307 bt310.1 s0_0 bt310.2.1 bt310.2.2)) else (spec_l4Draw.j0 k t307 false s0_0 bt302.2.1 bt302.2.2)))) = some (r1, r2, r3) := h
 clear h
 replace H := Option.bind_eq_some_iff.mp H
 obtain ⟨⟨t302, t305, t306⟩, A20, H⟩ := H
 replace H : ((spec_PackPages.f k t302).bind fun t307 => (if (t307.length : Int) > 0 then ((spec_l1Once.f s0_0 t305 t306 8).bind fun bt310 => (spec_l4Draw.j0 k t307 bt310.1 s0_0 bt310.2.1 bt310.2.2)) else (spec_l4Draw.j0 k t307 false s0_0 t305 t306))) = some (r1, r2, r3) := H
 have A2 := kp A20
 clear A20
 replace H := Option.bind_eq_some_iff.mp H
 obtain ⟨t307, A30, H⟩ := H
 replace H : (if (t307.length : Int) > 0 then ((spec_l1Once.f s0_0 t305 t306 8).bind fun bt310 => (spec_l4Draw.j0 k t307 bt310.1 s0_0 bt310.2.1 bt310.2.2)) else (spec_l4Draw.j0 k t307 false s0_0 t305 t306)) = some (r1, r2, r3) := H
 have A3 := kp A30
 clear A30
 have HC4 := kp H
 clear H
 go_enter Try.func57, Try.ntmps57
 go_upto_region 2 with (first | ((with_reducible refine gate_callee (f := 79) rfl ?_); refine gl_ 6 Try.func79 #[.pointer (some ⟨g, 0, none⟩), .int .i64 9] ?_; (with_reducible refine (spec_l2Rows.calls k g s0_0 s0_1 s0_2 9 t302 t305 t306 w0 _ ?side1 ?side2 A2.out).mono ?_); (case side1 => repeat (first | (with_reducible first | exact HI0.out | apply IsS93.alloc | apply IsS93.drewN | apply IsS93.drew | apply IsS93.set_1 | apply IsS93.set_2) | exact HI0.out)); (case side2 => with_reducible repeat (first | exact HB.out | apply cA | apply cN | apply cD | refine below_set ?_ (IsS93.ge HI0.out))); rintro e w5 ⟨v303, rfl, ho0, hi, hb, hk⟩; refine ⟨_, rfl, ?_⟩; have HO304 := kp (Kd.R_lower (Kd.R_newM (M := fun k_ => (w.heap.size ≤ k_)) ho0 (keep_size (w := w) (g := g) (row := none) (by repeat (first | (with_reducible first | exact HK.out | apply KeepBut.set_ | apply keep_drewN | apply keep_drew | apply keep_alloc) | exact HK.out))) (fun k_ h_ => h_)) (keep_size (w := w) (g := g) (row := none) (by repeat (first | (with_reducible first | exact HK.out | apply KeepBut.set_ | apply keep_drewN | apply keep_drew | apply keep_alloc) | exact HK.out)))); replace HK := kp (KeepBut.trans (by repeat (first | (with_reducible first | exact HK.out | apply KeepBut.set_ | apply keep_drewN | apply keep_drew | apply keep_alloc) | exact HK.out)) hk (.inl rfl)); replace HB := kp (hb); replace HI0 := kp (hi); (try clear hb); (try clear hk); (try clear hi); (try clear ho0); obtain ⟨Ao6, co6, eo6⟩ := Kd.R_slice HO304.out; subst eo6) | ((with_reducible refine gate_callee (f := 7) rfl ?_); refine gl_ 7 Try.func7 #[.slice Ao6 t302.length co6] ?_; (with_reducible refine (spec_PackPages.calls k _ _ t302 t307 _ ?side1 ?side2 A3.out).mono ?_); (case side1 => repeat (first | exact (Kd.R_reads' HO304.out).2.2 | (with_reducible refine Kd.C_alloc ?_ _) | (with_reducible refine Kd.C_drewN ?_ _) | (with_reducible refine Kd.C_drew ?_))); (case side2 => exact (Kd.R_reads' HO304.out).2.1); rintro e w7 ⟨v308, rfl, ho0, hb⟩; refine ⟨_, rfl, ?_⟩; have HO309 := kp (Kd.S_lower (Kd.S_mono (ok' := fun k_ => (w.heap.size ≤ k_) ∧ some k_ ≠ (.slice Ao6 t302.length co6 : Value).ownBlock ∧ k_ ≠ g) (Kd.S_bound ho0) (fun k_ hk_ => ⟨(Nat.le_trans (keep_size (w := w) (g := g) (row := none) (by repeat (first | (with_reducible first | exact HK.out | apply KeepBut.set_ | apply keep_drewN | apply keep_drew | apply keep_alloc) | exact HK.out))) hk_.2.1), (Kd.fresh' (Kd.R_lt (by (with_reducible repeat (first | apply rA | apply rN | apply rD)); exact HO304.out)) k_ hk_.2.1), (IsS93.fresh (by repeat (first | (with_reducible first | exact HI0.out | apply IsS93.alloc | apply IsS93.drewN | apply IsS93.drew | apply IsS93.set_1 | apply IsS93.set_2) | exact HI0.out)) k_ hk_.2.1)⟩)) (keep_size (w := w) (g := g) (row := none) (by repeat (first | (with_reducible first | exact HK.out | apply KeepBut.set_ | apply keep_drewN | apply keep_drew | apply keep_alloc) | exact HK.out)))); replace HO304 := kp (Kd.R_below (by (with_reducible repeat (first | apply rA | apply rN | apply rD)); exact HO304.out) hb); replace HK := kp (KeepBut.trans (by repeat (first | (with_reducible first | exact HK.out | apply KeepBut.set_ | apply keep_drewN | apply keep_drew | apply keep_alloc) | exact HK.out)) (KeepBut.of_below hb g none) (.inl rfl)); replace HB := kp (below_step (by with_reducible repeat (first | exact HB.out | apply cA | apply cN | apply cD | refine below_set ?_ (IsS93.ge HI0.out))) hb); replace HI0 := kp (IsS93.below (by repeat (first | (with_reducible first | exact HI0.out | apply IsS93.alloc | apply IsS93.drewN | apply IsS93.drew | apply IsS93.set_1 | apply IsS93.set_2) | exact HI0.out)) hb); (try clear hb); (try clear ho0)))
 (try simp only [Act.put, List.setIfInBounds_toArray, List.set_cons_zero, List.set_cons_succ])
 go_cut [14] (fun v14 wc => ∃ (kq : Nat) (x14_3 : Bool) (x1001_3 : Int) (x1002_3 : Int), v14 = .bool x14_3 ∧ Aside0 (spec_l4Draw.j0 kq t307 x14_3 s0_0 x1001_3 x1002_3 = some (r1, r2, r3)) ∧ Aside0 (kq ≤ k) ∧ Aside0 (Kd.S k39 39 wc w.heap.size (fun k_ => (w.heap.size ≤ k_) ∧ k_ ≠ g) v308 t307) ∧ Aside0 (IsS93 w0 wc g s0_0 x1001_3 x1002_3) ∧ Aside0 (KeepBut w wc g none) ∧ Aside0 (Below w0.heap.size w0 wc))
 case first =>
  have H := HC4.out; clear HC4
  by_cases c8 : (t307.length : Int) > 0
  ·rw [if_pos c8] at H; have c8b0 : decide (0 < (t307.length : Int)) = true := decide_eq_true c8; have c8b1 : decide (0 < t307.length) = true := decide_eq_true (by omega); clear c8; (first | rw [c8b0] | (simp only [i64_w, i32_w]; rw [c8b0]) | skip); replace H := Option.bind_eq_some_iff.mp H; obtain ⟨⟨t310, t311, t312⟩, A90, H⟩ := H; replace H : (spec_l4Draw.j0 k t307 t310 s0_0 t311 t312) = some (r1, r2, r3) := H; have A9 := kp A90; clear A90; have H' := kp H; clear H; obtain ⟨Ao10, co10, eo10⟩ := Kd.S_slice HO309.out; subst eo10
   go_wp2_with (first | (go_at_call 58; (with_reducible refine (spec_l1Once.calls g s0_0 t305 t306 8 t310 t311 t312 w0 _ ?side1 ?side2 A9.out).mono ?_); (case side1 => repeat (first | (with_reducible first | exact HI0.out | apply IsS93.alloc | apply IsS93.drewN | apply IsS93.drew | apply IsS93.set_1 | apply IsS93.set_2) | exact HI0.out)); (case side2 => with_reducible repeat (first | exact HB.out | apply cA | apply cN | apply cD | refine below_set ?_ (IsS93.ge HI0.out))); rintro e w11 ⟨rfl, hi, hb, hk⟩; replace HO304 := kp (Kd.R_mono (Kd.R_keep (IsS93.apart (show IsS93 w0 _ g s0_0 t305 t306 from by repeat (first | (with_reducible first | exact HI0.out | apply IsS93.alloc | apply IsS93.drewN | apply IsS93.drew | apply IsS93.set_1 | apply IsS93.set_2) | exact HI0.out)) (by (with_reducible repeat (first | apply rA | apply rN | apply rD)); exact HO304.out) (by decide)) hk (fun _ h => h.2)) (fun _ h => h.1)); replace HO309 := kp (Kd.S_mono (Kd.S_keep (Kd.S_mono (ok := fun k_ => (((w.heap.size ≤ k_)) ∧ (some k_ ≠ (.slice Ao6 t302.length co6 : Value).ownBlock ∧ k_ ≠ g))) (by (with_reducible repeat (first | apply Kd.S_alloc | apply Kd.S_drewN | apply Kd.S_drew)); exact HO309.out) (fun k_ hk_ => (⟨hk_, hk_.2.2⟩ : _ ∧ k_ ≠ g))) hk (fun _ h => h.2)) (fun _ h => h.1)); replace HK := kp (KeepBut.trans (by repeat (first | (with_reducible first | exact HK.out | apply KeepBut.set_ | apply keep_drewN | apply keep_drew | apply keep_alloc) | exact HK.out)) hk (.inl rfl)); replace HB := kp (hb); replace HI0 := kp (hi); (try clear hb); (try clear hk); (try clear hi)))
   go_meet
   case rel => exact ⟨_, (t310), (t311), (t312), (by first | rfl | (simp; done) | (simp [*]; done)), H', ⟨by first | omega | exact Nat.le_refl _⟩, ⟨by (with_reducible repeat (first | apply Kd.S_alloc | apply Kd.S_drewN | apply Kd.S_drew)); exact Kd.S_mono HO309.out (fun _ hk => ⟨hk.1, hk.2.2⟩)⟩, ⟨by repeat (first | (with_reducible first | exact HI0.out | apply IsS93.alloc | apply IsS93.drewN | apply IsS93.drew | apply IsS93.set_1 | apply IsS93.set_2) | exact HI0.out)⟩, ⟨by repeat (first | (with_reducible first | exact HK.out | apply KeepBut.set_ | apply keep_drewN | apply keep_drew | apply keep_alloc) | exact HK.out)⟩, ⟨by with_reducible repeat (first | exact HB.out | apply cA | apply cN | apply cD | refine below_set ?_ (IsS93.ge HI0.out))⟩⟩
  ·rw [if_neg c8] at H; have c8b0 : decide (0 < (t307.length : Int)) = false := decide_eq_false c8; have c8b1 : decide (0 < t307.length) = false := decide_eq_false (by omega); clear c8; (first | rw [c8b0] | (simp only [i64_w, i32_w]; rw [c8b0]) | skip); have H' := kp H; clear H; obtain ⟨Ao12, co12, eo12⟩ := Kd.S_slice HO309.out; subst eo12; go_wp2
   go_meet
   case rel => exact ⟨_, (false), (t305), (t306), (by first | rfl | (simp; done) | (simp [*]; done)), H', ⟨by first | omega | exact Nat.le_refl _⟩, ⟨by (with_reducible repeat (first | apply Kd.S_alloc | apply Kd.S_drewN | apply Kd.S_drew)); exact Kd.S_mono HO309.out (fun _ hk => ⟨hk.1, hk.2.2⟩)⟩, ⟨by repeat (first | (with_reducible first | exact HI0.out | apply IsS93.alloc | apply IsS93.drewN | apply IsS93.drew | apply IsS93.set_1 | apply IsS93.set_2) | exact HI0.out)⟩, ⟨by repeat (first | (with_reducible first | exact HK.out | apply KeepBut.set_ | apply keep_drewN | apply keep_drew | apply keep_alloc) | exact HK.out)⟩, ⟨by with_reducible repeat (first | exact HB.out | apply cA | apply cN | apply cD | refine below_set ?_ (IsS93.ge HI0.out))⟩⟩
 case rest =>
  clear HC4
  obtain ⟨kq, x14_3, x1001_3, x1002_3, rfl, HA, HJ3, HO_3, HI0, HK, HB⟩ := hcut
  cases kq with
  | zero => exact absurd HA.out (by simp [spec_l4Draw.j0])
  | succ kj3 =>
   have H := HA.out; clear HA; simp only [spec_l4Draw.j0] at H
   by_cases c13 : x14_3 = true
   ·subst c13; have H1 : ((spec_l1Below.f s0_0 x1001_3 x1002_3 (t307.length : Int)).bind fun bt313 => ((spec_l1Once.f s0_0 bt313.2.1 bt313.2.2 2).bind fun bt316 => (if bt316.1 = true then (if 0 ≤ bt313.1 then (if bt313.1 < (t307.length : Int) then (some ((t307.set (bt313.1 : Int).toNat (⟨([] : List (S42))⟩ : S39)), bt316.2.1, bt316.2.2)) else (none)) else (none)) else (if 0 ≤ bt313.1 then (if bt313.1 < (t307.length : Int) then ((spec_l2Rows.f kj3 s0_0 bt316.2.1 bt316.2.2 4).bind fun bt321 => (if ((rd_T39 t307 bt313.1).f0).length + bt321.1.length < 5864062014805 then (some ((t307.set (bt313.1 : Int).toNat (⟨(rd_T39 t307 bt313.1).f0 ++ bt321.1⟩ : S39)), bt321.2.1, bt321.2.2)) else (none))) else (none)) else (none))))) = some (r1, r2, r3) := by rw [if_pos rfl] at H; exact H
    clear H; have H := H1; clear H1; replace H := Option.bind_eq_some_iff.mp H; obtain ⟨⟨t313, t314, t315⟩, A140, H⟩ := H; replace H : ((spec_l1Once.f s0_0 t314 t315 2).bind fun bt316 => (if bt316.1 = true then (if 0 ≤ t313 then (if t313 < (t307.length : Int) then (some ((t307.set (t313 : Int).toNat (⟨([] : List (S42))⟩ : S39)), bt316.2.1, bt316.2.2)) else (none)) else (none)) else (if 0 ≤ t313 then (if t313 < (t307.length : Int) then ((spec_l2Rows.f kj3 s0_0 bt316.2.1 bt316.2.2 4).bind fun bt321 => (if ((rd_T39 t307 t313).f0).length + bt321.1.length < 5864062014805 then (some ((t307.set (t313 : Int).toNat (⟨(rd_T39 t307 t313).f0 ++ bt321.1⟩ : S39)), bt321.2.1, bt321.2.2)) else (none))) else (none)) else (none)))) = some (r1, r2, r3) := H; have A14 := kp A140; clear A140; replace H := Option.bind_eq_some_iff.mp H; obtain ⟨⟨t316, t317, t318⟩, A150, H⟩ := H; replace H : (if t316 = true then (if 0 ≤ t313 then (if t313 < (t307.length : Int) then (some ((t307.set (t313 : Int).toNat (⟨([] : List (S42))⟩ : S39)), t317, t318)) else (none)) else (none)) else (if 0 ≤ t313 then (if t313 < (t307.length : Int) then ((spec_l2Rows.f kj3 s0_0 t317 t318 4).bind fun bt321 => (if ((rd_T39 t307 t313).f0).length + bt321.1.length < 5864062014805 then (some ((t307.set (t313 : Int).toNat (⟨(rd_T39 t307 t313).f0 ++ bt321.1⟩ : S39)), bt321.2.1, bt321.2.2)) else (none))) else (none)) else (none))) = some (r1, r2, r3) := H; have A15 := kp A150; clear A150
    by_cases c16 : t316 = true
    ·subst c16; replace HO_3 := kp (Kd.S_N HO_3.out); have H1 : (if 0 ≤ t313 then (if t313 < (t307.length : Int) then (some ((t307.set (t313 : Int).toNat (⟨([] : List (S42))⟩ : S39)), t317, t318)) else (none)) else (none)) = some (r1, r2, r3) := by rw [if_pos rfl] at H; exact H
     clear H; have H := H1; clear H1
     by_cases c17 : 0 ≤ t313
     ·rw [if_pos c17] at H; have c17b0 : decide (0 ≤ t313) = true := decide_eq_true c17; clear c17
      by_cases c18 : t313 < (t307.length : Int)
      ·rw [if_pos c18] at H; have c18b0 : decide (t313 < (t307.length : Int)) = true := decide_eq_true c18; clear c18; obtain ⟨y319, hy319⟩ : ∃ y_ : List (S39), y_ = (t307.set (t313 : Int).toNat (⟨([] : List (S42))⟩ : S39)) := ⟨_, rfl⟩; replace H : (some (y319, t317, t318)) = some (r1, r2, r3) := by first | (rw [hy319]; with_reducible exact H) | (have H2_ := (Option.bind_some _ _).symm.trans H; rw [hy319]; with_reducible exact H2_) | (have H2_ := (Option.bind_some _ _).symm.trans H; with_reducible exact H2_) | with_reducible exact H | (rw [hy319]; exact H) | exact H
       have Ny319 := kp hy319; clear hy319; simp only [Option.some.injEq, Prod.mk.injEq] at H; obtain ⟨rfl, rfl, rfl⟩ := H; obtain ⟨Ao20, co20, eo20⟩ := Kd.N_slice HO_3.out; subst eo20
       go_wp2_with (first | ((with_reducible refine gate_callee (f := 82) rfl ?_); refine gl_ 18 Try.func82 #[.pointer (some ⟨g, 0, none⟩), .int .i64 (t307.length : Int)] ?_; (with_reducible refine (spec_l1Below.calls g s0_0 x1001_3 x1002_3 (t307.length : Int) t313 t314 t315 w0 _ ?side1 ?side2 A14.out).mono ?_); (case side1 => repeat (first | (with_reducible first | exact HI0.out | apply IsS93.alloc | apply IsS93.drewN | apply IsS93.drew | apply IsS93.set_1 | apply IsS93.set_2) | exact HI0.out)); (case side2 => with_reducible repeat (first | exact HB.out | apply cA | apply cN | apply cD | refine below_set ?_ (IsS93.ge HI0.out))); rintro e w21 ⟨rfl, hi, hb, hk⟩; refine ⟨_, rfl, ?_⟩; replace HO_3 := kp (Kd.N_mono (Kd.N_keep (Kd.N_mono (ok := fun k_ => (((w.heap.size ≤ k_)) ∧ k_ ≠ g)) (by (with_reducible repeat (first | apply Kd.N_alloc | apply Kd.N_drewN | apply Kd.N_drew)); exact HO_3.out) (fun k_ hk_ => (⟨hk_, hk_.2⟩ : _ ∧ k_ ≠ g))) hk (fun _ h => h.2)) (fun _ h => h.1)); replace HK := kp (KeepBut.trans (by repeat (first | (with_reducible first | exact HK.out | apply KeepBut.set_ | apply keep_drewN | apply keep_drew | apply keep_alloc) | exact HK.out)) hk (.inl rfl)); replace HB := kp (hb); replace HI0 := kp (hi); (try clear hb); (try clear hk); (try clear hi)) | ((with_reducible refine gate_callee (f := 58) rfl ?_); refine gl_ 20 Try.func58 #[.pointer (some ⟨g, 0, none⟩), .int .i64 2] ?_; (with_reducible refine (spec_l1Once.calls g s0_0 t314 t315 2 true t317 t318 w0 _ ?side1 ?side2 A15.out).mono ?_); (case side1 => repeat (first | (with_reducible first | exact HI0.out | apply IsS93.alloc | apply IsS93.drewN | apply IsS93.drew | apply IsS93.set_1 | apply IsS93.set_2) | exact HI0.out)); (case side2 => with_reducible repeat (first | exact HB.out | apply cA | apply cN | apply cD | refine below_set ?_ (IsS93.ge HI0.out))); rintro e w22 ⟨rfl, hi, hb, hk⟩; refine ⟨_, rfl, ?_⟩; replace HO_3 := kp (Kd.N_mono (Kd.N_keep (Kd.N_mono (ok := fun k_ => (((w.heap.size ≤ k_)) ∧ k_ ≠ g)) (by (with_reducible repeat (first | apply Kd.N_alloc | apply Kd.N_drewN | apply Kd.N_drew)); exact HO_3.out) (fun k_ hk_ => (⟨hk_, hk_.2⟩ : _ ∧ k_ ≠ g))) hk (fun _ h => h.2)) (fun _ h => h.1)); replace HK := kp (KeepBut.trans (by repeat (first | (with_reducible first | exact HK.out | apply KeepBut.set_ | apply keep_drewN | apply keep_drew | apply keep_alloc) | exact HK.out)) hk (.inl rfl)); replace HB := kp (hb); replace HI0 := kp (hi); (try clear hb); (try clear hk); (try clear hi); have p19 : 0 ≤ (t313 : Int) := dt; have q19 : (t313 : Int) < ((t307.length : Int) : Int) := dt; obtain ⟨go19, co19, eo19, gb19, gl19, cl19, HG19⟩ := Kd.N_form HO_3.out (by omega); (first | cases eo19 | (injection eo19 with ea_ en_ ec_; (first | subst ea_ | (injection ea_ with ea_; subst ea_)); subst ec_; clear en_)); have GB19 := kp gb19; have GG19 := kp HG19; clear gb19 gl19 HG19; obtain ⟨ce19, hcl19, hM19, hcc19, hfr19⟩ := Kd.N_elem HO_3.out z39 (t313 : Int) p19 q19; obtain ⟨ua19_0, uc19_0, rfl, ul19_0, ge19_0⟩ := k39_openF hM19; have hx19_0 := hcc19 0 _ rfl; have hf19_0 := hfr19 0; (try simp only [show (k39).sz = 1 from rfl, Nat.mul_one, Nat.add_zero] at hx19_0); (try simp only [show (k39).sz = 1 from rfl, Nat.mul_one, Nat.add_zero] at hf19_0); clear hcl19 hcc19 hfr19 hM19; replace p19 := eq_true p19; replace q19 := eq_true q19; have HX23 := kp (show Kd.N k39 39 w22 w.heap.size (fun k_ => (w.heap.size ≤ k_) ∧ k_ ≠ g) (.slice (some ⟨go19, 0, none⟩) t307.length co20) t307 from (by (with_reducible repeat (first | apply Kd.N_alloc | apply Kd.N_drewN | apply Kd.N_drew)); exact HO_3.out)); obtain ⟨ce23, hcl23, hM23, hcc23, hfr23⟩ := Kd.N_elem HX23.out z39 (t313 : Int) (dt) (by have h_ : (t313 : Int) < ((t307.length : Int) : Int) := dt; first | exact h_ | (have e_ := (Kd.N_reads' HO_3.out).1; omega) | simpa using h_); obtain ⟨ua23_0, uc23_0, rfl, ul23_0, ge23_0⟩ := k39_openF hM23; have HP23 := Kd.N_seg HX23.out (t313 : Int) (dt) (by have h_ : (t313 : Int) < ((t307.length : Int) : Int) := dt; first | exact h_ | (have e_ := (Kd.N_reads' HO_3.out).1; omega) | simpa using h_) (seg := [.slice none 0 0]) (j := 0) hcl23 hcc23 (show 1 ≤ 1 from by decide) (x' := (⟨([] : List (S42))⟩ : S39)) (k39_mkF _ _ (⟨([] : List (S42))⟩ : S39) (Nat.le_refl _) (Kd.F_nil _ _ _)) (fun _ hk => hk); have hx23_0 := hcc23 0 _ rfl; (try simp only [show (k39).sz = 1 from rfl, Nat.mul_one, Nat.add_zero] at hx23_0); have hf23_0 := hfr23 0; (try simp only [show (k39).sz = 1 from rfl, Nat.mul_one, Nat.add_zero] at hf23_0); clear hcl23 hcc23 hfr23 hM23; (try simp only [show (k39).sz = 1 from rfl, Nat.mul_one, Nat.add_zero] at HP23); (try simp only [show (k39).sz = 1 from rfl, Nat.mul_one, Nat.add_zero] at HP23)) | ((with_reducible refine gate_store (t := 26) (p := 24) rfl ?_); refine store_event (t := 26) (p := 24) (v := ?vo_w24) (w1 := (w22.setCell ⟨go19, (t313 : Int).toNat, none⟩ (.slice none 0 0))) ?hg ?ho ?hn ?hr ?_; (case ho => rfl); (case hg => rfl); (case hn => rfl); (case hr => first | (go_simp; done) | (go_simp; rfl)); intro w24 hw; have hg : w22.grownBy w24 (some go19) := (by rw [hw]; exact HP23.2); have hp_ : Kd.N k39 39 w24 w.heap.size (fun k_ => (w.heap.size ≤ k_) ∧ k_ ≠ g) (.slice (some ⟨go19, 0, none⟩) t307.length co20) y319 := (by rw [hw, Ny319.out]; exact HP23.1); clear HP23; replace HI0 := kp (IsS93.grown (by repeat (first | (with_reducible first | exact HI0.out | apply IsS93.alloc | apply IsS93.drewN | apply IsS93.drew | apply IsS93.set_1 | apply IsS93.set_2) | exact HI0.out)) hg (IsS93.own_neN HI0.out HO_3.out (by decide))); replace HB := kp ((by rw [hw]; exact below_set (HB.out) (Nat.le_trans HL.out GB19.out) : Below w0.heap.size w0 w24)); replace HK := kp (KeepBut.trans (by repeat (first | (with_reducible first | exact HK.out | apply KeepBut.set_ | apply keep_drewN | apply keep_drew | apply keep_alloc) | exact HK.out)) (KeepBut.of_grown hg g) (Kd.N_base2 HO_3.out)); replace HO_3 := kp (hp_); clear hg hw hp_))
       go_ret; exact ⟨_, er, by (with_reducible repeat (first | apply Kd.N_alloc | apply Kd.N_drewN | apply Kd.N_drew)); exact Kd.N_mono HO_3.out (fun _ hk => hk.1), by repeat (first | (with_reducible first | exact HI0.out | apply IsS93.alloc | apply IsS93.drewN | apply IsS93.drew | apply IsS93.set_1 | apply IsS93.set_2) | exact HI0.out), by with_reducible repeat (first | exact HB.out | apply cA | apply cN | apply cD | refine below_set ?_ (IsS93.ge HI0.out)), by repeat (first | (with_reducible first | exact HK.out | apply KeepBut.set_ | apply keep_drewN | apply keep_drew | apply keep_alloc) | exact HK.out)⟩
      ·rw [if_neg c18] at H; exact absurd H (by simp)
     ·rw [if_neg c17] at H; exact absurd H (by simp)
    ·replace c16 := Bool.eq_false_iff.mpr c16; subst c16; have H1 : (if 0 ≤ t313 then (if t313 < (t307.length : Int) then ((spec_l2Rows.f kj3 s0_0 t317 t318 4).bind fun bt321 => (if ((rd_T39 t307 t313).f0).length + bt321.1.length < 5864062014805 then (some ((t307.set (t313 : Int).toNat (⟨(rd_T39 t307 t313).f0 ++ bt321.1⟩ : S39)), bt321.2.1, bt321.2.2)) else (none))) else (none)) else (none)) = some (r1, r2, r3) := by rw [if_neg (show ¬ (false = true) by decide)] at H; exact H
     clear H; have H := H1; clear H1
     by_cases c25 : 0 ≤ t313
     ·rw [if_pos c25] at H; have c25b0 : decide (0 ≤ t313) = true := decide_eq_true c25; clear c25
      by_cases c26 : t313 < (t307.length : Int)
      ·rw [if_pos c26] at H; have c26b0 : decide (t313 < (t307.length : Int)) = true := decide_eq_true c26; clear c26; replace H := Option.bind_eq_some_iff.mp H; obtain ⟨⟨t321, t324, t325⟩, A270, H⟩ := H; replace H : (if ((rd_T39 t307 t313).f0).length + t321.length < 5864062014805 then (some ((t307.set (t313 : Int).toNat (⟨(rd_T39 t307 t313).f0 ++ t321⟩ : S39)), t324, t325)) else (none)) = some (r1, r2, r3) := H; have A27 := kp A270; clear A270
       by_cases cA : ((rd_T39 t307 t313).f0).length + t321.length < 5864062014805
       case neg => rw [if_neg cA] at H; exact absurd H (by simp)
       rw [if_pos cA] at H; have CA := kp cA; clear cA; obtain ⟨y326, hy326⟩ : ∃ y_ : List (S39), y_ = (t307.set (t313 : Int).toNat (⟨(rd_T39 t307 t313).f0 ++ t321⟩ : S39)) := ⟨_, rfl⟩; replace H : (some (y326, t324, t325)) = some (r1, r2, r3) := by first | (rw [hy326]; with_reducible exact H) | (have H2_ := (Option.bind_some _ _).symm.trans H; rw [hy326]; with_reducible exact H2_) | (have H2_ := (Option.bind_some _ _).symm.trans H; with_reducible exact H2_) | with_reducible exact H | (rw [hy326]; exact H) | exact H
       have Ny326 := kp hy326; clear hy326; simp only [Option.some.injEq, Prod.mk.injEq] at H; obtain ⟨rfl, rfl, rfl⟩ := H; obtain ⟨Ao29, co29, eo29⟩ := Kd.S_slice HO_3.out; subst eo29
       try go_wp2_with (first | ((with_reducible refine gate_callee (f := 82) rfl ?_); refine gl_ 18 Try.func82 #[.pointer (some ⟨g, 0, none⟩), .int .i64 (t307.length : Int)] ?_; (with_reducible refine (spec_l1Below.calls g s0_0 x1001_3 x1002_3 (t307.length : Int) t313 t314 t315 w0 _ ?side1 ?side2 A14.out).mono ?_); (case side1 => repeat (first | (with_reducible first | exact HI0.out | apply IsS93.alloc | apply IsS93.drewN | apply IsS93.drew | apply IsS93.set_1 | apply IsS93.set_2) | exact HI0.out)); (case side2 => with_reducible repeat (first | exact HB.out | apply cA | apply cN | apply cD | refine below_set ?_ (IsS93.ge HI0.out))); rintro e w30 ⟨rfl, hi, hb, hk⟩; refine ⟨_, rfl, ?_⟩; replace HO_3 := kp (Kd.S_mono (Kd.S_keep (Kd.S_mono (ok := fun k_ => (((w.heap.size ≤ k_)) ∧ k_ ≠ g)) (by (with_reducible repeat (first | apply Kd.S_alloc | apply Kd.S_drewN | apply Kd.S_drew)); exact HO_3.out) (fun k_ hk_ => (⟨hk_, hk_.2⟩ : _ ∧ k_ ≠ g))) hk (fun _ h => h.2)) (fun _ h => h.1)); replace HK := kp (KeepBut.trans (by repeat (first | (with_reducible first | exact HK.out | apply KeepBut.set_ | apply keep_drewN | apply keep_drew | apply keep_alloc) | exact HK.out)) hk (.inl rfl)); replace HB := kp (hb); replace HI0 := kp (hi); (try clear hb); (try clear hk); (try clear hi)) | ((with_reducible refine gate_callee (f := 58) rfl ?_); refine gl_ 20 Try.func58 #[.pointer (some ⟨g, 0, none⟩), .int .i64 2] ?_; (with_reducible refine (spec_l1Once.calls g s0_0 t314 t315 2 false t317 t318 w0 _ ?side1 ?side2 A15.out).mono ?_); (case side1 => repeat (first | (with_reducible first | exact HI0.out | apply IsS93.alloc | apply IsS93.drewN | apply IsS93.drew | apply IsS93.set_1 | apply IsS93.set_2) | exact HI0.out)); (case side2 => with_reducible repeat (first | exact HB.out | apply cA | apply cN | apply cD | refine below_set ?_ (IsS93.ge HI0.out))); rintro e w31 ⟨rfl, hi, hb, hk⟩; refine ⟨_, rfl, ?_⟩; replace HO_3 := kp (Kd.S_mono (Kd.S_keep (Kd.S_mono (ok := fun k_ => (((w.heap.size ≤ k_)) ∧ k_ ≠ g)) (by (with_reducible repeat (first | apply Kd.S_alloc | apply Kd.S_drewN | apply Kd.S_drew)); exact HO_3.out) (fun k_ hk_ => (⟨hk_, hk_.2⟩ : _ ∧ k_ ≠ g))) hk (fun _ h => h.2)) (fun _ h => h.1)); replace HK := kp (KeepBut.trans (by repeat (first | (with_reducible first | exact HK.out | apply KeepBut.set_ | apply keep_drewN | apply keep_drew | apply keep_alloc) | exact HK.out)) hk (.inl rfl)); replace HB := kp (hb); replace HI0 := kp (hi); (try clear hb); (try clear hk); (try clear hi)))
       have QI := kp (show (0 : Int) ≤ t313 ∧ (t313 : Int) < (t307.length : Nat) from ⟨dt, dt⟩); have p320 := eq_true QI.out.1; have q320 := eq_true QI.out.2; replace HO_3 := kp (Kd.S_drew HO_3.out); replace HI0 := kp (IsS93.drew HI0.out); replace HK := kp (keep_drew HK.out); replace HB := kp (below_drew1 HB.out); obtain ⟨go28, co28, eo28, gb28, gl28, cl28, HG28⟩ := Kd.S_form HO_3.out (by have := QI.out; omega); (first | cases eo28 | (injection eo28 with ea_ en_ ec_; (first | subst ea_ | (injection ea_ with ea_; subst ea_)); subst ec_; clear en_)); have GB28 := kp gb28; clear gb28 gl28 HG28; have HN0_go28 := kp (show g ≠ go28 from by have h_ := IsS93.own_neS HI0.out HO_3.out (by decide); intro e_; exact h_ (by rw [e_]; rfl)); obtain ⟨oki, cE, hcl_, hM_, hcc_, hoki_, hH_⟩ := Kd.S_lend HO_3.out z39 t313 QI.out.1 QI.out.2; clear hcl_ hcc_; obtain ⟨vE, rfl, hg_⟩ := k39_openM hM_; obtain ⟨AE, cE_, eE_⟩ := Kd.R_slice hg_; subst eE_; replace hg_ : k42.R 42 w31.drew w.heap.size oki _ ((rd_T39 t307 t313).f0) := hg_; have HG := kp hg_; have HH := kp hH_; have HKo := kp hoki_; clear hM_ hg_ hH_ hoki_ HO_3
       refine start_ (n := 13) (S := fun w' => w'.cell? ⟨go28, (t313 : Int).toNat, none⟩ = some (.slice AE ((rd_T39 t307 t313).f0).length cE_)) (ds := [12]) #[false, false, false, false, false, false, false, false, false, false, false, false, false] (by kernel_rfl) rfl rfl (H_cell39 HH.out QI.out.1 QI.out.2 rfl) (fun hHeld => ?_)
       generalize w31.drew = w32 at HI0 HK HB HG HH hHeld ⊢
       refine pure_ (i := 0) (N := some 25) (v := ?_) (a' := ?_) #[true, false, false, false, false, false, false, false, false, false, false, false, false] rfl rfl (by kernel_rfl) (fun _ _ _ h => h) (Or.inl ⟨by rfl, ?_⟩) ?_ ?_
       rotate_left
       ·intro w'
        go_simp
        with_reducible rfl
       rotate_left
       ·simp only [Act.put, List.setIfInBounds_toArray, List.set_cons_zero, List.set_cons_succ, i64_w, i32_w]
        rfl
       refine pure_ (i := 1) (N := some 26) (v := ?_) (a' := ?_) #[true, true, false, false, false, false, false, false, false, false, false, false, false] rfl rfl (by kernel_rfl) (fun _ _ _ h => h) (Or.inl ⟨by rfl, ?_⟩) ?_ ?_
       rotate_left
       ·intro w'
        go_simp
        with_reducible rfl
       rotate_left
       ·simp only [Act.put, List.setIfInBounds_toArray, List.set_cons_zero, List.set_cons_succ, i64_w, i32_w]
        rfl
       refine pure_ (i := 2) (N := some 27) (v := ?_) (a' := ?_) #[true, true, true, false, false, false, false, false, false, false, false, false, false] rfl rfl (by kernel_rfl) (fun _ _ _ h => h) (Or.inl ⟨by rfl, ?_⟩) ?_ ?_
       rotate_left
       ·intro w'
        go_simp
        with_reducible rfl
       rotate_left
       ·simp only [Act.put, List.setIfInBounds_toArray, List.set_cons_zero, List.set_cons_succ, i64_w, i32_w]
        rfl
       refine pure_ (i := 3) (N := some 28) (v := ?_) (a' := ?_) #[true, true, true, true, false, false, false, false, false, false, false, false, false] rfl rfl (by kernel_rfl) (fun _ _ _ h => h) (Or.inl ⟨by rfl, ?_⟩) ?_ ?_
       rotate_left
       ·intro w'
        go_simp
        with_reducible rfl
       rotate_left
       ·simp only [Act.put, List.setIfInBounds_toArray, List.set_cons_zero, List.set_cons_succ, i64_w, i32_w]
        rfl
       refine pure_ (i := 4) (N := some 29) (v := ?_) (a' := ?_) #[true, true, true, true, true, false, false, false, false, false, false, false, false] rfl rfl (by kernel_rfl) (fun _ _ _ h => h) (Or.inl ⟨by rfl, ?_⟩) ?_ ?_
       rotate_left
       ·intro w'
        go_simp
        with_reducible rfl
       rotate_left
       ·simp only [Act.put, List.setIfInBounds_toArray, List.set_cons_zero, List.set_cons_succ, i64_w, i32_w]
        rfl
       refine pure_ (i := 5) (N := some 30) (v := ?_) (a' := ?_) #[true, true, true, true, true, true, false, false, false, false, false, false, false] rfl rfl (by kernel_rfl) (fun _ _ _ h => h) (Or.inl ⟨by rfl, ?_⟩) ?_ ?_
       rotate_left
       ·intro w'
        go_simp
        with_reducible rfl
       rotate_left
       ·simp only [Act.put, List.setIfInBounds_toArray, List.set_cons_zero, List.set_cons_succ, i64_w, i32_w]
        rfl
       refine pure_ (i := 7) (N := some 32) (v := ?_) (a' := ?_) #[true, true, true, true, true, true, false, true, false, false, false, false, false] rfl rfl (by kernel_rfl) (fun _ _ _ h => h) (Or.inl ⟨by rfl, ?_⟩) ?_ ?_
       rotate_left
       ·intro w'
        go_simp
        with_reducible rfl
       rotate_left
       ·simp only [Act.put, List.setIfInBounds_toArray, List.set_cons_zero, List.set_cons_succ, i64_w, i32_w]
        rfl
       refine take_ (i := 6) (N := some 31) (v := ?_) (a' := ?_) #[true, true, true, true, true, true, true, true, false, false, false, false, false] rfl rfl (by kernel_rfl) (fun _ _ _ h => h) (Or.inl ⟨by rfl, ?_⟩) hHeld ?_ ?_
       rotate_left
       ·intro w' s0
        go_simp
        with_reducible rfl
       rotate_left
       ·simp only [Act.put, List.setIfInBounds_toArray, List.set_cons_zero, List.set_cons_succ, i64_w, i32_w]
        rfl
       refine one_ (i := 8) (N := some 33) #[true, true, true, true, true, true, true, true, true, false, false, false, false] rfl rfl (by kernel_rfl) (by decide) (fun K hK => ?_)
       refine gs_ Try.func79 #[.pointer (some ⟨g, 0, none⟩), .int .i64 4] ?_; with_reducible refine (spec_l2Rows.calls kj3 g s0_0 t317 t318 4 t321 t324 t325 w0 _ ?side1 ?side2 A27.out).mono ?_
       (case side1 => repeat (first | (with_reducible first | exact HI0.out | apply IsS93.alloc | apply IsS93.drewN | apply IsS93.drew | apply IsS93.set_1 | apply IsS93.set_2) | exact HI0.out)); (case side2 => with_reducible repeat (first | exact HB.out | apply cA | apply cN | apply cD | refine below_set ?_ (IsS93.ge HI0.out))); rintro e w33 ⟨v322, rfl, ho0, hi, hb, hk⟩; refine ⟨_, rfl, ?_⟩; obtain ⟨AA, cA_, eA_⟩ := Kd.R_slice ho0; subst eA_; have q0_ := kp (Kd.H_keep (Kd.H_widen HH.out) hk (fun _ h_ => h_.2)); have q1_ := kp (Kd.R_keep HG.out hk (fun k_ h_ => (HKo.out k_ h_).1.2)); have q2_ := kp (Kd.R_reads' ho0); have q3_ := kp (KeepBut.trans HK.out hk (.inl rfl)); have q4_ := kp (hb); have q5_ := kp (hi); have q6_ := kp ((hk.1 : w32.heap.size ≤ w33.heap.size)); clear HH HG HK HB HI0; have HH := q0_; have HG := q1_; have HC := q2_; have HK := q3_; have HB := q4_; have HI0 := q5_; have HZ := q6_; clear q0_ q1_ q2_ q3_ q4_ q5_ q6_; clear ho0 hi hb hk; refine hK.out _ _ (H_cell39 HH.out QI.out.1 QI.out.2 rfl) (fun hHeld => ?_); clear hK K; refine nm_ (some 33) ?_
       refine one_ (i := 9) (N := some 34) #[true, true, true, true, true, true, true, true, true, true, false, false, false] rfl rfl (by kernel_rfl) (by decide) (fun K hK => ?_)
       refine Kd.R_append_rows_step k42 (w0 := w33) w.heap.size (by rfl) (.tmp 31) (.tmp 33) 26 42 (.agg #[(.int .i64 0), (.int .i64 0), (.int .i64 0)]) 24 rfl Try.underlying26 info42 rfl (by decide) (by omega) (.slice AE ((rd_T39 t307 t313).f0).length cE_) ((rd_T39 t307 t313).f0) t321 _ _ _ (fun k_ => oki k_ ∨ (w.heap.size ≤ k_ ∧ k_ ≠ g) ∧ w32.heap.size ≤ k_) (fun _ => False) rfl rfl ?aO ?aR (fun _ _ h => h) (fun _ h => h.elim) ?aF (Below.refl _ _) ?aS ?aL ?_
       (case aR => exact HC.out.2.2); (case aO => exact Kd.R_mono HG.out (fun k_ hk_ => .inl hk_)); (case aF => exact (fun k_ hk_ => .inr ⟨⟨Nat.le_trans (keep_size (w := w) (g := g) (row := none) HK.out) hk_, IsS93.fresh HI0.out k_ hk_⟩, Nat.le_trans HZ.out hk_⟩)); (case aS => exact (keep_size (w := w) (g := g) (row := none) HK.out)); (case aL => have := CA.out; omega); intro vB wB ho hb hg hat; obtain ⟨yP, hyP⟩ : ∃ y_ : List (S42), y_ = (rd_T39 t307 t313).f0 ++ t321 := ⟨_, rfl⟩; rw [← hyP] at ho; have NyP := kp hyP; clear hyP; have q0_ := kp (IsS93.grown HI0.out hg (IsS93.own_ne HI0.out HG.out (by decide))); have q1_ := kp (below_weaken HB.out HL.out hb); have q2_ := kp (KeepBut.trans HK.out (KeepBut.of_grown hg g) (Kd.R_base2 HG.out)); have q3_ := kp (Kd.H_grown HH.out hg (fun k_ hk_ => .inl (HG.out.1 k_ hk_))); have q4_ := kp (ho); clear HI0 HB HK HH HG; have HI0 := q0_; have HB := q1_; have HK := q2_; have HH := q3_; have HG := q4_; clear q0_ q1_ q2_ q3_ q4_; clear ho hb hg hat HC HZ HKo; obtain ⟨AB, cB_, eB_⟩ := Kd.R_slice HG.out; subst eB_; refine hK.out _ _ (H_cell39 HH.out QI.out.1 QI.out.2 rfl) (fun hHeld => ?_); clear hK K; refine nm_ (some 34) ?_
       refine pure_ (i := 10) (N := some 35) (v := ?_) (a' := ?_) #[true, true, true, true, true, true, true, true, true, true, true, false, false] rfl rfl (by kernel_rfl) (fun _ _ _ h => h) (Or.inl ⟨by rfl, ?_⟩) ?_ ?_
       rotate_left
       ·intro w'
        go_simp
        with_reducible rfl
       rotate_left
       ·simp only [Act.put, List.setIfInBounds_toArray, List.set_cons_zero, List.set_cons_succ, i64_w, i32_w]
        rfl
       refine pure_ (i := 11) (N := some 36) (v := ?_) (a' := ?_) #[true, true, true, true, true, true, true, true, true, true, true, true, false] rfl rfl (by kernel_rfl) (fun _ _ _ h => h) (Or.inl ⟨by rfl, ?_⟩) ?_ ?_
       rotate_left
       ·intro w'
        go_simp
        with_reducible rfl
       rotate_left
       ·simp only [Act.put, List.setIfInBounds_toArray, List.set_cons_zero, List.set_cons_succ, i64_w, i32_w]
        rfl
       have hs_ : wB.cell? ⟨go28, (t313 : Int).toNat, none⟩ = some (.slice AE ((rd_T39 t307 t313).f0).length cE_) := (H_cell39 HH.out QI.out.1 QI.out.2 rfl); have hf_ : wB.frozen? ⟨go28, (t313 : Int).toNat, none⟩ = false := H_frozen39 HH.out QI.out.1 QI.out.2; have HP := seg39 HH.out QI.out.1 QI.out.2 (x' := (⟨yP⟩ : S39)) (k39_mkM _ _ _ (⟨yP⟩ : S39) HG.out) (fun _ hk => hk); obtain ⟨vS, hvS⟩ : ∃ v_ : Value, v_ = .slice AB yP.length cB_ := ⟨_, rfl⟩; rw [← hvS] at HP; rw [NyP.out, ← Ny326.out] at HP; rw [hvS] at HP; have HQ34 := kp (Kd.S_N HP); clear HP HH HG hvS
       refine last_ (i := 12) (N := none) #[true, true, true, true, true, true, true, true, true, true, true, true, true] rfl rfl (by kernel_rfl) (by decide) (fun K hK => ?_)
       refine skip_ (w1 := ?_) (by rfl) rfl ?_ ?_
       rotate_left
       ·go_simp
        rfl
       refine hK.out _ _ ?_; clear hK K; refine done_ (by kernel_rfl) ?_
       try go_wp2
       go_ret; exact ⟨_, er, by (with_reducible repeat (first | apply Kd.N_alloc | apply Kd.N_drewN | apply Kd.N_drew)); exact Kd.N_mono HQ34.out (fun _ hk => hk.1), by repeat (first | (with_reducible first | exact HI0.out | apply IsS93.alloc | apply IsS93.drewN | apply IsS93.drew | apply IsS93.set_1 | apply IsS93.set_2 | refine IsS93.far ?_ HN0_go28.out _) | exact HI0.out), by with_reducible repeat (first | exact HB.out | apply cA | apply cN | apply cD | refine below_set ?_ (Nat.le_trans HL.out GB28.out) | refine below_set ?_ (IsS93.ge HI0.out)), by repeat (first | (with_reducible first | exact HK.out | apply KeepBut.set_ | apply keep_drewN | apply keep_drew | apply keep_alloc | refine keep_far ?_ GB28.out _) | exact HK.out)⟩
      ·rw [if_neg c26] at H; exact absurd H (by simp)
     ·rw [if_neg c25] at H; exact absurd H (by simp)
   ·replace c13 := Bool.eq_false_iff.mpr c13; subst c13; replace HO_3 := kp (Kd.S_N HO_3.out); have H1 : (some (t307, x1001_3, x1002_3)) = some (r1, r2, r3) := by rw [if_neg (show ¬ (false = true) by decide)] at H; exact H
    clear H; have H := H1; clear H1; simp only [Option.some.injEq, Prod.mk.injEq] at H; obtain ⟨rfl, rfl, rfl⟩ := H; go_wp2; go_ret; exact ⟨_, er, by (with_reducible repeat (first | apply Kd.N_alloc | apply Kd.N_drewN | apply Kd.N_drew)); exact Kd.N_mono HO_3.out (fun _ hk => hk.1), by repeat (first | (with_reducible first | exact HI0.out | apply IsS93.alloc | apply IsS93.drewN | apply IsS93.drew | apply IsS93.set_1 | apply IsS93.set_2) | exact HI0.out), by with_reducible repeat (first | exact HB.out | apply cA | apply cN | apply cD | refine below_set ?_ (IsS93.ge HI0.out)), by repeat (first | (with_reducible first | exact HK.out | apply KeepBut.set_ | apply keep_drewN | apply keep_drew | apply keep_alloc) | exact HK.out)⟩
def spec_DrawFormatPages.f (k : Nat) (l0 : List Int) : Option ((List (S39))) := (spec_l1New.f k l0).bind fun bt327 => ((spec_l4Draw.f k bt327.1 bt327.2.1 bt327.2.2).bind fun bt331 => (some bt331.1))
theorem spec_DrawFormatPages.mono : ∀ a0 k, LeO (spec_DrawFormatPages.f k a0) (spec_DrawFormatPages.f (k + 1) a0) := by
 intro a0 k
 unfold spec_DrawFormatPages.f
 repeat' first
   | (with_reducible exact spec_l1New.mono _ _)
   | (with_reducible exact spec_l4Draw.mono _ _ _ _)
   | (with_reducible exact LeO.refl _)
   | (with_reducible exact LeO.none _)
   | (with_reducible refine LeO.ite ?_ ?_)
   | (with_reducible refine LeO.bind ?_ (fun _ => ?_))
set_option maxHeartbeats 8000000 in
set_option maxRecDepth 100000 in
theorem spec_DrawFormatPages.calls (k : Nat) (A0 : Option Addr) (c0 : Nat) (l0 : List Int) (r : List (S39)) (w : World) (hr0 : Kd.C (Kd.int .u8) w A0 l0.length l0) (hc0 : l0.length ≤ c0) (h : spec_DrawFormatPages.f k l0 = some r) :
  Calls Try.prog 21 #[.slice A0 l0.length c0] w fun e w' => ∃ v0_ : Value, e = .returned (v0_) ∧ Kd.N k39 39 w' w.heap.size (fun k_ => (w.heap.size ≤ k_)) v0_ r ∧ Below w.heap.size w w' := by
 have HR0 := kp hr0
 have HC0 := kp hc0
 clear hr0 hc0
 have HB := kp (Below.refl w.heap.size w)
 have H : ((spec_l1New.f k l0).bind fun bt327 => ((spec_l4Draw.f k bt327.1 bt327.2.1 bt327.2.2).bind fun bt331 => (some bt331.1))) = some r := h
 clear h
 replace H := Option.bind_eq_some_iff.mp H
 obtain ⟨⟨t327, t328, t329⟩, A20, H⟩ := H
 replace H : ((spec_l4Draw.f k t327 t328 t329).bind fun bt331 => (some bt331.1)) = some r := H
 have A2 := kp A20
 clear A20
 replace H := Option.bind_eq_some_iff.mp H
 obtain ⟨⟨t331, t334, t335⟩, A30, H⟩ := H
 replace H : (some t331) = some r := H
 have A3 := kp A30
 clear A30
 obtain rfl := Option.some.inj H
 go_enter Try.func21, Try.ntmps21
 go_wp2_with (first | ((with_reducible refine gate_callee (f := 50) rfl ?_); refine gl_ 4 Try.func50 #[.slice A0 l0.length c0] ?_; (with_reducible refine (spec_l1New.calls k _ _ l0 t327 t328 t329 w _ ?side1 ?side2 ?side3 A2.out).mono ?_); (case side1 => with_reducible repeat (first | exact HB.out | apply cA | apply cN | apply cD)); (case side2 => exact HR0.out); (case side3 => exact HC0.out); rintro e w4 ⟨g330, rfl, hi, hb, hb2⟩; refine ⟨_, rfl, ?_⟩; replace HB := kp (hb); have HI330 := kp (hi); (try clear hb); (try clear hb2); (try clear hi)) | ((with_reducible refine gate_callee (f := 57) rfl ?_); refine gl_ 5 Try.func57 #[.pointer (some ⟨g330, 0, none⟩)] ?_; (with_reducible refine (spec_l4Draw.calls k g330 t327 t328 t329 t331 t334 t335 w _ ?side1 ?side2 A3.out).mono ?_); (case side1 => repeat (first | (with_reducible first | exact HI330.out | apply IsS93.alloc | apply IsS93.drewN | apply IsS93.drew | apply IsS93.set_1 | apply IsS93.set_2) | exact HI330.out)); (case side2 => with_reducible repeat (first | exact HB.out | apply cA | apply cN | apply cD | refine below_set ?_ (IsS93.ge HI330.out))); rintro e w5 ⟨v332, rfl, ho0, hi, hb, hk⟩; refine ⟨_, rfl, ?_⟩; have HO333 := kp (Kd.N_lower (Kd.N_mono (ok' := fun k_ => (w.heap.size ≤ k_) ∧ k_ ≠ g330) ho0 (fun k_ hk_ => ⟨(Nat.le_trans (below_size (by with_reducible repeat (first | exact HB.out | apply cA | apply cN | apply cD | refine below_set ?_ (IsS93.ge HI330.out)))) hk_), (IsS93.fresh (by repeat (first | (with_reducible first | exact HI330.out | apply IsS93.alloc | apply IsS93.drewN | apply IsS93.drew | apply IsS93.set_1 | apply IsS93.set_2) | exact HI330.out)) k_ hk_)⟩)) (below_size (by with_reducible repeat (first | exact HB.out | apply cA | apply cN | apply cD | refine below_set ?_ (IsS93.ge HI330.out))))); replace HB := kp (hb); replace HI330 := kp (hi); (try clear hb); (try clear hk); (try clear hi); (try clear ho0)))
 go_ret
 exact ⟨_, er, by (with_reducible repeat (first | apply Kd.N_alloc | apply Kd.N_drewN | apply Kd.N_drew)); exact Kd.N_mono HO333.out (fun _ hk => hk.1), by with_reducible repeat (first | exact HB.out | apply cA | apply cN | apply cD | refine below_set ?_ (IsS93.ge HI330.out))⟩
def spec_l4Pages.l0 : Nat → List (S39) → Int → Option (Bool)
 | 0, _, _ => none
 | k + 1, x0, x3 => if x3 < (x0.length : Int) then (if 0 ≤ x3 then ((spec_IsValidPage.f k ((rd_T39 x0 x3).f0)).bind fun t337 => (if t337 = true then (spec_l4Pages.l0 k x0 (wrap64 (x3 + 1))) else (some false))) else (none)) else (some true)
def spec_l4Pages.f (k : Nat) (l0 : List (S39)) : Option (Bool) := spec_l4Pages.l0 k l0 0
theorem spec_l4Pages.mono_l : ∀ k, (∀ y0 y1, LeO (spec_l4Pages.l0 k y0 y1) (spec_l4Pages.l0 (k + 1) y0 y1))
 | 0 => fun _ _ r h => by simp [spec_l4Pages.l0] at h
 | k + 1 => by
  have ih0 := spec_l4Pages.mono_l k
  ·intro y0 y1
   unfold spec_l4Pages.l0
   repeat' first
   | (with_reducible exact ih0 _ _)
   | (with_reducible exact spec_IsValidPage.mono _ _)
   | (with_reducible exact LeO.refl _)
   | (with_reducible exact LeO.none _)
   | (with_reducible refine LeO.ite ?_ ?_)
   | (with_reducible refine LeO.bind ?_ (fun _ => ?_))
theorem spec_l4Pages.mono : ∀ a0 k, LeO (spec_l4Pages.f k a0) (spec_l4Pages.f (k + 1) a0) := by
 intro a0 k
 have ih0 := spec_l4Pages.mono_l k
 unfold spec_l4Pages.f
 repeat' first
   | (with_reducible exact ih0 _ _)
   | (with_reducible exact spec_IsValidPage.mono _ _)
   | (with_reducible exact LeO.refl _)
   | (with_reducible exact LeO.none _)
   | (with_reducible refine LeO.ite ?_ ?_)
   | (with_reducible refine LeO.bind ?_ (fun _ => ?_))
set_option maxHeartbeats 8000000 in
set_option maxRecDepth 100000 in
theorem spec_l4Pages.calls (k : Nat) (A0 : Option Addr) (c0 : Nat) (l0 : List (S39)) (r : Bool) (w : World) (hr0 : Kd.C k39 w A0 l0.length l0) (hc0 : l0.length ≤ c0) (h : spec_l4Pages.f k l0 = some r) :
  Calls Try.prog 64 #[.slice A0 l0.length c0] w fun e w' => e = .returned (.bool r) ∧ Below w.heap.size w w' := by
 have hu39 := Try.underlying39
 have HR0 := kp hr0
 have HC0 := kp hc0
 clear hr0 hc0
 have HB := kp (Below.refl w.heap.size w)
 have H : (spec_l4Pages.l0 k l0 0) = some r := h
 clear h
 have H' := kp H
 clear H
 go_enter Try.func64, Try.ntmps64
 go_wp2
 go_loopg [3] k (fun kq v3 w' => ∃ (x3_1 : Int), v3 = .int .i64 x3_1 ∧ Aside0 (spec_l4Pages.l0 kq l0 x3_1 = some r) ∧ Aside0 (kq ≤ k) ∧ Aside0 (Below w.heap.size w w'))
 case atStart => exact ⟨(0), (by first | rfl | (simp; done) | (simp [*]; done)), H', ⟨Nat.le_refl _⟩, ⟨bb⟩⟩
 case round =>
  clear H'; obtain ⟨x3_1, rfl, HA, HK1, HB⟩ := hrel
  cases gk with
  | zero => exact absurd HA.out (by simp [spec_l4Pages.l0])
  | succ k1 =>
   have H := HA.out; clear HA; simp only [spec_l4Pages.l0] at H
   by_cases c2 : x3_1 < (l0.length : Int)
   ·rw [if_pos c2] at H; have c2b0 : decide (x3_1 < (l0.length : Int)) = true := decide_eq_true c2; clear c2
    by_cases c3 : 0 ≤ x3_1
    ·rw [if_pos c3] at H; have c3b0 : decide (0 ≤ x3_1) = true := decide_eq_true c3; clear c3; replace H := Option.bind_eq_some_iff.mp H; obtain ⟨t337, A40, H⟩ := H; replace H : (if t337 = true then (spec_l4Pages.l0 k1 l0 (wrap64 (x3_1 + 1))) else (some false)) = some r := H; have A4 := kp A40; clear A40
     by_cases c5 : t337 = true
     ·subst c5; have H1 : (spec_l4Pages.l0 k1 l0 (wrap64 (x3_1 + 1))) = some r := by rw [if_pos rfl] at H; exact H
      clear H; have H := H1; clear H1; have H' := kp H; clear H; have p336 : 0 ≤ (x3_1 : Int) := dt; have q336 : x3_1 < (l0.length : Int) := dt; obtain ⟨ad336, A336_0, c336_0, e336, hx336_0, hl336_0, hi336_0⟩ := at_T39 HR0.out x3_1 p336 q336; cases e336; replace hx336_0 := kc HB.out hx336_0; have HR336_0 := kp hi336_0; have HC336_0 := kp hl336_0; clear hi336_0 hl336_0; replace p336 := eq_true p336; replace q336 := eq_true q336
      go_wp2_with (first | ((with_reducible refine gate_callee (f := 19) rfl ?_); refine gl_ 14 Try.func19 #[.agg #[.slice A336_0 ((rd_T39 l0 x3_1).f0).length c336_0]] ?_; (with_reducible refine (spec_IsValidPage.calls k1 _ _ ((rd_T39 l0 x3_1).f0) true _ ?side1 ?side2 A4.out).mono ?_); (case side1 => exact cc HR336_0.out); (case side2 => exact HC336_0.out); rintro e w6 ⟨rfl, hb⟩; refine ⟨_, rfl, ?_⟩; replace HB := kp (below_step bb hb); (try clear hb)))
      go_roundg k1
      case measure => have := HK1.out; omega
      case rel => exact ⟨(wrap64 (x3_1 + 1)), (by first | rfl | (simp; done) | (simp [*]; done)), H', ⟨by have := HK1.out; omega⟩, ⟨bb⟩⟩
     ·replace c5 := Bool.eq_false_iff.mpr c5; subst c5; have H1 : (some false) = some r := by rw [if_neg (show ¬ (false = true) by decide)] at H; exact H
      clear H; have H := H1; clear H1; obtain rfl := Option.some.inj H; have p336 : 0 ≤ (x3_1 : Int) := dt; have q336 : x3_1 < (l0.length : Int) := dt; obtain ⟨ad336, A336_0, c336_0, e336, hx336_0, hl336_0, hi336_0⟩ := at_T39 HR0.out x3_1 p336 q336; cases e336; replace hx336_0 := kc HB.out hx336_0; have HR336_0 := kp hi336_0; have HC336_0 := kp hl336_0; clear hi336_0 hl336_0; replace p336 := eq_true p336; replace q336 := eq_true q336
      go_wp2_with (first | ((with_reducible refine gate_callee (f := 19) rfl ?_); refine gl_ 14 Try.func19 #[.agg #[.slice A336_0 ((rd_T39 l0 x3_1).f0).length c336_0]] ?_; (with_reducible refine (spec_IsValidPage.calls k1 _ _ ((rd_T39 l0 x3_1).f0) false _ ?side1 ?side2 A4.out).mono ?_); (case side1 => exact cc HR336_0.out); (case side2 => exact HC336_0.out); rintro e w7 ⟨rfl, hb⟩; refine ⟨_, rfl, ?_⟩; replace HB := kp (below_step bb hb); (try clear hb)))
      go_ret; exact ⟨er, bb⟩
    ·rw [if_neg c3] at H; exact absurd H (by simp)
   ·rw [if_neg c2] at H; have c2b0 : decide (x3_1 < (l0.length : Int)) = false := decide_eq_false c2; clear c2; obtain rfl := Option.some.inj H; go_wp2; go_ret; exact ⟨er, bb⟩
def spec_FormatInt.l0 : Nat → Int → ByteArray → Bool → Option (ByteArray)
 | 0, _, _, _ => none
 | k + 1, x0, x3, x4 => if x0 = 0 then (if x4 = true then (if 1 + x3.size ≤ 9223372036854775807 then (some ((⟨#[45]⟩ : ByteArray) ++ x3)) else (none)) else (some x3)) else (if (Int.tmod x0 10) < 0 then ((some (([(wrap64 (48 + (wrap64 (-(Int.tmod x0 10))))) % 256] : List Int) : List Int)).bind fun y338 => (if (strOfNums y338).size + x3.size ≤ 9223372036854775807 then (spec_FormatInt.l0 k (wrap64 (Int.tdiv x0 10)) ((strOfNums y338) ++ x3) x4) else (none))) else ((some (([(wrap64 (48 + (Int.tmod x0 10))) % 256] : List Int) : List Int)).bind fun y341 => (if (strOfNums y341).size + x3.size ≤ 9223372036854775807 then (spec_FormatInt.l0 k (wrap64 (Int.tdiv x0 10)) ((strOfNums y341) ++ x3) x4) else (none))))
def spec_FormatInt.f (k : Nat) (a0 : Int) : Option (ByteArray) := if a0 = 0 then (some (⟨#[48]⟩ : ByteArray)) else (spec_FormatInt.l0 k a0 (⟨#[]⟩ : ByteArray) (decide (a0 < 0)))
theorem spec_FormatInt.mono_l : ∀ k, (∀ y0 y1 y2, LeO (spec_FormatInt.l0 k y0 y1 y2) (spec_FormatInt.l0 (k + 1) y0 y1 y2))
 | 0 => fun _ _ _ r h => by simp [spec_FormatInt.l0] at h
 | k + 1 => by
  have ih0 := spec_FormatInt.mono_l k
  ·intro y0 y1 y2
   unfold spec_FormatInt.l0
   repeat' first
   | (with_reducible exact ih0 _ _ _)
   | (with_reducible exact LeO.refl _)
   | (with_reducible exact LeO.none _)
   | (with_reducible refine LeO.ite ?_ ?_)
   | (with_reducible refine LeO.bind ?_ (fun _ => ?_))
theorem spec_FormatInt.mono : ∀ a0 k, LeO (spec_FormatInt.f k a0) (spec_FormatInt.f (k + 1) a0) := by
 intro a0 k
 have ih0 := spec_FormatInt.mono_l k
 unfold spec_FormatInt.f
 repeat' first
   | (with_reducible exact ih0 _ _ _)
   | (with_reducible exact LeO.refl _)
   | (with_reducible exact LeO.none _)
   | (with_reducible refine LeO.ite ?_ ?_)
   | (with_reducible refine LeO.bind ?_ (fun _ => ?_))
set_option maxHeartbeats 8000000 in
set_option maxRecDepth 100000 in
theorem spec_FormatInt.calls (k : Nat) (a0 : Int) (r : ByteArray) (w : World) (h : spec_FormatInt.f k a0 = some r) :
  Calls Try.prog 103 #[.int .i64 a0] w fun e w' => e = .returned (.string r) ∧ Below w.heap.size w w' := by
 have HB := kp (Below.refl w.heap.size w)
 have H : (if a0 = 0 then (some (⟨#[48]⟩ : ByteArray)) else (spec_FormatInt.l0 k a0 (⟨#[]⟩ : ByteArray) (decide (a0 < 0)))) = some r := h
 clear h
 by_cases c2 : a0 = 0
 ·rw [if_pos c2] at H; have c2b0 : (a0 == 0) = true := beq_iff_eq.mpr c2; have c2b1 : (a0 != 0) = false := bne_eq_false_iff_eq.mpr c2; clear c2; obtain rfl := Option.some.inj H
  go_enter Try.func103, Try.ntmps103
  go_wp2; go_ret; exact ⟨er, bb⟩
 ·rw [if_neg c2] at H; have c2b0 : (a0 == 0) = false := beq_eq_false_iff_ne.mpr c2; have c2b1 : (a0 != 0) = true := bne_iff_ne.mpr c2; have hz9 : ∀ z, decide (a0 < 0) = z → (spec_FormatInt.l0 k a0 (⟨#[]⟩ : ByteArray) z) = some r := fun z hz => by rw [← hz]; exact H
  clear H
  by_cases c9 : a0 < 0
  ·have c9b : decide (a0 < 0) = true := decide_eq_true c9; have H := hz9 true c9b; clear hz9; clear c9; have H' := kp H; clear H
   go_enter Try.func103, Try.ntmps103
   go_wp2
   go_loopg [0, 3] k (fun kq v0 v3 w' => ∃ (x0_1 : Int) (x3_1 : ByteArray), v0 = .int .i64 x0_1 ∧ v3 = .string x3_1 ∧ Aside0 (spec_FormatInt.l0 kq x0_1 x3_1 (true) = some r) ∧ Aside0 (kq ≤ k) ∧ Aside0 (Below w.heap.size w w'))
   case atStart => exact ⟨(a0), ((⟨#[]⟩ : ByteArray)), (by first | rfl | (simp; done) | (simp [*]; done)), (by first | rfl | (simp; done) | (simp [*]; done)), H', ⟨Nat.le_refl _⟩, ⟨bb⟩⟩
   case round =>
    clear H'
    try clear c2
    try clear c2b0
    try clear c2b1
    obtain ⟨x0_1, x3_1, rfl, rfl, HA, HK1, HB⟩ := hrel
    cases gk with
    | zero => exact absurd HA.out (by simp [spec_FormatInt.l0])
    | succ k1 =>
     have H := HA.out; clear HA; simp only [spec_FormatInt.l0] at H
     by_cases c3 : x0_1 = 0
     ·rw [if_pos c3] at H; have c3b0 : (x0_1 == 0) = true := beq_iff_eq.mpr c3; have c3b1 : (x0_1 != 0) = false := bne_eq_false_iff_eq.mpr c3; clear c3
      first | rw [if_pos (show (true = true) from rfl)] at H | rw [if_pos trivial] at H
      by_cases c5 : 1 + x3_1.size ≤ 9223372036854775807
      ·rw [if_pos c5] at H; have c5b0 := eq_true c5; have c5b1 : decide (1 + x3_1.size ≤ 9223372036854775807) = true := decide_eq_true c5
       try have c5b2 : (9223372036854775807 < 1 + x3_1.size) = False := eq_false (Nat.not_lt.2 c5)
       obtain rfl := Option.some.inj H; go_wp2; go_ret; exact ⟨er, bb⟩
      ·rw [if_neg c5] at H; exact absurd H (by simp)
     ·rw [if_neg c3] at H; have c3b0 : (x0_1 == 0) = false := beq_eq_false_iff_ne.mpr c3; have c3b1 : (x0_1 != 0) = true := bne_iff_ne.mpr c3
      by_cases c6 : (Int.tmod x0_1 10) < 0
      ·rw [if_pos c6] at H; have c6b0 : decide ((Int.tmod x0_1 10) < 0) = true := decide_eq_true c6; clear c6; obtain ⟨y338, hy338⟩ : ∃ y_ : List Int, y_ = (([(wrap64 (48 + (wrap64 (-(Int.tmod x0_1 10))))) % 256] : List Int)) := ⟨_, rfl⟩; replace H : (if (strOfNums y338).size + x3_1.size ≤ 9223372036854775807 then (spec_FormatInt.l0 k1 (wrap64 (Int.tdiv x0_1 10)) ((strOfNums y338) ++ x3_1) (true)) else (none)) = some r := by first | (rw [hy338]; with_reducible exact H) | (have H2_ := (Option.bind_some _ _).symm.trans H; rw [hy338]; with_reducible exact H2_) | (have H2_ := (Option.bind_some _ _).symm.trans H; with_reducible exact H2_) | with_reducible exact H | (rw [hy338]; exact H) | exact H
       have Ny338 := kp hy338; clear hy338
       by_cases c7 : (strOfNums y338).size + x3_1.size ≤ 9223372036854775807
       ·rw [if_pos c7] at H; have c7b0 := eq_true c7; have c7b1 : decide ((strOfNums y338).size + x3_1.size ≤ 9223372036854775807) = true := decide_eq_true c7
        try have c7b2 : (9223372036854775807 < (strOfNums y338).size + x3_1.size) = False := eq_false (Nat.not_lt.2 c7)
        have H' := kp H; clear H
        go_wp2_with (first | ((with_reducible refine gate_dst (N := 21) rfl ?_); refine Kd.R_lit (Kd.int .u8) _ 5 ?hg (N := 21) ?hd (xs := ([(wrap64 (48 + (wrap64 (-(Int.tmod x0_1 10))))) % 256] : List Int)) (inner := [.int .u8 ((wrap64 (48 + (wrap64 (-(Int.tmod x0_1 10))))) % 256)]) (ok := fun _ => True) (okp := fun _ => True) ?hr ?hp (fun _ hk => hk) trivial (Below.refl _ _) (Nat.le_refl _) (by simp) ?_; (case hd => rfl); (case hg => rfl); (case hr => first | (go_simp; done) | (go_simp; rfl)); (case hp => exact (Reps.one (show Kd.M (Kd.int .u8) _ _ _ ((wrap64 (48 + (wrap64 (-(Int.tmod x0_1 10))))) % 256) [.int .u8 ((wrap64 (48 + (wrap64 (-(Int.tmod x0_1 10))))) % 256)] from rfl) (Reps.none _ _))); intro v339 w8 ho9 hb hg_ hnew_; clear hg_ hnew_; (first | rw [← Ny338.out] at ho9 | (simp only [Int.reduceToNat] at ho9; rw [← Ny338.out] at ho9)); have HO340 := kp (Kd.R_lower ho9 (below_size bb)); replace HB := kp (below_step bb hb); clear hb ho9; have hcv10 := own_string (P := Try.prog) Try.underlying33 Try.underlying5 Try.underlying9 (Kd.own_of_R HO340.out)))
        go_roundg k1
        case measure => have := HK1.out; omega
        case rel => exact ⟨(wrap64 (Int.tdiv x0_1 10)), ((strOfNums y338) ++ x3_1), (by first | rfl | (simp; done) | (simp [*]; done)), (by first | rfl | (simp; done) | (simp [*]; done)), H', ⟨by have := HK1.out; omega⟩, ⟨bb⟩⟩
       ·rw [if_neg c7] at H; exact absurd H (by simp)
      ·rw [if_neg c6] at H; have c6b0 : decide ((Int.tmod x0_1 10) < 0) = false := decide_eq_false c6; clear c6; obtain ⟨y341, hy341⟩ : ∃ y_ : List Int, y_ = (([(wrap64 (48 + (Int.tmod x0_1 10))) % 256] : List Int)) := ⟨_, rfl⟩; replace H : (if (strOfNums y341).size + x3_1.size ≤ 9223372036854775807 then (spec_FormatInt.l0 k1 (wrap64 (Int.tdiv x0_1 10)) ((strOfNums y341) ++ x3_1) (true)) else (none)) = some r := by first | (rw [hy341]; with_reducible exact H) | (have H2_ := (Option.bind_some _ _).symm.trans H; rw [hy341]; with_reducible exact H2_) | (have H2_ := (Option.bind_some _ _).symm.trans H; with_reducible exact H2_) | with_reducible exact H | (rw [hy341]; exact H) | exact H
       have Ny341 := kp hy341; clear hy341
       by_cases c11 : (strOfNums y341).size + x3_1.size ≤ 9223372036854775807
       ·rw [if_pos c11] at H; have c11b0 := eq_true c11; have c11b1 : decide ((strOfNums y341).size + x3_1.size ≤ 9223372036854775807) = true := decide_eq_true c11
        try have c11b2 : (9223372036854775807 < (strOfNums y341).size + x3_1.size) = False := eq_false (Nat.not_lt.2 c11)
        have H' := kp H; clear H
        go_wp2_with (first | ((with_reducible refine gate_dst (N := 21) rfl ?_); refine Kd.R_lit (Kd.int .u8) _ 5 ?hg (N := 21) ?hd (xs := ([(wrap64 (48 + (Int.tmod x0_1 10))) % 256] : List Int)) (inner := [.int .u8 ((wrap64 (48 + (Int.tmod x0_1 10))) % 256)]) (ok := fun _ => True) (okp := fun _ => True) ?hr ?hp (fun _ hk => hk) trivial (Below.refl _ _) (Nat.le_refl _) (by simp) ?_; (case hd => rfl); (case hg => rfl); (case hr => first | (go_simp; done) | (go_simp; rfl)); (case hp => exact (Reps.one (show Kd.M (Kd.int .u8) _ _ _ ((wrap64 (48 + (Int.tmod x0_1 10))) % 256) [.int .u8 ((wrap64 (48 + (Int.tmod x0_1 10))) % 256)] from rfl) (Reps.none _ _))); intro v342 w12 ho13 hb hg_ hnew_; clear hg_ hnew_; (first | rw [← Ny341.out] at ho13 | (simp only [Int.reduceToNat] at ho13; rw [← Ny341.out] at ho13)); have HO343 := kp (Kd.R_lower ho13 (below_size bb)); replace HB := kp (below_step bb hb); clear hb ho13; have hcv14 := own_string (P := Try.prog) Try.underlying33 Try.underlying5 Try.underlying9 (Kd.own_of_R HO343.out)))
        go_roundg k1
        case measure => have := HK1.out; omega
        case rel => exact ⟨(wrap64 (Int.tdiv x0_1 10)), ((strOfNums y341) ++ x3_1), (by first | rfl | (simp; done) | (simp [*]; done)), (by first | rfl | (simp; done) | (simp [*]; done)), H', ⟨by have := HK1.out; omega⟩, ⟨bb⟩⟩
       ·rw [if_neg c11] at H; exact absurd H (by simp)
  ·have c9b : decide (a0 < 0) = false := decide_eq_false c9; have H := hz9 false c9b; clear hz9; clear c9; have H' := kp H; clear H
   go_enter Try.func103, Try.ntmps103
   go_wp2
   go_loopg [0, 3] k (fun kq v0 v3 w' => ∃ (x0_1 : Int) (x3_1 : ByteArray), v0 = .int .i64 x0_1 ∧ v3 = .string x3_1 ∧ Aside0 (spec_FormatInt.l0 kq x0_1 x3_1 (false) = some r) ∧ Aside0 (kq ≤ k) ∧ Aside0 (Below w.heap.size w w'))
   case atStart => exact ⟨(a0), ((⟨#[]⟩ : ByteArray)), (by first | rfl | (simp; done) | (simp [*]; done)), (by first | rfl | (simp; done) | (simp [*]; done)), H', ⟨Nat.le_refl _⟩, ⟨bb⟩⟩
   case round =>
    clear H'
    try clear c2
    try clear c2b0
    try clear c2b1
    obtain ⟨x0_1, x3_1, rfl, rfl, HA, HK1, HB⟩ := hrel
    cases gk with
    | zero => exact absurd HA.out (by simp [spec_FormatInt.l0])
    | succ k1 =>
     have H := HA.out; clear HA; simp only [spec_FormatInt.l0] at H
     by_cases c3 : x0_1 = 0
     ·rw [if_pos c3] at H; have c3b0 : (x0_1 == 0) = true := beq_iff_eq.mpr c3; have c3b1 : (x0_1 != 0) = false := bne_eq_false_iff_eq.mpr c3; clear c3
      first | rw [if_neg (show ¬ (false = true) by decide)] at H | rw [if_neg (show ¬ False from id)] at H
      obtain rfl := Option.some.inj H; go_wp2; go_ret; exact ⟨er, bb⟩
     ·rw [if_neg c3] at H; have c3b0 : (x0_1 == 0) = false := beq_eq_false_iff_ne.mpr c3; have c3b1 : (x0_1 != 0) = true := bne_iff_ne.mpr c3
      by_cases c6 : (Int.tmod x0_1 10) < 0
      ·rw [if_pos c6] at H; have c6b0 : decide ((Int.tmod x0_1 10) < 0) = true := decide_eq_true c6; clear c6; obtain ⟨y338, hy338⟩ : ∃ y_ : List Int, y_ = (([(wrap64 (48 + (wrap64 (-(Int.tmod x0_1 10))))) % 256] : List Int)) := ⟨_, rfl⟩; replace H : (if (strOfNums y338).size + x3_1.size ≤ 9223372036854775807 then (spec_FormatInt.l0 k1 (wrap64 (Int.tdiv x0_1 10)) ((strOfNums y338) ++ x3_1) (false)) else (none)) = some r := by first | (rw [hy338]; with_reducible exact H) | (have H2_ := (Option.bind_some _ _).symm.trans H; rw [hy338]; with_reducible exact H2_) | (have H2_ := (Option.bind_some _ _).symm.trans H; with_reducible exact H2_) | with_reducible exact H | (rw [hy338]; exact H) | exact H
       have Ny338 := kp hy338; clear hy338
       by_cases c7 : (strOfNums y338).size + x3_1.size ≤ 9223372036854775807
       ·rw [if_pos c7] at H; have c7b0 := eq_true c7; have c7b1 : decide ((strOfNums y338).size + x3_1.size ≤ 9223372036854775807) = true := decide_eq_true c7
        try have c7b2 : (9223372036854775807 < (strOfNums y338).size + x3_1.size) = False := eq_false (Nat.not_lt.2 c7)
        have H' := kp H; clear H
        go_wp2_with (first | ((with_reducible refine gate_dst (N := 21) rfl ?_); refine Kd.R_lit (Kd.int .u8) _ 5 ?hg (N := 21) ?hd (xs := ([(wrap64 (48 + (wrap64 (-(Int.tmod x0_1 10))))) % 256] : List Int)) (inner := [.int .u8 ((wrap64 (48 + (wrap64 (-(Int.tmod x0_1 10))))) % 256)]) (ok := fun _ => True) (okp := fun _ => True) ?hr ?hp (fun _ hk => hk) trivial (Below.refl _ _) (Nat.le_refl _) (by simp) ?_; (case hd => rfl); (case hg => rfl); (case hr => first | (go_simp; done) | (go_simp; rfl)); (case hp => exact (Reps.one (show Kd.M (Kd.int .u8) _ _ _ ((wrap64 (48 + (wrap64 (-(Int.tmod x0_1 10))))) % 256) [.int .u8 ((wrap64 (48 + (wrap64 (-(Int.tmod x0_1 10))))) % 256)] from rfl) (Reps.none _ _))); intro v339 w8 ho9 hb hg_ hnew_; clear hg_ hnew_; (first | rw [← Ny338.out] at ho9 | (simp only [Int.reduceToNat] at ho9; rw [← Ny338.out] at ho9)); have HO340 := kp (Kd.R_lower ho9 (below_size bb)); replace HB := kp (below_step bb hb); clear hb ho9; have hcv10 := own_string (P := Try.prog) Try.underlying33 Try.underlying5 Try.underlying9 (Kd.own_of_R HO340.out)))
        go_roundg k1
        case measure => have := HK1.out; omega
        case rel => exact ⟨(wrap64 (Int.tdiv x0_1 10)), ((strOfNums y338) ++ x3_1), (by first | rfl | (simp; done) | (simp [*]; done)), (by first | rfl | (simp; done) | (simp [*]; done)), H', ⟨by have := HK1.out; omega⟩, ⟨bb⟩⟩
       ·rw [if_neg c7] at H; exact absurd H (by simp)
      ·rw [if_neg c6] at H; have c6b0 : decide ((Int.tmod x0_1 10) < 0) = false := decide_eq_false c6; clear c6; obtain ⟨y341, hy341⟩ : ∃ y_ : List Int, y_ = (([(wrap64 (48 + (Int.tmod x0_1 10))) % 256] : List Int)) := ⟨_, rfl⟩; replace H : (if (strOfNums y341).size + x3_1.size ≤ 9223372036854775807 then (spec_FormatInt.l0 k1 (wrap64 (Int.tdiv x0_1 10)) ((strOfNums y341) ++ x3_1) (false)) else (none)) = some r := by first | (rw [hy341]; with_reducible exact H) | (have H2_ := (Option.bind_some _ _).symm.trans H; rw [hy341]; with_reducible exact H2_) | (have H2_ := (Option.bind_some _ _).symm.trans H; with_reducible exact H2_) | with_reducible exact H | (rw [hy341]; exact H) | exact H
       have Ny341 := kp hy341; clear hy341
       by_cases c11 : (strOfNums y341).size + x3_1.size ≤ 9223372036854775807
       ·rw [if_pos c11] at H; have c11b0 := eq_true c11; have c11b1 : decide ((strOfNums y341).size + x3_1.size ≤ 9223372036854775807) = true := decide_eq_true c11
        try have c11b2 : (9223372036854775807 < (strOfNums y341).size + x3_1.size) = False := eq_false (Nat.not_lt.2 c11)
        have H' := kp H; clear H
        go_wp2_with (first | ((with_reducible refine gate_dst (N := 21) rfl ?_); refine Kd.R_lit (Kd.int .u8) _ 5 ?hg (N := 21) ?hd (xs := ([(wrap64 (48 + (Int.tmod x0_1 10))) % 256] : List Int)) (inner := [.int .u8 ((wrap64 (48 + (Int.tmod x0_1 10))) % 256)]) (ok := fun _ => True) (okp := fun _ => True) ?hr ?hp (fun _ hk => hk) trivial (Below.refl _ _) (Nat.le_refl _) (by simp) ?_; (case hd => rfl); (case hg => rfl); (case hr => first | (go_simp; done) | (go_simp; rfl)); (case hp => exact (Reps.one (show Kd.M (Kd.int .u8) _ _ _ ((wrap64 (48 + (Int.tmod x0_1 10))) % 256) [.int .u8 ((wrap64 (48 + (Int.tmod x0_1 10))) % 256)] from rfl) (Reps.none _ _))); intro v342 w12 ho13 hb hg_ hnew_; clear hg_ hnew_; (first | rw [← Ny341.out] at ho13 | (simp only [Int.reduceToNat] at ho13; rw [← Ny341.out] at ho13)); have HO343 := kp (Kd.R_lower ho13 (below_size bb)); replace HB := kp (below_step bb hb); clear hb ho13; have hcv14 := own_string (P := Try.prog) Try.underlying33 Try.underlying5 Try.underlying9 (Kd.own_of_R HO343.out)))
        go_roundg k1
        case measure => have := HK1.out; omega
        case rel => exact ⟨(wrap64 (Int.tdiv x0_1 10)), ((strOfNums y341) ++ x3_1), (by first | rfl | (simp; done) | (simp [*]; done)), (by first | rfl | (simp; done) | (simp [*]; done)), H', ⟨by have := HK1.out; omega⟩, ⟨bb⟩⟩
       ·rw [if_neg c11] at H; exact absurd H (by simp)
end Go.Proofs.Ytljpfogplcdcjaa.PFnPagePacking
