/- Walks by hand of laws.markPageS, markFileS and markDisk; nothing is claimed here. -/
import Derived.Test.YtinniedbgfgclaaVQFnExactAppendPagex16
import Derived.Test.YtinniedbgfgclaaVQFnExactAppendPagex4
import Derived.Test.YtinniedbgfgclaaVPress
namespace Go.Proofs.Ytinniedbgfgclaa.PFnExactAppendPage
open Go.RowKit Go.Proofs.YtinniedbgfgclaaW.PrintWords Go.Proofs.YtinniedbgfgclaaW.PrintLast Go.Proofs.YtinniedbgfgclaaW.PrintMore Go.Proofs.Ytinniedbgfgclaa.Press
set_option linter.unusedVariables false
set_option linter.unusedSimpArgs false
def laws_markPageS.l0 : Nat → List (S39) → Int → Int → Option (Int × List (S39))
 | 0, _, _, _ => none
 | k + 1, x0, x1, x5 => if x5 < (x0.length : Int) then (if 0 ≤ x5 then ((laws_markRowS.f k ((rd_T39 x0 x5).f0) x1).bind fun bt => (laws_markPageS.l0 k (x0.set (x5 : Int).toNat (⟨bt.2⟩ : S39)) bt.1 (wrap64 (x5 + 1)))) else (none)) else (some (x1, x0))
def laws_markPageS.f (k : Nat) (l0 : List (S39)) (a1 : Int) : Option (Int × List (S39)) := laws_markPageS.l0 k l0 a1 0
theorem laws_markPageS.calls (k : Nat) (P0_ : Nat → Prop) (u9000_ : Value) (l0 : List (S39)) (a1 : Int) (r1 : Int) (r2 : List (S39)) (w0 w : World) (hB : Below w0.heap.size w0 w) (ho0 : Kd.S k39 39 w w0.heap.size P0_ u9000_ l0) (h : laws_markPageS.f k l0 a1 = some (r1, r2)) :
  Calls Try.prog 58 #[u9000_, .int .i64 a1] w fun e w' => e = .returned (.int .i64 r1) ∧ Kd.S k39 39 w' w0.heap.size P0_ u9000_ r2 ∧ Below w0.heap.size w0 w' ∧ Kept w w' P0_ := by
 have HO0 := kp ho0
 have HK := kp (Kept.refl w P0_)
 have HW0 := kp hB.size
 have HB := kp hB
 clear hB ho0
 have H : (laws_markPageS.l0 k l0 a1 0) = some (r1, r2) := h
 clear h
 have H' := kp H
 clear H
 go_enter Try.func58, Try.ntmps58
 go_wp2
 go_loopg [1, 5] k (fun kq v1 v5 w' => ∃ (x0_1 : List (S39)) (x1_1 : Int) (x5_1 : Int), v1 = .int .i64 x1_1 ∧ v5 = .int .i64 x5_1 ∧ Aside0 (laws_markPageS.l0 kq x0_1 x1_1 x5_1 = some (r1, r2)) ∧ Aside0 (kq ≤ k) ∧ Aside0 (Kd.S k39 39 w' w0.heap.size P0_ u9000_ x0_1) ∧ Aside0 (Kept w w' P0_) ∧ Aside0 (Below w0.heap.size w0 w'))
 case atStart => exact ⟨(l0), (a1), (0), (by first | rfl | (simp; done) | (simp [*]; done)), (by first | rfl | (simp; done) | (simp [*]; done)), H', ⟨Nat.le_refl _⟩, ⟨by (with_reducible repeat (first | apply Kd.S_alloc | apply Kd.S_drewN | apply Kd.S_drew)); exact HO0.out⟩, ⟨by repeat (first | (with_reducible first | exact HK.out | apply Kept.alloc | apply Kept.drewN | apply Kept.drew) | exact HK.out)⟩, ⟨bb⟩⟩
 case round =>
  clear H'; obtain ⟨x0_1, x1_1, x5_1, rfl, rfl, HA, HK1, HO_0, HK, HB⟩ := hrel
  cases gk with
  | zero => exact absurd HA.out (by simp [laws_markPageS.l0])
  | succ k1 =>
   have H := HA.out; clear HA; simp only [laws_markPageS.l0] at H
   by_cases c3 : x5_1 < (x0_1.length : Int)
   ·rw [if_pos c3] at H; have c3b0 : decide (x5_1 < (x0_1.length : Int)) = true := decide_eq_true c3
    by_cases c4 : 0 ≤ x5_1
    ·rw [if_pos c4] at H; have c4b0 : decide (0 ≤ x5_1) = true := decide_eq_true c4; replace H := Option.bind_eq_some_iff.mp H; obtain ⟨⟨t1, t2⟩, A5, H⟩ := H; have A5 := kp A5; have H' := kp H; clear H; obtain ⟨go5, co5, eo5, gb5, gl5, cl5, HG5⟩ := Kd.R_form (Kd.S_R HO_0.out) (by omega); subst eo5; obtain ⟨oki, c, hcl, hM, hcc, hfr, hoki, hH⟩ := Kd.S_elem HO_0.out z39 x5_1 c4 c3; obtain ⟨v0, rfl, g0⟩ := k39_openM hM; have hx5 : wr.cell? ⟨go5, (x5_1 : Int).toNat * 1, none⟩ = some v0 := hcc 0 _ rfl; have hf5 : wr.frozen? ⟨go5, (x5_1 : Int).toNat * 1, none⟩ = false := hfr 0; rw [Nat.mul_one] at hx5 hf5; have G0 := kp g0; have HH := kp hH; have HOK := kp hoki; clear g0 hM hcc hfr hcl hH hoki HG5 gb5 gl5; obtain ⟨A6, c6, e6⟩ := Kd.R_slice G0.out; subst e6; have e7 : (x0_1.getD (x5_1 : Int).toNat z39).f0.length = ((rd_T39 x0_1 x5_1).f0).length := rfl; rw [e7] at hx5; replace c4 := eq_true c4; replace c3 := eq_true c3
     go_wp2_with (first | ((with_reducible refine gate_callee (f := 54) rfl ?_); refine gl_ 18 Try.func54 #[.slice A6 ((rd_T39 x0_1 x5_1).f0).length c6, .int .i64 x1_1] ?_; (with_reducible refine (laws_markRowS.calls k1 oki (.slice A6 ((rd_T39 x0_1 x5_1).f0).length c6) ((rd_T39 x0_1 x5_1).f0) x1_1 t1 t2 w0 _ ?side1 ?side2 A5.out).mono ?_); (case side1 => with_reducible repeat (first | exact HB.out | apply below_alloc | apply pw_below_drewN | apply below_drew1)); (case side2 => (with_reducible repeat (first | apply Kd.R_alloc | apply Kd.R_drewN | apply Kd.R_drew)); exact G0.out); rintro e w57 ⟨rfl, hy0, hb, hkp⟩; refine ⟨_, rfl, ?_⟩; have hy1 := Kd.R_reok rfl hy0 (fun k_ e_ => G0.out.1 k_ e_); have n0_ := kp (Kd.H_back (Kd.H_kept (HH.out) hkp (fun k_ _ hn_ hs_ => hn_ hs_)) (k39_mkM _ _ _ (⟨t2⟩ : S39) hy1) (fun _ hk_ => hk_)); have n1_ := kp (HK.out.then_ hkp (fun k_ hk_ => Or.inl (HOK.out k_ hk_).1)); have n2_ := kp hb; clear HB HK HO_0 HH G0; have HO_0 := n0_; have HK := n1_; have HB := n2_; clear n0_ n1_ n2_ hb hkp hy0 hy1))
     go_roundg k1
     case measure => have := HK1.out; omega
     case rel => exact ⟨_, t1, (wrap64 (x5_1 + 1)), (by first | rfl | (simp; done) | (simp [*]; done)), (by first | rfl | (simp; done) | (simp [*]; done)), H', ⟨by have := HK1.out; omega⟩, ⟨by (with_reducible repeat (first | apply Kd.S_alloc | apply Kd.S_drewN | apply Kd.S_drew)); exact HO_0.out⟩, ⟨by repeat (first | (with_reducible first | exact HK.out | apply Kept.alloc | apply Kept.drewN | apply Kept.drew) | exact HK.out)⟩, ⟨bb⟩⟩
    ·rw [if_neg c4] at H; exact absurd H (by simp)
   ·rw [if_neg c3] at H; have c3b0 : decide (x5_1 < (x0_1.length : Int)) = false := decide_eq_false c3; clear c3; simp only [Option.some.injEq, Prod.mk.injEq] at H; obtain ⟨rfl, rfl⟩ := H; obtain ⟨Ao15, co15, eo15⟩ := Kd.R_slice (Kd.S_R HO_0.out); subst eo15; go_wp2; go_ret; exact ⟨er, by (with_reducible repeat (first | apply Kd.S_alloc | apply Kd.S_drewN | apply Kd.S_drew)); exact HO_0.out, bb, by repeat (first | (with_reducible first | exact HK.out | apply Kept.alloc | apply Kept.drewN | apply Kept.drew) | exact HK.out)⟩
end Go.Proofs.Ytinniedbgfgclaa.PFnExactAppendPage
namespace Go.Proofs.Ytinniedbgfgclaa.PFnExactAppendPage
open Go.RowKit Go.Proofs.YtinniedbgfgclaaW.PrintWords Go.Proofs.YtinniedbgfgclaaW.PrintLast Go.Proofs.YtinniedbgfgclaaW.PrintMore Go.Proofs.Ytinniedbgfgclaa.Press
set_option linter.unusedVariables false
set_option linter.unusedSimpArgs false
def laws_markFileS.l0 : Nat → List (S80) → Int → Int → Option (Int × List (S80))
 | 0, _, _, _ => none
 | k + 1, x0, x1, x5 => if x5 < (x0.length : Int) then (if 0 ≤ x5 then ((laws_markPageS.f k ((rd_T80 x0 x5).f1) (wrap64 (x1 + 1))).bind fun bt => (laws_markFileS.l0 k (x0.set (x5 : Int).toNat (⟨x1, bt.2, bt.1, (Int.tmod (wrap64 (bt.1 + 1)) 3) == 0⟩ : S80)) (wrap64 ((wrap64 (bt.1 + 1)) + 1)) (wrap64 (x5 + 1)))) else (none)) else (some (x1, x0))
def laws_markFileS.f (k : Nat) (l0 : List (S80)) (a1 : Int) : Option (Int × List (S80)) := laws_markFileS.l0 k l0 a1 0
set_option maxHeartbeats 4000000 in
set_option maxRecDepth 100000 in
theorem laws_markFileS.calls (k : Nat) (P0_ : Nat → Prop) (u9000_ : Value) (l0 : List (S80)) (a1 : Int) (r1 : Int) (r2 : List (S80)) (w0 w : World) (hB : Below w0.heap.size w0 w) (ho0 : Kd.S kD 80 w w0.heap.size P0_ u9000_ l0) (h : laws_markFileS.f k l0 a1 = some (r1, r2)) :
  Calls Try.prog 67 #[u9000_, .int .i64 a1] w fun e w' => e = .returned (.int .i64 r1) ∧ Kd.S kD 80 w' w0.heap.size P0_ u9000_ r2 ∧ Below w0.heap.size w0 w' ∧ Kept w w' P0_ := by
 have HO0 := kp ho0
 have HK := kp (Kept.refl w P0_)
 have HB := kp hB
 clear hB ho0
 have H' := kp (show (laws_markFileS.l0 k l0 a1 0) = some (r1, r2) from h)
 clear h
 go_enter Try.func67, Try.ntmps67
 go_wp2
 go_loopg [1, 5] k (fun kq v1 v5 w' => ∃ (x0_1 : List (S80)) (x1_1 : Int) (x5_1 : Int), v1 = .int .i64 x1_1 ∧ v5 = .int .i64 x5_1 ∧ Aside0 (laws_markFileS.l0 kq x0_1 x1_1 x5_1 = some (r1, r2)) ∧ Aside0 (kq ≤ k) ∧ Aside0 (Kd.S kD 80 w' w0.heap.size P0_ u9000_ x0_1) ∧ Aside0 (Kept w w' P0_) ∧ Aside0 (Below w0.heap.size w0 w'))
 case atStart => exact ⟨l0, a1, 0, rfl, rfl, H', ⟨Nat.le_refl _⟩, HO0, HK, HB⟩
 case round =>
  clear H' HO0 HK HB; obtain ⟨x0_1, x1_1, x5_1, rfl, rfl, HA, HK1, HO_0, HK, HB⟩ := hrel
  cases gk with
  | zero => exact absurd HA.out (by simp [laws_markFileS.l0])
  | succ k1 =>
   have H := HA.out; clear HA; simp only [laws_markFileS.l0] at H
   by_cases c3 : x5_1 < (x0_1.length : Int)
   ·rw [if_pos c3] at H; have c3b0 : decide (x5_1 < (x0_1.length : Int)) = true := decide_eq_true c3
    by_cases c4 : 0 ≤ x5_1
    ·rw [if_pos c4] at H; have c4b0 : decide (0 ≤ x5_1) = true := decide_eq_true c4; obtain ⟨⟨t1, t2⟩, A5, H⟩ := Option.bind_eq_some_iff.mp H; have A5 := kp A5; have H' := kp H; clear H; obtain ⟨go5, co5, eo5, gb5, gl5, cl5, HG5⟩ := Kd.R_form (Kd.S_R HO_0.out) (by omega); subst eo5; obtain ⟨oki, c, hcl, hM, hcc, hfr, hoki, hH⟩ := Kd.S_elem HO_0.out z80 x5_1 c4 c3; obtain ⟨v1, rfl, g1⟩ := kD_openM hM; obtain ⟨A6, c6, e6⟩ := Kd.S_slice g1; subst e6; have hx0 : wr.cell? ⟨go5, (x5_1 : Int).toNat * 4, none⟩ = some (.int .i64 ((rd_T80 x0_1 x5_1).f0)) := hcc 0 _ rfl; have hx1 : wr.cell? ⟨go5, (x5_1 : Int).toNat * 4 + 1, none⟩ = some (.slice A6 ((rd_T80 x0_1 x5_1).f1).length c6) := hcc 1 _ rfl; have hf0 : wr.frozen? ⟨go5, (x5_1 : Int).toNat * 4, none⟩ = false := hfr 0; have hne := fun k hk => (hoki k hk).2
     have HOK := kp (fun k hk => (hoki k hk).1); have C := kp (And.intro c4 c3); have GB := kp gb5; have h1 := (Kd.H_seg hH c4 c3 (seg := [.int .i64 x1_1]) (j := 0) (show 0 + 1 ≤ 4 from by decide) (by intro q hq; rw [List.mem_singleton.1 hq]; rfl)).1; have HH := kp (show Kd.H kD 80 (wr.setCell ⟨go5, (x5_1 : Int).toNat * 4, none⟩ (.int .i64 x1_1)) w0.heap.size P0_ (.slice (some ⟨go5, 0, none⟩) x0_1.length co5) x0_1 x5_1 oki [.int .i64 x1_1, .slice A6 ((rd_T80 x0_1 x5_1).f1).length c6, .int .i64 ((rd_T80 x0_1 x5_1).f2), .bool ((rd_T80 x0_1 x5_1).f3)] from h1); have G0 := kp (Kd.S_far (p := ⟨go5, (x5_1 : Int).toNat * 4, none⟩) g1 hne (.int .i64 x1_1)); have HB1 := kp (below_set HB.out gb5 : Below w0.heap.size w0 (wr.setCell ⟨go5, (x5_1 : Int).toNat * 4, none⟩ (.int .i64 x1_1))); have HPg := kp ((Kd.S_R HO_0.out).1 go5 rfl); have HK0 := kp (Kept.setCell HK.out (p := ⟨go5, (x5_1 : Int).toNat * 4, none⟩) (.inl HPg.out) (.int .i64 x1_1)); have HNE := kp hne; clear g1 hM hcc hfr hcl hH hoki HG5 gb5 gl5 cl5 h1 hne HK HB HO_0; replace c4 := eq_true c4; replace c3 := eq_true c3; have ew1 : IntKind.i64.wrap (x1_1 + 1) = wrap64 (x1_1 + 1) := i64_w _
     go_wp2_with fail
     (with_reducible refine (laws_markPageS.calls k1 oki _ ((rd_T80 x0_1 x5_1).f1) (wrap64 (x1_1 + 1)) t1 t2 w0 _ ?side1 ?side2 A5.out).mono ?_)
     case side1 => exact HB1.out
     case side2 => exact G0.out
     rintro e w57 ⟨rfl, hy0, hb, hkp⟩; have h2 := Kd.H_kept HH.out hkp (fun k_ _ hn_ hs_ => hn_ hs_); obtain ⟨hcc, hfr⟩ := Kd.H_at h2 C.out.1 C.out.2; have hx2 : w57.cell? ⟨go5, (x5_1 : Int).toNat * 4 + 2, none⟩ = some (.int .i64 ((rd_T80 x0_1 x5_1).f2)) := hcc 2 _ rfl; have hx3 : w57.cell? ⟨go5, (x5_1 : Int).toNat * 4 + 3, none⟩ = some (.bool ((rd_T80 x0_1 x5_1).f3)) := hcc 3 _ rfl; have hf2 : w57.frozen? ⟨go5, (x5_1 : Int).toNat * 4 + 2, none⟩ = false := hfr 2; have hf3 : w57.frozen? ⟨go5, (x5_1 : Int).toNat * 4 + 3, none⟩ = false := hfr 3; have h3 := (Kd.H_seg h2 C.out.1 C.out.2 (seg := [.int .i64 t1, .bool ((Int.tmod (wrap64 (t1 + 1)) 3) == 0)]) (j := 2) (show 2 + 2 ≤ 4 from by decide) (by intro q hq; rcases List.mem_cons.1 hq with rfl | hq; rfl; rw [List.mem_singleton.1 hq]; rfl)).1; have h3' : Kd.H kD 80 ((w57.setCell ⟨go5, (x5_1 : Int).toNat * 4 + 2, none⟩ (.int .i64 t1)).setCell ⟨go5, (x5_1 : Int).toNat * 4 + 3, none⟩ (.bool ((Int.tmod (wrap64 (t1 + 1)) 3) == 0))) w0.heap.size P0_ (.slice (some ⟨go5, 0, none⟩) x0_1.length co5) x0_1 x5_1 oki [.int .i64 x1_1, .slice A6 ((rd_T80 x0_1 x5_1).f1).length c6, .int .i64 t1, .bool ((Int.tmod (wrap64 (t1 + 1)) 3) == 0)] := h3; have hy1 := Kd.S_far (p := ⟨go5, (x5_1 : Int).toNat * 4 + 3, none⟩) (Kd.S_far (p := ⟨go5, (x5_1 : Int).toNat * 4 + 2, none⟩) hy0 HNE.out (.int .i64 t1)) HNE.out (.bool ((Int.tmod (wrap64 (t1 + 1)) 3) == 0))
     have HS := kp (Kd.H_back h3' (kD_mkM _ _ _ (⟨x1_1, t2, t1, (Int.tmod (wrap64 (t1 + 1)) 3) == 0⟩ : S80) hy1) (fun _ hk_ => hk_)); have HB2 := kp (below_set (below_set hb GB.out) GB.out : Below w0.heap.size w0 ((w57.setCell ⟨go5, (x5_1 : Int).toNat * 4 + 2, none⟩ (.int .i64 t1)).setCell ⟨go5, (x5_1 : Int).toNat * 4 + 3, none⟩ (.bool ((Int.tmod (wrap64 (t1 + 1)) 3) == 0)))); have HK2 := kp (Kept.setCell (p := ⟨go5, (x5_1 : Int).toNat * 4 + 3, none⟩) (Kept.setCell (p := ⟨go5, (x5_1 : Int).toNat * 4 + 2, none⟩) (HK0.out.then_ hkp (fun k_ hk_ => Or.inl (HOK.out k_ hk_))) (.inl HPg.out) (.int .i64 t1)) (.inl HPg.out) (.bool ((Int.tmod (wrap64 (t1 + 1)) 3) == 0))); have ew2 : IntKind.i64.wrap (t1 + 1) = wrap64 (t1 + 1) := i64_w _; have ew3 : IntKind.i64.wrap (wrap64 (t1 + 1) + 1) = wrap64 (wrap64 (t1 + 1) + 1) := i64_w _; have ew4 : IntKind.i64.wrap (x5_1 + 1) = wrap64 (x5_1 + 1) := i64_w _; clear HH G0 HB1 HK0 h2 h3 h3' hy0 hy1 hcc hfr hb hkp; go_wp2
     go_roundg k1
     case measure => have := HK1.out; omega
     case rel => exact ⟨_, wrap64 ((wrap64 (t1 + 1)) + 1), (wrap64 (x5_1 + 1)), (by first | rfl | (simp; done) | (simp [*]; done)), (by first | rfl | (simp; done) | (simp [*]; done)), H', ⟨by have := HK1.out; omega⟩, HS, HK2, HB2⟩
    ·rw [if_neg c4] at H; exact absurd H (by simp)
   ·rw [if_neg c3] at H; have c3b0 : decide (x5_1 < (x0_1.length : Int)) = false := decide_eq_false c3; clear c3; simp only [Option.some.injEq, Prod.mk.injEq] at H; obtain ⟨rfl, rfl⟩ := H; obtain ⟨Ao15, co15, eo15⟩ := Kd.R_slice (Kd.S_R HO_0.out); subst eo15; go_wp2; go_ret; exact ⟨rfl, HO_0.out, HB.out, HK.out⟩
set_option maxHeartbeats 4000000 in
set_option maxRecDepth 100000 in
theorem laws_markDisk.calls (k : Nat) (nx : Int) (P0_ : Nat → Prop) (u9000_ : Value) (l0 : List (S80)) (a1 : Int) (r1 : Int) (r2 : List (S80)) (w0 w : World) (hB : Below w0.heap.size w0 w) (ho0 : Kd.S kD 80 w w0.heap.size P0_ u9000_ l0) (h : laws_markFileS.f k l0 a1 = some (r1, r2)) :
  Calls Try.prog 18 #[.agg #[u9000_, .int .i64 nx], .int .i64 a1] w fun e w' => e = .returned (.int .i64 r1) ∧ Kd.S kD 80 w' w0.heap.size P0_ u9000_ r2 ∧ Below w0.heap.size w0 w' ∧ Kept w w' P0_ := by
 have HO0 := kp ho0
 have HB := kp hB
 have H' := kp h
 obtain ⟨Ao15, co15, eo15⟩ := Kd.R_slice (Kd.S_R ho0)
 subst eo15
 clear hB ho0 h
 go_enter Try.func18, Try.ntmps18
 go_wp2_with fail
 (with_reducible refine (laws_markFileS.calls k P0_ _ l0 a1 r1 r2 w0 _ ?side1 ?side2 H'.out).mono ?_)
 case side1 => exact below_alloc HB.out _
 case side2 => exact Kd.S_alloc HO0.out _
 rintro e w57 ⟨rfl, hy0, hb, hkp⟩
 have HY := kp hy0
 have HB2 := kp hb
 have HK := kp ((Kept.alloc (Kept.refl w P0_) _).then_ hkp (fun _ h_ => .inl h_))
 clear hy0 hb hkp HB HO0
 go_wp2
 go_ret
 exact ⟨rfl, HY.out, HB2.out, HK.out⟩
end Go.Proofs.Ytinniedbgfgclaa.PFnExactAppendPage
