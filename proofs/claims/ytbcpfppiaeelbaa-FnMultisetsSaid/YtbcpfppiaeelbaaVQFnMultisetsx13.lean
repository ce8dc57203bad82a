/- impl.DistinctRows, over Compact's walk; nothing is claimed here. -/
import Derived.Test.YtbcpfppiaeelbaaVQFnMultisetsx8
import Derived.Test.YtbcpfppiaeelbaaVQFnMultisetsx12
import Derived.Test.YtbcpfppiaeelbaaVPress
namespace Go.Proofs.Ytbcpfppiaeelbaa.PFnMultisets
open Go.RowKit Go.Proofs.YtbcpfppiaeelbaaW.PrintWords Go.Proofs.YtbcpfppiaeelbaaW.PrintLast Go.Proofs.YtbcpfppiaeelbaaW.PrintMore Go.Proofs.Ytbcpfppiaeelbaa.Press
set_option linter.unusedVariables false
set_option linter.unusedSimpArgs false
def impl_DistinctRows.f (k : Nat) (l0 : List (S36)) : Option ((List (S36))) := (impl_SortRows.f k l0).bind fun t => some (dd t)
set_option maxHeartbeats 8000000 in
set_option maxRecDepth 100000 in
theorem impl_DistinctRows.calls (k : Nat) (A0 : Option Addr) (c0 : Nat) (l0 : List (S36)) (r : List (S36)) (w : World) (hr0 : Kd.C k36 w A0 l0.length l0) (hc0 : l0.length ≤ c0) (h : impl_DistinctRows.f k l0 = some r) :
  Calls Try.prog 19 #[.slice A0 l0.length c0] w fun e w' => ∃ v0_ : Value, e = .returned (v0_) ∧ Kd.R k36 36 w' w.heap.size (fun _ => True) v0_ r ∧ Below w.heap.size w w' := by
 have HR0 := kp hr0
 have HC0 := kp hc0
 clear hr0 hc0
 have HB := kp (Below.refl w.heap.size w)
 obtain ⟨t1, A20, H⟩ := Option.bind_eq_some_iff.mp h
 have A2 := kp A20
 clear A20 h
 obtain rfl := Option.some.inj H
 clear H
 go_enter Try.func19, Try.ntmps19
 go_wp2_with fail
 (with_reducible refine (impl_SortRows.calls k _ _ l0 t1 _ ?side1 ?side2 A2.out).mono ?_)
 case side1 => exact HR0.out
 case side2 => exact HC0.out
 rintro e w4 ⟨v2, rfl, ho0, hb⟩
 have HO := kp ho0
 have HB2 := kp hb
 clear ho0 hb HB HR0
 obtain ⟨Ao5, co5, eo5⟩ := Kd.R_slice HO.out
 subst eo5
 go_wp2_with fail
 (with_reducible refine (impl_Row_39.calls (fun _ => True) _ t1 w _ ?side1 ?side2).mono ?_)
 case side1 => exact HB2.out
 case side2 => exact HO.out
 rintro e w5 ⟨v3, rfl, ho0, hb⟩
 have HO2 := kp ho0
 have HB3 := kp hb
 clear ho0 hb HO HB2
 go_wp2
 go_ret
 exact ⟨_, rfl, HO2.out, HB3.out⟩
end Go.Proofs.Ytbcpfppiaeelbaa.PFnMultisets
