/- Contracts in the print's own words; nothing is claimed here. -/
import Derived.Test.YtljpfogplcdcjaaVQFnSealedFilesx41
import Derived.Test.YtljpfogplcdcjaaVQFnSealedFilesx43
import Derived.Test.YtljpfogplcdcjaaVQFnSealedFilesx44
import Derived.Test.YtljpfogplcdcjaaVFoldT
namespace Go.Proofs.Ytljpfogplcdcjaa.PFnSealedFiles
open Go.RowKit Go.Proofs.YtljpfogplcdcjaaW.PrintWords Go.Proofs.YtljpfogplcdcjaaW.PrintLast Go.Proofs.YtljpfogplcdcjaaW.PrintMore Go.Proofs.Ytljpfogplcdcjaa.Fold
attribute [local go_sem] max2_int min2_int max_two min_two max_three min_three max_four min_four   -- for this text's walks alone
set_option linter.unusedVariables false
set_option linter.unusedSimpArgs false
theorem impl_AppendPage.calls (k : Nat) (A0_0 : Option Addr) (c0_0 : Nat) (l0_0 : List (S87)) (a0_1 : Int) (a1 : Int) (A2_0 : Option Addr) (c2_0 : Nat) (l2_0 : List (S42)) (r1 : List (S87)) (r2 : Int) (r3 : Bool) (w : World) (hr0_0 : Kd.C k87 w A0_0 l0_0.length l0_0) (hc0_0 : l0_0.length ≤ c0_0) (hr2_0 : Kd.C k42 w A2_0 l2_0.length l2_0) (hc2_0 : l2_0.length ≤ c2_0) (h : impl_AppendPage.f k l0_0 a0_1 a1 l2_0 = some (r1, r2, r3)) :
  Calls Try.prog 37 #[.agg #[.slice A0_0 l0_0.length c0_0, .int .i64 a0_1], .int .i64 a1, .agg #[.slice A2_0 l2_0.length c2_0]] w fun e w' => ∃ v0_ : Value, e = .returned (.tuple #[.agg #[v0_, .int .i64 r2], .bool r3]) ∧ Kd.R k87 87 w' w.heap.size (fun _ => True) v0_ r1 ∧ Below w.heap.size w w' :=
 (impl_AppendPage.callsD k A0_0 c0_0 l0_0 a0_1 a1 A2_0 c2_0 l2_0 r1 r2 r3 w hr0_0 hc0_0 hr2_0 hc2_0 h).mono fun _ _ hh => by obtain ⟨v, h1, h2, h3⟩ := hh; exact ⟨v, h1, D_R h2, h3⟩
theorem impl_SealFile.calls (k : Nat) (A0_0 : Option Addr) (c0_0 : Nat) (l0_0 : List (S87)) (a0_1 : Int) (a1 : Int) (r1 : List (S87)) (r2 : Int) (r3 : Bool) (w : World) (hr0_0 : Kd.C k87 w A0_0 l0_0.length l0_0) (hc0_0 : l0_0.length ≤ c0_0) (h : impl_SealFile.f k l0_0 a0_1 a1 = some (r1, r2, r3)) :
  Calls Try.prog 39 #[.agg #[.slice A0_0 l0_0.length c0_0, .int .i64 a0_1], .int .i64 a1] w fun e w' => ∃ v0_ : Value, e = .returned (.tuple #[.agg #[v0_, .int .i64 r2], .bool r3]) ∧ Kd.R k87 87 w' w.heap.size (fun _ => True) v0_ r1 ∧ Below w.heap.size w w' :=
 (impl_SealFile.callsD k A0_0 c0_0 l0_0 a0_1 a1 r1 r2 r3 w hr0_0 hc0_0 h).mono fun _ _ hh => by obtain ⟨v, h1, h2, h3⟩ := hh; exact ⟨v, h1, D_R h2, h3⟩
theorem impl_DeleteUnreadableFiles.calls (k : Nat) (A0_0 : Option Addr) (c0_0 : Nat) (l0_0 : List (S87)) (a0_1 : Int) (r1 : List (S87)) (r2 : Int) (w : World) (hr0_0 : Kd.C k87 w A0_0 l0_0.length l0_0) (hc0_0 : l0_0.length ≤ c0_0) (h : impl_DeleteUnreadableFiles.f k l0_0 a0_1 = some (r1, r2)) :
  Calls Try.prog 40 #[.agg #[.slice A0_0 l0_0.length c0_0, .int .i64 a0_1]] w fun e w' => ∃ v0_ : Value, e = .returned (.agg #[v0_, .int .i64 r2]) ∧ Kd.N k87 87 w' w.heap.size (fun k_ => (w.heap.size ≤ k_)) v0_ r1 ∧ Below w.heap.size w w' :=
 (impl_DeleteUnreadableFiles.callsD k A0_0 c0_0 l0_0 a0_1 r1 r2 w hr0_0 hc0_0 h).mono fun _ _ hh => by obtain ⟨v, h1, h2, h3⟩ := hh; exact ⟨v, h1, Kd.N_mono (Kd.R_N (Kd.R_bound (D_R h2))) (fun _ hk => hk.2.1), h3⟩
end Go.Proofs.Ytljpfogplcdcjaa.PFnSealedFiles
