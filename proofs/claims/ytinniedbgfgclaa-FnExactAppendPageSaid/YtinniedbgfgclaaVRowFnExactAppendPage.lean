/- The row of the law FnExactAppendPage: whatever its arguments, the call returns true and the arguments read afterwards as before; no further condition. -/
import Derived.Test.YtinniedbgfgclaaRows
import Derived.Test.YtinniedbgfgclaaVQFnExactAppendPagex22
import Derived.Test.YtinniedbgfgclaaVPureFnExactAppendPage
import Derived.Test.YtinniedbgfgclaaVOpen
import Derived.WalkKit
import Derived.ProofKit
import Derived.OpenShut
import Derived.ShutString
import Derived.ChangeOld
import Derived.Below
import Derived.SizedLaws
namespace Go.Proofs.Ytinniedbgfgclaa.fnExactAppendPage
open Go.ChangeShapes Go.WideShapes Go.ChangeAt Go.RowKit
open Go.ChangeMaps (open_string shut_string)
open Go.Proofs.Ytinniedbgfgclaa.Open Go.Proofs.Ytinniedbgfgclaa.PFnExactAppendPage Go.Proofs.YtinniedbgfgclaaW.PrintWords
set_option linter.unusedVariables false
set_option linter.unusedSimpArgs false
theorem own : ownKnob Try.prog.godebug = none := by kernel_rfl
theorem laidOut : laidOutB Try.prog = true := by kernel_rfl
theorem o_row {H : Type} {enc : TypeId × Value → H} {W : World} {spare : Nat → Bool} {held : Bool} : Opens enc Try.prog W spare held 120 (Kd.pair (Kd.int .i64) (Kd.pair (Kd.int .i64) (Kd.int .i64))) (fun x : Int × Int × Int => (Lit.int .i64 x.1).wf = true ∧ (Lit.int .i64 x.2.1).wf = true ∧ (Lit.int .i64 x.2.2).wf = true) :=
  opens_s3 Try.underlying120 (by kernel_rfl) (by kernel_rfl) (opens_int Try.underlying3) (opens_int Try.underlying3) (opens_int Try.underlying3)
theorem o_srow {H : Type} {enc : TypeId × Value → H} {W : World} {spare : Nat → Bool} {held : Bool} : Opens enc Try.prog W spare held 120 k120 (fun x => (fun x : Int × Int × Int => (Lit.int .i64 x.1).wf = true ∧ (Lit.int .i64 x.2.1).wf = true ∧ (Lit.int .i64 x.2.2).wf = true) (x.f0, x.f1, x.f2)) :=
  opens_iso (fun x : S120 => (x.f0, x.f1, x.f2)) (fun x => ⟨x.1, x.2.1, x.2.2⟩) (fun _ => rfl) o_row
theorem o_rows {H : Type} {enc : TypeId × Value → H} {W : World} {spare : Nat → Bool} {held : Bool} : Opens enc Try.prog W spare held 65 (Kd.slice 120 k120) (fun xs => xs.length ≤ 9223372036854775807 ∧ ∀ x ∈ xs, (fun x : Int × Int × Int => (Lit.int .i64 x.1).wf = true ∧ (Lit.int .i64 x.2.1).wf = true ∧ (Lit.int .i64 x.2.2).wf = true) (x.f0, x.f1, x.f2)) :=
  opens_slice Try.underlying65 (by kernel_rfl) o_srow
theorem o_page {H : Type} {enc : TypeId × Value → H} {W : World} {spare : Nat → Bool} {held : Bool} : Opens enc Try.prog W spare held 67 (Kd.slice 120 k120) (fun xs => xs.length ≤ 9223372036854775807 ∧ ∀ x ∈ xs, (fun x : Int × Int × Int => (Lit.int .i64 x.1).wf = true ∧ (Lit.int .i64 x.2.1).wf = true ∧ (Lit.int .i64 x.2.2).wf = true) (x.f0, x.f1, x.f2)) :=
  opens_s1 Try.underlying67 (by kernel_rfl) (by kernel_rfl) o_rows
theorem o_pages {H : Type} {enc : TypeId × Value → H} {W : World} {spare : Nat → Bool} {held : Bool} : Opens enc Try.prog W spare held 56 (Kd.slice 67 k67) (fun xs => xs.length ≤ 9223372036854775807 ∧ ∀ x ∈ xs, x.f0.length ≤ 9223372036854775807 ∧ ∀ y ∈ x.f0, (fun x : Int × Int × Int => (Lit.int .i64 x.1).wf = true ∧ (Lit.int .i64 x.2.1).wf = true ∧ (Lit.int .i64 x.2.2).wf = true) (y.f0, y.f1, y.f2)) :=
  opens_slice Try.underlying56 (by kernel_rfl) (opens_iso (fun x : S67 => x.f0) (fun x => ⟨x⟩) (fun _ => rfl) o_page)
def GoodFile (x : S107) : Prop := (Lit.int .i64 x.f0).wf = true ∧ (fun xs : List S67 => xs.length ≤ 9223372036854775807 ∧ ∀ x ∈ xs, x.f0.length ≤ 9223372036854775807 ∧ ∀ y ∈ x.f0, (fun x : Int × Int × Int => (Lit.int .i64 x.1).wf = true ∧ (Lit.int .i64 x.2.1).wf = true ∧ (Lit.int .i64 x.2.2).wf = true) (y.f0, y.f1, y.f2)) x.f1 ∧ (Lit.int .i64 x.f2).wf = true ∧ True
theorem o_file {H : Type} {enc : TypeId × Value → H} {W : World} {spare : Nat → Bool} {held : Bool} : Opens enc Try.prog W spare held 107 k107 GoodFile :=
  opens_iso (fun x : S107 => (x.f0, x.f1, x.f2, x.f3)) (fun x => ⟨x.1, x.2.1, x.2.2.1, x.2.2.2⟩) (fun _ => rfl) (opens_s4 Try.underlying107 (by kernel_rfl) (by kernel_rfl) (opens_int Try.underlying3) o_pages (opens_int Try.underlying3) (opens_bool Try.underlying4))
theorem o_disk {H : Type} {enc : TypeId × Value → H} {W : World} {spare : Nat → Bool} {held : Bool} : Opens enc Try.prog W spare held 24 (Kd.pair (Kd.slice 107 k107) (Kd.int .i64)) (fun x => (x.1.length ≤ 9223372036854775807 ∧ ∀ y ∈ x.1, GoodFile y) ∧ (Lit.int .i64 x.2).wf = true) :=
  opens_s2 Try.underlying24 (by kernel_rfl) (by kernel_rfl) (opens_slice Try.underlying22 (by kernel_rfl) o_file) (opens_int Try.underlying3)
set_option maxRecDepth 100000 in
theorem lifted (os : Os) (started : os.Started) (H : Type) (enc : TypeId × Value → H) :
    ReturnsInHanded {} Try.checked os 10 .any (Rows.fnExactAppendPageSpec.pre6 enc Try.prog Try.f10 Rows.fnExactAppendPageRow.domain false) (Rows.fnExactAppendPageSpec.post enc Try.prog Try.f10 false true false false) := by
  refine returnsInHanded_of_change_sized (C := Try.checked) own started (by kernel_rfl) Try.func10
    (ChangeSpec.witness6 (enc := enc) (C := Try.checked) false ⟨#[], #[.agg #[.slice none 0 0, .int .i64 0], .int .i64 0, .agg #[.slice none 0 0]], []⟩ 8 (by kernel_rfl) (by kernel_rfl) (by kernel_rfl) (by kernel_rfl)) ?_
  intro W base args ds gs before hval0 hW hcnd hsz0 _
  have hsz : (DataW.weightsEach Try.prog (Try.f10.params.toList ++ Rows.fnExactAppendPageSpec.plain.varTypes Try.prog) (ds ++ gs)).all (· ≤ reachBytes) = true := hsz0
  have hval : ∀ (j : Nat) t v, Try.f10.params[j]? = some t → args[j]? = some v → Value.okWide Try.prog W .any base t v := hval0
  have hW' := hW
  obtain ⟨p, q, hA0, hV, rfl, hfz, hnd⟩ := hW
  have hA : DataW.TrodAll enc Try.prog W 0 (fun _ => true) true Try.f10.params.toList args.toList ds p := hA0
  rw [Try.params10] at hA hval hsz
  obtain ⟨v0, vs0, d0, ds0, p0, q0, hargs, rfl, rfl, h0, r0⟩ := trodAll_cons hA
  obtain ⟨v1, vs1, d1, ds1, p1, q1, rfl, rfl, rfl, h1, r1⟩ := trodAll_cons r0
  obtain ⟨v2, vs2, d2, ds2, p2, q2, rfl, rfl, rfl, h2, r2⟩ := trodAll_cons r1
  obtain ⟨rfl, rfl, rfl⟩ := trodAll_nil r2
  obtain rfl : args = #[v0, v1, v2] := by cases args; simp_all
  obtain ⟨rfl, rfl⟩ := trodVars_none hV
  have k0 := h0
  have lt0 : ∀ x ∈ p0, x.block < W.heap.size := by obtain ⟨m, hm⟩ := k0; exact DataW.trod_lt m _ _ _ hm
  obtain ⟨cs0, rfl, hz0⟩ := okWide_struct Try.underlying24 (hval 0 24 v0 rfl rfl)
  obtain ⟨fu0, hf0⟩ := h0
  obtain ⟨⟨l0, x0⟩, ⟨q0_0, q0_1, hcs0, ⟨A0, c0, hq0, hc0, hr0⟩, hi0⟩, g0⟩ := o_disk _ _ _ hf0
  rw [hq0, show q0_1 = [.int .i64 x0] from hi0] at hcs0
  obtain rfl := arr_of hcs0
  obtain ⟨a1, rfl, rfl, rfl, w1⟩ := open_int Try.underlying3 (hval 1 3 v1 rfl rfl) h1
  have k2 := h2
  have lt2 : ∀ x ∈ p2, x.block < W.heap.size := by obtain ⟨m, hm⟩ := k2; exact DataW.trod_lt m _ _ _ hm
  obtain ⟨cs2, rfl, hz2⟩ := okWide_struct Try.underlying67 (hval 2 67 v2 rfl rfl)
  obtain ⟨fu2, hf2⟩ := h2
  obtain ⟨l2, ⟨A2, c2, hcs2, hc2, hr2⟩, g2⟩ := o_page _ _ _ hf2
  obtain rfl := arr_of hcs2
  clear hA0 hval0 hsz0 hsz
  obtain ⟨k, hlaw⟩ := Pure.FnExactAppendPage l0 x0 a1 l2 g0 w1 g2
  refine (laws_FnExactAppendPage.calls k A0 c0 l0 x0 a1 A2 c2 l2 true W hr0 hc0 hr2 hc2 hlaw).mono fun e W' hh => ?_
  obtain ⟨he, bel0⟩ := hh
  have bel : Below W.heap.size W W' := bel0
  subst he
  exact ⟨_, rfl, _, _, _, [], _, [], hW', trodAll_mk1 (shut_bool Try.underlying4 _), (trodAll_cons_mk (Below.trod laidOut (by kernel_rfl) (of_decide_eq_true (by kernel_rfl)) k0 bel lt0) (trodAll_cons_mk (shut_int Try.underlying3 w1) (trodAll_cons_mk (Below.trod laidOut (by kernel_rfl) (of_decide_eq_true (by kernel_rfl)) k2 bel lt2) trodAll_mk0))), rfl, bel.frame _, fun h => by cases h⟩
theorem over : Rows.fnExactAppendPageRow.holds Try.pinned (OpenSpec.ofChange Rows.fnExactAppendPageSpec) :=
  OpenClaim.holds_of_wide 10 Try.f10 rfl rfl rfl rfl rfl rfl rfl ⟨rfl, rfl, rfl, rfl, rfl⟩ rfl rfl rfl rfl rfl (by kernel_rfl) Try.func10 (by kernel_rfl)
    (of_decide_eq_true (by kernel_rfl)) (by unfold Func.isWrapper; first | (rw [if_pos (by decide +kernel)]; kernel_rfl) | (rw [if_neg (by decide +kernel)]; exact ⟨rfl, rfl⟩))
    (fun os started H enc _ => lifted os started H enc)
theorem proved : Rows.FnExactAppendPageSaid := over
#print axioms proved
end Go.Proofs.Ytinniedbgfgclaa.fnExactAppendPage
namespace Go.Proofs.Ytinniedbgfgclaa
theorem fnExactAppendPage_holds : Rows.FnExactAppendPageSaid := fnExactAppendPage.proved
end Go.Proofs.Ytinniedbgfgclaa
