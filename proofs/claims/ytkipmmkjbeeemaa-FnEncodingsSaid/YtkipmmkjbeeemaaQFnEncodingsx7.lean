/- Out of the print of this law's functions, with the contracts of some of them proved otherwise; nothing is claimed here. -/
import Derived.Test.YtkipmmkjbeeemaaPFnEncodingsx0
import Derived.Test.YtkipmmkjbeeemaaQFnEncodingsx1
import Derived.Test.YtkipmmkjbeeemaaQFnEncodingsx2
import Derived.Test.YtkipmmkjbeeemaaPFnEncodingsx3
import Derived.Test.YtkipmmkjbeeemaaPFnEncodingsx4
import Derived.Test.YtkipmmkjbeeemaaQFnEncodingsx5
import Derived.Test.YtkipmmkjbeeemaaQFnEncodingsx6
namespace Go.Proofs.Ytkipmmkjbeeemaa.PFnEncodings
open Go.RowKit Go.Proofs.YtkipmmkjbeeemaaW.PrintWords Go.Proofs.YtkipmmkjbeeemaaW.PrintLast Go.Proofs.YtkipmmkjbeeemaaW.PrintMore
attribute [local go_sem] max2_int min2_int max_two min_two max_three min_three max_four min_four   -- for this text's walks alone
set_option linter.unusedVariables false
set_option linter.unusedSimpArgs false

/-! ### laws_FnEncodings: function 11 -/
mutual
def laws_FnEncodings.j0 : Nat → List Int → Int → ByteArray → Bool → Option (Bool)
  | 0, _, _, _, _ => none
  | k + 1, x0, x3, x4, x55 => if x55 = true then (some false) else ((impl_EncodeFixed.f k x3 7).bind fun t282 => (if t282.size + x4.size ≤ 9223372036854775807 then ((impl_DecodeFixed.f k (t282 ++ x4) 7).bind fun bt283 => (if t282.toList = ([] : List UInt8) then (if x3 < 0 then (laws_FnEncodings.j1 k x0 x3 x4 ((t282.toList == ([] : List UInt8)) != true)) else (laws_FnEncodings.j1 k x0 x3 x4 ((t282.toList == ([] : List UInt8)) != (decide (x3 ≥ 72057594037927936))))) else (if bt283.2 = true then (if bt283.1 = x3 then (if (t282.size : Int) = 7 then (if x3 < 0 then (laws_FnEncodings.j1 k x0 x3 x4 ((t282.toList == ([] : List UInt8)) != true)) else (laws_FnEncodings.j1 k x0 x3 x4 ((t282.toList == ([] : List UInt8)) != (decide (x3 ≥ 72057594037927936))))) else (laws_FnEncodings.j1 k x0 x3 x4 true)) else (laws_FnEncodings.j1 k x0 x3 x4 true)) else (laws_FnEncodings.j1 k x0 x3 x4 true)))) else (none)))
def laws_FnEncodings.j1 : Nat → List Int → Int → ByteArray → Bool → Option (Bool)
  | 0, _, _, _, _ => none
  | k + 1, x0, x3, x4, x91 => if x91 = true then (some false) else ((impl_FormatInt.f k x3).bind fun t285 => ((impl_ParseInt.f k t285).bind fun bt286 => (if x3 > (-1000000000) then (if (bt286.2 != (decide (x3 < 1000000000))) = true then (laws_FnEncodings.j2 k x0 x4 true) else (if bt286.2 = true then (laws_FnEncodings.j2 k x0 x4 (bt286.1 != x3)) else (laws_FnEncodings.j2 k x0 x4 false))) else (if (bt286.2 != false) = true then (laws_FnEncodings.j2 k x0 x4 true) else (if bt286.2 = true then (laws_FnEncodings.j2 k x0 x4 (bt286.1 != x3)) else (laws_FnEncodings.j2 k x0 x4 false))))))
def laws_FnEncodings.j2 : Nat → List Int → ByteArray → Bool → Option (Bool)
  | 0, _, _, _ => none
  | k + 1, x0, x4, x113 => if x113 = true then (some false) else ((impl_EncodeHex.f k x4).bind fun t288 => ((impl_DecodeHex.f k t288).bind fun bt289 => ((spec_DrawDecodeVarint.f k x0).bind fun t291 => ((impl_DecodeVarint.f k t291).bind fun bt292 => (if bt289.2 = true then (if bt289.1.toList = x4.toList then (if bt292.2 = 0 then (some true) else (if bt292.2 > 0 then ((spec_DrawDecodeVarint.f k x0).bind fun t294 => (if bt292.2 ≤ (t294.size : Int) then ((spec_DrawDecodeVarint.f k x0).bind fun t295 => (if bt292.2 ≤ (t295.size : Int) then ((impl_EncodeVarint.f k bt292.1).bind fun t296 => ((spec_DrawDecodeVarint.f k x0).bind fun t297 => (if 0 ≤ bt292.2 then (if bt292.2 ≤ (t297.size : Int) then (some (t296.toList == (t297.extract 0 (bt292.2 : Int).toNat).toList)) else (none)) else (none)))) else (some false))) else (some false))) else (some false))) else (some false)) else (some false))))))
end
def laws_FnEncodings.f (k : Nat) (l0 : List Int) : Option (Bool) := (laws_big.f l0).bind fun t276 => (if t276 = true then (some true) else ((spec_DrawEncodeVarint.f k l0).bind fun t277 => ((spec_DrawEncodeHex.f k l0).bind fun t278 => ((impl_EncodeVarint.f k t277).bind fun t279 => (if t279.size + t278.size ≤ 9223372036854775807 then ((impl_DecodeVarint.f k (t279 ++ t278)).bind fun bt280 => (if t277 ≥ 0 then (if ((t279.toList != ([] : List UInt8)) != (decide (t277 ≤ 562949953421311))) = true then (laws_FnEncodings.j0 k l0 t277 t278 true) else (if t279.toList = ([] : List UInt8) then (laws_FnEncodings.j0 k l0 t277 t278 false) else (if bt280.1 = t277 then (laws_FnEncodings.j0 k l0 t277 t278 (bt280.2 != (t279.size : Int))) else (laws_FnEncodings.j0 k l0 t277 t278 true)))) else (if ((t279.toList != ([] : List UInt8)) != false) = true then (laws_FnEncodings.j0 k l0 t277 t278 true) else (if t279.toList = ([] : List UInt8) then (laws_FnEncodings.j0 k l0 t277 t278 false) else (if bt280.1 = t277 then (laws_FnEncodings.j0 k l0 t277 t278 (bt280.2 != (t279.size : Int))) else (laws_FnEncodings.j0 k l0 t277 t278 true)))))) else (none))))))
theorem laws_FnEncodings.mono_l : ∀ k, (∀ y0 y1 y2 y3, LeO (laws_FnEncodings.j0 k y0 y1 y2 y3) (laws_FnEncodings.j0 (k + 1) y0 y1 y2 y3)) ∧ (∀ y0 y1 y2 y3, LeO (laws_FnEncodings.j1 k y0 y1 y2 y3) (laws_FnEncodings.j1 (k + 1) y0 y1 y2 y3)) ∧ (∀ y0 y1 y2, LeO (laws_FnEncodings.j2 k y0 y1 y2) (laws_FnEncodings.j2 (k + 1) y0 y1 y2))
  | 0 => ⟨fun _ _ _ _ r h => by simp [laws_FnEncodings.j0] at h, fun _ _ _ _ r h => by simp [laws_FnEncodings.j1] at h, fun _ _ _ r h => by simp [laws_FnEncodings.j2] at h⟩
  | k + 1 => by
    obtain ⟨ih0, ih1, ih2⟩ := laws_FnEncodings.mono_l k
    refine ⟨?_, ?_, ?_⟩
    · intro y0 y1 y2 y3
      unfold laws_FnEncodings.j0
      repeat' first
      | (with_reducible exact ih0 _ _ _ _)
      | (with_reducible exact ih1 _ _ _ _)
      | (with_reducible exact ih2 _ _ _)
      | (with_reducible exact impl_DecodeFixed.mono _ _ _)
      | (with_reducible exact impl_DecodeHex.mono _ _)
      | (with_reducible exact impl_DecodeVarint.mono _ _)
      | (with_reducible exact impl_EncodeFixed.mono _ _ _)
      | (with_reducible exact impl_EncodeHex.mono _ _)
      | (with_reducible exact impl_EncodeVarint.mono _ _)
      | (with_reducible exact impl_FormatInt.mono _ _)
      | (with_reducible exact impl_ParseInt.mono _ _)
      | (with_reducible exact spec_DrawDecodeVarint.mono _ _)
      | (with_reducible exact spec_DrawEncodeHex.mono _ _)
      | (with_reducible exact spec_DrawEncodeVarint.mono _ _)
      | (with_reducible exact LeO.refl _)
      | (with_reducible exact LeO.none _)
      | (with_reducible refine LeO.ite ?_ ?_)
      | (with_reducible refine LeO.bind ?_ (fun _ => ?_))
      | exact ih0 _ _ _ _
      | exact ih1 _ _ _ _
      | exact ih2 _ _ _
      | exact impl_DecodeFixed.mono _ _ _
      | exact impl_DecodeHex.mono _ _
      | exact impl_DecodeVarint.mono _ _
      | exact impl_EncodeFixed.mono _ _ _
      | exact impl_EncodeHex.mono _ _
      | exact impl_EncodeVarint.mono _ _
      | exact impl_FormatInt.mono _ _
      | exact impl_ParseInt.mono _ _
      | exact spec_DrawDecodeVarint.mono _ _
      | exact spec_DrawEncodeHex.mono _ _
      | exact spec_DrawEncodeVarint.mono _ _
      | exact LeO.none _
      | refine LeO.ite ?_ ?_
      | refine LeO.bind ?_ (fun _ => ?_)
    · intro y0 y1 y2 y3
      unfold laws_FnEncodings.j1
      repeat' first
      | (with_reducible exact ih0 _ _ _ _)
      | (with_reducible exact ih1 _ _ _ _)
      | (with_reducible exact ih2 _ _ _)
      | (with_reducible exact impl_DecodeFixed.mono _ _ _)
      | (with_reducible exact impl_DecodeHex.mono _ _)
      | (with_reducible exact impl_DecodeVarint.mono _ _)
      | (with_reducible exact impl_EncodeFixed.mono _ _ _)
      | (with_reducible exact impl_EncodeHex.mono _ _)
      | (with_reducible exact impl_EncodeVarint.mono _ _)
      | (with_reducible exact impl_FormatInt.mono _ _)
      | (with_reducible exact impl_ParseInt.mono _ _)
      | (with_reducible exact spec_DrawDecodeVarint.mono _ _)
      | (with_reducible exact spec_DrawEncodeHex.mono _ _)
      | (with_reducible exact spec_DrawEncodeVarint.mono _ _)
      | (with_reducible exact LeO.refl _)
      | (with_reducible exact LeO.none _)
      | (with_reducible refine LeO.ite ?_ ?_)
      | (with_reducible refine LeO.bind ?_ (fun _ => ?_))
      | exact ih0 _ _ _ _
      | exact ih1 _ _ _ _
      | exact ih2 _ _ _
      | exact impl_DecodeFixed.mono _ _ _
      | exact impl_DecodeHex.mono _ _
      | exact impl_DecodeVarint.mono _ _
      | exact impl_EncodeFixed.mono _ _ _
      | exact impl_EncodeHex.mono _ _
      | exact impl_EncodeVarint.mono _ _
      | exact impl_FormatInt.mono _ _
      | exact impl_ParseInt.mono _ _
      | exact spec_DrawDecodeVarint.mono _ _
      | exact spec_DrawEncodeHex.mono _ _
      | exact spec_DrawEncodeVarint.mono _ _
      | exact LeO.none _
      | refine LeO.ite ?_ ?_
      | refine LeO.bind ?_ (fun _ => ?_)
    · intro y0 y1 y2
      unfold laws_FnEncodings.j2
      repeat' first
      | (with_reducible exact ih0 _ _ _ _)
      | (with_reducible exact ih1 _ _ _ _)
      | (with_reducible exact ih2 _ _ _)
      | (with_reducible exact impl_DecodeFixed.mono _ _ _)
      | (with_reducible exact impl_DecodeHex.mono _ _)
      | (with_reducible exact impl_DecodeVarint.mono _ _)
      | (with_reducible exact impl_EncodeFixed.mono _ _ _)
      | (with_reducible exact impl_EncodeHex.mono _ _)
      | (with_reducible exact impl_EncodeVarint.mono _ _)
      | (with_reducible exact impl_FormatInt.mono _ _)
      | (with_reducible exact impl_ParseInt.mono _ _)
      | (with_reducible exact spec_DrawDecodeVarint.mono _ _)
      | (with_reducible exact spec_DrawEncodeHex.mono _ _)
      | (with_reducible exact spec_DrawEncodeVarint.mono _ _)
      | (with_reducible exact LeO.refl _)
      | (with_reducible exact LeO.none _)
      | (with_reducible refine LeO.ite ?_ ?_)
      | (with_reducible refine LeO.bind ?_ (fun _ => ?_))
      | exact ih0 _ _ _ _
      | exact ih1 _ _ _ _
      | exact ih2 _ _ _
      | exact impl_DecodeFixed.mono _ _ _
      | exact impl_DecodeHex.mono _ _
      | exact impl_DecodeVarint.mono _ _
      | exact impl_EncodeFixed.mono _ _ _
      | exact impl_EncodeHex.mono _ _
      | exact impl_EncodeVarint.mono _ _
      | exact impl_FormatInt.mono _ _
      | exact impl_ParseInt.mono _ _
      | exact spec_DrawDecodeVarint.mono _ _
      | exact spec_DrawEncodeHex.mono _ _
      | exact spec_DrawEncodeVarint.mono _ _
      | exact LeO.none _
      | refine LeO.ite ?_ ?_
      | refine LeO.bind ?_ (fun _ => ?_)
theorem laws_FnEncodings.mono : ∀ a0 k, LeO (laws_FnEncodings.f k a0) (laws_FnEncodings.f (k + 1) a0) := by
  intro a0 k
  obtain ⟨ih0, ih1, ih2⟩ := laws_FnEncodings.mono_l k
  unfold laws_FnEncodings.f
  repeat' first
      | (with_reducible exact ih0 _ _ _ _)
      | (with_reducible exact ih1 _ _ _ _)
      | (with_reducible exact ih2 _ _ _)
      | (with_reducible exact impl_DecodeFixed.mono _ _ _)
      | (with_reducible exact impl_DecodeHex.mono _ _)
      | (with_reducible exact impl_DecodeVarint.mono _ _)
      | (with_reducible exact impl_EncodeFixed.mono _ _ _)
      | (with_reducible exact impl_EncodeHex.mono _ _)
      | (with_reducible exact impl_EncodeVarint.mono _ _)
      | (with_reducible exact impl_FormatInt.mono _ _)
      | (with_reducible exact impl_ParseInt.mono _ _)
      | (with_reducible exact spec_DrawDecodeVarint.mono _ _)
      | (with_reducible exact spec_DrawEncodeHex.mono _ _)
      | (with_reducible exact spec_DrawEncodeVarint.mono _ _)
      | (with_reducible exact LeO.refl _)
      | (with_reducible exact LeO.none _)
      | (with_reducible refine LeO.ite ?_ ?_)
      | (with_reducible refine LeO.bind ?_ (fun _ => ?_))
      | exact ih0 _ _ _ _
      | exact ih1 _ _ _ _
      | exact ih2 _ _ _
      | exact impl_DecodeFixed.mono _ _ _
      | exact impl_DecodeHex.mono _ _
      | exact impl_DecodeVarint.mono _ _
      | exact impl_EncodeFixed.mono _ _ _
      | exact impl_EncodeHex.mono _ _
      | exact impl_EncodeVarint.mono _ _
      | exact impl_FormatInt.mono _ _
      | exact impl_ParseInt.mono _ _
      | exact spec_DrawDecodeVarint.mono _ _
      | exact spec_DrawEncodeHex.mono _ _
      | exact spec_DrawEncodeVarint.mono _ _
      | exact LeO.none _
      | refine LeO.ite ?_ ?_
      | refine LeO.bind ?_ (fun _ => ?_)
set_option maxHeartbeats 8000000 in
set_option maxRecDepth 100000 in
theorem laws_FnEncodings.calls (k : Nat) (A0 : Option Addr) (c0 : Nat) (l0 : List Int) (r : Bool) (w : World) (hr0 : Kd.C (Kd.int .u8) w A0 l0.length l0) (hc0 : l0.length ≤ c0) (h : laws_FnEncodings.f k l0 = some r) :
    Calls Try.prog 11 #[.slice A0 l0.length c0] w fun e w' => e = .returned (.bool r) ∧ Below w.heap.size w w' := by
  have HR0 := Aside0.mk hr0
  have HC0 := Aside0.mk hc0
  clear hr0 hc0
  have HB := Aside0.mk (Below.refl w.heap.size w)
  have H : ((laws_big.f l0).bind fun t276 => (if t276 = true then (some true) else ((spec_DrawEncodeVarint.f k l0).bind fun t277 => ((spec_DrawEncodeHex.f k l0).bind fun t278 => ((impl_EncodeVarint.f k t277).bind fun t279 => (if t279.size + t278.size ≤ 9223372036854775807 then ((impl_DecodeVarint.f k (t279 ++ t278)).bind fun bt280 => (if t277 ≥ 0 then (if ((t279.toList != ([] : List UInt8)) != (decide (t277 ≤ 562949953421311))) = true then (laws_FnEncodings.j0 k l0 t277 t278 true) else (if t279.toList = ([] : List UInt8) then (laws_FnEncodings.j0 k l0 t277 t278 false) else (if bt280.1 = t277 then (laws_FnEncodings.j0 k l0 t277 t278 (bt280.2 != (t279.size : Int))) else (laws_FnEncodings.j0 k l0 t277 t278 true)))) else (if ((t279.toList != ([] : List UInt8)) != false) = true then (laws_FnEncodings.j0 k l0 t277 t278 true) else (if t279.toList = ([] : List UInt8) then (laws_FnEncodings.j0 k l0 t277 t278 false) else (if bt280.1 = t277 then (laws_FnEncodings.j0 k l0 t277 t278 (bt280.2 != (t279.size : Int))) else (laws_FnEncodings.j0 k l0 t277 t278 true)))))) else (none))))))) = some r := h
  clear h
  replace H := Option.bind_eq_some_iff.mp H
  obtain ⟨t276, A20, H⟩ := H
  replace H : (if t276 = true then (some true) else ((spec_DrawEncodeVarint.f k l0).bind fun t277 => ((spec_DrawEncodeHex.f k l0).bind fun t278 => ((impl_EncodeVarint.f k t277).bind fun t279 => (if t279.size + t278.size ≤ 9223372036854775807 then ((impl_DecodeVarint.f k (t279 ++ t278)).bind fun bt280 => (if t277 ≥ 0 then (if ((t279.toList != ([] : List UInt8)) != (decide (t277 ≤ 562949953421311))) = true then (laws_FnEncodings.j0 k l0 t277 t278 true) else (if t279.toList = ([] : List UInt8) then (laws_FnEncodings.j0 k l0 t277 t278 false) else (if bt280.1 = t277 then (laws_FnEncodings.j0 k l0 t277 t278 (bt280.2 != (t279.size : Int))) else (laws_FnEncodings.j0 k l0 t277 t278 true)))) else (if ((t279.toList != ([] : List UInt8)) != false) = true then (laws_FnEncodings.j0 k l0 t277 t278 true) else (if t279.toList = ([] : List UInt8) then (laws_FnEncodings.j0 k l0 t277 t278 false) else (if bt280.1 = t277 then (laws_FnEncodings.j0 k l0 t277 t278 (bt280.2 != (t279.size : Int))) else (laws_FnEncodings.j0 k l0 t277 t278 true)))))) else (none)))))) = some r := H
  have A2 := Aside0.mk A20
  clear A20
  by_cases c3 : t276 = true
  · subst c3
    have H1 : (some true) = some r := by rw [if_pos rfl] at H; exact H
    clear H
    have H := H1
    clear H1
    obtain rfl := Option.some.inj H
    go_enter Try.func11, Try.ntmps11
    go_wp2_with (first | ((with_reducible refine gate_callee (f := 46) rfl ?_); refine goesL_ (some 18) rfl rfl Try.func46 (by kernel_rfl) rfl #[.slice A0 l0.length c0] rfl (by (try simp only [List.map_toArray, List.map_cons, List.map_nil]); first | done | rfl | (simp only [List.length_drop, List.length_take]; rfl)) ?_; (with_reducible refine (laws_big.calls _ _ l0 true _ ?side1 ?side2 A2.out).mono ?_); (case side1 => repeat (first | exact HR0.out | (with_reducible refine Kd.C_alloc ?_ _) | (with_reducible refine Kd.C_drewN ?_ _) | (with_reducible refine Kd.C_drew ?_))); (case side2 => exact HC0.out); rintro e w' ⟨rfl, ⟨nd, rfl⟩⟩; refine ⟨_, rfl, ?_⟩))
    go_ret
    exact ⟨by first | rfl | (simp [errW_none, errW_some] <;> rfl) | (simp [*, errW_none, errW_some] <;> rfl), by repeat (first | (with_reducible first | exact HB.out | apply below_alloc | apply pw_below_drewN | apply below_drew1) | exact HB.out)⟩
  · replace c3 := Bool.eq_false_iff.mpr c3
    subst c3
    have H1 : ((spec_DrawEncodeVarint.f k l0).bind fun t277 => ((spec_DrawEncodeHex.f k l0).bind fun t278 => ((impl_EncodeVarint.f k t277).bind fun t279 => (if t279.size + t278.size ≤ 9223372036854775807 then ((impl_DecodeVarint.f k (t279 ++ t278)).bind fun bt280 => (if t277 ≥ 0 then (if ((t279.toList != ([] : List UInt8)) != (decide (t277 ≤ 562949953421311))) = true then (laws_FnEncodings.j0 k l0 t277 t278 true) else (if t279.toList = ([] : List UInt8) then (laws_FnEncodings.j0 k l0 t277 t278 false) else (if bt280.1 = t277 then (laws_FnEncodings.j0 k l0 t277 t278 (bt280.2 != (t279.size : Int))) else (laws_FnEncodings.j0 k l0 t277 t278 true)))) else (if ((t279.toList != ([] : List UInt8)) != false) = true then (laws_FnEncodings.j0 k l0 t277 t278 true) else (if t279.toList = ([] : List UInt8) then (laws_FnEncodings.j0 k l0 t277 t278 false) else (if bt280.1 = t277 then (laws_FnEncodings.j0 k l0 t277 t278 (bt280.2 != (t279.size : Int))) else (laws_FnEncodings.j0 k l0 t277 t278 true)))))) else (none))))) = some r := by rw [if_neg (show ¬ (false = true) by decide)] at H; exact H
    clear H
    have H := H1
    clear H1
    replace H := Option.bind_eq_some_iff.mp H
    obtain ⟨t277, A40, H⟩ := H
    replace H : ((spec_DrawEncodeHex.f k l0).bind fun t278 => ((impl_EncodeVarint.f k t277).bind fun t279 => (if t279.size + t278.size ≤ 9223372036854775807 then ((impl_DecodeVarint.f k (t279 ++ t278)).bind fun bt280 => (if t277 ≥ 0 then (if ((t279.toList != ([] : List UInt8)) != (decide (t277 ≤ 562949953421311))) = true then (laws_FnEncodings.j0 k l0 t277 t278 true) else (if t279.toList = ([] : List UInt8) then (laws_FnEncodings.j0 k l0 t277 t278 false) else (if bt280.1 = t277 then (laws_FnEncodings.j0 k l0 t277 t278 (bt280.2 != (t279.size : Int))) else (laws_FnEncodings.j0 k l0 t277 t278 true)))) else (if ((t279.toList != ([] : List UInt8)) != false) = true then (laws_FnEncodings.j0 k l0 t277 t278 true) else (if t279.toList = ([] : List UInt8) then (laws_FnEncodings.j0 k l0 t277 t278 false) else (if bt280.1 = t277 then (laws_FnEncodings.j0 k l0 t277 t278 (bt280.2 != (t279.size : Int))) else (laws_FnEncodings.j0 k l0 t277 t278 true)))))) else (none)))) = some r := H
    have A4 := Aside0.mk A40
    clear A40
    replace H := Option.bind_eq_some_iff.mp H
    obtain ⟨t278, A50, H⟩ := H
    replace H : ((impl_EncodeVarint.f k t277).bind fun t279 => (if t279.size + t278.size ≤ 9223372036854775807 then ((impl_DecodeVarint.f k (t279 ++ t278)).bind fun bt280 => (if t277 ≥ 0 then (if ((t279.toList != ([] : List UInt8)) != (decide (t277 ≤ 562949953421311))) = true then (laws_FnEncodings.j0 k l0 t277 t278 true) else (if t279.toList = ([] : List UInt8) then (laws_FnEncodings.j0 k l0 t277 t278 false) else (if bt280.1 = t277 then (laws_FnEncodings.j0 k l0 t277 t278 (bt280.2 != (t279.size : Int))) else (laws_FnEncodings.j0 k l0 t277 t278 true)))) else (if ((t279.toList != ([] : List UInt8)) != false) = true then (laws_FnEncodings.j0 k l0 t277 t278 true) else (if t279.toList = ([] : List UInt8) then (laws_FnEncodings.j0 k l0 t277 t278 false) else (if bt280.1 = t277 then (laws_FnEncodings.j0 k l0 t277 t278 (bt280.2 != (t279.size : Int))) else (laws_FnEncodings.j0 k l0 t277 t278 true)))))) else (none))) = some r := H
    have A5 := Aside0.mk A50
    clear A50
    replace H := Option.bind_eq_some_iff.mp H
    obtain ⟨t279, A60, H⟩ := H
    replace H : (if t279.size + t278.size ≤ 9223372036854775807 then ((impl_DecodeVarint.f k (t279 ++ t278)).bind fun bt280 => (if t277 ≥ 0 then (if ((t279.toList != ([] : List UInt8)) != (decide (t277 ≤ 562949953421311))) = true then (laws_FnEncodings.j0 k l0 t277 t278 true) else (if t279.toList = ([] : List UInt8) then (laws_FnEncodings.j0 k l0 t277 t278 false) else (if bt280.1 = t277 then (laws_FnEncodings.j0 k l0 t277 t278 (bt280.2 != (t279.size : Int))) else (laws_FnEncodings.j0 k l0 t277 t278 true)))) else (if ((t279.toList != ([] : List UInt8)) != false) = true then (laws_FnEncodings.j0 k l0 t277 t278 true) else (if t279.toList = ([] : List UInt8) then (laws_FnEncodings.j0 k l0 t277 t278 false) else (if bt280.1 = t277 then (laws_FnEncodings.j0 k l0 t277 t278 (bt280.2 != (t279.size : Int))) else (laws_FnEncodings.j0 k l0 t277 t278 true)))))) else (none)) = some r := H
    have A6 := Aside0.mk A60
    clear A60
    by_cases c7 : t279.size + t278.size ≤ 9223372036854775807
    · rw [if_pos c7] at H
      have c7b0 := eq_true c7
      have c7b1 : decide (t279.size + t278.size ≤ 9223372036854775807) = true := decide_eq_true c7
      try have c7b2 : (9223372036854775807 < t279.size + t278.size) = False := eq_false (Nat.not_lt.2 c7)
      replace H := Option.bind_eq_some_iff.mp H
      obtain ⟨⟨t280, t281⟩, A80, H⟩ := H
      replace H : (if t277 ≥ 0 then (if ((t279.toList != ([] : List UInt8)) != (decide (t277 ≤ 562949953421311))) = true then (laws_FnEncodings.j0 k l0 t277 t278 true) else (if t279.toList = ([] : List UInt8) then (laws_FnEncodings.j0 k l0 t277 t278 false) else (if t280 = t277 then (laws_FnEncodings.j0 k l0 t277 t278 (t281 != (t279.size : Int))) else (laws_FnEncodings.j0 k l0 t277 t278 true)))) else (if ((t279.toList != ([] : List UInt8)) != false) = true then (laws_FnEncodings.j0 k l0 t277 t278 true) else (if t279.toList = ([] : List UInt8) then (laws_FnEncodings.j0 k l0 t277 t278 false) else (if t280 = t277 then (laws_FnEncodings.j0 k l0 t277 t278 (t281 != (t279.size : Int))) else (laws_FnEncodings.j0 k l0 t277 t278 true))))) = some r := H
      have A8 := Aside0.mk A80
      clear A80
      have HC9 := Aside0.mk H
      clear H
      go_enter Try.func11, Try.ntmps11
      go_upto_region 7 with (first | ((with_reducible refine gate_callee (f := 46) rfl ?_); refine goesL_ (some 18) rfl rfl Try.func46 (by kernel_rfl) rfl #[.slice A0 l0.length c0] rfl (by (try simp only [List.map_toArray, List.map_cons, List.map_nil]); first | done | rfl | (simp only [List.length_drop, List.length_take]; rfl)) ?_; (with_reducible refine (laws_big.calls _ _ l0 false _ ?side1 ?side2 A2.out).mono ?_); (case side1 => repeat (first | exact HR0.out | (with_reducible refine Kd.C_alloc ?_ _) | (with_reducible refine Kd.C_drewN ?_ _) | (with_reducible refine Kd.C_drew ?_))); (case side2 => exact HC0.out); rintro e w' ⟨rfl, ⟨nd, rfl⟩⟩; refine ⟨_, rfl, ?_⟩) | ((with_reducible refine gate_callee (f := 59) rfl ?_); refine goesL_ (some 20) rfl rfl Try.func59 (by kernel_rfl) rfl #[.slice A0 l0.length c0] rfl (by (try simp only [List.map_toArray, List.map_cons, List.map_nil]); first | done | rfl | (simp only [List.length_drop, List.length_take]; rfl)) ?_; (with_reducible refine (spec_DrawEncodeVarint.calls k _ _ l0 t277 _ ?side1 ?side2 A4.out).mono ?_); (case side1 => repeat (first | exact HR0.out | (with_reducible refine Kd.C_alloc ?_ _) | (with_reducible refine Kd.C_drewN ?_ _) | (with_reducible refine Kd.C_drew ?_))); (case side2 => exact HC0.out); rintro e w10 ⟨rfl, hb⟩; refine ⟨_, rfl, ?_⟩; have n0_ := Aside0.mk (below_step (by repeat (first | (with_reducible first | exact HB.out | apply below_alloc | apply pw_below_drewN | apply below_drew1) | exact HB.out)) hb); clear HB; have HB := n0_; clear n0_; (try clear hb); (try clear hb2); (try clear hk); (try clear hi)) | ((with_reducible refine gate_callee (f := 60) rfl ?_); refine goesL_ (some 22) rfl rfl Try.func60 (by kernel_rfl) rfl #[.slice A0 l0.length c0] rfl (by (try simp only [List.map_toArray, List.map_cons, List.map_nil]); first | done | rfl | (simp only [List.length_drop, List.length_take]; rfl)) ?_; (with_reducible refine (spec_DrawEncodeHex.calls k _ _ l0 t278 _ ?side1 ?side2 A5.out).mono ?_); (case side1 => repeat (first | exact (Kd.C_below HR0.out HB.out) | (with_reducible refine Kd.C_alloc ?_ _) | (with_reducible refine Kd.C_drewN ?_ _) | (with_reducible refine Kd.C_drew ?_))); (case side2 => exact HC0.out); rintro e w11 ⟨rfl, hb⟩; refine ⟨_, rfl, ?_⟩; have n0_ := Aside0.mk (below_step (by repeat (first | (with_reducible first | exact HB.out | apply below_alloc | apply pw_below_drewN | apply below_drew1) | exact HB.out)) hb); clear HB; have HB := n0_; clear n0_; (try clear hb); (try clear hb2); (try clear hk); (try clear hi)) | ((with_reducible refine gate_callee (f := 61) rfl ?_); refine goesL_ (some 24) rfl rfl Try.func61 (by kernel_rfl) rfl #[.int .i64 t277] rfl (by (try simp only [List.map_toArray, List.map_cons, List.map_nil]); first | done | rfl | (simp only [List.length_drop, List.length_take]; rfl)) ?_; (with_reducible refine (impl_EncodeVarint.calls k t277 t279 _ A6.out).mono ?_); rintro e w12 ⟨rfl, hb⟩; refine ⟨_, rfl, ?_⟩; have n0_ := Aside0.mk (below_step (by repeat (first | (with_reducible first | exact HB.out | apply below_alloc | apply pw_below_drewN | apply below_drew1) | exact HB.out)) hb); clear HB; have HB := n0_; clear n0_; (try clear hb); (try clear hb2); (try clear hk); (try clear hi)) | ((with_reducible refine gate_callee (f := 62) rfl ?_); refine goesL_ (some 29) rfl rfl Try.func62 (by kernel_rfl) rfl #[.string (t279 ++ t278)] rfl (by (try simp only [List.map_toArray, List.map_cons, List.map_nil]); first | done | rfl | (simp only [List.length_drop, List.length_take]; rfl)) ?_; (with_reducible refine (impl_DecodeVarint.calls k (t279 ++ t278) t280 t281 _ A8.out).mono ?_); rintro e w13 ⟨rfl, hb⟩; refine ⟨_, rfl, ?_⟩; have n0_ := Aside0.mk (below_step (by repeat (first | (with_reducible first | exact HB.out | apply below_alloc | apply pw_below_drewN | apply below_drew1) | exact HB.out)) hb); clear HB; have HB := n0_; clear n0_; (try clear hb); (try clear hb2); (try clear hk); (try clear hi)))
      (try simp only [Act.put, List.setIfInBounds_toArray, List.set_cons_zero, List.set_cons_succ])
      go_cut [55] (fun v55 wc => ∃ (kq : Nat) (x55_8 : Bool), v55 = .bool x55_8 ∧ Aside0 (laws_FnEncodings.j0 kq l0 t277 t278 x55_8 = some r) ∧ Aside0 (kq ≤ k) ∧ Aside0 (Below w.heap.size w wc))
      case first =>
        have H := HC9.out
        clear HC9
        by_cases c14 : t277 ≥ 0
        · rw [if_pos c14] at H
          have c14b0 : decide (0 ≤ t277) = true := decide_eq_true c14
          clear c14
          (first | rw [c14b0] | (simp only [i64_w, i32_w]; rw [c14b0]) | skip)
          by_cases c15 : ((t279.toList != ([] : List UInt8)) != (decide (t277 ≤ 562949953421311))) = true
          · rw [if_pos c15] at H
            have c15b0 : ((t279.toList != ([] : List UInt8)) != (decide (t277 ≤ 562949953421311))) = true := c15
            (try (have c15b1 : decide ((t279.toList != ([] : List UInt8)) = (decide (t277 ≤ 562949953421311))) = false := by simpa using c15))
            (try (have c15b2 : ((t279.toList != ([] : List UInt8)) == (decide (t277 ≤ 562949953421311))) = false := by simpa using c15))
            (try (have c15b3 : ¬ ((t279.toList != ([] : List UInt8)) = (decide (t277 ≤ 562949953421311))) := by simpa using c15))
            clear c15
            have H' := Aside0.mk H
            clear H
            cases hA_ : (t279.toList == ([] : List UInt8)) <;> cases hB_ : decide (t277 ≤ 562949953421311) <;> (first | (exfalso; first | (exact absurd (hA_.symm.trans c15b0) (by decide)) | (have h_ := c15b0; revert h_; rw [bne, bne, hA_, hB_]; decide) | (have h_ := c15b0; revert h_; rw [bne, bne, hA_]; decide) | (exact absurd (hA_.symm.trans c16b0) (by decide)) | (have h_ := c16b0; revert h_; rw [bne, bne, hA_, hB_]; decide) | (have h_ := c16b0; revert h_; rw [bne, bne, hA_]; decide) | (exact absurd (hA_.symm.trans c17b0) (by decide)) | (have h_ := c17b0; revert h_; rw [bne, bne, hA_, hB_]; decide) | (have h_ := c17b0; revert h_; rw [bne, bne, hA_]; decide) | (exact absurd (hA_.symm.trans c18b0) (by decide)) | (have h_ := c18b0; revert h_; rw [bne, bne, hA_, hB_]; decide) | (have h_ := c18b0; revert h_; rw [bne, bne, hA_]; decide) | (exact absurd (hA_.symm.trans c19b0) (by decide)) | (have h_ := c19b0; revert h_; rw [bne, bne, hA_, hB_]; decide) | (have h_ := c19b0; revert h_; rw [bne, bne, hA_]; decide) | (exact absurd (hA_.symm.trans c20b0) (by decide)) | (have h_ := c20b0; revert h_; rw [bne, bne, hA_, hB_]; decide) | (have h_ := c20b0; revert h_; rw [bne, bne, hA_]; decide)) | (have hA1_ : (t279.toList != ([] : List UInt8)) = !(t279.toList == ([] : List UInt8)) := rfl; rw [hA_] at hA1_; simp only [Bool.not_true, Bool.not_false] at hA1_; (try have hB2_ := eq_true (of_decide_eq_true hB_)); (try have hB2_ := eq_false (of_decide_eq_false hB_)); go_wp2; go_meet; (case rel => exact ⟨_, (true), (by first | rfl | (simp; done) | (simp [*]; done)), H', ⟨by first | omega | exact Nat.le_refl _⟩, ⟨by repeat (first | (with_reducible first | exact HB.out | apply below_alloc | apply pw_below_drewN | apply below_drew1) | exact HB.out)⟩⟩)))
          · rw [if_neg c15] at H
            have c15b0 : ((t279.toList != ([] : List UInt8)) != (decide (t277 ≤ 562949953421311))) = false := by simpa using c15
            (try (have c15b1 : decide ((t279.toList != ([] : List UInt8)) = (decide (t277 ≤ 562949953421311))) = true := by simpa using c15))
            (try (have c15b2 : ((t279.toList != ([] : List UInt8)) == (decide (t277 ≤ 562949953421311))) = true := by simpa using c15))
            clear c15
            by_cases c16 : t279.toList = ([] : List UInt8)
            · rw [if_pos c16] at H
              have c16b0 : (t279.toList == ([] : List UInt8)) = true := beq_iff_eq.mpr c16
              have c16b1 : (t279.toList != ([] : List UInt8)) = false := bne_eq_false_iff_eq.mpr c16
              clear c16
              have H' := Aside0.mk H
              clear H
              cases hA_ : (t279.toList == ([] : List UInt8)) <;> cases hB_ : decide (t277 ≤ 562949953421311) <;> (first | (exfalso; first | (exact absurd (hA_.symm.trans c15b0) (by decide)) | (have h_ := c15b0; revert h_; rw [bne, bne, hA_, hB_]; decide) | (have h_ := c15b0; revert h_; rw [bne, bne, hA_]; decide) | (exact absurd (hA_.symm.trans c16b0) (by decide)) | (have h_ := c16b0; revert h_; rw [bne, bne, hA_, hB_]; decide) | (have h_ := c16b0; revert h_; rw [bne, bne, hA_]; decide) | (exact absurd (hA_.symm.trans c17b0) (by decide)) | (have h_ := c17b0; revert h_; rw [bne, bne, hA_, hB_]; decide) | (have h_ := c17b0; revert h_; rw [bne, bne, hA_]; decide) | (exact absurd (hA_.symm.trans c18b0) (by decide)) | (have h_ := c18b0; revert h_; rw [bne, bne, hA_, hB_]; decide) | (have h_ := c18b0; revert h_; rw [bne, bne, hA_]; decide) | (exact absurd (hA_.symm.trans c19b0) (by decide)) | (have h_ := c19b0; revert h_; rw [bne, bne, hA_, hB_]; decide) | (have h_ := c19b0; revert h_; rw [bne, bne, hA_]; decide) | (exact absurd (hA_.symm.trans c20b0) (by decide)) | (have h_ := c20b0; revert h_; rw [bne, bne, hA_, hB_]; decide) | (have h_ := c20b0; revert h_; rw [bne, bne, hA_]; decide)) | (have hA1_ : (t279.toList != ([] : List UInt8)) = !(t279.toList == ([] : List UInt8)) := rfl; rw [hA_] at hA1_; simp only [Bool.not_true, Bool.not_false] at hA1_; (try have hB2_ := eq_true (of_decide_eq_true hB_)); (try have hB2_ := eq_false (of_decide_eq_false hB_)); go_wp2; go_meet; (case rel => exact ⟨_, (false), (by first | rfl | (simp; done) | (simp [*]; done)), H', ⟨by first | omega | exact Nat.le_refl _⟩, ⟨by repeat (first | (with_reducible first | exact HB.out | apply below_alloc | apply pw_below_drewN | apply below_drew1) | exact HB.out)⟩⟩)))
            · rw [if_neg c16] at H
              have c16b0 : (t279.toList == ([] : List UInt8)) = false := beq_eq_false_iff_ne.mpr c16
              have c16b1 : (t279.toList != ([] : List UInt8)) = true := bne_iff_ne.mpr c16
              by_cases c17 : t280 = t277
              · rw [if_pos c17] at H
                have c17b0 : (t280 == t277) = true := beq_iff_eq.mpr c17
                have c17b1 : (t280 != t277) = false := bne_eq_false_iff_eq.mpr c17
                clear c17
                have H' := Aside0.mk H
                clear H
                cases hA_ : (t279.toList == ([] : List UInt8)) <;> cases hB_ : decide (t277 ≤ 562949953421311) <;> (first | (exfalso; first | (exact absurd (hA_.symm.trans c15b0) (by decide)) | (have h_ := c15b0; revert h_; rw [bne, bne, hA_, hB_]; decide) | (have h_ := c15b0; revert h_; rw [bne, bne, hA_]; decide) | (exact absurd (hA_.symm.trans c16b0) (by decide)) | (have h_ := c16b0; revert h_; rw [bne, bne, hA_, hB_]; decide) | (have h_ := c16b0; revert h_; rw [bne, bne, hA_]; decide) | (exact absurd (hA_.symm.trans c17b0) (by decide)) | (have h_ := c17b0; revert h_; rw [bne, bne, hA_, hB_]; decide) | (have h_ := c17b0; revert h_; rw [bne, bne, hA_]; decide) | (exact absurd (hA_.symm.trans c18b0) (by decide)) | (have h_ := c18b0; revert h_; rw [bne, bne, hA_, hB_]; decide) | (have h_ := c18b0; revert h_; rw [bne, bne, hA_]; decide) | (exact absurd (hA_.symm.trans c19b0) (by decide)) | (have h_ := c19b0; revert h_; rw [bne, bne, hA_, hB_]; decide) | (have h_ := c19b0; revert h_; rw [bne, bne, hA_]; decide) | (exact absurd (hA_.symm.trans c20b0) (by decide)) | (have h_ := c20b0; revert h_; rw [bne, bne, hA_, hB_]; decide) | (have h_ := c20b0; revert h_; rw [bne, bne, hA_]; decide)) | (have hA1_ : (t279.toList != ([] : List UInt8)) = !(t279.toList == ([] : List UInt8)) := rfl; rw [hA_] at hA1_; simp only [Bool.not_true, Bool.not_false] at hA1_; (try have hB2_ := eq_true (of_decide_eq_true hB_)); (try have hB2_ := eq_false (of_decide_eq_false hB_)); go_wp2; go_meet; (case rel => exact ⟨_, ((t281 != (t279.size : Int))), (by first | rfl | (simp; done) | (simp [*]; done)), H', ⟨by first | omega | exact Nat.le_refl _⟩, ⟨by repeat (first | (with_reducible first | exact HB.out | apply below_alloc | apply pw_below_drewN | apply below_drew1) | exact HB.out)⟩⟩)))
              · rw [if_neg c17] at H
                have c17b0 : (t280 == t277) = false := beq_eq_false_iff_ne.mpr c17
                have c17b1 : (t280 != t277) = true := bne_iff_ne.mpr c17
                have H' := Aside0.mk H
                clear H
                cases hA_ : (t279.toList == ([] : List UInt8)) <;> cases hB_ : decide (t277 ≤ 562949953421311) <;> (first | (exfalso; first | (exact absurd (hA_.symm.trans c15b0) (by decide)) | (have h_ := c15b0; revert h_; rw [bne, bne, hA_, hB_]; decide) | (have h_ := c15b0; revert h_; rw [bne, bne, hA_]; decide) | (exact absurd (hA_.symm.trans c16b0) (by decide)) | (have h_ := c16b0; revert h_; rw [bne, bne, hA_, hB_]; decide) | (have h_ := c16b0; revert h_; rw [bne, bne, hA_]; decide) | (exact absurd (hA_.symm.trans c17b0) (by decide)) | (have h_ := c17b0; revert h_; rw [bne, bne, hA_, hB_]; decide) | (have h_ := c17b0; revert h_; rw [bne, bne, hA_]; decide) | (exact absurd (hA_.symm.trans c18b0) (by decide)) | (have h_ := c18b0; revert h_; rw [bne, bne, hA_, hB_]; decide) | (have h_ := c18b0; revert h_; rw [bne, bne, hA_]; decide) | (exact absurd (hA_.symm.trans c19b0) (by decide)) | (have h_ := c19b0; revert h_; rw [bne, bne, hA_, hB_]; decide) | (have h_ := c19b0; revert h_; rw [bne, bne, hA_]; decide) | (exact absurd (hA_.symm.trans c20b0) (by decide)) | (have h_ := c20b0; revert h_; rw [bne, bne, hA_, hB_]; decide) | (have h_ := c20b0; revert h_; rw [bne, bne, hA_]; decide)) | (have hA1_ : (t279.toList != ([] : List UInt8)) = !(t279.toList == ([] : List UInt8)) := rfl; rw [hA_] at hA1_; simp only [Bool.not_true, Bool.not_false] at hA1_; (try have hB2_ := eq_true (of_decide_eq_true hB_)); (try have hB2_ := eq_false (of_decide_eq_false hB_)); go_wp2; go_meet; (case rel => exact ⟨_, (true), (by first | rfl | (simp; done) | (simp [*]; done)), H', ⟨by first | omega | exact Nat.le_refl _⟩, ⟨by repeat (first | (with_reducible first | exact HB.out | apply below_alloc | apply pw_below_drewN | apply below_drew1) | exact HB.out)⟩⟩)))
        · rw [if_neg c14] at H
          have c14b0 : decide (0 ≤ t277) = false := decide_eq_false c14
          clear c14
          (first | rw [c14b0] | (simp only [i64_w, i32_w]; rw [c14b0]) | skip)
          by_cases c18 : ((t279.toList != ([] : List UInt8)) != false) = true
          · rw [if_pos c18] at H
            have c18b0 : ((t279.toList != ([] : List UInt8)) != false) = true := c18
            (try (have c18b1 : decide ((t279.toList != ([] : List UInt8)) = false) = false := by simpa using c18))
            (try (have c18b2 : ((t279.toList != ([] : List UInt8)) == false) = false := by simpa using c18))
            (try (have c18b3 : ¬ ((t279.toList != ([] : List UInt8)) = false) := by simpa using c18))
            clear c18
            have H' := Aside0.mk H
            clear H
            cases hA_ : (t279.toList == ([] : List UInt8)) <;> cases hB_ : decide (t277 ≤ 562949953421311) <;> (first | (exfalso; first | (exact absurd (hA_.symm.trans c15b0) (by decide)) | (have h_ := c15b0; revert h_; rw [bne, bne, hA_, hB_]; decide) | (have h_ := c15b0; revert h_; rw [bne, bne, hA_]; decide) | (exact absurd (hA_.symm.trans c16b0) (by decide)) | (have h_ := c16b0; revert h_; rw [bne, bne, hA_, hB_]; decide) | (have h_ := c16b0; revert h_; rw [bne, bne, hA_]; decide) | (exact absurd (hA_.symm.trans c17b0) (by decide)) | (have h_ := c17b0; revert h_; rw [bne, bne, hA_, hB_]; decide) | (have h_ := c17b0; revert h_; rw [bne, bne, hA_]; decide) | (exact absurd (hA_.symm.trans c18b0) (by decide)) | (have h_ := c18b0; revert h_; rw [bne, bne, hA_, hB_]; decide) | (have h_ := c18b0; revert h_; rw [bne, bne, hA_]; decide) | (exact absurd (hA_.symm.trans c19b0) (by decide)) | (have h_ := c19b0; revert h_; rw [bne, bne, hA_, hB_]; decide) | (have h_ := c19b0; revert h_; rw [bne, bne, hA_]; decide) | (exact absurd (hA_.symm.trans c20b0) (by decide)) | (have h_ := c20b0; revert h_; rw [bne, bne, hA_, hB_]; decide) | (have h_ := c20b0; revert h_; rw [bne, bne, hA_]; decide)) | (have hA1_ : (t279.toList != ([] : List UInt8)) = !(t279.toList == ([] : List UInt8)) := rfl; rw [hA_] at hA1_; simp only [Bool.not_true, Bool.not_false] at hA1_; (try have hB2_ := eq_true (of_decide_eq_true hB_)); (try have hB2_ := eq_false (of_decide_eq_false hB_)); go_wp2; go_meet; (case rel => exact ⟨_, (true), (by first | rfl | (simp; done) | (simp [*]; done)), H', ⟨by first | omega | exact Nat.le_refl _⟩, ⟨by repeat (first | (with_reducible first | exact HB.out | apply below_alloc | apply pw_below_drewN | apply below_drew1) | exact HB.out)⟩⟩)))
          · rw [if_neg c18] at H
            have c18b0 : ((t279.toList != ([] : List UInt8)) != false) = false := by simpa using c18
            (try (have c18b1 : decide ((t279.toList != ([] : List UInt8)) = false) = true := by simpa using c18))
            (try (have c18b2 : ((t279.toList != ([] : List UInt8)) == false) = true := by simpa using c18))
            clear c18
            by_cases c19 : t279.toList = ([] : List UInt8)
            · rw [if_pos c19] at H
              have c19b0 : (t279.toList == ([] : List UInt8)) = true := beq_iff_eq.mpr c19
              have c19b1 : (t279.toList != ([] : List UInt8)) = false := bne_eq_false_iff_eq.mpr c19
              clear c19
              have H' := Aside0.mk H
              clear H
              cases hA_ : (t279.toList == ([] : List UInt8)) <;> cases hB_ : decide (t277 ≤ 562949953421311) <;> (first | (exfalso; first | (exact absurd (hA_.symm.trans c15b0) (by decide)) | (have h_ := c15b0; revert h_; rw [bne, bne, hA_, hB_]; decide) | (have h_ := c15b0; revert h_; rw [bne, bne, hA_]; decide) | (exact absurd (hA_.symm.trans c16b0) (by decide)) | (have h_ := c16b0; revert h_; rw [bne, bne, hA_, hB_]; decide) | (have h_ := c16b0; revert h_; rw [bne, bne, hA_]; decide) | (exact absurd (hA_.symm.trans c17b0) (by decide)) | (have h_ := c17b0; revert h_; rw [bne, bne, hA_, hB_]; decide) | (have h_ := c17b0; revert h_; rw [bne, bne, hA_]; decide) | (exact absurd (hA_.symm.trans c18b0) (by decide)) | (have h_ := c18b0; revert h_; rw [bne, bne, hA_, hB_]; decide) | (have h_ := c18b0; revert h_; rw [bne, bne, hA_]; decide) | (exact absurd (hA_.symm.trans c19b0) (by decide)) | (have h_ := c19b0; revert h_; rw [bne, bne, hA_, hB_]; decide) | (have h_ := c19b0; revert h_; rw [bne, bne, hA_]; decide) | (exact absurd (hA_.symm.trans c20b0) (by decide)) | (have h_ := c20b0; revert h_; rw [bne, bne, hA_, hB_]; decide) | (have h_ := c20b0; revert h_; rw [bne, bne, hA_]; decide)) | (have hA1_ : (t279.toList != ([] : List UInt8)) = !(t279.toList == ([] : List UInt8)) := rfl; rw [hA_] at hA1_; simp only [Bool.not_true, Bool.not_false] at hA1_; (try have hB2_ := eq_true (of_decide_eq_true hB_)); (try have hB2_ := eq_false (of_decide_eq_false hB_)); go_wp2; go_meet; (case rel => exact ⟨_, (false), (by first | rfl | (simp; done) | (simp [*]; done)), H', ⟨by first | omega | exact Nat.le_refl _⟩, ⟨by repeat (first | (with_reducible first | exact HB.out | apply below_alloc | apply pw_below_drewN | apply below_drew1) | exact HB.out)⟩⟩)))
            · rw [if_neg c19] at H
              have c19b0 : (t279.toList == ([] : List UInt8)) = false := beq_eq_false_iff_ne.mpr c19
              have c19b1 : (t279.toList != ([] : List UInt8)) = true := bne_iff_ne.mpr c19
              by_cases c20 : t280 = t277
              · rw [if_pos c20] at H
                have c20b0 : (t280 == t277) = true := beq_iff_eq.mpr c20
                have c20b1 : (t280 != t277) = false := bne_eq_false_iff_eq.mpr c20
                clear c20
                have H' := Aside0.mk H
                clear H
                cases hA_ : (t279.toList == ([] : List UInt8)) <;> cases hB_ : decide (t277 ≤ 562949953421311) <;> (first | (exfalso; first | (exact absurd (hA_.symm.trans c15b0) (by decide)) | (have h_ := c15b0; revert h_; rw [bne, bne, hA_, hB_]; decide) | (have h_ := c15b0; revert h_; rw [bne, bne, hA_]; decide) | (exact absurd (hA_.symm.trans c16b0) (by decide)) | (have h_ := c16b0; revert h_; rw [bne, bne, hA_, hB_]; decide) | (have h_ := c16b0; revert h_; rw [bne, bne, hA_]; decide) | (exact absurd (hA_.symm.trans c17b0) (by decide)) | (have h_ := c17b0; revert h_; rw [bne, bne, hA_, hB_]; decide) | (have h_ := c17b0; revert h_; rw [bne, bne, hA_]; decide) | (exact absurd (hA_.symm.trans c18b0) (by decide)) | (have h_ := c18b0; revert h_; rw [bne, bne, hA_, hB_]; decide) | (have h_ := c18b0; revert h_; rw [bne, bne, hA_]; decide) | (exact absurd (hA_.symm.trans c19b0) (by decide)) | (have h_ := c19b0; revert h_; rw [bne, bne, hA_, hB_]; decide) | (have h_ := c19b0; revert h_; rw [bne, bne, hA_]; decide) | (exact absurd (hA_.symm.trans c20b0) (by decide)) | (have h_ := c20b0; revert h_; rw [bne, bne, hA_, hB_]; decide) | (have h_ := c20b0; revert h_; rw [bne, bne, hA_]; decide)) | (have hA1_ : (t279.toList != ([] : List UInt8)) = !(t279.toList == ([] : List UInt8)) := rfl; rw [hA_] at hA1_; simp only [Bool.not_true, Bool.not_false] at hA1_; (try have hB2_ := eq_true (of_decide_eq_true hB_)); (try have hB2_ := eq_false (of_decide_eq_false hB_)); go_wp2; go_meet; (case rel => exact ⟨_, ((t281 != (t279.size : Int))), (by first | rfl | (simp; done) | (simp [*]; done)), H', ⟨by first | omega | exact Nat.le_refl _⟩, ⟨by repeat (first | (with_reducible first | exact HB.out | apply below_alloc | apply pw_below_drewN | apply below_drew1) | exact HB.out)⟩⟩)))
              · rw [if_neg c20] at H
                have c20b0 : (t280 == t277) = false := beq_eq_false_iff_ne.mpr c20
                have c20b1 : (t280 != t277) = true := bne_iff_ne.mpr c20
                have H' := Aside0.mk H
                clear H
                cases hA_ : (t279.toList == ([] : List UInt8)) <;> cases hB_ : decide (t277 ≤ 562949953421311) <;> (first | (exfalso; first | (exact absurd (hA_.symm.trans c15b0) (by decide)) | (have h_ := c15b0; revert h_; rw [bne, bne, hA_, hB_]; decide) | (have h_ := c15b0; revert h_; rw [bne, bne, hA_]; decide) | (exact absurd (hA_.symm.trans c16b0) (by decide)) | (have h_ := c16b0; revert h_; rw [bne, bne, hA_, hB_]; decide) | (have h_ := c16b0; revert h_; rw [bne, bne, hA_]; decide) | (exact absurd (hA_.symm.trans c17b0) (by decide)) | (have h_ := c17b0; revert h_; rw [bne, bne, hA_, hB_]; decide) | (have h_ := c17b0; revert h_; rw [bne, bne, hA_]; decide) | (exact absurd (hA_.symm.trans c18b0) (by decide)) | (have h_ := c18b0; revert h_; rw [bne, bne, hA_, hB_]; decide) | (have h_ := c18b0; revert h_; rw [bne, bne, hA_]; decide) | (exact absurd (hA_.symm.trans c19b0) (by decide)) | (have h_ := c19b0; revert h_; rw [bne, bne, hA_, hB_]; decide) | (have h_ := c19b0; revert h_; rw [bne, bne, hA_]; decide) | (exact absurd (hA_.symm.trans c20b0) (by decide)) | (have h_ := c20b0; revert h_; rw [bne, bne, hA_, hB_]; decide) | (have h_ := c20b0; revert h_; rw [bne, bne, hA_]; decide)) | (have hA1_ : (t279.toList != ([] : List UInt8)) = !(t279.toList == ([] : List UInt8)) := rfl; rw [hA_] at hA1_; simp only [Bool.not_true, Bool.not_false] at hA1_; (try have hB2_ := eq_true (of_decide_eq_true hB_)); (try have hB2_ := eq_false (of_decide_eq_false hB_)); go_wp2; go_meet; (case rel => exact ⟨_, (true), (by first | rfl | (simp; done) | (simp [*]; done)), H', ⟨by first | omega | exact Nat.le_refl _⟩, ⟨by repeat (first | (with_reducible first | exact HB.out | apply below_alloc | apply pw_below_drewN | apply below_drew1) | exact HB.out)⟩⟩)))
      case rest =>
        clear HC9
        try clear c1
        try clear c2
        try clear p2
        try clear c3
        try clear c4
        try clear c5
        try clear c6
        try clear c7
        try clear c7b0
        try clear c7b1
        try clear c7b2
        try clear c11
        try clear c14
        try clear c14b0
        try clear c15
        try clear c15b0
        try clear c15b1
        try clear c15b2
        try clear c16
        try clear c16b0
        try clear c16b1
        try clear c17
        try clear c17b0
        try clear c17b1
        try clear c18
        try clear c18b0
        try clear c18b1
        try clear c18b2
        try clear c19
        try clear c19b0
        try clear c19b1
        try clear c20
        try clear c20b0
        try clear c20b1
        obtain ⟨kq, x55_8, rfl, HA, HJ8, HB⟩ := hcut
        cases kq with
        | zero => exact absurd HA.out (by simp [laws_FnEncodings.j0])
        | succ kj8 =>
          have H := HA.out
          clear HA
          simp only [laws_FnEncodings.j0] at H
          by_cases c21 : x55_8 = true
          · subst c21
            have H1 : (some false) = some r := by rw [if_pos rfl] at H; exact H
            clear H
            have H := H1
            clear H1
            obtain rfl := Option.some.inj H
            go_wp2
            go_ret
            exact ⟨by first | rfl | (simp [errW_none, errW_some] <;> rfl) | (simp [*, errW_none, errW_some] <;> rfl), by repeat (first | (with_reducible first | exact HB.out | apply below_alloc | apply pw_below_drewN | apply below_drew1) | exact HB.out)⟩
          · replace c21 := Bool.eq_false_iff.mpr c21
            subst c21
            have H1 : ((impl_EncodeFixed.f kj8 t277 7).bind fun t282 => (if t282.size + t278.size ≤ 9223372036854775807 then ((impl_DecodeFixed.f kj8 (t282 ++ t278) 7).bind fun bt283 => (if t282.toList = ([] : List UInt8) then (if t277 < 0 then (laws_FnEncodings.j1 kj8 l0 t277 t278 ((t282.toList == ([] : List UInt8)) != true)) else (laws_FnEncodings.j1 kj8 l0 t277 t278 ((t282.toList == ([] : List UInt8)) != (decide (t277 ≥ 72057594037927936))))) else (if bt283.2 = true then (if bt283.1 = t277 then (if (t282.size : Int) = 7 then (if t277 < 0 then (laws_FnEncodings.j1 kj8 l0 t277 t278 ((t282.toList == ([] : List UInt8)) != true)) else (laws_FnEncodings.j1 kj8 l0 t277 t278 ((t282.toList == ([] : List UInt8)) != (decide (t277 ≥ 72057594037927936))))) else (laws_FnEncodings.j1 kj8 l0 t277 t278 true)) else (laws_FnEncodings.j1 kj8 l0 t277 t278 true)) else (laws_FnEncodings.j1 kj8 l0 t277 t278 true)))) else (none))) = some r := by rw [if_neg (show ¬ (false = true) by decide)] at H; exact H
            clear H
            have H := H1
            clear H1
            replace H := Option.bind_eq_some_iff.mp H
            obtain ⟨t282, A220, H⟩ := H
            replace H : (if t282.size + t278.size ≤ 9223372036854775807 then ((impl_DecodeFixed.f kj8 (t282 ++ t278) 7).bind fun bt283 => (if t282.toList = ([] : List UInt8) then (if t277 < 0 then (laws_FnEncodings.j1 kj8 l0 t277 t278 ((t282.toList == ([] : List UInt8)) != true)) else (laws_FnEncodings.j1 kj8 l0 t277 t278 ((t282.toList == ([] : List UInt8)) != (decide (t277 ≥ 72057594037927936))))) else (if bt283.2 = true then (if bt283.1 = t277 then (if (t282.size : Int) = 7 then (if t277 < 0 then (laws_FnEncodings.j1 kj8 l0 t277 t278 ((t282.toList == ([] : List UInt8)) != true)) else (laws_FnEncodings.j1 kj8 l0 t277 t278 ((t282.toList == ([] : List UInt8)) != (decide (t277 ≥ 72057594037927936))))) else (laws_FnEncodings.j1 kj8 l0 t277 t278 true)) else (laws_FnEncodings.j1 kj8 l0 t277 t278 true)) else (laws_FnEncodings.j1 kj8 l0 t277 t278 true)))) else (none)) = some r := H
            have A22 := Aside0.mk A220
            clear A220
            by_cases c23 : t282.size + t278.size ≤ 9223372036854775807
            · rw [if_pos c23] at H
              have c23b0 := eq_true c23
              have c23b1 : decide (t282.size + t278.size ≤ 9223372036854775807) = true := decide_eq_true c23
              try have c23b2 : (9223372036854775807 < t282.size + t278.size) = False := eq_false (Nat.not_lt.2 c23)
              replace H := Option.bind_eq_some_iff.mp H
              obtain ⟨⟨t283, t284⟩, A240, H⟩ := H
              replace H : (if t282.toList = ([] : List UInt8) then (if t277 < 0 then (laws_FnEncodings.j1 kj8 l0 t277 t278 ((t282.toList == ([] : List UInt8)) != true)) else (laws_FnEncodings.j1 kj8 l0 t277 t278 ((t282.toList == ([] : List UInt8)) != (decide (t277 ≥ 72057594037927936))))) else (if t284 = true then (if t283 = t277 then (if (t282.size : Int) = 7 then (if t277 < 0 then (laws_FnEncodings.j1 kj8 l0 t277 t278 ((t282.toList == ([] : List UInt8)) != true)) else (laws_FnEncodings.j1 kj8 l0 t277 t278 ((t282.toList == ([] : List UInt8)) != (decide (t277 ≥ 72057594037927936))))) else (laws_FnEncodings.j1 kj8 l0 t277 t278 true)) else (laws_FnEncodings.j1 kj8 l0 t277 t278 true)) else (laws_FnEncodings.j1 kj8 l0 t277 t278 true))) = some r := H
              have A24 := Aside0.mk A240
              clear A240
              have HC25 := Aside0.mk H
              clear H
              go_upto_region 11 with (first | ((with_reducible refine gate_callee (f := 63) rfl ?_); refine goesL_ (some 57) rfl rfl Try.func63 (by kernel_rfl) rfl #[.int .i64 t277, .int .i64 7] rfl (by (try simp only [List.map_toArray, List.map_cons, List.map_nil]); first | done | rfl | (simp only [List.length_drop, List.length_take]; rfl)) ?_; (with_reducible refine (impl_EncodeFixed.calls kj8 t277 7 t282 _ A22.out).mono ?_); rintro e w26 ⟨rfl, hb⟩; refine ⟨_, rfl, ?_⟩; have n0_ := Aside0.mk (below_step (by repeat (first | (with_reducible first | exact HB.out | apply below_alloc | apply pw_below_drewN | apply below_drew1) | exact HB.out)) hb); clear HB; have HB := n0_; clear n0_; (try clear hb); (try clear hb2); (try clear hk); (try clear hi)) | ((with_reducible refine gate_callee (f := 64) rfl ?_); refine goesL_ (some 62) rfl rfl Try.func64 (by kernel_rfl) rfl #[.string (t282 ++ t278), .int .i64 7] rfl (by (try simp only [List.map_toArray, List.map_cons, List.map_nil]); first | done | rfl | (simp only [List.length_drop, List.length_take]; rfl)) ?_; (with_reducible refine (impl_DecodeFixed.calls kj8 (t282 ++ t278) 7 t283 t284 _ A24.out).mono ?_); rintro e w' ⟨rfl, ⟨nd, rfl⟩⟩; refine ⟨_, rfl, ?_⟩))
              (try simp only [Act.put, List.setIfInBounds_toArray, List.set_cons_zero, List.set_cons_succ])
              go_cut [91] (fun v91 wc => ∃ (kq : Nat) (x91_24 : Bool), v91 = .bool x91_24 ∧ Aside0 (laws_FnEncodings.j1 kq l0 t277 t278 x91_24 = some r) ∧ Aside0 (kq ≤ kj8) ∧ Aside0 (Below w.heap.size w wc))
              case first =>
                have H := HC25.out
                clear HC25
                by_cases c27 : t282.toList = ([] : List UInt8)
                · rw [if_pos c27] at H
                  have c27b0 : (t282.toList == ([] : List UInt8)) = true := beq_iff_eq.mpr c27
                  have c27b1 : (t282.toList != ([] : List UInt8)) = false := bne_eq_false_iff_eq.mpr c27
                  clear c27
                  (first | rw [c27b0] | (simp only [i64_w, i32_w]; rw [c27b0]) | skip)
                  by_cases c28 : t277 < 0
                  · rw [if_pos c28] at H
                    have c28b0 : decide (t277 < 0) = true := decide_eq_true c28
                    clear c28
                    have H' := Aside0.mk H
                    clear H
                    go_wp2
                    go_meet
                    case rel => exact ⟨_, (((t282.toList == ([] : List UInt8)) != true)), (by first | rfl | (simp; done) | (simp [*]; done)), H', ⟨by have := HJ8.out; first | omega | exact Nat.le_refl _⟩, ⟨by repeat (first | (with_reducible first | exact HB.out | apply below_alloc | apply pw_below_drewN | apply below_drew1) | exact HB.out)⟩⟩
                  · rw [if_neg c28] at H
                    have c28b0 : decide (t277 < 0) = false := decide_eq_false c28
                    clear c28
                    have H' := Aside0.mk H
                    clear H
                    go_wp2
                    go_meet
                    case rel => exact ⟨_, (((t282.toList == ([] : List UInt8)) != (decide (t277 ≥ 72057594037927936)))), (by first | rfl | (simp; done) | (simp [*]; done)), H', ⟨by have := HJ8.out; first | omega | exact Nat.le_refl _⟩, ⟨by repeat (first | (with_reducible first | exact HB.out | apply below_alloc | apply pw_below_drewN | apply below_drew1) | exact HB.out)⟩⟩
                · rw [if_neg c27] at H
                  have c27b0 : (t282.toList == ([] : List UInt8)) = false := beq_eq_false_iff_ne.mpr c27
                  have c27b1 : (t282.toList != ([] : List UInt8)) = true := bne_iff_ne.mpr c27
                  (first | rw [c27b0] | (simp only [i64_w, i32_w]; rw [c27b0]) | skip)
                  by_cases c29 : t284 = true
                  · subst c29
                    have H1 : (if t283 = t277 then (if (t282.size : Int) = 7 then (if t277 < 0 then (laws_FnEncodings.j1 kj8 l0 t277 t278 ((t282.toList == ([] : List UInt8)) != true)) else (laws_FnEncodings.j1 kj8 l0 t277 t278 ((t282.toList == ([] : List UInt8)) != (decide (t277 ≥ 72057594037927936))))) else (laws_FnEncodings.j1 kj8 l0 t277 t278 true)) else (laws_FnEncodings.j1 kj8 l0 t277 t278 true)) = some r := by rw [if_pos rfl] at H; exact H
                    clear H
                    have H := H1
                    clear H1
                    by_cases c30 : t283 = t277
                    · rw [if_pos c30] at H
                      have c30b0 : (t283 == t277) = true := beq_iff_eq.mpr c30
                      have c30b1 : (t283 != t277) = false := bne_eq_false_iff_eq.mpr c30
                      clear c30
                      by_cases c31 : (t282.size : Int) = 7
                      · rw [if_pos c31] at H
                        have c31b0 : ((t282.size : Int) == 7) = true := beq_iff_eq.mpr c31
                        have c31b1 : ((t282.size : Int) != 7) = false := bne_eq_false_iff_eq.mpr c31
                        clear c31
                        by_cases c32 : t277 < 0
                        · rw [if_pos c32] at H
                          have c32b0 : decide (t277 < 0) = true := decide_eq_true c32
                          clear c32
                          have H' := Aside0.mk H
                          clear H
                          go_wp2
                          go_meet
                          case rel => exact ⟨_, (((t282.toList == ([] : List UInt8)) != true)), (by first | rfl | (simp; done) | (simp [*]; done)), H', ⟨by have := HJ8.out; first | omega | exact Nat.le_refl _⟩, ⟨by repeat (first | (with_reducible first | exact HB.out | apply below_alloc | apply pw_below_drewN | apply below_drew1) | exact HB.out)⟩⟩
                        · rw [if_neg c32] at H
                          have c32b0 : decide (t277 < 0) = false := decide_eq_false c32
                          clear c32
                          have H' := Aside0.mk H
                          clear H
                          go_wp2
                          go_meet
                          case rel => exact ⟨_, (((t282.toList == ([] : List UInt8)) != (decide (t277 ≥ 72057594037927936)))), (by first | rfl | (simp; done) | (simp [*]; done)), H', ⟨by have := HJ8.out; first | omega | exact Nat.le_refl _⟩, ⟨by repeat (first | (with_reducible first | exact HB.out | apply below_alloc | apply pw_below_drewN | apply below_drew1) | exact HB.out)⟩⟩
                      · rw [if_neg c31] at H
                        have c31b0 : ((t282.size : Int) == 7) = false := beq_eq_false_iff_ne.mpr c31
                        have c31b1 : ((t282.size : Int) != 7) = true := bne_iff_ne.mpr c31
                        have H' := Aside0.mk H
                        clear H
                        go_wp2
                        go_meet
                        case rel => exact ⟨_, (true), (by first | rfl | (simp; done) | (simp [*]; done)), H', ⟨by have := HJ8.out; first | omega | exact Nat.le_refl _⟩, ⟨by repeat (first | (with_reducible first | exact HB.out | apply below_alloc | apply pw_below_drewN | apply below_drew1) | exact HB.out)⟩⟩
                    · rw [if_neg c30] at H
                      have c30b0 : (t283 == t277) = false := beq_eq_false_iff_ne.mpr c30
                      have c30b1 : (t283 != t277) = true := bne_iff_ne.mpr c30
                      have H' := Aside0.mk H
                      clear H
                      go_wp2
                      go_meet
                      case rel => exact ⟨_, (true), (by first | rfl | (simp; done) | (simp [*]; done)), H', ⟨by have := HJ8.out; first | omega | exact Nat.le_refl _⟩, ⟨by repeat (first | (with_reducible first | exact HB.out | apply below_alloc | apply pw_below_drewN | apply below_drew1) | exact HB.out)⟩⟩
                  · replace c29 := Bool.eq_false_iff.mpr c29
                    subst c29
                    have H1 : (laws_FnEncodings.j1 kj8 l0 t277 t278 true) = some r := by rw [if_neg (show ¬ (false = true) by decide)] at H; exact H
                    clear H
                    have H := H1
                    clear H1
                    have H' := Aside0.mk H
                    clear H
                    go_wp2
                    go_meet
                    case rel => exact ⟨_, (true), (by first | rfl | (simp; done) | (simp [*]; done)), H', ⟨by have := HJ8.out; first | omega | exact Nat.le_refl _⟩, ⟨by repeat (first | (with_reducible first | exact HB.out | apply below_alloc | apply pw_below_drewN | apply below_drew1) | exact HB.out)⟩⟩
              case rest =>
                clear HC25
                try clear c1
                try clear c2
                try clear p2
                try clear c3
                try clear c4
                try clear c5
                try clear c6
                try clear c7
                try clear c7b0
                try clear c7b1
                try clear c7b2
                try clear c11
                try clear c14
                try clear c14b0
                try clear c15
                try clear c15b0
                try clear c15b1
                try clear c15b2
                try clear c16
                try clear c16b0
                try clear c16b1
                try clear c17
                try clear c17b0
                try clear c17b1
                try clear c18
                try clear c18b0
                try clear c18b1
                try clear c18b2
                try clear c19
                try clear c19b0
                try clear c19b1
                try clear c20
                try clear c20b0
                try clear c20b1
                try clear c21
                try clear c23
                try clear c23b0
                try clear c23b1
                try clear c23b2
                try clear c27
                try clear c27b0
                try clear c27b1
                try clear c28
                try clear c28b0
                try clear c29
                try clear c30
                try clear c30b0
                try clear c30b1
                try clear c31
                try clear c31b0
                try clear c31b1
                try clear c32
                try clear c32b0
                try clear p2
                obtain ⟨kq, x91_24, rfl, HA, HJ24, HB⟩ := hcut
                cases kq with
                | zero => exact absurd HA.out (by simp [laws_FnEncodings.j1])
                | succ kj24 =>
                  have H := HA.out
                  clear HA
                  simp only [laws_FnEncodings.j1] at H
                  by_cases c33 : x91_24 = true
                  · subst c33
                    have H1 : (some false) = some r := by rw [if_pos rfl] at H; exact H
                    clear H
                    have H := H1
                    clear H1
                    obtain rfl := Option.some.inj H
                    go_wp2
                    go_ret
                    exact ⟨by first | rfl | (simp [errW_none, errW_some] <;> rfl) | (simp [*, errW_none, errW_some] <;> rfl), by repeat (first | (with_reducible first | exact HB.out | apply below_alloc | apply pw_below_drewN | apply below_drew1) | exact HB.out)⟩
                  · replace c33 := Bool.eq_false_iff.mpr c33
                    subst c33
                    have H1 : ((impl_FormatInt.f kj24 t277).bind fun t285 => ((impl_ParseInt.f kj24 t285).bind fun bt286 => (if t277 > (-1000000000) then (if (bt286.2 != (decide (t277 < 1000000000))) = true then (laws_FnEncodings.j2 kj24 l0 t278 true) else (if bt286.2 = true then (laws_FnEncodings.j2 kj24 l0 t278 (bt286.1 != t277)) else (laws_FnEncodings.j2 kj24 l0 t278 false))) else (if (bt286.2 != false) = true then (laws_FnEncodings.j2 kj24 l0 t278 true) else (if bt286.2 = true then (laws_FnEncodings.j2 kj24 l0 t278 (bt286.1 != t277)) else (laws_FnEncodings.j2 kj24 l0 t278 false)))))) = some r := by rw [if_neg (show ¬ (false = true) by decide)] at H; exact H
                    clear H
                    have H := H1
                    clear H1
                    replace H := Option.bind_eq_some_iff.mp H
                    obtain ⟨t285, A340, H⟩ := H
                    replace H : ((impl_ParseInt.f kj24 t285).bind fun bt286 => (if t277 > (-1000000000) then (if (bt286.2 != (decide (t277 < 1000000000))) = true then (laws_FnEncodings.j2 kj24 l0 t278 true) else (if bt286.2 = true then (laws_FnEncodings.j2 kj24 l0 t278 (bt286.1 != t277)) else (laws_FnEncodings.j2 kj24 l0 t278 false))) else (if (bt286.2 != false) = true then (laws_FnEncodings.j2 kj24 l0 t278 true) else (if bt286.2 = true then (laws_FnEncodings.j2 kj24 l0 t278 (bt286.1 != t277)) else (laws_FnEncodings.j2 kj24 l0 t278 false))))) = some r := H
                    have A34 := Aside0.mk A340
                    clear A340
                    replace H := Option.bind_eq_some_iff.mp H
                    obtain ⟨⟨t286, t287⟩, A350, H⟩ := H
                    replace H : (if t277 > (-1000000000) then (if (t287 != (decide (t277 < 1000000000))) = true then (laws_FnEncodings.j2 kj24 l0 t278 true) else (if t287 = true then (laws_FnEncodings.j2 kj24 l0 t278 (t286 != t277)) else (laws_FnEncodings.j2 kj24 l0 t278 false))) else (if (t287 != false) = true then (laws_FnEncodings.j2 kj24 l0 t278 true) else (if t287 = true then (laws_FnEncodings.j2 kj24 l0 t278 (t286 != t277)) else (laws_FnEncodings.j2 kj24 l0 t278 false)))) = some r := H
                    have A35 := Aside0.mk A350
                    clear A350
                    have HC36 := Aside0.mk H
                    clear H
                    go_upto_region 14 with (first | ((with_reducible refine gate_callee (f := 66) rfl ?_); refine goesL_ (some 94) rfl rfl Try.func66 (by kernel_rfl) rfl #[.int .i64 t277] rfl (by (try simp only [List.map_toArray, List.map_cons, List.map_nil]); first | done | rfl | (simp only [List.length_drop, List.length_take]; rfl)) ?_; (with_reducible refine (impl_FormatInt.calls kj24 t277 t285 _ A34.out).mono ?_); rintro e w37 ⟨rfl, hb⟩; refine ⟨_, rfl, ?_⟩; have n0_ := Aside0.mk (below_step (by repeat (first | (with_reducible first | exact HB.out | apply below_alloc | apply pw_below_drewN | apply below_drew1) | exact HB.out)) hb); clear HB; have HB := n0_; clear n0_; (try clear hb); (try clear hb2); (try clear hk); (try clear hi)) | ((with_reducible refine gate_callee (f := 65) rfl ?_); refine goesL_ (some 95) rfl rfl Try.func65 (by kernel_rfl) rfl #[.string t285] rfl (by (try simp only [List.map_toArray, List.map_cons, List.map_nil]); first | done | rfl | (simp only [List.length_drop, List.length_take]; rfl)) ?_; (with_reducible refine (impl_ParseInt.calls kj24 t285 t286 t287 _ A35.out).mono ?_); rintro e w38 ⟨rfl, hb⟩; refine ⟨_, rfl, ?_⟩; have n0_ := Aside0.mk (below_step (by repeat (first | (with_reducible first | exact HB.out | apply below_alloc | apply pw_below_drewN | apply below_drew1) | exact HB.out)) hb); clear HB; have HB := n0_; clear n0_; (try clear hb); (try clear hb2); (try clear hk); (try clear hi)))
                    (try simp only [Act.put, List.setIfInBounds_toArray, List.set_cons_zero, List.set_cons_succ])
                    go_cut [113] (fun v113 wc => ∃ (kq : Nat) (x113_35 : Bool), v113 = .bool x113_35 ∧ Aside0 (laws_FnEncodings.j2 kq l0 t278 x113_35 = some r) ∧ Aside0 (kq ≤ kj24) ∧ Aside0 (Below w.heap.size w wc))
                    case first =>
                      have H := HC36.out
                      clear HC36
                      by_cases c39 : t277 > (-1000000000)
                      · rw [if_pos c39] at H
                        have c39b0 : decide ((-1000000000) < t277) = true := decide_eq_true c39
                        clear c39
                        (first | rw [c39b0] | (simp only [i64_w, i32_w]; rw [c39b0]) | skip)
                        by_cases c40 : (t287 != (decide (t277 < 1000000000))) = true
                        · rw [if_pos c40] at H
                          have c40b0 : (t287 != (decide (t277 < 1000000000))) = true := c40
                          (try (have c40b1 : decide (t287 = (decide (t277 < 1000000000))) = false := by simpa using c40))
                          (try (have c40b2 : (t287 == (decide (t277 < 1000000000))) = false := by simpa using c40))
                          (try (have c40b3 : ¬ (t287 = (decide (t277 < 1000000000))) := by simpa using c40))
                          clear c40
                          have H' := Aside0.mk H
                          clear H
                          go_wp2
                          go_meet
                          case rel => exact ⟨_, (true), (by first | rfl | (simp; done) | (simp [*]; done)), H', ⟨by have := HJ8.out; have := HJ24.out; first | omega | exact Nat.le_refl _⟩, ⟨by repeat (first | (with_reducible first | exact HB.out | apply below_alloc | apply pw_below_drewN | apply below_drew1) | exact HB.out)⟩⟩
                        · rw [if_neg c40] at H
                          have c40b0 : (t287 != (decide (t277 < 1000000000))) = false := by simpa using c40
                          (try (have c40b1 : decide (t287 = (decide (t277 < 1000000000))) = true := by simpa using c40))
                          (try (have c40b2 : (t287 == (decide (t277 < 1000000000))) = true := by simpa using c40))
                          clear c40
                          by_cases c41 : t287 = true
                          · subst c41
                            have H1 : (laws_FnEncodings.j2 kj24 l0 t278 (t286 != t277)) = some r := by rw [if_pos rfl] at H; exact H
                            clear H
                            have H := H1
                            clear H1
                            have H' := Aside0.mk H
                            clear H
                            go_wp2
                            go_meet
                            case rel => exact ⟨_, ((t286 != t277)), (by first | rfl | (simp; done) | (simp [*]; done)), H', ⟨by have := HJ8.out; have := HJ24.out; first | omega | exact Nat.le_refl _⟩, ⟨by repeat (first | (with_reducible first | exact HB.out | apply below_alloc | apply pw_below_drewN | apply below_drew1) | exact HB.out)⟩⟩
                          · replace c41 := Bool.eq_false_iff.mpr c41
                            subst c41
                            have H1 : (laws_FnEncodings.j2 kj24 l0 t278 false) = some r := by rw [if_neg (show ¬ (false = true) by decide)] at H; exact H
                            clear H
                            have H := H1
                            clear H1
                            have H' := Aside0.mk H
                            clear H
                            go_wp2
                            go_meet
                            case rel => exact ⟨_, (false), (by first | rfl | (simp; done) | (simp [*]; done)), H', ⟨by have := HJ8.out; have := HJ24.out; first | omega | exact Nat.le_refl _⟩, ⟨by repeat (first | (with_reducible first | exact HB.out | apply below_alloc | apply pw_below_drewN | apply below_drew1) | exact HB.out)⟩⟩
                      · rw [if_neg c39] at H
                        have c39b0 : decide ((-1000000000) < t277) = false := decide_eq_false c39
                        clear c39
                        (first | rw [c39b0] | (simp only [i64_w, i32_w]; rw [c39b0]) | skip)
                        by_cases c42 : (t287 != false) = true
                        · rw [if_pos c42] at H
                          have c42b0 : (t287 != false) = true := c42
                          (try (have c42b1 : decide (t287 = false) = false := by simpa using c42))
                          (try (have c42b2 : (t287 == false) = false := by simpa using c42))
                          (try (have c42b3 : ¬ (t287 = false) := by simpa using c42))
                          clear c42
                          have H' := Aside0.mk H
                          clear H
                          go_wp2
                          go_meet
                          case rel => exact ⟨_, (true), (by first | rfl | (simp; done) | (simp [*]; done)), H', ⟨by have := HJ8.out; have := HJ24.out; first | omega | exact Nat.le_refl _⟩, ⟨by repeat (first | (with_reducible first | exact HB.out | apply below_alloc | apply pw_below_drewN | apply below_drew1) | exact HB.out)⟩⟩
                        · rw [if_neg c42] at H
                          have c42b0 : (t287 != false) = false := by simpa using c42
                          (try (have c42b1 : decide (t287 = false) = true := by simpa using c42))
                          (try (have c42b2 : (t287 == false) = true := by simpa using c42))
                          clear c42
                          by_cases c43 : t287 = true
                          · subst c43
                            have H1 : (laws_FnEncodings.j2 kj24 l0 t278 (t286 != t277)) = some r := by rw [if_pos rfl] at H; exact H
                            clear H
                            have H := H1
                            clear H1
                            have H' := Aside0.mk H
                            clear H
                            go_wp2
                            go_meet
                            case rel => exact ⟨_, ((t286 != t277)), (by first | rfl | (simp; done) | (simp [*]; done)), H', ⟨by have := HJ8.out; have := HJ24.out; first | omega | exact Nat.le_refl _⟩, ⟨by repeat (first | (with_reducible first | exact HB.out | apply below_alloc | apply pw_below_drewN | apply below_drew1) | exact HB.out)⟩⟩
                          · replace c43 := Bool.eq_false_iff.mpr c43
                            subst c43
                            have H1 : (laws_FnEncodings.j2 kj24 l0 t278 false) = some r := by rw [if_neg (show ¬ (false = true) by decide)] at H; exact H
                            clear H
                            have H := H1
                            clear H1
                            have H' := Aside0.mk H
                            clear H
                            go_wp2
                            go_meet
                            case rel => exact ⟨_, (false), (by first | rfl | (simp; done) | (simp [*]; done)), H', ⟨by have := HJ8.out; have := HJ24.out; first | omega | exact Nat.le_refl _⟩, ⟨by repeat (first | (with_reducible first | exact HB.out | apply below_alloc | apply pw_below_drewN | apply below_drew1) | exact HB.out)⟩⟩
                    case rest =>
                      clear HC36
                      try clear c1
                      try clear c2
                      try clear p2
                      try clear c3
                      try clear c4
                      try clear c5
                      try clear c6
                      try clear c7
                      try clear c7b0
                      try clear c7b1
                      try clear c7b2
                      try clear c11
                      try clear c14
                      try clear c14b0
                      try clear c15
                      try clear c15b0
                      try clear c15b1
                      try clear c15b2
                      try clear c16
                      try clear c16b0
                      try clear c16b1
                      try clear c17
                      try clear c17b0
                      try clear c17b1
                      try clear c18
                      try clear c18b0
                      try clear c18b1
                      try clear c18b2
                      try clear c19
                      try clear c19b0
                      try clear c19b1
                      try clear c20
                      try clear c20b0
                      try clear c20b1
                      try clear c21
                      try clear c23
                      try clear c23b0
                      try clear c23b1
                      try clear c23b2
                      try clear c27
                      try clear c27b0
                      try clear c27b1
                      try clear c28
                      try clear c28b0
                      try clear c29
                      try clear c30
                      try clear c30b0
                      try clear c30b1
                      try clear c31
                      try clear c31b0
                      try clear c31b1
                      try clear c32
                      try clear c32b0
                      try clear c33
                      try clear c39
                      try clear c39b0
                      try clear c40
                      try clear c40b0
                      try clear c40b1
                      try clear c40b2
                      try clear c41
                      try clear c42
                      try clear c42b0
                      try clear c42b1
                      try clear c42b2
                      try clear c43
                      try clear p2
                      obtain ⟨kq, x113_35, rfl, HA, HJ35, HB⟩ := hcut
                      cases kq with
                      | zero => exact absurd HA.out (by simp [laws_FnEncodings.j2])
                      | succ kj35 =>
                        have H := HA.out
                        clear HA
                        simp only [laws_FnEncodings.j2] at H
                        by_cases c44 : x113_35 = true
                        · subst c44
                          have H1 : (some false) = some r := by rw [if_pos rfl] at H; exact H
                          clear H
                          have H := H1
                          clear H1
                          obtain rfl := Option.some.inj H
                          go_wp2
                          go_ret
                          exact ⟨by first | rfl | (simp [errW_none, errW_some] <;> rfl) | (simp [*, errW_none, errW_some] <;> rfl), by repeat (first | (with_reducible first | exact HB.out | apply below_alloc | apply pw_below_drewN | apply below_drew1) | exact HB.out)⟩
                        · replace c44 := Bool.eq_false_iff.mpr c44
                          subst c44
                          have H1 : ((impl_EncodeHex.f kj35 t278).bind fun t288 => ((impl_DecodeHex.f kj35 t288).bind fun bt289 => ((spec_DrawDecodeVarint.f kj35 l0).bind fun t291 => ((impl_DecodeVarint.f kj35 t291).bind fun bt292 => (if bt289.2 = true then (if bt289.1.toList = t278.toList then (if bt292.2 = 0 then (some true) else (if bt292.2 > 0 then ((spec_DrawDecodeVarint.f kj35 l0).bind fun t294 => (if bt292.2 ≤ (t294.size : Int) then ((spec_DrawDecodeVarint.f kj35 l0).bind fun t295 => (if bt292.2 ≤ (t295.size : Int) then ((impl_EncodeVarint.f kj35 bt292.1).bind fun t296 => ((spec_DrawDecodeVarint.f kj35 l0).bind fun t297 => (if 0 ≤ bt292.2 then (if bt292.2 ≤ (t297.size : Int) then (some (t296.toList == (t297.extract 0 (bt292.2 : Int).toNat).toList)) else (none)) else (none)))) else (some false))) else (some false))) else (some false))) else (some false)) else (some false)))))) = some r := by rw [if_neg (show ¬ (false = true) by decide)] at H; exact H
                          clear H
                          have H := H1
                          clear H1
                          replace H := Option.bind_eq_some_iff.mp H
                          obtain ⟨t288, A450, H⟩ := H
                          replace H : ((impl_DecodeHex.f kj35 t288).bind fun bt289 => ((spec_DrawDecodeVarint.f kj35 l0).bind fun t291 => ((impl_DecodeVarint.f kj35 t291).bind fun bt292 => (if bt289.2 = true then (if bt289.1.toList = t278.toList then (if bt292.2 = 0 then (some true) else (if bt292.2 > 0 then ((spec_DrawDecodeVarint.f kj35 l0).bind fun t294 => (if bt292.2 ≤ (t294.size : Int) then ((spec_DrawDecodeVarint.f kj35 l0).bind fun t295 => (if bt292.2 ≤ (t295.size : Int) then ((impl_EncodeVarint.f kj35 bt292.1).bind fun t296 => ((spec_DrawDecodeVarint.f kj35 l0).bind fun t297 => (if 0 ≤ bt292.2 then (if bt292.2 ≤ (t297.size : Int) then (some (t296.toList == (t297.extract 0 (bt292.2 : Int).toNat).toList)) else (none)) else (none)))) else (some false))) else (some false))) else (some false))) else (some false)) else (some false))))) = some r := H
                          have A45 := Aside0.mk A450
                          clear A450
                          replace H := Option.bind_eq_some_iff.mp H
                          obtain ⟨⟨t289, t290⟩, A460, H⟩ := H
                          replace H : ((spec_DrawDecodeVarint.f kj35 l0).bind fun t291 => ((impl_DecodeVarint.f kj35 t291).bind fun bt292 => (if t290 = true then (if t289.toList = t278.toList then (if bt292.2 = 0 then (some true) else (if bt292.2 > 0 then ((spec_DrawDecodeVarint.f kj35 l0).bind fun t294 => (if bt292.2 ≤ (t294.size : Int) then ((spec_DrawDecodeVarint.f kj35 l0).bind fun t295 => (if bt292.2 ≤ (t295.size : Int) then ((impl_EncodeVarint.f kj35 bt292.1).bind fun t296 => ((spec_DrawDecodeVarint.f kj35 l0).bind fun t297 => (if 0 ≤ bt292.2 then (if bt292.2 ≤ (t297.size : Int) then (some (t296.toList == (t297.extract 0 (bt292.2 : Int).toNat).toList)) else (none)) else (none)))) else (some false))) else (some false))) else (some false))) else (some false)) else (some false)))) = some r := H
                          have A46 := Aside0.mk A460
                          clear A460
                          replace H := Option.bind_eq_some_iff.mp H
                          obtain ⟨t291, A470, H⟩ := H
                          replace H : ((impl_DecodeVarint.f kj35 t291).bind fun bt292 => (if t290 = true then (if t289.toList = t278.toList then (if bt292.2 = 0 then (some true) else (if bt292.2 > 0 then ((spec_DrawDecodeVarint.f kj35 l0).bind fun t294 => (if bt292.2 ≤ (t294.size : Int) then ((spec_DrawDecodeVarint.f kj35 l0).bind fun t295 => (if bt292.2 ≤ (t295.size : Int) then ((impl_EncodeVarint.f kj35 bt292.1).bind fun t296 => ((spec_DrawDecodeVarint.f kj35 l0).bind fun t297 => (if 0 ≤ bt292.2 then (if bt292.2 ≤ (t297.size : Int) then (some (t296.toList == (t297.extract 0 (bt292.2 : Int).toNat).toList)) else (none)) else (none)))) else (some false))) else (some false))) else (some false))) else (some false)) else (some false))) = some r := H
                          have A47 := Aside0.mk A470
                          clear A470
                          replace H := Option.bind_eq_some_iff.mp H
                          obtain ⟨⟨t292, t293⟩, A480, H⟩ := H
                          replace H : (if t290 = true then (if t289.toList = t278.toList then (if t293 = 0 then (some true) else (if t293 > 0 then ((spec_DrawDecodeVarint.f kj35 l0).bind fun t294 => (if t293 ≤ (t294.size : Int) then ((spec_DrawDecodeVarint.f kj35 l0).bind fun t295 => (if t293 ≤ (t295.size : Int) then ((impl_EncodeVarint.f kj35 t292).bind fun t296 => ((spec_DrawDecodeVarint.f kj35 l0).bind fun t297 => (if 0 ≤ t293 then (if t293 ≤ (t297.size : Int) then (some (t296.toList == (t297.extract 0 (t293 : Int).toNat).toList)) else (none)) else (none)))) else (some false))) else (some false))) else (some false))) else (some false)) else (some false)) = some r := H
                          have A48 := Aside0.mk A480
                          clear A480
                          by_cases c49 : t290 = true
                          · subst c49
                            have H1 : (if t289.toList = t278.toList then (if t293 = 0 then (some true) else (if t293 > 0 then ((spec_DrawDecodeVarint.f kj35 l0).bind fun t294 => (if t293 ≤ (t294.size : Int) then ((spec_DrawDecodeVarint.f kj35 l0).bind fun t295 => (if t293 ≤ (t295.size : Int) then ((impl_EncodeVarint.f kj35 t292).bind fun t296 => ((spec_DrawDecodeVarint.f kj35 l0).bind fun t297 => (if 0 ≤ t293 then (if t293 ≤ (t297.size : Int) then (some (t296.toList == (t297.extract 0 (t293 : Int).toNat).toList)) else (none)) else (none)))) else (some false))) else (some false))) else (some false))) else (some false)) = some r := by rw [if_pos rfl] at H; exact H
                            clear H
                            have H := H1
                            clear H1
                            by_cases c50 : t289.toList = t278.toList
                            · rw [if_pos c50] at H
                              have c50b0 : (t289.toList == t278.toList) = true := beq_iff_eq.mpr c50
                              have c50b1 : (t289.toList != t278.toList) = false := bne_eq_false_iff_eq.mpr c50
                              clear c50
                              by_cases c51 : t293 = 0
                              · rw [if_pos c51] at H
                                have c51b0 : (t293 == 0) = true := beq_iff_eq.mpr c51
                                have c51b1 : (t293 != 0) = false := bne_eq_false_iff_eq.mpr c51
                                clear c51
                                obtain rfl := Option.some.inj H
                                go_wp2_with (first | ((with_reducible refine gate_callee (f := 68) rfl ?_); refine goesL_ (some 116) rfl rfl Try.func68 (by kernel_rfl) rfl #[.string t278] rfl (by (try simp only [List.map_toArray, List.map_cons, List.map_nil]); first | done | rfl | (simp only [List.length_drop, List.length_take]; rfl)) ?_; (with_reducible refine (impl_EncodeHex.calls kj35 t278 t288 _ A45.out).mono ?_); rintro e w52 ⟨rfl, hb⟩; refine ⟨_, rfl, ?_⟩; have n0_ := Aside0.mk (below_step (by repeat (first | (with_reducible first | exact HB.out | apply below_alloc | apply pw_below_drewN | apply below_drew1) | exact HB.out)) hb); clear HB; have HB := n0_; clear n0_; (try clear hb); (try clear hb2); (try clear hk); (try clear hi)) | ((with_reducible refine gate_callee (f := 67) rfl ?_); refine goesL_ (some 117) rfl rfl Try.func67 (by kernel_rfl) rfl #[.string t288] rfl (by (try simp only [List.map_toArray, List.map_cons, List.map_nil]); first | done | rfl | (simp only [List.length_drop, List.length_take]; rfl)) ?_; (with_reducible refine (impl_DecodeHex.calls kj35 t288 t289 true _ A46.out).mono ?_); rintro e w53 ⟨rfl, hb⟩; refine ⟨_, rfl, ?_⟩; have n0_ := Aside0.mk (below_step (by repeat (first | (with_reducible first | exact HB.out | apply below_alloc | apply pw_below_drewN | apply below_drew1) | exact HB.out)) hb); clear HB; have HB := n0_; clear n0_; (try clear hb); (try clear hb2); (try clear hk); (try clear hi)) | ((with_reducible refine gate_callee (f := 69) rfl ?_); refine goesL_ (some 122) rfl rfl Try.func69 (by kernel_rfl) rfl #[.slice A0 l0.length c0] rfl (by (try simp only [List.map_toArray, List.map_cons, List.map_nil]); first | done | rfl | (simp only [List.length_drop, List.length_take]; rfl)) ?_; (with_reducible refine (spec_DrawDecodeVarint.calls kj35 _ _ l0 t291 _ ?side1 ?side2 A47.out).mono ?_); (case side1 => repeat (first | exact (Kd.C_below HR0.out HB.out) | (with_reducible refine Kd.C_alloc ?_ _) | (with_reducible refine Kd.C_drewN ?_ _) | (with_reducible refine Kd.C_drew ?_))); (case side2 => exact HC0.out); rintro e w54 ⟨rfl, hb⟩; refine ⟨_, rfl, ?_⟩; have n0_ := Aside0.mk (below_step (by repeat (first | (with_reducible first | exact HB.out | apply below_alloc | apply pw_below_drewN | apply below_drew1) | exact HB.out)) hb); clear HB; have HB := n0_; clear n0_; (try clear hb); (try clear hb2); (try clear hk); (try clear hi)) | ((with_reducible refine gate_callee (f := 62) rfl ?_); refine goesL_ (some 123) rfl rfl Try.func62 (by kernel_rfl) rfl #[.string t291] rfl (by (try simp only [List.map_toArray, List.map_cons, List.map_nil]); first | done | rfl | (simp only [List.length_drop, List.length_take]; rfl)) ?_; (with_reducible refine (impl_DecodeVarint.calls kj35 t291 t292 t293 _ A48.out).mono ?_); rintro e w55 ⟨rfl, hb⟩; refine ⟨_, rfl, ?_⟩; have n0_ := Aside0.mk (below_step (by repeat (first | (with_reducible first | exact HB.out | apply below_alloc | apply pw_below_drewN | apply below_drew1) | exact HB.out)) hb); clear HB; have HB := n0_; clear n0_; (try clear hb); (try clear hb2); (try clear hk); (try clear hi)))
                                go_ret
                                exact ⟨by first | rfl | (simp [errW_none, errW_some] <;> rfl) | (simp [*, errW_none, errW_some] <;> rfl), by repeat (first | (with_reducible first | exact HB.out | apply below_alloc | apply pw_below_drewN | apply below_drew1) | exact HB.out)⟩
                              · rw [if_neg c51] at H
                                have c51b0 : (t293 == 0) = false := beq_eq_false_iff_ne.mpr c51
                                have c51b1 : (t293 != 0) = true := bne_iff_ne.mpr c51
                                by_cases c56 : t293 > 0
                                · rw [if_pos c56] at H
                                  have c56b0 : decide (0 < t293) = true := decide_eq_true c56
                                  clear c56
                                  replace H := Option.bind_eq_some_iff.mp H
                                  obtain ⟨t294, A570, H⟩ := H
                                  replace H : (if t293 ≤ (t294.size : Int) then ((spec_DrawDecodeVarint.f kj35 l0).bind fun t295 => (if t293 ≤ (t295.size : Int) then ((impl_EncodeVarint.f kj35 t292).bind fun t296 => ((spec_DrawDecodeVarint.f kj35 l0).bind fun t297 => (if 0 ≤ t293 then (if t293 ≤ (t297.size : Int) then (some (t296.toList == (t297.extract 0 (t293 : Int).toNat).toList)) else (none)) else (none)))) else (some false))) else (some false)) = some r := H
                                  have A57 := Aside0.mk A570
                                  clear A570
                                  by_cases c58 : t293 ≤ (t294.size : Int)
                                  · rw [if_pos c58] at H
                                    have c58b0 : decide (t293 ≤ (t294.size : Int)) = true := decide_eq_true c58
                                    clear c58
                                    replace H := Option.bind_eq_some_iff.mp H
                                    obtain ⟨t295, A590, H⟩ := H
                                    replace H : (if t293 ≤ (t295.size : Int) then ((impl_EncodeVarint.f kj35 t292).bind fun t296 => ((spec_DrawDecodeVarint.f kj35 l0).bind fun t297 => (if 0 ≤ t293 then (if t293 ≤ (t297.size : Int) then (some (t296.toList == (t297.extract 0 (t293 : Int).toNat).toList)) else (none)) else (none)))) else (some false)) = some r := H
                                    have A59 := Aside0.mk A590
                                    clear A590
                                    by_cases c60 : t293 ≤ (t295.size : Int)
                                    · rw [if_pos c60] at H
                                      have c60b0 : decide (t293 ≤ (t295.size : Int)) = true := decide_eq_true c60
                                      clear c60
                                      replace H := Option.bind_eq_some_iff.mp H
                                      obtain ⟨t296, A610, H⟩ := H
                                      replace H : ((spec_DrawDecodeVarint.f kj35 l0).bind fun t297 => (if 0 ≤ t293 then (if t293 ≤ (t297.size : Int) then (some (t296.toList == (t297.extract 0 (t293 : Int).toNat).toList)) else (none)) else (none))) = some r := H
                                      have A61 := Aside0.mk A610
                                      clear A610
                                      replace H := Option.bind_eq_some_iff.mp H
                                      obtain ⟨t297, A620, H⟩ := H
                                      replace H : (if 0 ≤ t293 then (if t293 ≤ (t297.size : Int) then (some (t296.toList == (t297.extract 0 (t293 : Int).toNat).toList)) else (none)) else (none)) = some r := H
                                      have A62 := Aside0.mk A620
                                      clear A620
                                      by_cases c63 : 0 ≤ t293
                                      · rw [if_pos c63] at H
                                        have c63b0 := eq_true c63
                                        have c63b1 : decide (0 ≤ t293) = true := decide_eq_true c63
                                        clear c63
                                        by_cases c64 : t293 ≤ (t297.size : Int)
                                        · rw [if_pos c64] at H
                                          have c64b0 := eq_true c64
                                          have c64b1 : decide (t293 ≤ (t297.size : Int)) = true := decide_eq_true c64
                                          clear c64
                                          obtain rfl := Option.some.inj H
                                          obtain rfl : t294 = t297 := Option.some.inj (A57.out.symm.trans A62.out)
                                          obtain rfl : t294 = t295 := Option.some.inj (A57.out.symm.trans A59.out)
                                          have c58b9 := eq_true (of_decide_eq_true c58b0)
                                          go_wp2_with (first | ((with_reducible refine gate_callee (f := 68) rfl ?_); refine goesL_ (some 116) rfl rfl Try.func68 (by kernel_rfl) rfl #[.string t278] rfl (by (try simp only [List.map_toArray, List.map_cons, List.map_nil]); first | done | rfl | (simp only [List.length_drop, List.length_take]; rfl)) ?_; (with_reducible refine (impl_EncodeHex.calls kj35 t278 t288 _ A45.out).mono ?_); rintro e w65 ⟨rfl, hb⟩; refine ⟨_, rfl, ?_⟩; have n0_ := Aside0.mk (below_step (by repeat (first | (with_reducible first | exact HB.out | apply below_alloc | apply pw_below_drewN | apply below_drew1) | exact HB.out)) hb); clear HB; have HB := n0_; clear n0_; (try clear hb); (try clear hb2); (try clear hk); (try clear hi)) | ((with_reducible refine gate_callee (f := 67) rfl ?_); refine goesL_ (some 117) rfl rfl Try.func67 (by kernel_rfl) rfl #[.string t288] rfl (by (try simp only [List.map_toArray, List.map_cons, List.map_nil]); first | done | rfl | (simp only [List.length_drop, List.length_take]; rfl)) ?_; (with_reducible refine (impl_DecodeHex.calls kj35 t288 t289 true _ A46.out).mono ?_); rintro e w66 ⟨rfl, hb⟩; refine ⟨_, rfl, ?_⟩; have n0_ := Aside0.mk (below_step (by repeat (first | (with_reducible first | exact HB.out | apply below_alloc | apply pw_below_drewN | apply below_drew1) | exact HB.out)) hb); clear HB; have HB := n0_; clear n0_; (try clear hb); (try clear hb2); (try clear hk); (try clear hi)) | ((with_reducible refine gate_callee (f := 69) rfl ?_); refine goesL_ (some 122) rfl rfl Try.func69 (by kernel_rfl) rfl #[.slice A0 l0.length c0] rfl (by (try simp only [List.map_toArray, List.map_cons, List.map_nil]); first | done | rfl | (simp only [List.length_drop, List.length_take]; rfl)) ?_; (with_reducible refine (spec_DrawDecodeVarint.calls kj35 _ _ l0 t291 _ ?side1 ?side2 A47.out).mono ?_); (case side1 => repeat (first | exact (Kd.C_below HR0.out HB.out) | (with_reducible refine Kd.C_alloc ?_ _) | (with_reducible refine Kd.C_drewN ?_ _) | (with_reducible refine Kd.C_drew ?_))); (case side2 => exact HC0.out); rintro e w67 ⟨rfl, hb⟩; refine ⟨_, rfl, ?_⟩; have n0_ := Aside0.mk (below_step (by repeat (first | (with_reducible first | exact HB.out | apply below_alloc | apply pw_below_drewN | apply below_drew1) | exact HB.out)) hb); clear HB; have HB := n0_; clear n0_; (try clear hb); (try clear hb2); (try clear hk); (try clear hi)) | ((with_reducible refine gate_callee (f := 62) rfl ?_); refine goesL_ (some 123) rfl rfl Try.func62 (by kernel_rfl) rfl #[.string t291] rfl (by (try simp only [List.map_toArray, List.map_cons, List.map_nil]); first | done | rfl | (simp only [List.length_drop, List.length_take]; rfl)) ?_; (with_reducible refine (impl_DecodeVarint.calls kj35 t291 t292 t293 _ A48.out).mono ?_); rintro e w68 ⟨rfl, hb⟩; refine ⟨_, rfl, ?_⟩; have n0_ := Aside0.mk (below_step (by repeat (first | (with_reducible first | exact HB.out | apply below_alloc | apply pw_below_drewN | apply below_drew1) | exact HB.out)) hb); clear HB; have HB := n0_; clear n0_; (try clear hb); (try clear hb2); (try clear hk); (try clear hi)) | (go_at_call 69; (with_reducible refine (spec_DrawDecodeVarint.calls kj35 _ _ l0 t294 _ ?side1 ?side2 A57.out).mono ?_); (case side1 => repeat (first | exact (Kd.C_below HR0.out HB.out) | (with_reducible refine Kd.C_alloc ?_ _) | (with_reducible refine Kd.C_drewN ?_ _) | (with_reducible refine Kd.C_drew ?_))); (case side2 => exact HC0.out); rintro e w69 ⟨rfl, hb⟩; have n0_ := Aside0.mk (below_step (by repeat (first | (with_reducible first | exact HB.out | apply below_alloc | apply pw_below_drewN | apply below_drew1) | exact HB.out)) hb); clear HB; have HB := n0_; clear n0_; (try clear hb); (try clear hb2); (try clear hk); (try clear hi)) | (go_at_call 69; (with_reducible refine (spec_DrawDecodeVarint.calls kj35 _ _ l0 t294 _ ?side1 ?side2 A59.out).mono ?_); (case side1 => repeat (first | exact (Kd.C_below HR0.out HB.out) | (with_reducible refine Kd.C_alloc ?_ _) | (with_reducible refine Kd.C_drewN ?_ _) | (with_reducible refine Kd.C_drew ?_))); (case side2 => exact HC0.out); rintro e w70 ⟨rfl, hb⟩; have n0_ := Aside0.mk (below_step (by repeat (first | (with_reducible first | exact HB.out | apply below_alloc | apply pw_below_drewN | apply below_drew1) | exact HB.out)) hb); clear HB; have HB := n0_; clear n0_; (try clear hb); (try clear hb2); (try clear hk); (try clear hi)) | (go_at_call 61; (with_reducible refine (impl_EncodeVarint.calls kj35 t292 t296 _ A61.out).mono ?_); rintro e w71 ⟨rfl, hb⟩; have n0_ := Aside0.mk (below_step (by repeat (first | (with_reducible first | exact HB.out | apply below_alloc | apply pw_below_drewN | apply below_drew1) | exact HB.out)) hb); clear HB; have HB := n0_; clear n0_; (try clear hb); (try clear hb2); (try clear hk); (try clear hi)) | (go_at_call 69; (with_reducible refine (spec_DrawDecodeVarint.calls kj35 _ _ l0 t294 _ ?side1 ?side2 A62.out).mono ?_); (case side1 => repeat (first | exact (Kd.C_below HR0.out HB.out) | (with_reducible refine Kd.C_alloc ?_ _) | (with_reducible refine Kd.C_drewN ?_ _) | (with_reducible refine Kd.C_drew ?_))); (case side2 => exact HC0.out); rintro e w72 ⟨rfl, hb⟩; have n0_ := Aside0.mk (below_step (by repeat (first | (with_reducible first | exact HB.out | apply below_alloc | apply pw_below_drewN | apply below_drew1) | exact HB.out)) hb); clear HB; have HB := n0_; clear n0_; (try clear hb); (try clear hb2); (try clear hk); (try clear hi)))
                                          go_ret
                                          exact ⟨by first | rfl | (simp [errW_none, errW_some] <;> rfl) | (simp [*, errW_none, errW_some] <;> rfl), by repeat (first | (with_reducible first | exact HB.out | apply below_alloc | apply pw_below_drewN | apply below_drew1) | exact HB.out)⟩
                                        · rw [if_neg c64] at H
                                          exact absurd H (by simp)
                                      · rw [if_neg c63] at H
                                        exact absurd H (by simp)
                                    · exact absurd (show t293 ≤ (t295.size : Int) by (rw [← (show t294 = t295 from Option.some.inj (A57.out.symm.trans A59.out))]; exact of_decide_eq_true c58b0)) c60
                                  · rw [if_neg c58] at H
                                    have c58b0 : decide (t293 ≤ (t294.size : Int)) = false := decide_eq_false c58
                                    clear c58
                                    obtain rfl := Option.some.inj H
                                    go_wp2_with (first | ((with_reducible refine gate_callee (f := 68) rfl ?_); refine goesL_ (some 116) rfl rfl Try.func68 (by kernel_rfl) rfl #[.string t278] rfl (by (try simp only [List.map_toArray, List.map_cons, List.map_nil]); first | done | rfl | (simp only [List.length_drop, List.length_take]; rfl)) ?_; (with_reducible refine (impl_EncodeHex.calls kj35 t278 t288 _ A45.out).mono ?_); rintro e w79 ⟨rfl, hb⟩; refine ⟨_, rfl, ?_⟩; have n0_ := Aside0.mk (below_step (by repeat (first | (with_reducible first | exact HB.out | apply below_alloc | apply pw_below_drewN | apply below_drew1) | exact HB.out)) hb); clear HB; have HB := n0_; clear n0_; (try clear hb); (try clear hb2); (try clear hk); (try clear hi)) | ((with_reducible refine gate_callee (f := 67) rfl ?_); refine goesL_ (some 117) rfl rfl Try.func67 (by kernel_rfl) rfl #[.string t288] rfl (by (try simp only [List.map_toArray, List.map_cons, List.map_nil]); first | done | rfl | (simp only [List.length_drop, List.length_take]; rfl)) ?_; (with_reducible refine (impl_DecodeHex.calls kj35 t288 t289 true _ A46.out).mono ?_); rintro e w80 ⟨rfl, hb⟩; refine ⟨_, rfl, ?_⟩; have n0_ := Aside0.mk (below_step (by repeat (first | (with_reducible first | exact HB.out | apply below_alloc | apply pw_below_drewN | apply below_drew1) | exact HB.out)) hb); clear HB; have HB := n0_; clear n0_; (try clear hb); (try clear hb2); (try clear hk); (try clear hi)) | ((with_reducible refine gate_callee (f := 69) rfl ?_); refine goesL_ (some 122) rfl rfl Try.func69 (by kernel_rfl) rfl #[.slice A0 l0.length c0] rfl (by (try simp only [List.map_toArray, List.map_cons, List.map_nil]); first | done | rfl | (simp only [List.length_drop, List.length_take]; rfl)) ?_; (with_reducible refine (spec_DrawDecodeVarint.calls kj35 _ _ l0 t291 _ ?side1 ?side2 A47.out).mono ?_); (case side1 => repeat (first | exact (Kd.C_below HR0.out HB.out) | (with_reducible refine Kd.C_alloc ?_ _) | (with_reducible refine Kd.C_drewN ?_ _) | (with_reducible refine Kd.C_drew ?_))); (case side2 => exact HC0.out); rintro e w81 ⟨rfl, hb⟩; refine ⟨_, rfl, ?_⟩; have n0_ := Aside0.mk (below_step (by repeat (first | (with_reducible first | exact HB.out | apply below_alloc | apply pw_below_drewN | apply below_drew1) | exact HB.out)) hb); clear HB; have HB := n0_; clear n0_; (try clear hb); (try clear hb2); (try clear hk); (try clear hi)) | ((with_reducible refine gate_callee (f := 62) rfl ?_); refine goesL_ (some 123) rfl rfl Try.func62 (by kernel_rfl) rfl #[.string t291] rfl (by (try simp only [List.map_toArray, List.map_cons, List.map_nil]); first | done | rfl | (simp only [List.length_drop, List.length_take]; rfl)) ?_; (with_reducible refine (impl_DecodeVarint.calls kj35 t291 t292 t293 _ A48.out).mono ?_); rintro e w82 ⟨rfl, hb⟩; refine ⟨_, rfl, ?_⟩; have n0_ := Aside0.mk (below_step (by repeat (first | (with_reducible first | exact HB.out | apply below_alloc | apply pw_below_drewN | apply below_drew1) | exact HB.out)) hb); clear HB; have HB := n0_; clear n0_; (try clear hb); (try clear hb2); (try clear hk); (try clear hi)) | (go_at_call 69; (with_reducible refine (spec_DrawDecodeVarint.calls kj35 _ _ l0 t294 _ ?side1 ?side2 A57.out).mono ?_); (case side1 => repeat (first | exact (Kd.C_below HR0.out HB.out) | (with_reducible refine Kd.C_alloc ?_ _) | (with_reducible refine Kd.C_drewN ?_ _) | (with_reducible refine Kd.C_drew ?_))); (case side2 => exact HC0.out); rintro e w83 ⟨rfl, hb⟩; have n0_ := Aside0.mk (below_step (by repeat (first | (with_reducible first | exact HB.out | apply below_alloc | apply pw_below_drewN | apply below_drew1) | exact HB.out)) hb); clear HB; have HB := n0_; clear n0_; (try clear hb); (try clear hb2); (try clear hk); (try clear hi)))
                                    go_ret
                                    exact ⟨by first | rfl | (simp [errW_none, errW_some] <;> rfl) | (simp [*, errW_none, errW_some] <;> rfl), by repeat (first | (with_reducible first | exact HB.out | apply below_alloc | apply pw_below_drewN | apply below_drew1) | exact HB.out)⟩
                                · rw [if_neg c56] at H
                                  have c56b0 : decide (0 < t293) = false := decide_eq_false c56
                                  clear c56
                                  obtain rfl := Option.some.inj H
                                  go_wp2_with (first | ((with_reducible refine gate_callee (f := 68) rfl ?_); refine goesL_ (some 116) rfl rfl Try.func68 (by kernel_rfl) rfl #[.string t278] rfl (by (try simp only [List.map_toArray, List.map_cons, List.map_nil]); first | done | rfl | (simp only [List.length_drop, List.length_take]; rfl)) ?_; (with_reducible refine (impl_EncodeHex.calls kj35 t278 t288 _ A45.out).mono ?_); rintro e w84 ⟨rfl, hb⟩; refine ⟨_, rfl, ?_⟩; have n0_ := Aside0.mk (below_step (by repeat (first | (with_reducible first | exact HB.out | apply below_alloc | apply pw_below_drewN | apply below_drew1) | exact HB.out)) hb); clear HB; have HB := n0_; clear n0_; (try clear hb); (try clear hb2); (try clear hk); (try clear hi)) | ((with_reducible refine gate_callee (f := 67) rfl ?_); refine goesL_ (some 117) rfl rfl Try.func67 (by kernel_rfl) rfl #[.string t288] rfl (by (try simp only [List.map_toArray, List.map_cons, List.map_nil]); first | done | rfl | (simp only [List.length_drop, List.length_take]; rfl)) ?_; (with_reducible refine (impl_DecodeHex.calls kj35 t288 t289 true _ A46.out).mono ?_); rintro e w85 ⟨rfl, hb⟩; refine ⟨_, rfl, ?_⟩; have n0_ := Aside0.mk (below_step (by repeat (first | (with_reducible first | exact HB.out | apply below_alloc | apply pw_below_drewN | apply below_drew1) | exact HB.out)) hb); clear HB; have HB := n0_; clear n0_; (try clear hb); (try clear hb2); (try clear hk); (try clear hi)) | ((with_reducible refine gate_callee (f := 69) rfl ?_); refine goesL_ (some 122) rfl rfl Try.func69 (by kernel_rfl) rfl #[.slice A0 l0.length c0] rfl (by (try simp only [List.map_toArray, List.map_cons, List.map_nil]); first | done | rfl | (simp only [List.length_drop, List.length_take]; rfl)) ?_; (with_reducible refine (spec_DrawDecodeVarint.calls kj35 _ _ l0 t291 _ ?side1 ?side2 A47.out).mono ?_); (case side1 => repeat (first | exact (Kd.C_below HR0.out HB.out) | (with_reducible refine Kd.C_alloc ?_ _) | (with_reducible refine Kd.C_drewN ?_ _) | (with_reducible refine Kd.C_drew ?_))); (case side2 => exact HC0.out); rintro e w86 ⟨rfl, hb⟩; refine ⟨_, rfl, ?_⟩; have n0_ := Aside0.mk (below_step (by repeat (first | (with_reducible first | exact HB.out | apply below_alloc | apply pw_below_drewN | apply below_drew1) | exact HB.out)) hb); clear HB; have HB := n0_; clear n0_; (try clear hb); (try clear hb2); (try clear hk); (try clear hi)) | ((with_reducible refine gate_callee (f := 62) rfl ?_); refine goesL_ (some 123) rfl rfl Try.func62 (by kernel_rfl) rfl #[.string t291] rfl (by (try simp only [List.map_toArray, List.map_cons, List.map_nil]); first | done | rfl | (simp only [List.length_drop, List.length_take]; rfl)) ?_; (with_reducible refine (impl_DecodeVarint.calls kj35 t291 t292 t293 _ A48.out).mono ?_); rintro e w87 ⟨rfl, hb⟩; refine ⟨_, rfl, ?_⟩; have n0_ := Aside0.mk (below_step (by repeat (first | (with_reducible first | exact HB.out | apply below_alloc | apply pw_below_drewN | apply below_drew1) | exact HB.out)) hb); clear HB; have HB := n0_; clear n0_; (try clear hb); (try clear hb2); (try clear hk); (try clear hi)))
                                  go_ret
                                  exact ⟨by first | rfl | (simp [errW_none, errW_some] <;> rfl) | (simp [*, errW_none, errW_some] <;> rfl), by repeat (first | (with_reducible first | exact HB.out | apply below_alloc | apply pw_below_drewN | apply below_drew1) | exact HB.out)⟩
                            · rw [if_neg c50] at H
                              have c50b0 : (t289.toList == t278.toList) = false := beq_eq_false_iff_ne.mpr c50
                              have c50b1 : (t289.toList != t278.toList) = true := bne_iff_ne.mpr c50
                              obtain rfl := Option.some.inj H
                              go_wp2_with (first | ((with_reducible refine gate_callee (f := 68) rfl ?_); refine goesL_ (some 116) rfl rfl Try.func68 (by kernel_rfl) rfl #[.string t278] rfl (by (try simp only [List.map_toArray, List.map_cons, List.map_nil]); first | done | rfl | (simp only [List.length_drop, List.length_take]; rfl)) ?_; (with_reducible refine (impl_EncodeHex.calls kj35 t278 t288 _ A45.out).mono ?_); rintro e w88 ⟨rfl, hb⟩; refine ⟨_, rfl, ?_⟩; have n0_ := Aside0.mk (below_step (by repeat (first | (with_reducible first | exact HB.out | apply below_alloc | apply pw_below_drewN | apply below_drew1) | exact HB.out)) hb); clear HB; have HB := n0_; clear n0_; (try clear hb); (try clear hb2); (try clear hk); (try clear hi)) | ((with_reducible refine gate_callee (f := 67) rfl ?_); refine goesL_ (some 117) rfl rfl Try.func67 (by kernel_rfl) rfl #[.string t288] rfl (by (try simp only [List.map_toArray, List.map_cons, List.map_nil]); first | done | rfl | (simp only [List.length_drop, List.length_take]; rfl)) ?_; (with_reducible refine (impl_DecodeHex.calls kj35 t288 t289 true _ A46.out).mono ?_); rintro e w89 ⟨rfl, hb⟩; refine ⟨_, rfl, ?_⟩; have n0_ := Aside0.mk (below_step (by repeat (first | (with_reducible first | exact HB.out | apply below_alloc | apply pw_below_drewN | apply below_drew1) | exact HB.out)) hb); clear HB; have HB := n0_; clear n0_; (try clear hb); (try clear hb2); (try clear hk); (try clear hi)) | ((with_reducible refine gate_callee (f := 69) rfl ?_); refine goesL_ (some 122) rfl rfl Try.func69 (by kernel_rfl) rfl #[.slice A0 l0.length c0] rfl (by (try simp only [List.map_toArray, List.map_cons, List.map_nil]); first | done | rfl | (simp only [List.length_drop, List.length_take]; rfl)) ?_; (with_reducible refine (spec_DrawDecodeVarint.calls kj35 _ _ l0 t291 _ ?side1 ?side2 A47.out).mono ?_); (case side1 => repeat (first | exact (Kd.C_below HR0.out HB.out) | (with_reducible refine Kd.C_alloc ?_ _) | (with_reducible refine Kd.C_drewN ?_ _) | (with_reducible refine Kd.C_drew ?_))); (case side2 => exact HC0.out); rintro e w90 ⟨rfl, hb⟩; refine ⟨_, rfl, ?_⟩; have n0_ := Aside0.mk (below_step (by repeat (first | (with_reducible first | exact HB.out | apply below_alloc | apply pw_below_drewN | apply below_drew1) | exact HB.out)) hb); clear HB; have HB := n0_; clear n0_; (try clear hb); (try clear hb2); (try clear hk); (try clear hi)) | ((with_reducible refine gate_callee (f := 62) rfl ?_); refine goesL_ (some 123) rfl rfl Try.func62 (by kernel_rfl) rfl #[.string t291] rfl (by (try simp only [List.map_toArray, List.map_cons, List.map_nil]); first | done | rfl | (simp only [List.length_drop, List.length_take]; rfl)) ?_; (with_reducible refine (impl_DecodeVarint.calls kj35 t291 t292 t293 _ A48.out).mono ?_); rintro e w91 ⟨rfl, hb⟩; refine ⟨_, rfl, ?_⟩; have n0_ := Aside0.mk (below_step (by repeat (first | (with_reducible first | exact HB.out | apply below_alloc | apply pw_below_drewN | apply below_drew1) | exact HB.out)) hb); clear HB; have HB := n0_; clear n0_; (try clear hb); (try clear hb2); (try clear hk); (try clear hi)))
                              go_ret
                              exact ⟨by first | rfl | (simp [errW_none, errW_some] <;> rfl) | (simp [*, errW_none, errW_some] <;> rfl), by repeat (first | (with_reducible first | exact HB.out | apply below_alloc | apply pw_below_drewN | apply below_drew1) | exact HB.out)⟩
                          · replace c49 := Bool.eq_false_iff.mpr c49
                            subst c49
                            have H1 : (some false) = some r := by rw [if_neg (show ¬ (false = true) by decide)] at H; exact H
                            clear H
                            have H := H1
                            clear H1
                            obtain rfl := Option.some.inj H
                            go_wp2_with (first | ((with_reducible refine gate_callee (f := 68) rfl ?_); refine goesL_ (some 116) rfl rfl Try.func68 (by kernel_rfl) rfl #[.string t278] rfl (by (try simp only [List.map_toArray, List.map_cons, List.map_nil]); first | done | rfl | (simp only [List.length_drop, List.length_take]; rfl)) ?_; (with_reducible refine (impl_EncodeHex.calls kj35 t278 t288 _ A45.out).mono ?_); rintro e w92 ⟨rfl, hb⟩; refine ⟨_, rfl, ?_⟩; have n0_ := Aside0.mk (below_step (by repeat (first | (with_reducible first | exact HB.out | apply below_alloc | apply pw_below_drewN | apply below_drew1) | exact HB.out)) hb); clear HB; have HB := n0_; clear n0_; (try clear hb); (try clear hb2); (try clear hk); (try clear hi)) | ((with_reducible refine gate_callee (f := 67) rfl ?_); refine goesL_ (some 117) rfl rfl Try.func67 (by kernel_rfl) rfl #[.string t288] rfl (by (try simp only [List.map_toArray, List.map_cons, List.map_nil]); first | done | rfl | (simp only [List.length_drop, List.length_take]; rfl)) ?_; (with_reducible refine (impl_DecodeHex.calls kj35 t288 t289 false _ A46.out).mono ?_); rintro e w93 ⟨rfl, hb⟩; refine ⟨_, rfl, ?_⟩; have n0_ := Aside0.mk (below_step (by repeat (first | (with_reducible first | exact HB.out | apply below_alloc | apply pw_below_drewN | apply below_drew1) | exact HB.out)) hb); clear HB; have HB := n0_; clear n0_; (try clear hb); (try clear hb2); (try clear hk); (try clear hi)) | ((with_reducible refine gate_callee (f := 69) rfl ?_); refine goesL_ (some 122) rfl rfl Try.func69 (by kernel_rfl) rfl #[.slice A0 l0.length c0] rfl (by (try simp only [List.map_toArray, List.map_cons, List.map_nil]); first | done | rfl | (simp only [List.length_drop, List.length_take]; rfl)) ?_; (with_reducible refine (spec_DrawDecodeVarint.calls kj35 _ _ l0 t291 _ ?side1 ?side2 A47.out).mono ?_); (case side1 => repeat (first | exact (Kd.C_below HR0.out HB.out) | (with_reducible refine Kd.C_alloc ?_ _) | (with_reducible refine Kd.C_drewN ?_ _) | (with_reducible refine Kd.C_drew ?_))); (case side2 => exact HC0.out); rintro e w94 ⟨rfl, hb⟩; refine ⟨_, rfl, ?_⟩; have n0_ := Aside0.mk (below_step (by repeat (first | (with_reducible first | exact HB.out | apply below_alloc | apply pw_below_drewN | apply below_drew1) | exact HB.out)) hb); clear HB; have HB := n0_; clear n0_; (try clear hb); (try clear hb2); (try clear hk); (try clear hi)) | ((with_reducible refine gate_callee (f := 62) rfl ?_); refine goesL_ (some 123) rfl rfl Try.func62 (by kernel_rfl) rfl #[.string t291] rfl (by (try simp only [List.map_toArray, List.map_cons, List.map_nil]); first | done | rfl | (simp only [List.length_drop, List.length_take]; rfl)) ?_; (with_reducible refine (impl_DecodeVarint.calls kj35 t291 t292 t293 _ A48.out).mono ?_); rintro e w95 ⟨rfl, hb⟩; refine ⟨_, rfl, ?_⟩; have n0_ := Aside0.mk (below_step (by repeat (first | (with_reducible first | exact HB.out | apply below_alloc | apply pw_below_drewN | apply below_drew1) | exact HB.out)) hb); clear HB; have HB := n0_; clear n0_; (try clear hb); (try clear hb2); (try clear hk); (try clear hi)))
                            go_ret
                            exact ⟨by first | rfl | (simp [errW_none, errW_some] <;> rfl) | (simp [*, errW_none, errW_some] <;> rfl), by repeat (first | (with_reducible first | exact HB.out | apply below_alloc | apply pw_below_drewN | apply below_drew1) | exact HB.out)⟩
            · rw [if_neg c23] at H
              exact absurd H (by simp)
    · rw [if_neg c7] at H
      exact absurd H (by simp)

/-- THE ONE PURE STATEMENT of laws_FnEncodings: yours. -/
def laws_FnEncodings.Pure : Prop := ∀ (l0 : List Int), l0.length ≤ maxLen → l0.length * 1 ≤ 140737488351232 → (∀ x ∈ l0, (Lit.int .u8 x).wf = true) → ∃ k, laws_FnEncodings.f k l0 = some true
theorem laws_FnEncodings.walk (P : laws_FnEncodings.Pure) (a0 : Option Addr) (len0 cap0 : Nat) (z0 : List Int) (w : World) (w0 : (a0 = none ∧ len0 = 0 ∧ cap0 = 0 ∧ z0 = []) ∨ ∃ x, a0 = some x ∧ len0 ≤ cap0 ∧ cap0 ≤ maxLen ∧ z0.length = cap0 ∧ (∀ i, i < z0.length → w.cell? (x.add i) = some (.int .u8 (z0.getD i 0))) ∧ ∀ n ∈ z0, (Lit.int .u8 n).wf = true) (y0 : len0 * 1 ≤ 140737488351232) :
    Calls Try.prog 11 #[.slice a0 len0 cap0] w fun e w' => e = .returned (.bool true) ∧ Below w.heap.size w w' := by
  obtain ⟨l0, rfl, hr0, hm0, hw0, hc0⟩ := ReadsInt.ofRowC w0
  obtain ⟨k, h⟩ := P l0 hm0 y0 hw0
  refine (laws_FnEncodings.calls k _ _ l0 true w (Kd.C_of_reads (d := (0 : Int)) (h1 := fun _ => rfl) hr0) hc0 h).mono ?_
  rintro e w' ⟨rfl, hd⟩
  exact ⟨rfl, hd⟩

end Go.Proofs.Ytkipmmkjbeeemaa.PFnEncodings
