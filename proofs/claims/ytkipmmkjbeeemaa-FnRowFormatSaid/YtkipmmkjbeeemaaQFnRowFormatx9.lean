/- Out of the print of this law's functions, with the contracts of some of them proved otherwise; nothing is claimed here. -/
/- Out of the print of this law's functions, its regions' steps said shorter; nothing is claimed here. -/
import Derived.Test.YtkipmmkjbeeemaaQFnRowFormatx0
import Derived.Test.YtkipmmkjbeeemaaQFnRowFormatx4
import Derived.Test.YtkipmmkjbeeemaaQFnRowFormatx7
import Derived.Test.YtkipmmkjbeeemaaQFnRowFormatx8
import Derived.Test.YtkipmmkjbeeemaaShort
namespace Go.Proofs.Ytkipmmkjbeeemaa.PFnRowFormat
open Go.RowKit Go.Proofs.YtkipmmkjbeeemaaW.PrintWords Go.Proofs.YtkipmmkjbeeemaaW.PrintLast Go.Proofs.YtkipmmkjbeeemaaW.PrintMore Go.Proofs.Ytkipmmkjbeeemaa.Short
attribute [local go_sem] max2_int min2_int max_two min_two max_three min_three max_four min_four   -- for this text's walks alone
set_option linter.unusedVariables false
set_option linter.unusedSimpArgs false

/-! ### spec_l1Spoil: function 106 -/
def spec_l1Spoil.f (k : Nat) (s0_0 : List Int) (s0_1 : Int) (s0_2 : Int) (a1 : ByteArray) : Option (ByteArray × Int × Int) := if (a1.size : Int) = 0 then ((spec_l1Text.f k s0_0 s0_1 s0_2 3).bind fun bt346 => (some (bt346.1, bt346.2.1, bt346.2.2))) else ((spec_l1Below.f s0_0 s0_1 s0_2 (a1.size : Int)).bind fun bt349 => ((spec_l1Below.f s0_0 bt349.2.1 bt349.2.2 4).bind fun bt352 => (if bt352.1 = 0 then (if 0 ≤ bt349.1 then (if bt349.1 ≤ (a1.size : Int) then (if 0 ≤ (wrap64 (bt349.1 + 1)) then (if (wrap64 (bt349.1 + 1)) ≤ (a1.size : Int) then (if (a1.extract 0 (bt349.1 : Int).toNat).size + (a1.extract ((wrap64 (bt349.1 + 1)) : Int).toNat a1.size).size ≤ 9223372036854775807 then (some ((a1.extract 0 (bt349.1 : Int).toNat) ++ (a1.extract ((wrap64 (bt349.1 + 1)) : Int).toNat a1.size), bt352.2.1, bt352.2.2)) else (none)) else (none)) else (none)) else (none)) else (none)) else (if bt352.1 = 1 then (if 0 ≤ bt349.1 then (if bt349.1 ≤ (a1.size : Int) then ((spec_l1Byte.f s0_0 bt352.2.1 bt352.2.2).bind fun bt355 => ((some (([(bt355.1) % 256] : List Int) : List Int)).bind fun y358 => (if (a1.extract 0 (bt349.1 : Int).toNat).size + (strOfNums y358).size ≤ 9223372036854775807 then (if ((a1.extract 0 (bt349.1 : Int).toNat) ++ (strOfNums y358)).size + (a1.extract (bt349.1 : Int).toNat a1.size).size ≤ 9223372036854775807 then (some (((a1.extract 0 (bt349.1 : Int).toNat) ++ (strOfNums y358)) ++ (a1.extract (bt349.1 : Int).toNat a1.size), bt355.2.1, bt355.2.2)) else (none)) else (none)))) else (none)) else (none)) else (if bt352.1 = 2 then (if 0 ≤ bt349.1 then (if bt349.1 ≤ (a1.size : Int) then (some (a1.extract 0 (bt349.1 : Int).toNat, bt352.2.1, bt352.2.2)) else (none)) else (none)) else (if 0 ≤ bt349.1 then (if bt349.1 ≤ (a1.size : Int) then (if bt349.1 < (a1.size : Int) then ((spec_l1Below.f s0_0 bt352.2.1 bt352.2.2 255).bind fun bt361 => ((some (([(Go.bits .xor .i64 (wrap64 (bt a1 bt349.1)) (wrap64 (1 + bt361.1))) % 256] : List Int) : List Int)).bind fun y364 => (if (a1.extract 0 (bt349.1 : Int).toNat).size + (strOfNums y364).size ≤ 9223372036854775807 then (if 0 ≤ (wrap64 (bt349.1 + 1)) then (if (wrap64 (bt349.1 + 1)) ≤ (a1.size : Int) then (if ((a1.extract 0 (bt349.1 : Int).toNat) ++ (strOfNums y364)).size + (a1.extract ((wrap64 (bt349.1 + 1)) : Int).toNat a1.size).size ≤ 9223372036854775807 then (some (((a1.extract 0 (bt349.1 : Int).toNat) ++ (strOfNums y364)) ++ (a1.extract ((wrap64 (bt349.1 + 1)) : Int).toNat a1.size), bt361.2.1, bt361.2.2)) else (none)) else (none)) else (none)) else (none)))) else (none)) else (none)) else (none)))))))
def spec_l1Spoil.T6 : Bool × List (List Nat × List Nat) := (true, [([], []), ([], []), ([0, 1], [0, 1]), ([], []), ([], []), ([4], [4]), ([3, 5], [3, 5]), ([2, 6], [2, 6]), ([7, 0, 1, 2, 3, 4, 5, 6, 7], [7])])
def spec_l1Spoil.B6 : List Nat := [0, 0, 3, 0, 0, 16, 56, 127, 255]
theorem spec_l1Spoil.tab6 : rtab .any (opsOf Try.f106 6) = spec_l1Spoil.T6 := by kernel_rfl
theorem spec_l1Spoil.bits6 : waitsOk spec_l1Spoil.T6.2 spec_l1Spoil.B6 = true := by kernel_rfl
def spec_l1Spoil.T8 : Bool × List (List Nat × List Nat) := (true, [([], []), ([], []), ([0, 1], [0, 1]), ([], []), ([3], [3]), ([4], [4]), ([5], [5]), ([6], [6]), ([2, 7], [2, 7]), ([], []), ([], []), ([9, 10], [9, 10]), ([8, 11], [8, 11]), ([12, 4, 0, 1, 2, 3, 4, 5, 6, 7, 8, 9, 10, 11, 12], [12])])
def spec_l1Spoil.B8 : List Nat := [0, 0, 3, 0, 8, 24, 56, 120, 255, 0, 0, 1536, 4095, 8191]
theorem spec_l1Spoil.tab8 : rtab .any (opsOf Try.f106 8) = spec_l1Spoil.T8 := by kernel_rfl
theorem spec_l1Spoil.bits8 : waitsOk spec_l1Spoil.T8.2 spec_l1Spoil.B8 = true := by kernel_rfl
def spec_l1Spoil.T11 : Bool × List (List Nat × List Nat) := (true, [([], []), ([], []), ([0, 1], [0, 1]), ([], []), ([], []), ([3, 4], [3, 4]), ([5], [5]), ([], []), ([7], [7]), ([8], [8]), ([6, 9], [6, 9]), ([10], [10]), ([11], [11]), ([12], [12]), ([2, 13], [2, 13]), ([], []), ([], []), ([16], [16]), ([15, 17], [15, 17]), ([14, 18], [14, 18]), ([19, 8, 0, 1, 2, 3, 4, 5, 6, 7, 8, 9, 10, 11, 12, 13, 14, 15, 16, 17, 18, 19], [19])])
def spec_l1Spoil.B11 : List Nat := [0, 0, 3, 0, 0, 24, 56, 0, 128, 384, 1016, 2040, 4088, 8184, 16383, 0, 0, 65536, 229376, 524287, 1048575]
theorem spec_l1Spoil.tab11 : rtab .any (opsOf Try.f106 11) = spec_l1Spoil.T11 := by kernel_rfl
theorem spec_l1Spoil.bits11 : waitsOk spec_l1Spoil.T11.2 spec_l1Spoil.B11 = true := by kernel_rfl
set_option maxHeartbeats 8000000 in
set_option maxRecDepth 100000 in
theorem spec_l1Spoil.calls (k : Nat) (g : Nat) (s0_0 : List Int) (s0_1 : Int) (s0_2 : Int) (a1 : ByteArray) (r1 : ByteArray) (r2 : Int) (r3 : Int) (w0 w : World) (hI : IsS129 w0 w g s0_0 s0_1 s0_2) (hB : Below w0.heap.size w0 w) (h : spec_l1Spoil.f k s0_0 s0_1 s0_2 a1 = some (r1, r2, r3)) :
  Calls Try.prog 106 #[.pointer (some ⟨g, 0, none⟩), .string a1] w fun e w' => e = .returned (.string r1) ∧ IsS129 w0 w' g s0_0 r2 r3 ∧ Below w0.heap.size w0 w' ∧ KeepBut w w' g none := by
 have HI0 := kp hI
 have HK := kp (KeepBut.refl w g none)
 have HL := kp hB.size
 clear hI
 have HW0 := kp hB.size
 have HB := kp hB
 clear hB
 have H : (if (a1.size : Int) = 0 then ((spec_l1Text.f k s0_0 s0_1 s0_2 3).bind fun bt346 => (some (bt346.1, bt346.2.1, bt346.2.2))) else ((spec_l1Below.f s0_0 s0_1 s0_2 (a1.size : Int)).bind fun bt349 => ((spec_l1Below.f s0_0 bt349.2.1 bt349.2.2 4).bind fun bt352 => (if bt352.1 = 0 then (if 0 ≤ bt349.1 then (if bt349.1 ≤ (a1.size : Int) then (if 0 ≤ (wrap64 (bt349.1 + 1)) then (if (wrap64 (bt349.1 + 1)) ≤ (a1.size : Int) then (if (a1.extract 0 (bt349.1 : Int).toNat).size + (a1.extract ((wrap64 (bt349.1 + 1)) : Int).toNat a1.size).size ≤ 9223372036854775807 then (some ((a1.extract 0 (bt349.1 : Int).toNat) ++ (a1.extract ((wrap64 (bt349.1 + 1)) : Int).toNat a1.size), bt352.2.1, bt352.2.2)) else (none)) else (none)) else (none)) else (none)) else (none)) else (if bt352.1 = 1 then (if 0 ≤ bt349.1 then (if bt349.1 ≤ (a1.size : Int) then ((spec_l1Byte.f s0_0 bt352.2.1 bt352.2.2).bind fun bt355 => ((some (([(bt355.1) % 256] : List Int) : List Int)).bind fun y358 => (if (a1.extract 0 (bt349.1 : Int).toNat).size + (strOfNums y358).size ≤ 9223372036854775807 then (if ((a1.extract 0 (bt349.1 : Int).toNat) ++ (strOfNums y358)).size + (a1.extract (bt349.1 : Int).toNat a1.size).size ≤ 9223372036854775807 then (some (((a1.extract 0 (bt349.1 : Int).toNat) ++ (strOfNums y358)) ++ (a1.extract (bt349.1 : Int).toNat a1.size), bt355.2.1, bt355.2.2)) else (none)) else (none)))) else (none)) else (none)) else (if bt352.1 = 2 then (if 0 ≤ bt349.1 then (if bt349.1 ≤ (a1.size : Int) then (some (a1.extract 0 (bt349.1 : Int).toNat, bt352.2.1, bt352.2.2)) else (none)) else (none)) else (if 0 ≤ bt349.1 then (if bt349.1 ≤ (a1.size : Int) then (if bt349.1 < (a1.size : Int) then ((spec_l1Below.f s0_0 bt352.2.1 bt352.2.2 255).bind fun bt361 => ((some (([(Go.bits .xor .i64 (wrap64 (bt a1 bt349.1)) (wrap64 (1 + bt361.1))) % 256] : List Int) : List Int)).bind fun y364 => (if (a1.extract 0 (bt349.1 : Int).toNat).size + (strOfNums y364).size ≤ 9223372036854775807 then (if 0 ≤ (wrap64 (bt349.1 + 1)) then (if (wrap64 (bt349.1 + 1)) ≤ (a1.size : Int) then (if ((a1.extract 0 (bt349.1 : Int).toNat) ++ (strOfNums y364)).size + (a1.extract ((wrap64 (bt349.1 + 1)) : Int).toNat a1.size).size ≤ 9223372036854775807 then (some (((a1.extract 0 (bt349.1 : Int).toNat) ++ (strOfNums y364)) ++ (a1.extract ((wrap64 (bt349.1 + 1)) : Int).toNat a1.size), bt361.2.1, bt361.2.2)) else (none)) else (none)) else (none)) else (none)))) else (none)) else (none)) else (none)))))))) = some (r1, r2, r3) := h
 clear h
 by_cases c3 : (a1.size : Int) = 0
 ·rw [if_pos c3] at H
  have c3b0 : ((a1.size : Int) == 0) = true := beq_iff_eq.mpr c3
  have c3b1 : ((a1.size : Int) != 0) = false := bne_eq_false_iff_eq.mpr c3
  clear c3
  replace H := Option.bind_eq_some_iff.mp H
  obtain ⟨⟨t346, t347, t348⟩, A40, H⟩ := H
  replace H : (some (t346, t347, t348)) = some (r1, r2, r3) := H
  have A4 := kp A40
  clear A40
  simp only [Option.some.injEq, Prod.mk.injEq] at H
  obtain ⟨rfl, rfl, rfl⟩ := H
  go_enter Try.func106, Try.ntmps106
  go_wp2_with (first | ((with_reducible refine gate_callee (f := 101) rfl ?_); refine goesL_ (some 10) rfl rfl Try.func101 (by kernel_rfl) rfl #[.pointer (some ⟨g, 0, none⟩), .int .i64 3] rfl (by (try simp only [mA, mC, mN]); first | done | rfl | (simp only [lD, lT]; rfl)) ?_; (with_reducible refine (spec_l1Text.calls k g s0_0 s0_1 s0_2 3 t346 t347 t348 w0 _ ?side1 ?side2 A4.out).mono ?_); (case side1 => repeat (first | (with_reducible first | exact HI0.out | apply IsS129.alloc | apply IsS129.drewN | apply IsS129.drew | apply IsS129.set_1 | apply IsS129.set_2) | exact HI0.out)); (case side2 => with_reducible repeat (first | exact HB.out | apply cA | apply cN | apply cD | refine below_set ?_ (IsS129.ge HI0.out))); rintro e w5 ⟨rfl, hi, hb, hk⟩; refine ⟨_, rfl, ?_⟩; have n0_ := kp (KeepBut.trans (by repeat (first | (with_reducible first | exact HK.out | apply KeepBut.set_ | apply keep_drewN | apply keep_drew | apply keep_alloc) | exact HK.out)) hk (.inl rfl)); have n1_ := kp (hb); have n2_ := kp (hi); clear HK; clear HB; clear HI0; have HK := n0_; have HB := n1_; have HI0 := n2_; clear n0_ n1_ n2_; (try clear hb); (try clear hk); (try clear hi)))
  go_ret
  exact ⟨by first | rfl | (simp [errW_none, errW_some] <;> rfl) | (simp [*, errW_none, errW_some] <;> rfl), by repeat (first | (with_reducible first | exact HI0.out | apply IsS129.alloc | apply IsS129.drewN | apply IsS129.drew | apply IsS129.set_1 | apply IsS129.set_2) | exact HI0.out), by with_reducible repeat (first | exact HB.out | apply cA | apply cN | apply cD | refine below_set ?_ (IsS129.ge HI0.out)), by repeat (first | (with_reducible first | exact HK.out | apply KeepBut.set_ | apply keep_drewN | apply keep_drew | apply keep_alloc) | exact HK.out)⟩
 ·rw [if_neg c3] at H
  have c3b0 : ((a1.size : Int) == 0) = false := beq_eq_false_iff_ne.mpr c3
  have c3b1 : ((a1.size : Int) != 0) = true := bne_iff_ne.mpr c3
  replace H := Option.bind_eq_some_iff.mp H
  obtain ⟨⟨t349, t350, t351⟩, A60, H⟩ := H
  replace H : ((spec_l1Below.f s0_0 t350 t351 4).bind fun bt352 => (if bt352.1 = 0 then (if 0 ≤ t349 then (if t349 ≤ (a1.size : Int) then (if 0 ≤ (wrap64 (t349 + 1)) then (if (wrap64 (t349 + 1)) ≤ (a1.size : Int) then (if (a1.extract 0 (t349 : Int).toNat).size + (a1.extract ((wrap64 (t349 + 1)) : Int).toNat a1.size).size ≤ 9223372036854775807 then (some ((a1.extract 0 (t349 : Int).toNat) ++ (a1.extract ((wrap64 (t349 + 1)) : Int).toNat a1.size), bt352.2.1, bt352.2.2)) else (none)) else (none)) else (none)) else (none)) else (none)) else (if bt352.1 = 1 then (if 0 ≤ t349 then (if t349 ≤ (a1.size : Int) then ((spec_l1Byte.f s0_0 bt352.2.1 bt352.2.2).bind fun bt355 => ((some (([(bt355.1) % 256] : List Int) : List Int)).bind fun y358 => (if (a1.extract 0 (t349 : Int).toNat).size + (strOfNums y358).size ≤ 9223372036854775807 then (if ((a1.extract 0 (t349 : Int).toNat) ++ (strOfNums y358)).size + (a1.extract (t349 : Int).toNat a1.size).size ≤ 9223372036854775807 then (some (((a1.extract 0 (t349 : Int).toNat) ++ (strOfNums y358)) ++ (a1.extract (t349 : Int).toNat a1.size), bt355.2.1, bt355.2.2)) else (none)) else (none)))) else (none)) else (none)) else (if bt352.1 = 2 then (if 0 ≤ t349 then (if t349 ≤ (a1.size : Int) then (some (a1.extract 0 (t349 : Int).toNat, bt352.2.1, bt352.2.2)) else (none)) else (none)) else (if 0 ≤ t349 then (if t349 ≤ (a1.size : Int) then (if t349 < (a1.size : Int) then ((spec_l1Below.f s0_0 bt352.2.1 bt352.2.2 255).bind fun bt361 => ((some (([(Go.bits .xor .i64 (wrap64 (bt a1 t349)) (wrap64 (1 + bt361.1))) % 256] : List Int) : List Int)).bind fun y364 => (if (a1.extract 0 (t349 : Int).toNat).size + (strOfNums y364).size ≤ 9223372036854775807 then (if 0 ≤ (wrap64 (t349 + 1)) then (if (wrap64 (t349 + 1)) ≤ (a1.size : Int) then (if ((a1.extract 0 (t349 : Int).toNat) ++ (strOfNums y364)).size + (a1.extract ((wrap64 (t349 + 1)) : Int).toNat a1.size).size ≤ 9223372036854775807 then (some (((a1.extract 0 (t349 : Int).toNat) ++ (strOfNums y364)) ++ (a1.extract ((wrap64 (t349 + 1)) : Int).toNat a1.size), bt361.2.1, bt361.2.2)) else (none)) else (none)) else (none)) else (none)))) else (none)) else (none)) else (none)))))) = some (r1, r2, r3) := H
  have A6 := kp A60
  clear A60
  replace H := Option.bind_eq_some_iff.mp H
  obtain ⟨⟨t352, t353, t354⟩, A70, H⟩ := H
  replace H : (if t352 = 0 then (if 0 ≤ t349 then (if t349 ≤ (a1.size : Int) then (if 0 ≤ (wrap64 (t349 + 1)) then (if (wrap64 (t349 + 1)) ≤ (a1.size : Int) then (if (a1.extract 0 (t349 : Int).toNat).size + (a1.extract ((wrap64 (t349 + 1)) : Int).toNat a1.size).size ≤ 9223372036854775807 then (some ((a1.extract 0 (t349 : Int).toNat) ++ (a1.extract ((wrap64 (t349 + 1)) : Int).toNat a1.size), t353, t354)) else (none)) else (none)) else (none)) else (none)) else (none)) else (if t352 = 1 then (if 0 ≤ t349 then (if t349 ≤ (a1.size : Int) then ((spec_l1Byte.f s0_0 t353 t354).bind fun bt355 => ((some (([(bt355.1) % 256] : List Int) : List Int)).bind fun y358 => (if (a1.extract 0 (t349 : Int).toNat).size + (strOfNums y358).size ≤ 9223372036854775807 then (if ((a1.extract 0 (t349 : Int).toNat) ++ (strOfNums y358)).size + (a1.extract (t349 : Int).toNat a1.size).size ≤ 9223372036854775807 then (some (((a1.extract 0 (t349 : Int).toNat) ++ (strOfNums y358)) ++ (a1.extract (t349 : Int).toNat a1.size), bt355.2.1, bt355.2.2)) else (none)) else (none)))) else (none)) else (none)) else (if t352 = 2 then (if 0 ≤ t349 then (if t349 ≤ (a1.size : Int) then (some (a1.extract 0 (t349 : Int).toNat, t353, t354)) else (none)) else (none)) else (if 0 ≤ t349 then (if t349 ≤ (a1.size : Int) then (if t349 < (a1.size : Int) then ((spec_l1Below.f s0_0 t353 t354 255).bind fun bt361 => ((some (([(Go.bits .xor .i64 (wrap64 (bt a1 t349)) (wrap64 (1 + bt361.1))) % 256] : List Int) : List Int)).bind fun y364 => (if (a1.extract 0 (t349 : Int).toNat).size + (strOfNums y364).size ≤ 9223372036854775807 then (if 0 ≤ (wrap64 (t349 + 1)) then (if (wrap64 (t349 + 1)) ≤ (a1.size : Int) then (if ((a1.extract 0 (t349 : Int).toNat) ++ (strOfNums y364)).size + (a1.extract ((wrap64 (t349 + 1)) : Int).toNat a1.size).size ≤ 9223372036854775807 then (some (((a1.extract 0 (t349 : Int).toNat) ++ (strOfNums y364)) ++ (a1.extract ((wrap64 (t349 + 1)) : Int).toNat a1.size), bt361.2.1, bt361.2.2)) else (none)) else (none)) else (none)) else (none)))) else (none)) else (none)) else (none))))) = some (r1, r2, r3) := H
  have A7 := kp A70
  clear A70
  by_cases c8 : t352 = 0
  ·rw [if_pos c8] at H
   have c8b0 : (t352 == 0) = true := beq_iff_eq.mpr c8
   have c8b1 : (t352 != 0) = false := bne_eq_false_iff_eq.mpr c8
   clear c8
   by_cases c9 : 0 ≤ t349
   ·rw [if_pos c9] at H
    have c9b0 := eq_true c9
    have c9b1 : decide (0 ≤ t349) = true := decide_eq_true c9
    clear c9
    by_cases c10 : t349 ≤ (a1.size : Int)
    ·rw [if_pos c10] at H
     have c10b0 := eq_true c10
     have c10b1 : decide (t349 ≤ (a1.size : Int)) = true := decide_eq_true c10
     clear c10
     obtain ⟨ji11, hji11⟩ : ∃ j_ : Int, (wrap64 (t349 + 1)) = j_ := ⟨_, rfl⟩
     replace H : (if 0 ≤ (ji11) then (if (ji11) ≤ (a1.size : Int) then (if (a1.extract 0 (t349 : Int).toNat).size + (a1.extract ((ji11) : Int).toNat a1.size).size ≤ 9223372036854775807 then (some ((a1.extract 0 (t349 : Int).toNat) ++ (a1.extract ((ji11) : Int).toNat a1.size), t353, t354)) else (none)) else (none)) else (none)) = some (r1, r2, r3) := by first | (rw [hji11] at H; exact H) | (simp only [hji11] at H ⊢; exact H)
     (try rw [hji11] at A6)
     (try rw [hji11] at A7)
     have hji11w : (IntKind.i64.wrap (t349 + 1)) = ji11 := (i64_w _).trans hji11
     by_cases c12 : 0 ≤ (ji11)
     ·rw [if_pos c12] at H
      have c12b0 := eq_true c12
      have c12b1 : decide (0 ≤ (ji11)) = true := decide_eq_true c12
      clear c12
      by_cases c13 : (ji11) ≤ (a1.size : Int)
      ·rw [if_pos c13] at H
       have c13b0 := eq_true c13
       have c13b1 : decide ((ji11) ≤ (a1.size : Int)) = true := decide_eq_true c13
       clear c13
       by_cases c14 : (a1.extract 0 (t349 : Int).toNat).size + (a1.extract ((ji11) : Int).toNat a1.size).size ≤ 9223372036854775807
       ·rw [if_pos c14] at H
        have c14b0 := eq_true c14
        have c14b1 : decide ((a1.extract 0 (t349 : Int).toNat).size + (a1.extract ((ji11) : Int).toNat a1.size).size ≤ 9223372036854775807) = true := decide_eq_true c14
        try have c14b2 : (9223372036854775807 < (a1.extract 0 (t349 : Int).toNat).size + (a1.extract ((ji11) : Int).toNat a1.size).size) = False := eq_false (Nat.not_lt.2 c14)
        have c14b3 : (9223372036854775807 < t349.toNat + (a1.size - ji11.toNat)) = False := eq_false (by (have h_ := c14); (simp only [ByteArray.size_append, ByteArray.size_extract] at h_); (try have q0_ := of_eq_true c0b0); (try have q1_ := of_eq_true c1b0); (try have q2_ := of_eq_true c2b0); (try have q3_ := of_eq_true c3b0); (try have q4_ := of_eq_true c4b0); (try have q5_ := of_eq_true c5b0); (try have q6_ := of_eq_true c6b0); (try have q7_ := of_eq_true c7b0); (try have q8_ := of_eq_true c8b0); (try have q9_ := of_eq_true c9b0); (try have q10_ := of_eq_true c10b0); (try have q11_ := of_eq_true c11b0); (try have q12_ := of_eq_true c12b0); (try have q13_ := of_eq_true c13b0); omega)
        simp only [Option.some.injEq, Prod.mk.injEq] at H
        obtain ⟨rfl, rfl, rfl⟩ := H
        go_enter Try.func106, Try.ntmps106
        try go_wp2_with (first | ((with_reducible refine gate_callee (f := 98) rfl ?_); refine goesL_ (some 14) rfl rfl Try.func98 (by kernel_rfl) rfl #[.pointer (some ⟨g, 0, none⟩), .int .i64 (a1.size : Int)] rfl (by (try simp only [mA, mC, mN]); first | done | rfl | (simp only [lD, lT]; rfl)) ?_; (with_reducible refine (spec_l1Below.calls g s0_0 s0_1 s0_2 (a1.size : Int) t349 t350 t351 w0 _ ?side1 ?side2 A6.out).mono ?_); (case side1 => repeat (first | (with_reducible first | exact HI0.out | apply IsS129.alloc | apply IsS129.drewN | apply IsS129.drew | apply IsS129.set_1 | apply IsS129.set_2) | exact HI0.out)); (case side2 => with_reducible repeat (first | exact HB.out | apply cA | apply cN | apply cD | refine below_set ?_ (IsS129.ge HI0.out))); rintro e w15 ⟨rfl, hi, hb, hk⟩; refine ⟨_, rfl, ?_⟩; have n0_ := kp (KeepBut.trans (by repeat (first | (with_reducible first | exact HK.out | apply KeepBut.set_ | apply keep_drewN | apply keep_drew | apply keep_alloc) | exact HK.out)) hk (.inl rfl)); have n1_ := kp (hb); have n2_ := kp (hi); clear HK; clear HB; clear HI0; have HK := n0_; have HB := n1_; have HI0 := n2_; clear n0_ n1_ n2_; (try clear hb); (try clear hk); (try clear hi)) | ((with_reducible refine gate_callee (f := 98) rfl ?_); refine goesL_ (some 16) rfl rfl Try.func98 (by kernel_rfl) rfl #[.pointer (some ⟨g, 0, none⟩), .int .i64 4] rfl (by (try simp only [mA, mC, mN]); first | done | rfl | (simp only [lD, lT]; rfl)) ?_; (with_reducible refine (spec_l1Below.calls g s0_0 t350 t351 4 t352 t353 t354 w0 _ ?side1 ?side2 A7.out).mono ?_); (case side1 => repeat (first | (with_reducible first | exact HI0.out | apply IsS129.alloc | apply IsS129.drewN | apply IsS129.drew | apply IsS129.set_1 | apply IsS129.set_2) | exact HI0.out)); (case side2 => with_reducible repeat (first | exact HB.out | apply cA | apply cN | apply cD | refine below_set ?_ (IsS129.ge HI0.out))); rintro e w16 ⟨rfl, hi, hb, hk⟩; refine ⟨_, rfl, ?_⟩; have n0_ := kp (KeepBut.trans (by repeat (first | (with_reducible first | exact HK.out | apply KeepBut.set_ | apply keep_drewN | apply keep_drew | apply keep_alloc) | exact HK.out)) hk (.inl rfl)); have n1_ := kp (hb); have n2_ := kp (hi); clear HK; clear HB; clear HI0; have HK := n0_; have HB := n1_; have HI0 := n2_; clear n0_ n1_ n2_; (try clear hb); (try clear hk); (try clear hi)))
        have n0_ := kp (IsS129.drew HI0.out)
        have n1_ := kp (keep_drew HK.out)
        have n2_ := kp (below_drew1 HB.out)
        clear HI0
        clear HK
        clear HB
        have HI0 := n0_
        have HK := n1_
        have HB := n2_
        clear n0_ n1_ n2_
        refine start_ (n := 9) (S := fun w' => True) (ds := []) #[false, false, false, false, false, false, false, false, false] (by kernel_rfl) rfl rfl trivial (fun hHeld => ?_); refine with_tabW spec_l1Spoil.tab6 spec_l1Spoil.bits6 (fun HT_ HW_ => ?_)
        generalize w16.drew = w17 at HI0 HK HB hHeld ⊢
        refine pu_ 0 (some 19) HT_ (h := ?_)
        refine pu_ 1 (some 20) HT_ (h := ?_)
        refine pu_ 2 (some 21) HT_ (h := ?_)
        refine pu_ 3 (some 22) HT_ (h := ?_)
        refine pu_ 4 (some 23) HT_ (h := ?_)
        refine pu_ 5 (some 24) HT_ (h := ?_)
        refine pu_ 6 (some 25) HT_ (h := ?_)
        refine pu_ 7 (some 26) HT_ (h := ?_)
        refine pu_ 8 (some 4) HT_ (h := ?_)
        refine done_ (done_of HT_.out (by kernel_rfl)) ?_
        try go_wp2
        go_ret
        exact ⟨by first | rfl | (simp [errW_none, errW_some] <;> rfl) | (simp only [← hji11]; first | rfl | (simp [errW_none, errW_some] <;> rfl)) | (simp [*, errW_none, errW_some] <;> rfl), by repeat (first | (with_reducible first | exact HI0.out | apply IsS129.alloc | apply IsS129.drewN | apply IsS129.drew | apply IsS129.set_1 | apply IsS129.set_2) | exact HI0.out), by with_reducible repeat (first | exact HB.out | apply cA | apply cN | apply cD | refine below_set ?_ (IsS129.ge HI0.out)), by repeat (first | (with_reducible first | exact HK.out | apply KeepBut.set_ | apply keep_drewN | apply keep_drew | apply keep_alloc) | exact HK.out)⟩
       ·rw [if_neg c14] at H
        exact absurd H (by simp)
      ·rw [if_neg c13] at H
       exact absurd H (by simp)
     ·rw [if_neg c12] at H
      exact absurd H (by simp)
    ·rw [if_neg c10] at H
     exact absurd H (by simp)
   ·rw [if_neg c9] at H
    exact absurd H (by simp)
  ·rw [if_neg c8] at H
   have c8b0 : (t352 == 0) = false := beq_eq_false_iff_ne.mpr c8
   have c8b1 : (t352 != 0) = true := bne_iff_ne.mpr c8
   by_cases c18 : t352 = 1
   ·rw [if_pos c18] at H
    have c18b0 : (t352 == 1) = true := beq_iff_eq.mpr c18
    have c18b1 : (t352 != 1) = false := bne_eq_false_iff_eq.mpr c18
    clear c18
    by_cases c19 : 0 ≤ t349
    ·rw [if_pos c19] at H
     have c19b0 := eq_true c19
     have c19b1 : decide (0 ≤ t349) = true := decide_eq_true c19
     clear c19
     by_cases c20 : t349 ≤ (a1.size : Int)
     ·rw [if_pos c20] at H
      have c20b0 := eq_true c20
      have c20b1 : decide (t349 ≤ (a1.size : Int)) = true := decide_eq_true c20
      clear c20
      replace H := Option.bind_eq_some_iff.mp H
      obtain ⟨⟨t355, t356, t357⟩, A210, H⟩ := H
      replace H : ((some (([(t355) % 256] : List Int) : List Int)).bind fun y358 => (if (a1.extract 0 (t349 : Int).toNat).size + (strOfNums y358).size ≤ 9223372036854775807 then (if ((a1.extract 0 (t349 : Int).toNat) ++ (strOfNums y358)).size + (a1.extract (t349 : Int).toNat a1.size).size ≤ 9223372036854775807 then (some (((a1.extract 0 (t349 : Int).toNat) ++ (strOfNums y358)) ++ (a1.extract (t349 : Int).toNat a1.size), t356, t357)) else (none)) else (none))) = some (r1, r2, r3) := H
      have A21 := kp A210
      clear A210
      obtain ⟨y358, hy358⟩ : ∃ y_ : List Int, y_ = (([(t355) % 256] : List Int)) := ⟨_, rfl⟩
      replace H : (if (a1.extract 0 (t349 : Int).toNat).size + (strOfNums y358).size ≤ 9223372036854775807 then (if ((a1.extract 0 (t349 : Int).toNat) ++ (strOfNums y358)).size + (a1.extract (t349 : Int).toNat a1.size).size ≤ 9223372036854775807 then (some (((a1.extract 0 (t349 : Int).toNat) ++ (strOfNums y358)) ++ (a1.extract (t349 : Int).toNat a1.size), t356, t357)) else (none)) else (none)) = some (r1, r2, r3) := by first | (rw [hy358]; with_reducible exact H) | (have H2_ := (Option.bind_some _ _).symm.trans H; rw [hy358]; with_reducible exact H2_) | (have H2_ := (Option.bind_some _ _).symm.trans H; with_reducible exact H2_) | with_reducible exact H | (rw [hy358]; exact H) | exact H
      have Ny358 := kp hy358
      clear hy358
      by_cases c22 : (a1.extract 0 (t349 : Int).toNat).size + (strOfNums y358).size ≤ 9223372036854775807
      ·rw [if_pos c22] at H
       have c22b0 := eq_true c22
       have c22b1 : decide ((a1.extract 0 (t349 : Int).toNat).size + (strOfNums y358).size ≤ 9223372036854775807) = true := decide_eq_true c22
       try have c22b2 : (9223372036854775807 < (a1.extract 0 (t349 : Int).toNat).size + (strOfNums y358).size) = False := eq_false (Nat.not_lt.2 c22)
       have c22b3 : (9223372036854775807 < t349.toNat + (strOfNums y358).size) = False := eq_false (by (have h_ := c22); (simp only [ByteArray.size_append, ByteArray.size_extract] at h_); (try have q0_ := of_eq_true c0b0); (try have q1_ := of_eq_true c1b0); (try have q2_ := of_eq_true c2b0); (try have q3_ := of_eq_true c3b0); (try have q4_ := of_eq_true c4b0); (try have q5_ := of_eq_true c5b0); (try have q6_ := of_eq_true c6b0); (try have q7_ := of_eq_true c7b0); (try have q8_ := of_eq_true c8b0); (try have q9_ := of_eq_true c9b0); (try have q10_ := of_eq_true c10b0); (try have q11_ := of_eq_true c11b0); (try have q12_ := of_eq_true c12b0); (try have q13_ := of_eq_true c13b0); (try have q14_ := of_eq_true c14b0); (try have q15_ := of_eq_true c15b0); (try have q16_ := of_eq_true c16b0); (try have q17_ := of_eq_true c17b0); (try have q18_ := of_eq_true c18b0); (try have q19_ := of_eq_true c19b0); (try have q20_ := of_eq_true c20b0); (try have q21_ := of_eq_true c21b0); omega)
       have c23b0 := eq_true (of_decide_eq_true (by first | (with_reducible assumption) | assumption) : 0 ≤ t349)
       have c24b0 := eq_true (of_decide_eq_true (by first | (with_reducible assumption) | assumption) : t349 ≤ (a1.size : Int))
       by_cases c25 : ((a1.extract 0 (t349 : Int).toNat) ++ (strOfNums y358)).size + (a1.extract (t349 : Int).toNat a1.size).size ≤ 9223372036854775807
       ·rw [if_pos c25] at H
        have c25b0 := eq_true c25
        have c25b1 : decide (((a1.extract 0 (t349 : Int).toNat) ++ (strOfNums y358)).size + (a1.extract (t349 : Int).toNat a1.size).size ≤ 9223372036854775807) = true := decide_eq_true c25
        try have c25b2 : (9223372036854775807 < ((a1.extract 0 (t349 : Int).toNat) ++ (strOfNums y358)).size + (a1.extract (t349 : Int).toNat a1.size).size) = False := eq_false (Nat.not_lt.2 c25)
        have c25b3 : (9223372036854775807 < t349.toNat + (strOfNums y358).size + (a1.size - t349.toNat)) = False := eq_false (by (have h_ := c25); (simp only [ByteArray.size_append, ByteArray.size_extract] at h_); (try have q0_ := of_eq_true c0b0); (try have q1_ := of_eq_true c1b0); (try have q2_ := of_eq_true c2b0); (try have q3_ := of_eq_true c3b0); (try have q4_ := of_eq_true c4b0); (try have q5_ := of_eq_true c5b0); (try have q6_ := of_eq_true c6b0); (try have q7_ := of_eq_true c7b0); (try have q8_ := of_eq_true c8b0); (try have q9_ := of_eq_true c9b0); (try have q10_ := of_eq_true c10b0); (try have q11_ := of_eq_true c11b0); (try have q12_ := of_eq_true c12b0); (try have q13_ := of_eq_true c13b0); (try have q14_ := of_eq_true c14b0); (try have q15_ := of_eq_true c15b0); (try have q16_ := of_eq_true c16b0); (try have q17_ := of_eq_true c17b0); (try have q18_ := of_eq_true c18b0); (try have q19_ := of_eq_true c19b0); (try have q20_ := of_eq_true c20b0); (try have q21_ := of_eq_true c21b0); (try have q22_ := of_eq_true c22b0); (try have q23_ := of_eq_true c23b0); (try have q24_ := of_eq_true c24b0); omega)
        simp only [Option.some.injEq, Prod.mk.injEq] at H
        obtain ⟨rfl, rfl, rfl⟩ := H
        go_enter Try.func106, Try.ntmps106
        try go_wp2_with (first | ((with_reducible refine gate_callee (f := 98) rfl ?_); refine goesL_ (some 14) rfl rfl Try.func98 (by kernel_rfl) rfl #[.pointer (some ⟨g, 0, none⟩), .int .i64 (a1.size : Int)] rfl (by (try simp only [mA, mC, mN]); first | done | rfl | (simp only [lD, lT]; rfl)) ?_; (with_reducible refine (spec_l1Below.calls g s0_0 s0_1 s0_2 (a1.size : Int) t349 t350 t351 w0 _ ?side1 ?side2 A6.out).mono ?_); (case side1 => repeat (first | (with_reducible first | exact HI0.out | apply IsS129.alloc | apply IsS129.drewN | apply IsS129.drew | apply IsS129.set_1 | apply IsS129.set_2) | exact HI0.out)); (case side2 => with_reducible repeat (first | exact HB.out | apply cA | apply cN | apply cD | refine below_set ?_ (IsS129.ge HI0.out))); rintro e w26 ⟨rfl, hi, hb, hk⟩; refine ⟨_, rfl, ?_⟩; have n0_ := kp (KeepBut.trans (by repeat (first | (with_reducible first | exact HK.out | apply KeepBut.set_ | apply keep_drewN | apply keep_drew | apply keep_alloc) | exact HK.out)) hk (.inl rfl)); have n1_ := kp (hb); have n2_ := kp (hi); clear HK; clear HB; clear HI0; have HK := n0_; have HB := n1_; have HI0 := n2_; clear n0_ n1_ n2_; (try clear hb); (try clear hk); (try clear hi)) | ((with_reducible refine gate_callee (f := 98) rfl ?_); refine goesL_ (some 16) rfl rfl Try.func98 (by kernel_rfl) rfl #[.pointer (some ⟨g, 0, none⟩), .int .i64 4] rfl (by (try simp only [mA, mC, mN]); first | done | rfl | (simp only [lD, lT]; rfl)) ?_; (with_reducible refine (spec_l1Below.calls g s0_0 t350 t351 4 t352 t353 t354 w0 _ ?side1 ?side2 A7.out).mono ?_); (case side1 => repeat (first | (with_reducible first | exact HI0.out | apply IsS129.alloc | apply IsS129.drewN | apply IsS129.drew | apply IsS129.set_1 | apply IsS129.set_2) | exact HI0.out)); (case side2 => with_reducible repeat (first | exact HB.out | apply cA | apply cN | apply cD | refine below_set ?_ (IsS129.ge HI0.out))); rintro e w27 ⟨rfl, hi, hb, hk⟩; refine ⟨_, rfl, ?_⟩; have n0_ := kp (KeepBut.trans (by repeat (first | (with_reducible first | exact HK.out | apply KeepBut.set_ | apply keep_drewN | apply keep_drew | apply keep_alloc) | exact HK.out)) hk (.inl rfl)); have n1_ := kp (hb); have n2_ := kp (hi); clear HK; clear HB; clear HI0; have HK := n0_; have HB := n1_; have HI0 := n2_; clear n0_ n1_ n2_; (try clear hb); (try clear hk); (try clear hi)))
        have n0_ := kp (IsS129.drew HI0.out)
        have n1_ := kp (keep_drew HK.out)
        have n2_ := kp (below_drew1 HB.out)
        clear HI0
        clear HK
        clear HB
        have HI0 := n0_
        have HK := n1_
        have HB := n2_
        clear n0_ n1_ n2_
        refine start_ (n := 14) (S := fun w' => True) (ds := []) #[false, false, false, false, false, false, false, false, false, false, false, false, false, false] (by kernel_rfl) rfl rfl trivial (fun hHeld => ?_); refine with_tabW spec_l1Spoil.tab8 spec_l1Spoil.bits8 (fun HT_ HW_ => ?_)
        generalize w27.drew = w28 at HI0 HK HB hHeld ⊢
        refine pu_ 0 (some 29) HT_ (h := ?_)
        refine pu_ 1 (some 30) HT_ (h := ?_)
        refine pu_ 2 (some 31) HT_ (h := ?_)
        refine pu_ 3 (some 32) HT_ (h := ?_)
        refine pu_ 9 (some 38) HT_ (h := ?_)
        refine pu_ 10 (some 39) HT_ (h := ?_)
        refine pu_ 11 (some 40) HT_ (h := ?_)
        refine one_ (i := 4) (N := some 33) #[true, true, true, true, true, false, false, false, false, true, true, true, false, false] rfl rfl (one_of HT_.out (by kernel_rfl)) (by decide) (fun K hK => ?_)
        refine goes_ Try.func119 (by kernel_rfl) rfl #[.pointer (some ⟨g, 0, none⟩)] (by rfl) rfl rfl (by (try simp only [mA, mC, mN]); first | done | rfl | (simp only [lD, lT]; rfl)) ?_
        with_reducible refine (spec_l1Byte.calls g s0_0 t353 t354 t355 t356 t357 w0 _ ?side1 ?side2 A21.out).mono ?_
        (case side1 => repeat (first | (with_reducible first | exact HI0.out | apply IsS129.alloc | apply IsS129.drewN | apply IsS129.drew | apply IsS129.set_1 | apply IsS129.set_2) | exact HI0.out))
        (case side2 => with_reducible repeat (first | exact HB.out | apply cA | apply cN | apply cD | refine below_set ?_ (IsS129.ge HI0.out)))
        rintro e w29 ⟨rfl, hi, hb, hk⟩
        refine ⟨_, rfl, ?_⟩
        have n0_ := kp (KeepBut.trans (by repeat (first | (with_reducible first | exact HK.out | apply KeepBut.set_ | apply keep_drewN | apply keep_drew | apply keep_alloc) | exact HK.out)) hk (.inl rfl))
        have n1_ := kp (hb)
        have n2_ := kp (hi)
        clear HK
        clear HB
        clear HI0
        have HK := n0_
        have HB := n1_
        have HI0 := n2_
        clear n0_ n1_ n2_
        (try clear hb)
        (try clear hb2)
        (try clear hk)
        (try clear hi)
        refine hK.out _ _ trivial (fun hHeld => ?_)
        clear hK K
        refine norm_ (a' := ?_) ?_ ?_
        rotate_left
        ·show Act.put _ (some 33) _ = _
         simp only [Act.put, List.setIfInBounds_toArray, List.set_cons_zero, List.set_cons_succ, i64_w, i32_w]
         rfl
        refine pu_ 5 (some 34) HT_ (h := ?_)
        refine one_ (i := 6) (N := some 35) #[true, true, true, true, true, true, true, false, false, true, true, true, false, false] rfl rfl (one_of HT_.out (by kernel_rfl)) (by decide) (fun K hK => ?_)
        refine Kd.R_lit_step (Kd.int .u8) _ 5 ?hg (N := 35) ?hd (xs := ([(t355) % 256] : List Int)) (inner := [.int .u8 ((t355) % 256)]) (ok := fun _ => True) (okp := fun _ => True) ?hr ?hp (fun _ hk => hk) trivial (Below.refl _ _) (Nat.le_refl _) (by simp) ?_; (case hd => rfl); (case hg => rfl); (case hr => first | (go_simp; done) | (go_simp; rfl)); (case hp => exact (Reps.one (show Kd.M (Kd.int .u8) _ _ _ ((t355) % 256) [.int .u8 ((t355) % 256)] from rfl) (Reps.none _ _)))
        intro v359 w30 ho31 hb hg_ hnew_
        clear hg_ hnew_
        (first | rw [← Ny358.out] at ho31 | (simp only [Int.reduceToNat] at ho31; rw [← Ny358.out] at ho31))
        have n0_ := kp (Kd.R_lower ho31 (keep_size (w := w) (g := g) (row := none) (by repeat (first | (with_reducible first | exact HK.out | apply KeepBut.set_ | apply keep_drewN | apply keep_drew | apply keep_alloc) | exact HK.out))))
        have n1_ := kp (IsS129.below (by repeat (first | (with_reducible first | exact HI0.out | apply IsS129.alloc | apply IsS129.drewN | apply IsS129.drew | apply IsS129.set_1 | apply IsS129.set_2) | exact HI0.out)) hb)
        have n2_ := kp (KeepBut.trans (by repeat (first | (with_reducible first | exact HK.out | apply KeepBut.set_ | apply keep_drewN | apply keep_drew | apply keep_alloc) | exact HK.out)) (KeepBut.of_below hb g none) (.inl rfl))
        have n3_ := kp (below_step (by with_reducible repeat (first | exact HB.out | apply cA | apply cN | apply cD | refine below_set ?_ (IsS129.ge HI0.out))) hb)
        clear HI0
        clear HK
        clear HB
        have HO360 := n0_
        have HI0 := n1_
        have HK := n2_
        have HB := n3_
        clear n0_ n1_ n2_ n3_
        clear hb ho31
        refine hK.out _ _ trivial (fun hHeld => ?_)
        clear hK K
        refine norm_ (a' := ?_) ?_ ?_
        rotate_left
        ·show Act.put _ (some 35) _ = _
         simp only [Act.put, List.setIfInBounds_toArray, List.set_cons_zero, List.set_cons_succ, i64_w, i32_w]
         rfl
        refine one_ (i := 7) (N := some 36) #[true, true, true, true, true, true, true, true, false, true, true, true, false, false] rfl rfl (one_of HT_.out (by kernel_rfl)) (by decide) (fun K hK => ?_)
        have hcv32 := own_string (P := Try.prog) Try.underlying71 Try.underlying5 Try.underlying9 (Kd.own_of_R HO360.out)
        refine value_ (w1 := ?_) (v := ?_) (by rfl) rfl ?_ ?_
        rotate_left 2
        ·go_simp
         constructor
         ·rfl
         ·rfl
        clear hcv32
        refine hK.out _ _ trivial (fun hHeld => ?_)
        clear hK K
        refine norm_ (a' := ?_) ?_ ?_
        rotate_left
        ·show Act.put _ (some 36) _ = _
         simp only [Act.put, List.setIfInBounds_toArray, List.set_cons_zero, List.set_cons_succ, i64_w, i32_w]
         rfl
        refine pu_ 8 (some 37) HT_ (h := ?_)
        refine pu_ 12 (some 41) HT_ (h := ?_)
        refine pu_ 13 (some 4) HT_ (h := ?_)
        refine done_ (done_of HT_.out (by kernel_rfl)) ?_
        try go_wp2
        go_ret
        exact ⟨by first | rfl | (simp [errW_none, errW_some] <;> rfl) | (simp [*, errW_none, errW_some] <;> rfl), by repeat (first | (with_reducible first | exact HI0.out | apply IsS129.alloc | apply IsS129.drewN | apply IsS129.drew | apply IsS129.set_1 | apply IsS129.set_2) | exact HI0.out), by with_reducible repeat (first | exact HB.out | apply cA | apply cN | apply cD | refine below_set ?_ (IsS129.ge HI0.out)), by repeat (first | (with_reducible first | exact HK.out | apply KeepBut.set_ | apply keep_drewN | apply keep_drew | apply keep_alloc) | exact HK.out)⟩
       ·rw [if_neg c25] at H
        exact absurd H (by simp)
      ·rw [if_neg c22] at H
       exact absurd H (by simp)
     ·rw [if_neg c20] at H
      exact absurd H (by simp)
    ·rw [if_neg c19] at H
     exact absurd H (by simp)
   ·rw [if_neg c18] at H
    have c18b0 : (t352 == 1) = false := beq_eq_false_iff_ne.mpr c18
    have c18b1 : (t352 != 1) = true := bne_iff_ne.mpr c18
    by_cases c33 : t352 = 2
    ·rw [if_pos c33] at H
     have c33b0 : (t352 == 2) = true := beq_iff_eq.mpr c33
     have c33b1 : (t352 != 2) = false := bne_eq_false_iff_eq.mpr c33
     clear c33
     by_cases c34 : 0 ≤ t349
     ·rw [if_pos c34] at H
      have c34b0 := eq_true c34
      have c34b1 : decide (0 ≤ t349) = true := decide_eq_true c34
      clear c34
      by_cases c35 : t349 ≤ (a1.size : Int)
      ·rw [if_pos c35] at H
       have c35b0 := eq_true c35
       have c35b1 : decide (t349 ≤ (a1.size : Int)) = true := decide_eq_true c35
       clear c35
       simp only [Option.some.injEq, Prod.mk.injEq] at H
       obtain ⟨rfl, rfl, rfl⟩ := H
       go_enter Try.func106, Try.ntmps106
       go_wp2_with (first | ((with_reducible refine gate_callee (f := 98) rfl ?_); refine goesL_ (some 14) rfl rfl Try.func98 (by kernel_rfl) rfl #[.pointer (some ⟨g, 0, none⟩), .int .i64 (a1.size : Int)] rfl (by (try simp only [mA, mC, mN]); first | done | rfl | (simp only [lD, lT]; rfl)) ?_; (with_reducible refine (spec_l1Below.calls g s0_0 s0_1 s0_2 (a1.size : Int) t349 t350 t351 w0 _ ?side1 ?side2 A6.out).mono ?_); (case side1 => repeat (first | (with_reducible first | exact HI0.out | apply IsS129.alloc | apply IsS129.drewN | apply IsS129.drew | apply IsS129.set_1 | apply IsS129.set_2) | exact HI0.out)); (case side2 => with_reducible repeat (first | exact HB.out | apply cA | apply cN | apply cD | refine below_set ?_ (IsS129.ge HI0.out))); rintro e w36 ⟨rfl, hi, hb, hk⟩; refine ⟨_, rfl, ?_⟩; have n0_ := kp (KeepBut.trans (by repeat (first | (with_reducible first | exact HK.out | apply KeepBut.set_ | apply keep_drewN | apply keep_drew | apply keep_alloc) | exact HK.out)) hk (.inl rfl)); have n1_ := kp (hb); have n2_ := kp (hi); clear HK; clear HB; clear HI0; have HK := n0_; have HB := n1_; have HI0 := n2_; clear n0_ n1_ n2_; (try clear hb); (try clear hk); (try clear hi)) | ((with_reducible refine gate_callee (f := 98) rfl ?_); refine goesL_ (some 16) rfl rfl Try.func98 (by kernel_rfl) rfl #[.pointer (some ⟨g, 0, none⟩), .int .i64 4] rfl (by (try simp only [mA, mC, mN]); first | done | rfl | (simp only [lD, lT]; rfl)) ?_; (with_reducible refine (spec_l1Below.calls g s0_0 t350 t351 4 t352 t353 t354 w0 _ ?side1 ?side2 A7.out).mono ?_); (case side1 => repeat (first | (with_reducible first | exact HI0.out | apply IsS129.alloc | apply IsS129.drewN | apply IsS129.drew | apply IsS129.set_1 | apply IsS129.set_2) | exact HI0.out)); (case side2 => with_reducible repeat (first | exact HB.out | apply cA | apply cN | apply cD | refine below_set ?_ (IsS129.ge HI0.out))); rintro e w37 ⟨rfl, hi, hb, hk⟩; refine ⟨_, rfl, ?_⟩; have n0_ := kp (KeepBut.trans (by repeat (first | (with_reducible first | exact HK.out | apply KeepBut.set_ | apply keep_drewN | apply keep_drew | apply keep_alloc) | exact HK.out)) hk (.inl rfl)); have n1_ := kp (hb); have n2_ := kp (hi); clear HK; clear HB; clear HI0; have HK := n0_; have HB := n1_; have HI0 := n2_; clear n0_ n1_ n2_; (try clear hb); (try clear hk); (try clear hi)))
       go_ret
       exact ⟨by first | rfl | (simp [errW_none, errW_some] <;> rfl) | (simp [*, errW_none, errW_some] <;> rfl), by repeat (first | (with_reducible first | exact HI0.out | apply IsS129.alloc | apply IsS129.drewN | apply IsS129.drew | apply IsS129.set_1 | apply IsS129.set_2) | exact HI0.out), by with_reducible repeat (first | exact HB.out | apply cA | apply cN | apply cD | refine below_set ?_ (IsS129.ge HI0.out)), by repeat (first | (with_reducible first | exact HK.out | apply KeepBut.set_ | apply keep_drewN | apply keep_drew | apply keep_alloc) | exact HK.out)⟩
      ·rw [if_neg c35] at H
       exact absurd H (by simp)
     ·rw [if_neg c34] at H
      exact absurd H (by simp)
    ·rw [if_neg c33] at H
     have c33b0 : (t352 == 2) = false := beq_eq_false_iff_ne.mpr c33
     have c33b1 : (t352 != 2) = true := bne_iff_ne.mpr c33
     by_cases c38 : 0 ≤ t349
     ·rw [if_pos c38] at H
      have c38b0 := eq_true c38
      have c38b1 : decide (0 ≤ t349) = true := decide_eq_true c38
      clear c38
      by_cases c39 : t349 ≤ (a1.size : Int)
      ·rw [if_pos c39] at H
       have c39b0 := eq_true c39
       have c39b1 : decide (t349 ≤ (a1.size : Int)) = true := decide_eq_true c39
       clear c39
       by_cases c40 : t349 < (a1.size : Int)
       ·rw [if_pos c40] at H
        have c40b0 : decide (t349 < (a1.size : Int)) = true := decide_eq_true c40
        clear c40
        replace H := Option.bind_eq_some_iff.mp H
        obtain ⟨⟨t361, t362, t363⟩, A420, H⟩ := H
        replace H : ((some (([(Go.bits .xor .i64 (wrap64 (bt a1 t349)) (wrap64 (1 + t361))) % 256] : List Int) : List Int)).bind fun y364 => (if (a1.extract 0 (t349 : Int).toNat).size + (strOfNums y364).size ≤ 9223372036854775807 then (if 0 ≤ (wrap64 (t349 + 1)) then (if (wrap64 (t349 + 1)) ≤ (a1.size : Int) then (if ((a1.extract 0 (t349 : Int).toNat) ++ (strOfNums y364)).size + (a1.extract ((wrap64 (t349 + 1)) : Int).toNat a1.size).size ≤ 9223372036854775807 then (some (((a1.extract 0 (t349 : Int).toNat) ++ (strOfNums y364)) ++ (a1.extract ((wrap64 (t349 + 1)) : Int).toNat a1.size), t362, t363)) else (none)) else (none)) else (none)) else (none))) = some (r1, r2, r3) := H
        have A42 := kp A420
        clear A420
        obtain ⟨y364, hy364⟩ : ∃ y_ : List Int, y_ = (([(Go.bits .xor .i64 (wrap64 (bt a1 t349)) (wrap64 (1 + t361))) % 256] : List Int)) := ⟨_, rfl⟩
        replace H : (if (a1.extract 0 (t349 : Int).toNat).size + (strOfNums y364).size ≤ 9223372036854775807 then (if 0 ≤ (wrap64 (t349 + 1)) then (if (wrap64 (t349 + 1)) ≤ (a1.size : Int) then (if ((a1.extract 0 (t349 : Int).toNat) ++ (strOfNums y364)).size + (a1.extract ((wrap64 (t349 + 1)) : Int).toNat a1.size).size ≤ 9223372036854775807 then (some (((a1.extract 0 (t349 : Int).toNat) ++ (strOfNums y364)) ++ (a1.extract ((wrap64 (t349 + 1)) : Int).toNat a1.size), t362, t363)) else (none)) else (none)) else (none)) else (none)) = some (r1, r2, r3) := by first | (rw [hy364]; with_reducible exact H) | (have H2_ := (Option.bind_some _ _).symm.trans H; rw [hy364]; with_reducible exact H2_) | (have H2_ := (Option.bind_some _ _).symm.trans H; with_reducible exact H2_) | with_reducible exact H | (rw [hy364]; exact H) | exact H
        have Ny364 := kp hy364
        clear hy364
        by_cases c43 : (a1.extract 0 (t349 : Int).toNat).size + (strOfNums y364).size ≤ 9223372036854775807
        ·rw [if_pos c43] at H
         have c43b0 := eq_true c43
         have c43b1 : decide ((a1.extract 0 (t349 : Int).toNat).size + (strOfNums y364).size ≤ 9223372036854775807) = true := decide_eq_true c43
         try have c43b2 : (9223372036854775807 < (a1.extract 0 (t349 : Int).toNat).size + (strOfNums y364).size) = False := eq_false (Nat.not_lt.2 c43)
         have c43b3 : (9223372036854775807 < t349.toNat + (strOfNums y364).size) = False := eq_false (by (have h_ := c43); (simp only [ByteArray.size_append, ByteArray.size_extract] at h_); (try have q0_ := of_eq_true c0b0); (try have q1_ := of_eq_true c1b0); (try have q2_ := of_eq_true c2b0); (try have q3_ := of_eq_true c3b0); (try have q4_ := of_eq_true c4b0); (try have q5_ := of_eq_true c5b0); (try have q6_ := of_eq_true c6b0); (try have q7_ := of_eq_true c7b0); (try have q8_ := of_eq_true c8b0); (try have q9_ := of_eq_true c9b0); (try have q10_ := of_eq_true c10b0); (try have q11_ := of_eq_true c11b0); (try have q12_ := of_eq_true c12b0); (try have q13_ := of_eq_true c13b0); (try have q14_ := of_eq_true c14b0); (try have q15_ := of_eq_true c15b0); (try have q16_ := of_eq_true c16b0); (try have q17_ := of_eq_true c17b0); (try have q18_ := of_eq_true c18b0); (try have q19_ := of_eq_true c19b0); (try have q20_ := of_eq_true c20b0); (try have q21_ := of_eq_true c21b0); (try have q22_ := of_eq_true c22b0); (try have q23_ := of_eq_true c23b0); (try have q24_ := of_eq_true c24b0); (try have q25_ := of_eq_true c25b0); (try have q26_ := of_eq_true c26b0); (try have q27_ := of_eq_true c27b0); (try have q28_ := of_eq_true c28b0); (try have q29_ := of_eq_true c29b0); (try have q30_ := of_eq_true c30b0); (try have q31_ := of_eq_true c31b0); (try have q32_ := of_eq_true c32b0); (try have q33_ := of_eq_true c33b0); (try have q34_ := of_eq_true c34b0); (try have q35_ := of_eq_true c35b0); (try have q36_ := of_eq_true c36b0); (try have q37_ := of_eq_true c37b0); (try have q38_ := of_eq_true c38b0); (try have q39_ := of_eq_true c39b0); (try have q40_ := of_eq_true c40b0); (try have q41_ := of_eq_true c41b0); (try have q42_ := of_eq_true c42b0); omega)
         obtain ⟨ji44, hji44⟩ : ∃ j_ : Int, (wrap64 (t349 + 1)) = j_ := ⟨_, rfl⟩
         replace H : (if 0 ≤ (ji44) then (if (ji44) ≤ (a1.size : Int) then (if ((a1.extract 0 (t349 : Int).toNat) ++ (strOfNums y364)).size + (a1.extract ((ji44) : Int).toNat a1.size).size ≤ 9223372036854775807 then (some (((a1.extract 0 (t349 : Int).toNat) ++ (strOfNums y364)) ++ (a1.extract ((ji44) : Int).toNat a1.size), t362, t363)) else (none)) else (none)) else (none)) = some (r1, r2, r3) := by first | (rw [hji44] at H; exact H) | (simp only [hji44] at H ⊢; exact H)
         (try rw [hji44] at A6)
         (try rw [hji44] at A7)
         (try rw [hji44] at A42)
         have hji44w : (IntKind.i64.wrap (t349 + 1)) = ji44 := (i64_w _).trans hji44
         by_cases c45 : 0 ≤ (ji44)
         ·rw [if_pos c45] at H
          have c45b0 := eq_true c45
          have c45b1 : decide (0 ≤ (ji44)) = true := decide_eq_true c45
          clear c45
          by_cases c46 : (ji44) ≤ (a1.size : Int)
          ·rw [if_pos c46] at H
           have c46b0 := eq_true c46
           have c46b1 : decide ((ji44) ≤ (a1.size : Int)) = true := decide_eq_true c46
           clear c46
           by_cases c47 : ((a1.extract 0 (t349 : Int).toNat) ++ (strOfNums y364)).size + (a1.extract ((ji44) : Int).toNat a1.size).size ≤ 9223372036854775807
           ·rw [if_pos c47] at H
            have c47b0 := eq_true c47
            have c47b1 : decide (((a1.extract 0 (t349 : Int).toNat) ++ (strOfNums y364)).size + (a1.extract ((ji44) : Int).toNat a1.size).size ≤ 9223372036854775807) = true := decide_eq_true c47
            try have c47b2 : (9223372036854775807 < ((a1.extract 0 (t349 : Int).toNat) ++ (strOfNums y364)).size + (a1.extract ((ji44) : Int).toNat a1.size).size) = False := eq_false (Nat.not_lt.2 c47)
            have c47b3 : (9223372036854775807 < t349.toNat + (strOfNums y364).size + (a1.size - ji44.toNat)) = False := eq_false (by (have h_ := c47); (simp only [ByteArray.size_append, ByteArray.size_extract] at h_); (try have q0_ := of_eq_true c0b0); (try have q1_ := of_eq_true c1b0); (try have q2_ := of_eq_true c2b0); (try have q3_ := of_eq_true c3b0); (try have q4_ := of_eq_true c4b0); (try have q5_ := of_eq_true c5b0); (try have q6_ := of_eq_true c6b0); (try have q7_ := of_eq_true c7b0); (try have q8_ := of_eq_true c8b0); (try have q9_ := of_eq_true c9b0); (try have q10_ := of_eq_true c10b0); (try have q11_ := of_eq_true c11b0); (try have q12_ := of_eq_true c12b0); (try have q13_ := of_eq_true c13b0); (try have q14_ := of_eq_true c14b0); (try have q15_ := of_eq_true c15b0); (try have q16_ := of_eq_true c16b0); (try have q17_ := of_eq_true c17b0); (try have q18_ := of_eq_true c18b0); (try have q19_ := of_eq_true c19b0); (try have q20_ := of_eq_true c20b0); (try have q21_ := of_eq_true c21b0); (try have q22_ := of_eq_true c22b0); (try have q23_ := of_eq_true c23b0); (try have q24_ := of_eq_true c24b0); (try have q25_ := of_eq_true c25b0); (try have q26_ := of_eq_true c26b0); (try have q27_ := of_eq_true c27b0); (try have q28_ := of_eq_true c28b0); (try have q29_ := of_eq_true c29b0); (try have q30_ := of_eq_true c30b0); (try have q31_ := of_eq_true c31b0); (try have q32_ := of_eq_true c32b0); (try have q33_ := of_eq_true c33b0); (try have q34_ := of_eq_true c34b0); (try have q35_ := of_eq_true c35b0); (try have q36_ := of_eq_true c36b0); (try have q37_ := of_eq_true c37b0); (try have q38_ := of_eq_true c38b0); (try have q39_ := of_eq_true c39b0); (try have q40_ := of_eq_true c40b0); (try have q41_ := of_eq_true c41b0); (try have q42_ := of_eq_true c42b0); (try have q43_ := of_eq_true c43b0); (try have q44_ := of_eq_true c44b0); (try have q45_ := of_eq_true c45b0); (try have q46_ := of_eq_true c46b0); omega)
            simp only [Option.some.injEq, Prod.mk.injEq] at H
            obtain ⟨rfl, rfl, rfl⟩ := H
            go_enter Try.func106, Try.ntmps106
            try go_wp2_with (first | ((with_reducible refine gate_callee (f := 98) rfl ?_); refine goesL_ (some 14) rfl rfl Try.func98 (by kernel_rfl) rfl #[.pointer (some ⟨g, 0, none⟩), .int .i64 (a1.size : Int)] rfl (by (try simp only [mA, mC, mN]); first | done | rfl | (simp only [lD, lT]; rfl)) ?_; (with_reducible refine (spec_l1Below.calls g s0_0 s0_1 s0_2 (a1.size : Int) t349 t350 t351 w0 _ ?side1 ?side2 A6.out).mono ?_); (case side1 => repeat (first | (with_reducible first | exact HI0.out | apply IsS129.alloc | apply IsS129.drewN | apply IsS129.drew | apply IsS129.set_1 | apply IsS129.set_2) | exact HI0.out)); (case side2 => with_reducible repeat (first | exact HB.out | apply cA | apply cN | apply cD | refine below_set ?_ (IsS129.ge HI0.out))); rintro e w48 ⟨rfl, hi, hb, hk⟩; refine ⟨_, rfl, ?_⟩; have n0_ := kp (KeepBut.trans (by repeat (first | (with_reducible first | exact HK.out | apply KeepBut.set_ | apply keep_drewN | apply keep_drew | apply keep_alloc) | exact HK.out)) hk (.inl rfl)); have n1_ := kp (hb); have n2_ := kp (hi); clear HK; clear HB; clear HI0; have HK := n0_; have HB := n1_; have HI0 := n2_; clear n0_ n1_ n2_; (try clear hb); (try clear hk); (try clear hi)) | ((with_reducible refine gate_callee (f := 98) rfl ?_); refine goesL_ (some 16) rfl rfl Try.func98 (by kernel_rfl) rfl #[.pointer (some ⟨g, 0, none⟩), .int .i64 4] rfl (by (try simp only [mA, mC, mN]); first | done | rfl | (simp only [lD, lT]; rfl)) ?_; (with_reducible refine (spec_l1Below.calls g s0_0 t350 t351 4 t352 t353 t354 w0 _ ?side1 ?side2 A7.out).mono ?_); (case side1 => repeat (first | (with_reducible first | exact HI0.out | apply IsS129.alloc | apply IsS129.drewN | apply IsS129.drew | apply IsS129.set_1 | apply IsS129.set_2) | exact HI0.out)); (case side2 => with_reducible repeat (first | exact HB.out | apply cA | apply cN | apply cD | refine below_set ?_ (IsS129.ge HI0.out))); rintro e w49 ⟨rfl, hi, hb, hk⟩; refine ⟨_, rfl, ?_⟩; have n0_ := kp (KeepBut.trans (by repeat (first | (with_reducible first | exact HK.out | apply KeepBut.set_ | apply keep_drewN | apply keep_drew | apply keep_alloc) | exact HK.out)) hk (.inl rfl)); have n1_ := kp (hb); have n2_ := kp (hi); clear HK; clear HB; clear HI0; have HK := n0_; have HB := n1_; have HI0 := n2_; clear n0_ n1_ n2_; (try clear hb); (try clear hk); (try clear hi)))
            have n0_ := kp (IsS129.drew HI0.out)
            have n1_ := kp (keep_drew HK.out)
            have n2_ := kp (below_drew1 HB.out)
            clear HI0
            clear HK
            clear HB
            have HI0 := n0_
            have HK := n1_
            have HB := n2_
            clear n0_ n1_ n2_
            have p41 : 0 ≤ (t349 : Int) := of_decide_eq_true (by first | (with_reducible assumption) | assumption)
            have q41 : t349 < (a1.size : Int) := of_decide_eq_true (by first | (with_reducible assumption) | assumption)
            have hx41 := bt_at a1 t349
            replace p41 := eq_true p41
            replace q41 := eq_true q41
            refine start_ (n := 21) (S := fun w' => True) (ds := []) #[false, false, false, false, false, false, false, false, false, false, false, false, false, false, false, false, false, false, false, false, false] (by kernel_rfl) rfl rfl trivial (fun hHeld => ?_); refine with_tabW spec_l1Spoil.tab11 spec_l1Spoil.bits11 (fun HT_ HW_ => ?_)
            generalize w49.drew = w50 at HI0 HK HB hHeld ⊢
            refine pu_ 0 (some 47) HT_ (h := ?_)
            refine pu_ 1 (some 48) HT_ (h := ?_)
            refine pu_ 2 (some 49) HT_ (h := ?_)
            refine pu_ 3 (some 50) HT_ (h := ?_)
            refine pu_ 4 (some 51) HT_ (h := ?_)
            refine pu_ 7 (some 54) HT_ (h := ?_)
            refine pu_ 15 (some 62) HT_ (h := ?_)
            refine pu_ 16 (some 63) HT_ (h := ?_)
            refine pu_ 17 (some 64) HT_ (h := ?_)
            refine pu_ 18 (some 65) HT_ (h := ?_)
            refine take_ (i := 5) (N := some 52) (v := ?_) (a' := ?_) #[true, true, true, true, true, true, false, true, false, false, false, false, false, false, false, true, true, true, true, false, false] rfl rfl (take_ofW HT_.out HW_.out (by kernel_rfl)) (fun _ _ _ h => h) (Or.inl ⟨by rfl, ?_⟩) hHeld ?_ ?_
            rotate_left
            ·intro w' _
             go_simp
             with_reducible rfl
            rotate_left
            ·simp only [Act.put, List.setIfInBounds_toArray, List.set_cons_zero, List.set_cons_succ, i64_w, i32_w]
             rfl
            refine pu_ 6 (some 53) HT_ (h := ?_)
            refine one_ (i := 8) (N := some 55) #[true, true, true, true, true, true, true, true, true, false, false, false, false, false, false, true, true, true, true, false, false] rfl rfl (one_of HT_.out (by kernel_rfl)) (by decide) (fun K hK => ?_)
            refine goes_ Try.func98 (by kernel_rfl) rfl #[.pointer (some ⟨g, 0, none⟩), .int .i64 255] (by rfl) rfl rfl (by (try simp only [mA, mC, mN]); first | done | rfl | (simp only [lD, lT]; rfl)) ?_
            with_reducible refine (spec_l1Below.calls g s0_0 t353 t354 255 t361 t362 t363 w0 _ ?side1 ?side2 A42.out).mono ?_
            (case side1 => repeat (first | (with_reducible first | exact HI0.out | apply IsS129.alloc | apply IsS129.drewN | apply IsS129.drew | apply IsS129.set_1 | apply IsS129.set_2) | exact HI0.out))
            (case side2 => with_reducible repeat (first | exact HB.out | apply cA | apply cN | apply cD | refine below_set ?_ (IsS129.ge HI0.out)))
            rintro e w51 ⟨rfl, hi, hb, hk⟩
            refine ⟨_, rfl, ?_⟩
            have n0_ := kp (KeepBut.trans (by repeat (first | (with_reducible first | exact HK.out | apply KeepBut.set_ | apply keep_drewN | apply keep_drew | apply keep_alloc) | exact HK.out)) hk (.inl rfl))
            have n1_ := kp (hb)
            have n2_ := kp (hi)
            clear HK
            clear HB
            clear HI0
            have HK := n0_
            have HB := n1_
            have HI0 := n2_
            clear n0_ n1_ n2_
            (try clear hb)
            (try clear hb2)
            (try clear hk)
            (try clear hi)
            refine hK.out _ _ trivial (fun hHeld => ?_)
            clear hK K
            refine norm_ (a' := ?_) ?_ ?_
            rotate_left
            ·show Act.put _ (some 55) _ = _
             simp only [Act.put, List.setIfInBounds_toArray, List.set_cons_zero, List.set_cons_succ, i64_w, i32_w]
             rfl
            refine pu_ 9 (some 56) HT_ (h := ?_)
            refine pu_ 10 (some 57) HT_ (h := ?_)
            refine pu_ 11 (some 58) HT_ (h := ?_)
            refine one_ (i := 12) (N := some 59) #[true, true, true, true, true, true, true, true, true, true, true, true, true, false, false, true, true, true, true, false, false] rfl rfl (one_of HT_.out (by kernel_rfl)) (by decide) (fun K hK => ?_)
            refine Kd.R_lit_step (Kd.int .u8) _ 5 ?hg (N := 59) ?hd (xs := ([(Go.bits .xor .i64 (wrap64 (bt a1 t349)) (wrap64 (1 + t361))) % 256] : List Int)) (inner := [.int .u8 ((Go.bits .xor .i64 (wrap64 (bt a1 t349)) (wrap64 (1 + t361))) % 256)]) (ok := fun _ => True) (okp := fun _ => True) ?hr ?hp (fun _ hk => hk) trivial (Below.refl _ _) (Nat.le_refl _) (by simp) ?_; (case hd => rfl); (case hg => rfl); (case hr => first | (go_simp; done) | (go_simp; rfl)); (case hp => exact (Reps.one (show Kd.M (Kd.int .u8) _ _ _ ((Go.bits .xor .i64 (wrap64 (bt a1 t349)) (wrap64 (1 + t361))) % 256) [.int .u8 ((Go.bits .xor .i64 (wrap64 (bt a1 t349)) (wrap64 (1 + t361))) % 256)] from rfl) (Reps.none _ _)))
            intro v365 w52 ho53 hb hg_ hnew_
            clear hg_ hnew_
            (first | rw [← Ny364.out] at ho53 | (simp only [Int.reduceToNat] at ho53; rw [← Ny364.out] at ho53))
            have n0_ := kp (Kd.R_lower ho53 (keep_size (w := w) (g := g) (row := none) (by repeat (first | (with_reducible first | exact HK.out | apply KeepBut.set_ | apply keep_drewN | apply keep_drew | apply keep_alloc) | exact HK.out))))
            have n1_ := kp (IsS129.below (by repeat (first | (with_reducible first | exact HI0.out | apply IsS129.alloc | apply IsS129.drewN | apply IsS129.drew | apply IsS129.set_1 | apply IsS129.set_2) | exact HI0.out)) hb)
            have n2_ := kp (KeepBut.trans (by repeat (first | (with_reducible first | exact HK.out | apply KeepBut.set_ | apply keep_drewN | apply keep_drew | apply keep_alloc) | exact HK.out)) (KeepBut.of_below hb g none) (.inl rfl))
            have n3_ := kp (below_step (by with_reducible repeat (first | exact HB.out | apply cA | apply cN | apply cD | refine below_set ?_ (IsS129.ge HI0.out))) hb)
            clear HI0
            clear HK
            clear HB
            have HO366 := n0_
            have HI0 := n1_
            have HK := n2_
            have HB := n3_
            clear n0_ n1_ n2_ n3_
            clear hb ho53
            refine hK.out _ _ trivial (fun hHeld => ?_)
            clear hK K
            refine norm_ (a' := ?_) ?_ ?_
            rotate_left
            ·show Act.put _ (some 59) _ = _
             simp only [Act.put, List.setIfInBounds_toArray, List.set_cons_zero, List.set_cons_succ, i64_w, i32_w]
             rfl
            refine one_ (i := 13) (N := some 60) #[true, true, true, true, true, true, true, true, true, true, true, true, true, true, false, true, true, true, true, false, false] rfl rfl (one_of HT_.out (by kernel_rfl)) (by decide) (fun K hK => ?_)
            have hcv54 := own_string (P := Try.prog) Try.underlying71 Try.underlying5 Try.underlying9 (Kd.own_of_R HO366.out)
            refine value_ (w1 := ?_) (v := ?_) (by rfl) rfl ?_ ?_
            rotate_left 2
            ·go_simp
             constructor
             ·rfl
             ·rfl
            clear hcv54
            refine hK.out _ _ trivial (fun hHeld => ?_)
            clear hK K
            refine norm_ (a' := ?_) ?_ ?_
            rotate_left
            ·show Act.put _ (some 60) _ = _
             simp only [Act.put, List.setIfInBounds_toArray, List.set_cons_zero, List.set_cons_succ, i64_w, i32_w]
             rfl
            refine pu_ 14 (some 61) HT_ (h := ?_)
            refine pu_ 19 (some 66) HT_ (h := ?_)
            refine pu_ 20 (some 4) HT_ (h := ?_)
            refine done_ (done_of HT_.out (by kernel_rfl)) ?_
            try go_wp2
            go_ret
            exact ⟨by first | rfl | (simp [errW_none, errW_some] <;> rfl) | (simp only [← hji44]; first | rfl | (simp [errW_none, errW_some] <;> rfl)) | (simp [*, errW_none, errW_some] <;> rfl), by repeat (first | (with_reducible first | exact HI0.out | apply IsS129.alloc | apply IsS129.drewN | apply IsS129.drew | apply IsS129.set_1 | apply IsS129.set_2) | exact HI0.out), by with_reducible repeat (first | exact HB.out | apply cA | apply cN | apply cD | refine below_set ?_ (IsS129.ge HI0.out)), by repeat (first | (with_reducible first | exact HK.out | apply KeepBut.set_ | apply keep_drewN | apply keep_drew | apply keep_alloc) | exact HK.out)⟩
           ·rw [if_neg c47] at H
            exact absurd H (by simp)
          ·rw [if_neg c46] at H
           exact absurd H (by simp)
         ·rw [if_neg c45] at H
          exact absurd H (by simp)
        ·rw [if_neg c43] at H
         exact absurd H (by simp)
       ·rw [if_neg c40] at H
        exact absurd H (by simp)
      ·rw [if_neg c39] at H
       exact absurd H (by simp)
     ·rw [if_neg c38] at H
      exact absurd H (by simp)

/-! ### spec_l1Pick: function 111 -/
def spec_l1Pick.f (s0_0 : List Int) (s0_1 : Int) (s0_2 : Int) (l1 : List ByteArray) : Option (ByteArray × Int × Int) := (spec_l1Below.f s0_0 s0_1 s0_2 (l1.length : Int)).bind fun bt367 => (if 0 ≤ bt367.1 then (if bt367.1 < (l1.length : Int) then (some (rdOf ByteArray.empty l1 bt367.1, bt367.2.1, bt367.2.2)) else (none)) else (none))
set_option maxHeartbeats 8000000 in
set_option maxRecDepth 100000 in
theorem spec_l1Pick.calls (g : Nat) (s0_0 : List Int) (s0_1 : Int) (s0_2 : Int) (A1 : Option Addr) (c1 : Nat) (l1 : List ByteArray) (r1 : ByteArray) (r2 : Int) (r3 : Int) (w0 w : World) (hI : IsS129 w0 w g s0_0 s0_1 s0_2) (hB : Below w0.heap.size w0 w) (hr1 : Kd.C Kd.string w A1 l1.length l1) (hc1 : l1.length ≤ c1) (hf1 : ∀ ad, A1 = some ad → 0 < l1.length → ad.block ≠ g) (h : spec_l1Pick.f s0_0 s0_1 s0_2 l1 = some (r1, r2, r3)) :
  Calls Try.prog 111 #[.pointer (some ⟨g, 0, none⟩), .slice A1 l1.length c1] w fun e w' => e = .returned (.string r1) ∧ IsS129 w0 w' g s0_0 r2 r3 ∧ Below w0.heap.size w0 w' ∧ KeepBut w w' g none := by
 have HR1 := kp hr1
 have HC1 := kp hc1
 clear hr1 hc1
 have HI0 := kp hI
 have HK := kp (KeepBut.refl w g none)
 have HL := kp hB.size
 clear hI
 have HW0 := kp hB.size
 have HB := kp hB
 clear hB
 have H : ((spec_l1Below.f s0_0 s0_1 s0_2 (l1.length : Int)).bind fun bt367 => (if 0 ≤ bt367.1 then (if bt367.1 < (l1.length : Int) then (some (rdOf ByteArray.empty l1 bt367.1, bt367.2.1, bt367.2.2)) else (none)) else (none))) = some (r1, r2, r3) := h
 clear h
 replace H := Option.bind_eq_some_iff.mp H
 obtain ⟨⟨t367, t368, t369⟩, A30, H⟩ := H
 replace H : (if 0 ≤ t367 then (if t367 < (l1.length : Int) then (some (rdOf ByteArray.empty l1 t367, t368, t369)) else (none)) else (none)) = some (r1, r2, r3) := H
 have A3 := kp A30
 clear A30
 by_cases c4 : 0 ≤ t367
 ·rw [if_pos c4] at H
  have c4b0 : decide (0 ≤ t367) = true := decide_eq_true c4
  clear c4
  by_cases c5 : t367 < (l1.length : Int)
  ·rw [if_pos c5] at H
   have c5b0 : decide (t367 < (l1.length : Int)) = true := decide_eq_true c5
   clear c5
   simp only [Option.some.injEq, Prod.mk.injEq] at H
   obtain ⟨rfl, rfl, rfl⟩ := H
   go_enter Try.func111, Try.ntmps111
   go_wp2_with (first | ((with_reducible refine gate_callee (f := 98) rfl ?_); refine goesL_ (some 9) rfl rfl Try.func98 (by kernel_rfl) rfl #[.pointer (some ⟨g, 0, none⟩), .int .i64 (l1.length : Int)] rfl (by (try simp only [mA, mC, mN]); first | done | rfl | (simp only [lD, lT]; rfl)) ?_; (with_reducible refine (spec_l1Below.calls g s0_0 s0_1 s0_2 (l1.length : Int) t367 t368 t369 w0 _ ?side1 ?side2 A3.out).mono ?_); (case side1 => repeat (first | (with_reducible first | exact HI0.out | apply IsS129.alloc | apply IsS129.drewN | apply IsS129.drew | apply IsS129.set_1 | apply IsS129.set_2) | exact HI0.out)); (case side2 => with_reducible repeat (first | exact HB.out | apply cA | apply cN | apply cD | refine below_set ?_ (IsS129.ge HI0.out))); rintro e w6 ⟨rfl, hi, hb, hk⟩; refine ⟨_, rfl, ?_⟩; have n0_ := kp (KeepBut.trans (by repeat (first | (with_reducible first | exact HK.out | apply KeepBut.set_ | apply keep_drewN | apply keep_drew | apply keep_alloc) | exact HK.out)) hk (.inl rfl)); have n1_ := kp (hb); have n2_ := kp (hi); clear HK; clear HB; clear HI0; have HK := n0_; have HB := n1_; have HI0 := n2_; clear n0_ n1_ n2_; (try clear hb); (try clear hk); (try clear hi); have p370 : 0 ≤ (t367 : Int) := of_decide_eq_true (by first | (with_reducible assumption) | assumption); have q370 : t367 < (l1.length : Int) := of_decide_eq_true (by first | (with_reducible assumption) | assumption); obtain ⟨ad370, e370, hx370_0⟩ := Kd.at_string HR1.out t367 p370 q370; cases e370; replace hx370_0 := keep_cell HK.out hx370_0 (by first | (rw [add_block]; exact hf1 _ rfl (by omega)) | exact hf1 _ rfl (by omega) | exact hf1 ad370 rfl (by omega)); replace p370 := eq_true p370; replace q370 := eq_true q370))
   go_ret
   exact ⟨by first | rfl | (simp [errW_none, errW_some] <;> rfl) | (simp [*, errW_none, errW_some] <;> rfl), by repeat (first | (with_reducible first | exact HI0.out | apply IsS129.alloc | apply IsS129.drewN | apply IsS129.drew | apply IsS129.set_1 | apply IsS129.set_2) | exact HI0.out), by with_reducible repeat (first | exact HB.out | apply cA | apply cN | apply cD | refine below_set ?_ (IsS129.ge HI0.out)), by repeat (first | (with_reducible first | exact HK.out | apply KeepBut.set_ | apply keep_drewN | apply keep_drew | apply keep_alloc) | exact HK.out)⟩
  ·rw [if_neg c5] at H
   exact absurd H (by simp)
 ·rw [if_neg c4] at H
  exact absurd H (by simp)

/-! ### spec_DrawParseRow: function 76 -/
def spec_DrawParseRow.f (k : Nat) (l0 : List Int) : Option (ByteArray) := (spec_l1New.f k l0).bind fun bt371 => ((spec_l2Row.f bt371.1 bt371.2.1 bt371.2.2 10).bind fun bt375 => ((spec_FormatRow.f k bt375.1 bt375.2.1 bt375.2.2.1).bind fun t380 => ((spec_l1Once.f bt371.1 bt375.2.2.2.1 bt375.2.2.2.2 2).bind fun bt381 => (if bt381.1 = true then ((spec_l1Spoil.f k bt371.1 bt381.2.1 bt381.2.2 t380).bind fun bt384 => ((spec_l1Pick.f bt371.1 bt384.2.1 bt384.2.2 (([(⟨#[]⟩ : ByteArray), (⟨#[46, 46]⟩ : ByteArray), (⟨#[49, 46, 50]⟩ : ByteArray), (⟨#[49, 46, 50, 46, 51, 46]⟩ : ByteArray), (⟨#[49, 48, 46, 48, 46, 48]⟩ : ByteArray), (⟨#[49, 46, 49, 48, 48, 46, 48]⟩ : ByteArray), (⟨#[49, 46, 49, 46, 52]⟩ : ByteArray), (⟨#[48, 49, 46, 49, 46, 49]⟩ : ByteArray), (⟨#[49, 46, 50, 46, 51]⟩ : ByteArray), bt384.1] : List ByteArray))).bind fun bt390 => (some bt390.1))) else (some t380)))))
set_option maxHeartbeats 8000000 in
set_option maxRecDepth 100000 in
theorem spec_DrawParseRow.calls (k : Nat) (A0 : Option Addr) (c0 : Nat) (l0 : List Int) (r : ByteArray) (w : World) (hr0 : Kd.C (Kd.int .u8) w A0 l0.length l0) (hc0 : l0.length ≤ c0) (h : spec_DrawParseRow.f k l0 = some r) :
  Calls Try.prog 76 #[.slice A0 l0.length c0] w fun e w' => e = .returned (.string r) ∧ Below w.heap.size w w' := by
 have HR0 := kp hr0
 have HC0 := kp hc0
 clear hr0 hc0
 have HB := kp (Below.refl w.heap.size w)
 have H : ((spec_l1New.f k l0).bind fun bt371 => ((spec_l2Row.f bt371.1 bt371.2.1 bt371.2.2 10).bind fun bt375 => ((spec_FormatRow.f k bt375.1 bt375.2.1 bt375.2.2.1).bind fun t380 => ((spec_l1Once.f bt371.1 bt375.2.2.2.1 bt375.2.2.2.2 2).bind fun bt381 => (if bt381.1 = true then ((spec_l1Spoil.f k bt371.1 bt381.2.1 bt381.2.2 t380).bind fun bt384 => ((spec_l1Pick.f bt371.1 bt384.2.1 bt384.2.2 (([(⟨#[]⟩ : ByteArray), (⟨#[46, 46]⟩ : ByteArray), (⟨#[49, 46, 50]⟩ : ByteArray), (⟨#[49, 46, 50, 46, 51, 46]⟩ : ByteArray), (⟨#[49, 48, 46, 48, 46, 48]⟩ : ByteArray), (⟨#[49, 46, 49, 48, 48, 46, 48]⟩ : ByteArray), (⟨#[49, 46, 49, 46, 52]⟩ : ByteArray), (⟨#[48, 49, 46, 49, 46, 49]⟩ : ByteArray), (⟨#[49, 46, 50, 46, 51]⟩ : ByteArray), bt384.1] : List ByteArray))).bind fun bt390 => (some bt390.1))) else (some t380)))))) = some r := h
 clear h
 replace H := Option.bind_eq_some_iff.mp H
 obtain ⟨⟨t371, t372, t373⟩, A20, H⟩ := H
 replace H : ((spec_l2Row.f t371 t372 t373 10).bind fun bt375 => ((spec_FormatRow.f k bt375.1 bt375.2.1 bt375.2.2.1).bind fun t380 => ((spec_l1Once.f t371 bt375.2.2.2.1 bt375.2.2.2.2 2).bind fun bt381 => (if bt381.1 = true then ((spec_l1Spoil.f k t371 bt381.2.1 bt381.2.2 t380).bind fun bt384 => ((spec_l1Pick.f t371 bt384.2.1 bt384.2.2 (([(⟨#[]⟩ : ByteArray), (⟨#[46, 46]⟩ : ByteArray), (⟨#[49, 46, 50]⟩ : ByteArray), (⟨#[49, 46, 50, 46, 51, 46]⟩ : ByteArray), (⟨#[49, 48, 46, 48, 46, 48]⟩ : ByteArray), (⟨#[49, 46, 49, 48, 48, 46, 48]⟩ : ByteArray), (⟨#[49, 46, 49, 46, 52]⟩ : ByteArray), (⟨#[48, 49, 46, 49, 46, 49]⟩ : ByteArray), (⟨#[49, 46, 50, 46, 51]⟩ : ByteArray), bt384.1] : List ByteArray))).bind fun bt390 => (some bt390.1))) else (some t380))))) = some r := H
 have A2 := kp A20
 clear A20
 replace H := Option.bind_eq_some_iff.mp H
 obtain ⟨⟨t375, t376, t377, t378, t379⟩, A30, H⟩ := H
 replace H : ((spec_FormatRow.f k t375 t376 t377).bind fun t380 => ((spec_l1Once.f t371 t378 t379 2).bind fun bt381 => (if bt381.1 = true then ((spec_l1Spoil.f k t371 bt381.2.1 bt381.2.2 t380).bind fun bt384 => ((spec_l1Pick.f t371 bt384.2.1 bt384.2.2 (([(⟨#[]⟩ : ByteArray), (⟨#[46, 46]⟩ : ByteArray), (⟨#[49, 46, 50]⟩ : ByteArray), (⟨#[49, 46, 50, 46, 51, 46]⟩ : ByteArray), (⟨#[49, 48, 46, 48, 46, 48]⟩ : ByteArray), (⟨#[49, 46, 49, 48, 48, 46, 48]⟩ : ByteArray), (⟨#[49, 46, 49, 46, 52]⟩ : ByteArray), (⟨#[48, 49, 46, 49, 46, 49]⟩ : ByteArray), (⟨#[49, 46, 50, 46, 51]⟩ : ByteArray), bt384.1] : List ByteArray))).bind fun bt390 => (some bt390.1))) else (some t380)))) = some r := H
 have A3 := kp A30
 clear A30
 replace H := Option.bind_eq_some_iff.mp H
 obtain ⟨t380, A40, H⟩ := H
 replace H : ((spec_l1Once.f t371 t378 t379 2).bind fun bt381 => (if bt381.1 = true then ((spec_l1Spoil.f k t371 bt381.2.1 bt381.2.2 t380).bind fun bt384 => ((spec_l1Pick.f t371 bt384.2.1 bt384.2.2 (([(⟨#[]⟩ : ByteArray), (⟨#[46, 46]⟩ : ByteArray), (⟨#[49, 46, 50]⟩ : ByteArray), (⟨#[49, 46, 50, 46, 51, 46]⟩ : ByteArray), (⟨#[49, 48, 46, 48, 46, 48]⟩ : ByteArray), (⟨#[49, 46, 49, 48, 48, 46, 48]⟩ : ByteArray), (⟨#[49, 46, 49, 46, 52]⟩ : ByteArray), (⟨#[48, 49, 46, 49, 46, 49]⟩ : ByteArray), (⟨#[49, 46, 50, 46, 51]⟩ : ByteArray), bt384.1] : List ByteArray))).bind fun bt390 => (some bt390.1))) else (some t380))) = some r := H
 have A4 := kp A40
 clear A40
 replace H := Option.bind_eq_some_iff.mp H
 obtain ⟨⟨t381, t382, t383⟩, A50, H⟩ := H
 replace H : (if t381 = true then ((spec_l1Spoil.f k t371 t382 t383 t380).bind fun bt384 => ((spec_l1Pick.f t371 bt384.2.1 bt384.2.2 (([(⟨#[]⟩ : ByteArray), (⟨#[46, 46]⟩ : ByteArray), (⟨#[49, 46, 50]⟩ : ByteArray), (⟨#[49, 46, 50, 46, 51, 46]⟩ : ByteArray), (⟨#[49, 48, 46, 48, 46, 48]⟩ : ByteArray), (⟨#[49, 46, 49, 48, 48, 46, 48]⟩ : ByteArray), (⟨#[49, 46, 49, 46, 52]⟩ : ByteArray), (⟨#[48, 49, 46, 49, 46, 49]⟩ : ByteArray), (⟨#[49, 46, 50, 46, 51]⟩ : ByteArray), bt384.1] : List ByteArray))).bind fun bt390 => (some bt390.1))) else (some t380)) = some r := H
 have A5 := kp A50
 clear A50
 by_cases c6 : t381 = true
 ·subst c6
  have H1 : ((spec_l1Spoil.f k t371 t382 t383 t380).bind fun bt384 => ((spec_l1Pick.f t371 bt384.2.1 bt384.2.2 (([(⟨#[]⟩ : ByteArray), (⟨#[46, 46]⟩ : ByteArray), (⟨#[49, 46, 50]⟩ : ByteArray), (⟨#[49, 46, 50, 46, 51, 46]⟩ : ByteArray), (⟨#[49, 48, 46, 48, 46, 48]⟩ : ByteArray), (⟨#[49, 46, 49, 48, 48, 46, 48]⟩ : ByteArray), (⟨#[49, 46, 49, 46, 52]⟩ : ByteArray), (⟨#[48, 49, 46, 49, 46, 49]⟩ : ByteArray), (⟨#[49, 46, 50, 46, 51]⟩ : ByteArray), bt384.1] : List ByteArray))).bind fun bt390 => (some bt390.1))) = some r := by rw [if_pos rfl] at H; exact H
  clear H
  have H := H1
  clear H1
  replace H := Option.bind_eq_some_iff.mp H
  obtain ⟨⟨t384, t385, t386⟩, A70, H⟩ := H
  replace H : ((spec_l1Pick.f t371 t385 t386 (([(⟨#[]⟩ : ByteArray), (⟨#[46, 46]⟩ : ByteArray), (⟨#[49, 46, 50]⟩ : ByteArray), (⟨#[49, 46, 50, 46, 51, 46]⟩ : ByteArray), (⟨#[49, 48, 46, 48, 46, 48]⟩ : ByteArray), (⟨#[49, 46, 49, 48, 48, 46, 48]⟩ : ByteArray), (⟨#[49, 46, 49, 46, 52]⟩ : ByteArray), (⟨#[48, 49, 46, 49, 46, 49]⟩ : ByteArray), (⟨#[49, 46, 50, 46, 51]⟩ : ByteArray), t384] : List ByteArray))).bind fun bt390 => (some bt390.1)) = some r := H
  have A7 := kp A70
  clear A70
  obtain ⟨y387, hy387⟩ : ∃ y_ : List ByteArray, y_ = (([(⟨#[]⟩ : ByteArray), (⟨#[46, 46]⟩ : ByteArray), (⟨#[49, 46, 50]⟩ : ByteArray), (⟨#[49, 46, 50, 46, 51, 46]⟩ : ByteArray), (⟨#[49, 48, 46, 48, 46, 48]⟩ : ByteArray), (⟨#[49, 46, 49, 48, 48, 46, 48]⟩ : ByteArray), (⟨#[49, 46, 49, 46, 52]⟩ : ByteArray), (⟨#[48, 49, 46, 49, 46, 49]⟩ : ByteArray), (⟨#[49, 46, 50, 46, 51]⟩ : ByteArray), t384] : List ByteArray)) := ⟨_, rfl⟩
  replace H : ((spec_l1Pick.f t371 t385 t386 y387).bind fun bt390 => (some bt390.1)) = some r := by first | (rw [hy387]; with_reducible exact H) | (have H2_ := (Option.bind_some _ _).symm.trans H; rw [hy387]; with_reducible exact H2_) | (have H2_ := (Option.bind_some _ _).symm.trans H; with_reducible exact H2_) | with_reducible exact H | (rw [hy387]; exact H) | exact H
  have Ny387 := kp hy387
  clear hy387
  replace H := Option.bind_eq_some_iff.mp H
  obtain ⟨⟨t390, t391, t392⟩, A80, H⟩ := H
  replace H : (some t390) = some r := H
  have A8 := kp A80
  clear A80
  obtain rfl := Option.some.inj H
  go_enter Try.func76, Try.ntmps76
  go_wp2_with (first | ((with_reducible refine gate_callee (f := 96) rfl ?_); refine goesL_ (some 6) rfl rfl Try.func96 (by kernel_rfl) rfl #[.slice A0 l0.length c0] rfl (by (try simp only [mA, mC, mN]); first | done | rfl | (simp only [lD, lT]; rfl)) ?_; (with_reducible refine (spec_l1New.calls k _ _ l0 t371 t372 t373 w _ ?side1 ?side2 ?side3 A2.out).mono ?_); (case side1 => with_reducible repeat (first | exact HB.out | apply cA | apply cN | apply cD)); (case side2 => exact HR0.out); (case side3 => exact HC0.out); rintro e w9 ⟨g374, rfl, hi, hb, hb2⟩; refine ⟨_, rfl, ?_⟩; have n0_ := kp (hb); have n1_ := kp (hi); clear HB; have HB := n0_; have HI374 := n1_; clear n0_ n1_; (try clear hb); (try clear hb2); (try clear hi)) | ((with_reducible refine gate_callee (f := 110) rfl ?_); refine goesL_ (some 8) rfl rfl Try.func110 (by kernel_rfl) rfl #[.pointer (some ⟨g374, 0, none⟩), .int .i64 10] rfl (by (try simp only [mA, mC, mN]); first | done | rfl | (simp only [lD, lT]; rfl)) ?_; (with_reducible refine (spec_l2Row.calls g374 t371 t372 t373 10 t375 t376 t377 t378 t379 w _ ?side1 ?side2 A3.out).mono ?_); (case side1 => repeat (first | (with_reducible first | exact HI374.out | apply IsS129.alloc | apply IsS129.drewN | apply IsS129.drew | apply IsS129.set_1 | apply IsS129.set_2) | exact HI374.out)); (case side2 => with_reducible repeat (first | exact HB.out | apply cA | apply cN | apply cD | refine below_set ?_ (IsS129.ge HI374.out))); rintro e w10 ⟨rfl, hi, hb, hk⟩; refine ⟨_, rfl, ?_⟩; have n0_ := kp (hb); have n1_ := kp (hi); clear HB; clear HI374; have HB := n0_; have HI374 := n1_; clear n0_ n1_; (try clear hb); (try clear hk); (try clear hi)) | ((with_reducible refine gate_callee (f := 88) rfl ?_); refine goesL_ (some 9) rfl rfl Try.func88 (by kernel_rfl) rfl #[.agg #[.int .i64 t375, .int .i64 t376, .int .i64 t377]] rfl (by (try simp only [mA, mC, mN]); first | done | rfl | (simp only [lD, lT]; rfl)) ?_; (with_reducible refine (spec_FormatRow.calls k t375 t376 t377 t380 _ A4.out).mono ?_); rintro e w11 ⟨rfl, hb⟩; refine ⟨_, rfl, ?_⟩; have n0_ := kp (IsS129.below (by repeat (first | (with_reducible first | exact HI374.out | apply IsS129.alloc | apply IsS129.drewN | apply IsS129.drew | apply IsS129.set_1 | apply IsS129.set_2) | exact HI374.out)) hb); have n1_ := kp (below_step (by with_reducible repeat (first | exact HB.out | apply cA | apply cN | apply cD | refine below_set ?_ (IsS129.ge HI374.out))) hb); clear HI374; clear HB; have HI374 := n0_; have HB := n1_; clear n0_ n1_; (try clear hb)) | ((with_reducible refine gate_callee (f := 105) rfl ?_); refine goesL_ (some 11) rfl rfl Try.func105 (by kernel_rfl) rfl #[.pointer (some ⟨g374, 0, none⟩), .int .i64 2] rfl (by (try simp only [mA, mC, mN]); first | done | rfl | (simp only [lD, lT]; rfl)) ?_; (with_reducible refine (spec_l1Once.calls g374 t371 t378 t379 2 true t382 t383 w _ ?side1 ?side2 A5.out).mono ?_); (case side1 => repeat (first | (with_reducible first | exact HI374.out | apply IsS129.alloc | apply IsS129.drewN | apply IsS129.drew | apply IsS129.set_1 | apply IsS129.set_2) | exact HI374.out)); (case side2 => with_reducible repeat (first | exact HB.out | apply cA | apply cN | apply cD | refine below_set ?_ (IsS129.ge HI374.out))); rintro e w12 ⟨rfl, hi, hb, hk⟩; refine ⟨_, rfl, ?_⟩; have n0_ := kp (hb); have n1_ := kp (hi); clear HB; clear HI374; have HB := n0_; have HI374 := n1_; clear n0_ n1_; (try clear hb); (try clear hk); (try clear hi)) | ((with_reducible refine gate_callee (f := 106) rfl ?_); refine goesL_ (some 15) rfl rfl Try.func106 (by kernel_rfl) rfl #[.pointer (some ⟨g374, 0, none⟩), .string t380] rfl (by (try simp only [mA, mC, mN]); first | done | rfl | (simp only [lD, lT]; rfl)) ?_; (with_reducible refine (spec_l1Spoil.calls k g374 t371 t382 t383 t380 t384 t385 t386 w _ ?side1 ?side2 A7.out).mono ?_); (case side1 => repeat (first | (with_reducible first | exact HI374.out | apply IsS129.alloc | apply IsS129.drewN | apply IsS129.drew | apply IsS129.set_1 | apply IsS129.set_2) | exact HI374.out)); (case side2 => with_reducible repeat (first | exact HB.out | apply cA | apply cN | apply cD | refine below_set ?_ (IsS129.ge HI374.out))); rintro e w13 ⟨rfl, hi, hb, hk⟩; refine ⟨_, rfl, ?_⟩; have n0_ := kp (hb); have n1_ := kp (hi); clear HB; clear HI374; have HB := n0_; have HI374 := n1_; clear n0_ n1_; (try clear hb); (try clear hk); (try clear hi)) | ((with_reducible refine gate_dst (N := 16) rfl ?_); refine Kd.R_lit Kd.string _ 9 ?hg (N := 16) ?hd (xs := ([(⟨#[]⟩ : ByteArray), (⟨#[46, 46]⟩ : ByteArray), (⟨#[49, 46, 50]⟩ : ByteArray), (⟨#[49, 46, 50, 46, 51, 46]⟩ : ByteArray), (⟨#[49, 48, 46, 48, 46, 48]⟩ : ByteArray), (⟨#[49, 46, 49, 48, 48, 46, 48]⟩ : ByteArray), (⟨#[49, 46, 49, 46, 52]⟩ : ByteArray), (⟨#[48, 49, 46, 49, 46, 49]⟩ : ByteArray), (⟨#[49, 46, 50, 46, 51]⟩ : ByteArray), t384] : List ByteArray)) (inner := [.string (⟨#[]⟩ : ByteArray), .string (⟨#[46, 46]⟩ : ByteArray), .string (⟨#[49, 46, 50]⟩ : ByteArray), .string (⟨#[49, 46, 50, 46, 51, 46]⟩ : ByteArray), .string (⟨#[49, 48, 46, 48, 46, 48]⟩ : ByteArray), .string (⟨#[49, 46, 49, 48, 48, 46, 48]⟩ : ByteArray), .string (⟨#[49, 46, 49, 46, 52]⟩ : ByteArray), .string (⟨#[48, 49, 46, 49, 46, 49]⟩ : ByteArray), .string (⟨#[49, 46, 50, 46, 51]⟩ : ByteArray), .string t384]) (ok := fun _ => True) (okp := fun _ => True) ?hr ?hp (fun _ hk => hk) trivial (Below.refl _ _) (Nat.le_refl _) (by simp) ?_; (case hd => rfl); (case hg => rfl); (case hr => first | (go_simp; done) | (go_simp; rfl)); (case hp => exact (Reps.one (show Kd.M Kd.string _ _ _ (⟨#[]⟩ : ByteArray) [.string (⟨#[]⟩ : ByteArray)] from rfl) (Reps.one (show Kd.M Kd.string _ _ _ (⟨#[46, 46]⟩ : ByteArray) [.string (⟨#[46, 46]⟩ : ByteArray)] from rfl) (Reps.one (show Kd.M Kd.string _ _ _ (⟨#[49, 46, 50]⟩ : ByteArray) [.string (⟨#[49, 46, 50]⟩ : ByteArray)] from rfl) (Reps.one (show Kd.M Kd.string _ _ _ (⟨#[49, 46, 50, 46, 51, 46]⟩ : ByteArray) [.string (⟨#[49, 46, 50, 46, 51, 46]⟩ : ByteArray)] from rfl) (Reps.one (show Kd.M Kd.string _ _ _ (⟨#[49, 48, 46, 48, 46, 48]⟩ : ByteArray) [.string (⟨#[49, 48, 46, 48, 46, 48]⟩ : ByteArray)] from rfl) (Reps.one (show Kd.M Kd.string _ _ _ (⟨#[49, 46, 49, 48, 48, 46, 48]⟩ : ByteArray) [.string (⟨#[49, 46, 49, 48, 48, 46, 48]⟩ : ByteArray)] from rfl) (Reps.one (show Kd.M Kd.string _ _ _ (⟨#[49, 46, 49, 46, 52]⟩ : ByteArray) [.string (⟨#[49, 46, 49, 46, 52]⟩ : ByteArray)] from rfl) (Reps.one (show Kd.M Kd.string _ _ _ (⟨#[48, 49, 46, 49, 46, 49]⟩ : ByteArray) [.string (⟨#[48, 49, 46, 49, 46, 49]⟩ : ByteArray)] from rfl) (Reps.one (show Kd.M Kd.string _ _ _ (⟨#[49, 46, 50, 46, 51]⟩ : ByteArray) [.string (⟨#[49, 46, 50, 46, 51]⟩ : ByteArray)] from rfl) (Reps.one (show Kd.M Kd.string _ _ _ t384 [.string t384] from rfl) (Reps.none _ _)))))))))))); intro v388 w14 ho15 hb hg_ hnew_; clear hg_ hnew_; (first | rw [← Ny387.out] at ho15 | (simp only [Int.reduceToNat] at ho15; rw [← Ny387.out] at ho15)); have n0_ := kp (Kd.R_lower ho15 (below_size (by with_reducible repeat (first | exact HB.out | apply cA | apply cN | apply cD | refine below_set ?_ (IsS129.ge HI374.out))))); have n1_ := kp (IsS129.below (by repeat (first | (with_reducible first | exact HI374.out | apply IsS129.alloc | apply IsS129.drewN | apply IsS129.drew | apply IsS129.set_1 | apply IsS129.set_2) | exact HI374.out)) hb); have n2_ := kp (below_step (by with_reducible repeat (first | exact HB.out | apply cA | apply cN | apply cD | refine below_set ?_ (IsS129.ge HI374.out))) hb); clear HI374; clear HB; have HO389 := n0_; have HI374 := n1_; have HB := n2_; clear n0_ n1_ n2_; clear hb ho15; obtain ⟨Ao16, co16, eo16⟩ := Kd.R_slice HO389.out; subst eo16) | ((with_reducible refine gate_callee (f := 111) rfl ?_); refine goesL_ (some 17) rfl rfl Try.func111 (by kernel_rfl) rfl #[.pointer (some ⟨g374, 0, none⟩), .slice Ao16 y387.length co16] rfl (by (try simp only [mA, mC, mN]); first | done | rfl | (simp only [lD, lT]; rfl)) ?_; (with_reducible refine (spec_l1Pick.calls g374 t371 t385 t386 _ _ y387 t390 t391 t392 w _ ?side1 ?side2 ?side3 ?side4 ?side5 A8.out).mono ?_); (case side1 => repeat (first | (with_reducible first | exact HI374.out | apply IsS129.alloc | apply IsS129.drewN | apply IsS129.drew | apply IsS129.set_1 | apply IsS129.set_2) | exact HI374.out)); (case side2 => with_reducible repeat (first | exact HB.out | apply cA | apply cN | apply cD | refine below_set ?_ (IsS129.ge HI374.out))); (case side3 => repeat (first | exact (Kd.R_reads' HO389.out).2.2 | (with_reducible refine Kd.C_alloc ?_ _) | (with_reducible refine Kd.C_drewN ?_ _) | (with_reducible refine Kd.C_drew ?_))); (case side4 => exact (Kd.R_reads' HO389.out).2.1); (case side5 => exact far_slice (IsS129.own_ne HI374.out HO389.out (by decide))); rintro e w17 ⟨rfl, hi, hb, hk⟩; refine ⟨_, rfl, ?_⟩; have n0_ := kp (Kd.R_mono (Kd.R_keep (IsS129.apart (show IsS129 w _ g374 t371 t385 t386 from by repeat (first | (with_reducible first | exact HI374.out | apply IsS129.alloc | apply IsS129.drewN | apply IsS129.drew | apply IsS129.set_1 | apply IsS129.set_2) | exact HI374.out)) (by (with_reducible repeat (first | apply rA | apply rN | apply rD)); exact HO389.out) (by decide)) hk (fun _ h => h.2)) (fun _ h => h.1)); have n1_ := kp (hb); have n2_ := kp (hi); clear HO389; clear HB; clear HI374; have HO389 := n0_; have HB := n1_; have HI374 := n2_; clear n0_ n1_ n2_; (try clear hb); (try clear hk); (try clear hi)))
  go_ret
  exact ⟨by first | rfl | (simp [errW_none, errW_some] <;> rfl) | (simp [*, errW_none, errW_some] <;> rfl), by with_reducible repeat (first | exact HB.out | apply cA | apply cN | apply cD | refine below_set ?_ (IsS129.ge HI374.out))⟩
 ·replace c6 := Bool.eq_false_iff.mpr c6
  subst c6
  have H1 : (some t380) = some r := by rw [if_neg (show ¬ (false = true) by decide)] at H; exact H
  clear H
  have H := H1
  clear H1
  obtain rfl := Option.some.inj H
  go_enter Try.func76, Try.ntmps76
  go_wp2_with (first | ((with_reducible refine gate_callee (f := 96) rfl ?_); refine goesL_ (some 6) rfl rfl Try.func96 (by kernel_rfl) rfl #[.slice A0 l0.length c0] rfl (by (try simp only [mA, mC, mN]); first | done | rfl | (simp only [lD, lT]; rfl)) ?_; (with_reducible refine (spec_l1New.calls k _ _ l0 t371 t372 t373 w _ ?side1 ?side2 ?side3 A2.out).mono ?_); (case side1 => with_reducible repeat (first | exact HB.out | apply cA | apply cN | apply cD)); (case side2 => exact HR0.out); (case side3 => exact HC0.out); rintro e w18 ⟨g374, rfl, hi, hb, hb2⟩; refine ⟨_, rfl, ?_⟩; have n0_ := kp (hb); have n1_ := kp (hi); clear HB; have HB := n0_; have HI374 := n1_; clear n0_ n1_; (try clear hb); (try clear hb2); (try clear hi)) | ((with_reducible refine gate_callee (f := 110) rfl ?_); refine goesL_ (some 8) rfl rfl Try.func110 (by kernel_rfl) rfl #[.pointer (some ⟨g374, 0, none⟩), .int .i64 10] rfl (by (try simp only [mA, mC, mN]); first | done | rfl | (simp only [lD, lT]; rfl)) ?_; (with_reducible refine (spec_l2Row.calls g374 t371 t372 t373 10 t375 t376 t377 t378 t379 w _ ?side1 ?side2 A3.out).mono ?_); (case side1 => repeat (first | (with_reducible first | exact HI374.out | apply IsS129.alloc | apply IsS129.drewN | apply IsS129.drew | apply IsS129.set_1 | apply IsS129.set_2) | exact HI374.out)); (case side2 => with_reducible repeat (first | exact HB.out | apply cA | apply cN | apply cD | refine below_set ?_ (IsS129.ge HI374.out))); rintro e w19 ⟨rfl, hi, hb, hk⟩; refine ⟨_, rfl, ?_⟩; have n0_ := kp (hb); have n1_ := kp (hi); clear HB; clear HI374; have HB := n0_; have HI374 := n1_; clear n0_ n1_; (try clear hb); (try clear hk); (try clear hi)) | ((with_reducible refine gate_callee (f := 88) rfl ?_); refine goesL_ (some 9) rfl rfl Try.func88 (by kernel_rfl) rfl #[.agg #[.int .i64 t375, .int .i64 t376, .int .i64 t377]] rfl (by (try simp only [mA, mC, mN]); first | done | rfl | (simp only [lD, lT]; rfl)) ?_; (with_reducible refine (spec_FormatRow.calls k t375 t376 t377 t380 _ A4.out).mono ?_); rintro e w20 ⟨rfl, hb⟩; refine ⟨_, rfl, ?_⟩; have n0_ := kp (IsS129.below (by repeat (first | (with_reducible first | exact HI374.out | apply IsS129.alloc | apply IsS129.drewN | apply IsS129.drew | apply IsS129.set_1 | apply IsS129.set_2) | exact HI374.out)) hb); have n1_ := kp (below_step (by with_reducible repeat (first | exact HB.out | apply cA | apply cN | apply cD | refine below_set ?_ (IsS129.ge HI374.out))) hb); clear HI374; clear HB; have HI374 := n0_; have HB := n1_; clear n0_ n1_; (try clear hb)) | ((with_reducible refine gate_callee (f := 105) rfl ?_); refine goesL_ (some 11) rfl rfl Try.func105 (by kernel_rfl) rfl #[.pointer (some ⟨g374, 0, none⟩), .int .i64 2] rfl (by (try simp only [mA, mC, mN]); first | done | rfl | (simp only [lD, lT]; rfl)) ?_; (with_reducible refine (spec_l1Once.calls g374 t371 t378 t379 2 false t382 t383 w _ ?side1 ?side2 A5.out).mono ?_); (case side1 => repeat (first | (with_reducible first | exact HI374.out | apply IsS129.alloc | apply IsS129.drewN | apply IsS129.drew | apply IsS129.set_1 | apply IsS129.set_2) | exact HI374.out)); (case side2 => with_reducible repeat (first | exact HB.out | apply cA | apply cN | apply cD | refine below_set ?_ (IsS129.ge HI374.out))); rintro e w21 ⟨rfl, hi, hb, hk⟩; refine ⟨_, rfl, ?_⟩; have n0_ := kp (hb); have n1_ := kp (hi); clear HB; clear HI374; have HB := n0_; have HI374 := n1_; clear n0_ n1_; (try clear hb); (try clear hk); (try clear hi)))
  go_ret
  exact ⟨by first | rfl | (simp [errW_none, errW_some] <;> rfl) | (simp [*, errW_none, errW_some] <;> rfl), by with_reducible repeat (first | exact HB.out | apply cA | apply cN | apply cD | refine below_set ?_ (IsS129.ge HI374.out))⟩

end Go.Proofs.Ytkipmmkjbeeemaa.PFnRowFormat
