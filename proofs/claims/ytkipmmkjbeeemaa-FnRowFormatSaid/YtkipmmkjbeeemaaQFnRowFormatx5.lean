/- Out of the print of this law's functions, with the contracts of some of them proved otherwise; nothing is claimed here. -/
/- Out of the print of this law's functions, its regions' steps said shorter; nothing is claimed here. -/
import Derived.Test.YtkipmmkjbeeemaaQFnRowFormatx0
import Derived.Test.YtkipmmkjbeeemaaQFnRowFormatx2
import Derived.Test.YtkipmmkjbeeemaaQFnRowFormatx4
import Derived.Test.YtkipmmkjbeeemaaShort
namespace Go.Proofs.Ytkipmmkjbeeemaa.PFnRowFormat
open Go.RowKit Go.Proofs.YtkipmmkjbeeemaaW.PrintWords Go.Proofs.YtkipmmkjbeeemaaW.PrintLast Go.Proofs.YtkipmmkjbeeemaaW.PrintMore Go.Proofs.Ytkipmmkjbeeemaa.Short
attribute [local go_sem] max2_int min2_int max_two min_two max_three min_three max_four min_four   -- for this text's walks alone
set_option linter.unusedVariables false
set_option linter.unusedSimpArgs false

/-! ### spec_ParseRow: function 38 -/
def spec_ParseRow.f (k : Nat) (a0 : ByteArray) : Option (Int × Int × Int × Bool) := (spec_l2Cut.f k a0 46).bind fun t163 => (if (t163.length : Int) = 3 then (if 0 < (t163.length : Int) then ((spec_ParseInt.f k (rdOf ByteArray.empty t163 0)).bind fun bt168 => (if 1 < (t163.length : Int) then ((spec_ParseInt.f k (rdOf ByteArray.empty t163 1)).bind fun bt171 => (if 2 < (t163.length : Int) then ((spec_ParseInt.f k (rdOf ByteArray.empty t163 2)).bind fun bt174 => ((spec_FormatRow.f k bt168.1 bt171.1 bt174.1).bind fun t176 => (if t176.toList = a0.toList then (some (bt168.1, bt171.1, bt174.1, true)) else (some (0, 0, 0, false))))) else (none))) else (none))) else (none)) else (some (0, 0, 0, false)))
set_option maxHeartbeats 8000000 in
set_option maxRecDepth 100000 in
theorem spec_ParseRow.calls (k : Nat) (a0 : ByteArray) (r1 : Int) (r2 : Int) (r3 : Int) (r4 : Bool) (w : World) (h : spec_ParseRow.f k a0 = some (r1, r2, r3, r4)) :
  Calls Try.prog 38 #[.string a0] w fun e w' => e = .returned (.tuple #[.agg #[.int .i64 r1, .int .i64 r2, .int .i64 r3], .bool r4]) ∧ Below w.heap.size w w' := by
 have hu33 := Try.underlying33
 have HB := kp (Below.refl w.heap.size w)
 have H : ((spec_l2Cut.f k a0 46).bind fun t163 => (if (t163.length : Int) = 3 then (if 0 < (t163.length : Int) then ((spec_ParseInt.f k (rdOf ByteArray.empty t163 0)).bind fun bt168 => (if 1 < (t163.length : Int) then ((spec_ParseInt.f k (rdOf ByteArray.empty t163 1)).bind fun bt171 => (if 2 < (t163.length : Int) then ((spec_ParseInt.f k (rdOf ByteArray.empty t163 2)).bind fun bt174 => ((spec_FormatRow.f k bt168.1 bt171.1 bt174.1).bind fun t176 => (if t176.toList = a0.toList then (some (bt168.1, bt171.1, bt174.1, true)) else (some (0, 0, 0, false))))) else (none))) else (none))) else (none)) else (some (0, 0, 0, false)))) = some (r1, r2, r3, r4) := h
 clear h
 replace H := Option.bind_eq_some_iff.mp H
 obtain ⟨t163, A20, H⟩ := H
 replace H : (if (t163.length : Int) = 3 then (if 0 < (t163.length : Int) then ((spec_ParseInt.f k (rdOf ByteArray.empty t163 0)).bind fun bt168 => (if 1 < (t163.length : Int) then ((spec_ParseInt.f k (rdOf ByteArray.empty t163 1)).bind fun bt171 => (if 2 < (t163.length : Int) then ((spec_ParseInt.f k (rdOf ByteArray.empty t163 2)).bind fun bt174 => ((spec_FormatRow.f k bt168.1 bt171.1 bt174.1).bind fun t176 => (if t176.toList = a0.toList then (some (bt168.1, bt171.1, bt174.1, true)) else (some (0, 0, 0, false))))) else (none))) else (none))) else (none)) else (some (0, 0, 0, false))) = some (r1, r2, r3, r4) := H
 have A2 := kp A20
 clear A20
 by_cases c3 : (t163.length : Int) = 3
 ·rw [if_pos c3] at H
  have c3b0 : ((t163.length : Int) == 3) = true := beq_iff_eq.mpr c3
  have c3b1 : ((t163.length : Int) != 3) = false := bne_eq_false_iff_eq.mpr c3
  clear c3
  by_cases c4 : 0 < (t163.length : Int)
  ·rw [if_pos c4] at H
   have c4b0 : decide (0 < (t163.length : Int)) = true := decide_eq_true c4
   have c4b1 : decide (0 < t163.length) = true := decide_eq_true (by omega)
   clear c4
   replace H := Option.bind_eq_some_iff.mp H
   obtain ⟨⟨t168, t169⟩, A50, H⟩ := H
   replace H : (if 1 < (t163.length : Int) then ((spec_ParseInt.f k (rdOf ByteArray.empty t163 1)).bind fun bt171 => (if 2 < (t163.length : Int) then ((spec_ParseInt.f k (rdOf ByteArray.empty t163 2)).bind fun bt174 => ((spec_FormatRow.f k t168 bt171.1 bt174.1).bind fun t176 => (if t176.toList = a0.toList then (some (t168, bt171.1, bt174.1, true)) else (some (0, 0, 0, false))))) else (none))) else (none)) = some (r1, r2, r3, r4) := H
   have A5 := kp A50
   clear A50
   by_cases c6 : 1 < (t163.length : Int)
   ·rw [if_pos c6] at H
    have c6b0 : decide (1 < (t163.length : Int)) = true := decide_eq_true c6
    have c6b1 : decide (1 < t163.length) = true := decide_eq_true (by omega)
    clear c6
    replace H := Option.bind_eq_some_iff.mp H
    obtain ⟨⟨t171, t172⟩, A70, H⟩ := H
    replace H : (if 2 < (t163.length : Int) then ((spec_ParseInt.f k (rdOf ByteArray.empty t163 2)).bind fun bt174 => ((spec_FormatRow.f k t168 t171 bt174.1).bind fun t176 => (if t176.toList = a0.toList then (some (t168, t171, bt174.1, true)) else (some (0, 0, 0, false))))) else (none)) = some (r1, r2, r3, r4) := H
    have A7 := kp A70
    clear A70
    by_cases c8 : 2 < (t163.length : Int)
    ·rw [if_pos c8] at H
     have c8b0 : decide (2 < (t163.length : Int)) = true := decide_eq_true c8
     have c8b1 : decide (2 < t163.length) = true := decide_eq_true (by omega)
     clear c8
     replace H := Option.bind_eq_some_iff.mp H
     obtain ⟨⟨t174, t175⟩, A90, H⟩ := H
     replace H : ((spec_FormatRow.f k t168 t171 t174).bind fun t176 => (if t176.toList = a0.toList then (some (t168, t171, t174, true)) else (some (0, 0, 0, false)))) = some (r1, r2, r3, r4) := H
     have A9 := kp A90
     clear A90
     replace H := Option.bind_eq_some_iff.mp H
     obtain ⟨t176, A100, H⟩ := H
     replace H : (if t176.toList = a0.toList then (some (t168, t171, t174, true)) else (some (0, 0, 0, false))) = some (r1, r2, r3, r4) := H
     have A10 := kp A100
     clear A100
     by_cases c11 : t176.toList = a0.toList
     ·rw [if_pos c11] at H
      have c11b0 : (t176.toList == a0.toList) = true := beq_iff_eq.mpr c11
      have c11b1 : (t176.toList != a0.toList) = false := bne_eq_false_iff_eq.mpr c11
      clear c11
      simp only [Option.some.injEq, Prod.mk.injEq] at H
      obtain ⟨rfl, rfl, rfl, rfl⟩ := H
      go_enter Try.func38, Try.ntmps38
      go_wp2_with (first | ((with_reducible refine gate_dst (N := 2) rfl ?_); refine box_event ?hg (N := 2) ?hd (cs := #[.int .i64 0, .int .i64 0, .int .i64 0]) (t := 33) ?hr ?_; (case hd => rfl); (case hg => rfl); (case hr => first | (go_simp; done) | (go_simp; rfl)); intro gb162 hg w12 hbox hb; have n0_ := kp (below_step (by with_reducible repeat (first | exact HB.out | apply cA | apply cN | apply cD)) hb); have n1_ := kp (hbox); have n2_ := kp ((by rw [hg]; exact (below_size (by with_reducible repeat (first | exact HB.out | apply cA | apply cN | apply cD))) : w.heap.size ≤ gb162)); have n3_ := kp ((by rw [hg]; exact (below_size (by with_reducible repeat (first | exact HB.out | apply cA | apply cN | apply cD))) : w.heap.size ≤ gb162)); clear HB; have HB := n0_; have BK162 := n1_; have GW162 := n2_; have GE162 := n3_; clear n0_ n1_ n2_ n3_; clear hb hbox hg) | ((with_reducible refine gate_callee (f := 90) rfl ?_); refine goesL_ (some 7) rfl rfl Try.func90 (by kernel_rfl) rfl #[.string a0, .int .u8 46] rfl (by (try simp only [mA, mC, mN]); first | done | rfl | (simp only [lD, lT]; rfl)) ?_; (with_reducible refine (spec_l2Cut.calls k a0 46 t163 _ A2.out).mono ?_); rintro e w13 ⟨v164, rfl, ho0, hb⟩; refine ⟨_, rfl, ?_⟩; have n0_ := kp (Kd.R_lower ho0 (below_size (by with_reducible repeat (first | exact HB.out | apply cA | apply cN | apply cD | refine below_set ?_ GE162.out)))); have n1_ := kp (blk_below (g := gb162) (o := .cells #[.int .i64 0, .int .i64 0, .int .i64 0] 33 (0, 0)) (by (with_reducible repeat (first | apply bN | apply bD | apply bA)); exact BK162.out) hb); have n2_ := kp (below_step (by with_reducible repeat (first | exact HB.out | apply cA | apply cN | apply cD | refine below_set ?_ GE162.out)) hb); clear BK162; clear HB; have HO165 := n0_; have BK162 := n1_; have HB := n2_; clear n0_ n1_ n2_; (try clear hb); (try clear ho0); obtain ⟨Ao14, co14, eo14⟩ := Kd.R_slice HO165.out; subst eo14) | ((with_reducible refine gate_dst (N := 5) rfl ?_); refine box_event ?hg (N := 5) ?hd (cs := #[.int .i64 0, .int .i64 0, .int .i64 0]) (t := 33) ?hr ?_; (case hd => rfl); (case hg => rfl); (case hr => first | (go_simp; done) | (go_simp; rfl)); intro gb166 hg w15 hbox hb; have n0_ := kp (Kd.R_below (by (with_reducible repeat (first | apply rA | apply rN | apply rD)); exact HO165.out) hb); have n1_ := kp (blk_below (g := gb162) (o := .cells #[.int .i64 0, .int .i64 0, .int .i64 0] 33 (0, 0)) (by (with_reducible repeat (first | apply bN | apply bD | apply bA)); exact BK162.out) hb); have n2_ := kp (below_step (by with_reducible repeat (first | exact HB.out | apply cA | apply cN | apply cD | refine below_set ?_ GE162.out)) hb); have n3_ := kp (hbox); have n4_ := kp ((by rw [hg]; exact (below_size (by with_reducible repeat (first | exact HB.out | apply cA | apply cN | apply cD | refine below_set ?_ GE162.out))) : w.heap.size ≤ gb166)); have n5_ := kp ((by rw [hg]; exact (below_size (by with_reducible repeat (first | exact HB.out | apply cA | apply cN | apply cD | refine below_set ?_ GE162.out))) : w.heap.size ≤ gb166)); have n6_ := kp ((by rw [hg]; exact Nat.ne_of_lt (blk_lt (g := gb162) (o := .cells #[.int .i64 0, .int .i64 0, .int .i64 0] 33 (0, 0)) (by (with_reducible repeat (first | apply bN | apply bD | apply bA)); exact BK162.out)) : gb162 ≠ gb166)); have n7_ := kp ((by rw [hg]; exact Nat.ne_of_gt (blk_lt (g := gb162) (o := .cells #[.int .i64 0, .int .i64 0, .int .i64 0] 33 (0, 0)) (by (with_reducible repeat (first | apply bN | apply bD | apply bA)); exact BK162.out)) : gb166 ≠ gb162)); clear HO165; clear BK162; clear HB; have HO165 := n0_; have BK162 := n1_; have HB := n2_; have BK166 := n3_; have GW166 := n4_; have GE166 := n5_; have NB162_166 := n6_; have NB166_162 := n7_; clear n0_ n1_ n2_ n3_ n4_ n5_ n6_ n7_; clear hb hbox hg; have hnb16 := NB166_162.out; have hnc16 := NB162_166.out; have hcz17_0 : w15.cell? ⟨gb166, 0, none⟩ = some (.int .i64 0) := (blk_cell BK166.out 0).trans rfl; have hcz17_1 : w15.cell? ⟨gb166, 1, none⟩ = some (.int .i64 0) := (blk_cell BK166.out 1).trans rfl; have hcz17_2 : w15.cell? ⟨gb166, 2, none⟩ = some (.int .i64 0) := (blk_cell BK166.out 2).trans rfl; have hfz17_0 := blk_frozen BK166.out 0; have hfz17_1 := blk_frozen BK166.out 1; have hfz17_2 := blk_frozen BK166.out 2; have p167 : 0 ≤ (0 : Int) := (by omega); have q167 : 0 < (t163.length : Int) := of_decide_eq_true (by first | (with_reducible assumption) | assumption); obtain ⟨ad167, e167, hx167_0⟩ := Kd.at_string (Kd.R_reads' HO165.out).2.2 0 p167 q167; cases e167; have qi167 : (0 < t163.length) = True := eq_true (by omega); (try rw [show ((0 : Int)).toNat = 0 from rfl] at hx167_0); (try rw [Addr.add_zero'] at hx167_0); have hn167_0 : ad167.block ≠ gb166 := Kd.own_blk (Kd.R_ne HO165.out BK166.out (by decide)); have hn167_1 : ad167.block ≠ gb166 := Kd.own_blk (Kd.R_ne HO165.out BK166.out (by decide)); have hn167_2 : ad167.block ≠ gb166 := Kd.own_blk (Kd.R_ne HO165.out BK166.out (by decide)); replace hx167_0 := (cell_far (p := ⟨gb166, 0, none⟩) (by first | (rw [add_block]; exact hn167_0) | (show (Addr.add _ _).block ≠ _; rw [add_block]; exact hn167_0) | exact hn167_0) (.int .i64 0)).trans hx167_0; replace hx167_0 := (cell_far (p := ⟨gb166, 1, none⟩) (by first | (rw [add_block]; exact hn167_1) | (show (Addr.add _ _).block ≠ _; rw [add_block]; exact hn167_1) | exact hn167_1) (.int .i64 0)).trans hx167_0; replace hx167_0 := (cell_far (p := ⟨gb166, 2, none⟩) (by first | (rw [add_block]; exact hn167_2) | (show (Addr.add _ _).block ≠ _; rw [add_block]; exact hn167_2) | exact hn167_2) (.int .i64 0)).trans hx167_0; clear hn167_0; clear hn167_1; clear hn167_2; replace p167 := eq_true p167; replace q167 := eq_true q167) | ((with_reducible refine gate_callee (f := 91) rfl ?_); refine goesL_ (some 17) rfl rfl Try.func91 (by kernel_rfl) rfl #[.string (rdOf ByteArray.empty t163 0)] rfl (by (try simp only [mA, mC, mN]); first | done | rfl | (simp only [lD, lT]; rfl)) ?_; (with_reducible refine (spec_ParseInt.calls k (rdOf ByteArray.empty t163 0) t168 t169 _ A5.out).mono ?_); rintro e w18 ⟨rfl, hb⟩; refine ⟨_, rfl, ?_⟩; have n0_ := kp (Kd.R_below (by (with_reducible repeat (first | apply rA | apply rN | apply rD)); exact (Kd.R_mono (Kd.R_far (p := ⟨gb166, 2, none⟩) (Kd.R_far (p := ⟨gb166, 1, none⟩) (Kd.R_far (p := ⟨gb166, 0, none⟩) (Kd.R_types HO165.out BK166.out (by decide)) (fun _ hk => hk.2) (.int .i64 0)) (fun _ hk => hk.2) (.int .i64 0)) (fun _ hk => hk.2) (.int .i64 0)) (fun _ h_ => h_.1))) hb); have n1_ := kp (blk_below (g := gb162) (o := .cells #[.int .i64 0, .int .i64 0, .int .i64 0] 33 (0, 0)) (by (with_reducible repeat (first | apply bN | apply bD | apply bA)); refine blk_far ?_ NB162_166.out _; (with_reducible repeat (first | apply bN | apply bD | apply bA)); refine blk_far ?_ NB162_166.out _; (with_reducible repeat (first | apply bN | apply bD | apply bA)); refine blk_far ?_ NB162_166.out _; (with_reducible repeat (first | apply bN | apply bD | apply bA)); exact BK162.out) hb); have n2_ := kp (blk_below (g := gb166) (o := .cells #[.int .i64 0, .int .i64 0, .int .i64 0] 33 (0, 0)) (by (with_reducible repeat (first | apply bN | apply bD | apply bA)); refine blk_put (cs := #[.int .i64 0, .int .i64 0, .int .i64 0]) ?_ 2 _ rfl; (with_reducible repeat (first | apply bN | apply bD | apply bA)); refine blk_put (cs := #[.int .i64 0, .int .i64 0, .int .i64 0]) ?_ 1 _ rfl; (with_reducible repeat (first | apply bN | apply bD | apply bA)); refine blk_put (cs := #[.int .i64 0, .int .i64 0, .int .i64 0]) ?_ 0 _ rfl; (with_reducible repeat (first | apply bN | apply bD | apply bA)); exact BK166.out) hb); have n3_ := kp (below_step (by with_reducible repeat (first | exact HB.out | apply cA | apply cN | apply cD | refine below_set ?_ GE162.out | refine below_set ?_ GE166.out)) hb); clear HO165; clear BK162; clear BK166; clear HB; have HO165 := n0_; have BK162 := n1_; have BK166 := n2_; have HB := n3_; clear n0_ n1_ n2_ n3_; (try clear hb); have hcz19_0 : w18.cell? ⟨gb166, 0, none⟩ = some (.int .i64 0) := (blk_cell BK166.out 0).trans rfl; have hcz19_1 : w18.cell? ⟨gb166, 1, none⟩ = some (.int .i64 0) := (blk_cell BK166.out 1).trans rfl; have hcz19_2 : w18.cell? ⟨gb166, 2, none⟩ = some (.int .i64 0) := (blk_cell BK166.out 2).trans rfl; have hfz19_0 := blk_frozen BK166.out 0; have hfz19_1 := blk_frozen BK166.out 1; have hfz19_2 := blk_frozen BK166.out 2; have p170 : 0 ≤ (1 : Int) := (by omega); have q170 : 1 < (t163.length : Int) := of_decide_eq_true (by first | (with_reducible assumption) | assumption); obtain ⟨ad170, e170, hx170_0⟩ := Kd.at_string (Kd.R_reads' HO165.out).2.2 1 p170 q170; obtain rfl : ad167 = ad170 := (by injection e170); (try simp only [show (1 : Int).toNat = 1 from rfl, Nat.reduceMul, Nat.reduceEqDiff, Go.Addr.add, ↓reduceIte] at hx170_0); have qi170 : (1 < t163.length) = True := eq_true (by omega); (try rw [show ((1 : Int)).toNat = 1 from rfl] at hx170_0); have hn170_0 : ad167.block ≠ gb166 := Kd.own_blk (Kd.R_ne HO165.out BK166.out (by decide)); replace hx170_0 := (cell_far (p := ⟨gb166, 0, none⟩) (by first | (rw [add_block]; exact hn170_0) | (show (Addr.add _ _).block ≠ _; rw [add_block]; exact hn170_0) | exact hn170_0) (.int .i64 t168)).trans hx170_0; clear hn170_0; replace p170 := eq_true p170; replace q170 := eq_true q170) | ((with_reducible refine gate_callee (f := 91) rfl ?_); refine goesL_ (some 25) rfl rfl Try.func91 (by kernel_rfl) rfl #[.string (rdOf ByteArray.empty t163 1)] rfl (by (try simp only [mA, mC, mN]); first | done | rfl | (simp only [lD, lT]; rfl)) ?_; (with_reducible refine (spec_ParseInt.calls k (rdOf ByteArray.empty t163 1) t171 t172 _ A7.out).mono ?_); rintro e w20 ⟨rfl, hb⟩; refine ⟨_, rfl, ?_⟩; have n0_ := kp (Kd.R_below (by (with_reducible repeat (first | apply rA | apply rN | apply rD)); exact (Kd.R_mono (Kd.R_far (p := ⟨gb166, 0, none⟩) (Kd.R_types HO165.out BK166.out (by decide)) (fun _ hk => hk.2) (.int .i64 t168)) (fun _ h_ => h_.1))) hb); have n1_ := kp (blk_below (g := gb162) (o := .cells #[.int .i64 0, .int .i64 0, .int .i64 0] 33 (0, 0)) (by (with_reducible repeat (first | apply bN | apply bD | apply bA)); refine blk_far ?_ NB162_166.out _; (with_reducible repeat (first | apply bN | apply bD | apply bA)); exact BK162.out) hb); have n2_ := kp (blk_below (g := gb166) (o := .cells #[.int .i64 t168, .int .i64 0, .int .i64 0] 33 (0, 0)) (by (with_reducible repeat (first | apply bN | apply bD | apply bA)); refine blk_put (cs := #[.int .i64 0, .int .i64 0, .int .i64 0]) ?_ 0 _ rfl; (with_reducible repeat (first | apply bN | apply bD | apply bA)); exact BK166.out) hb); have n3_ := kp (below_step (by with_reducible repeat (first | exact HB.out | apply cA | apply cN | apply cD | refine below_set ?_ GE162.out | refine below_set ?_ GE166.out)) hb); clear HO165; clear BK162; clear BK166; clear HB; have HO165 := n0_; have BK162 := n1_; have BK166 := n2_; have HB := n3_; clear n0_ n1_ n2_ n3_; (try clear hb); have hcz21_0 : w20.cell? ⟨gb166, 0, none⟩ = some (.int .i64 t168) := (blk_cell BK166.out 0).trans rfl; have hcz21_1 : w20.cell? ⟨gb166, 1, none⟩ = some (.int .i64 0) := (blk_cell BK166.out 1).trans rfl; have hcz21_2 : w20.cell? ⟨gb166, 2, none⟩ = some (.int .i64 0) := (blk_cell BK166.out 2).trans rfl; have hfz21_0 := blk_frozen BK166.out 0; have hfz21_1 := blk_frozen BK166.out 1; have hfz21_2 := blk_frozen BK166.out 2; have p173 : 0 ≤ (2 : Int) := (by omega); have q173 : 2 < (t163.length : Int) := of_decide_eq_true (by first | (with_reducible assumption) | assumption); obtain ⟨ad173, e173, hx173_0⟩ := Kd.at_string (Kd.R_reads' HO165.out).2.2 2 p173 q173; obtain rfl : ad167 = ad173 := (by injection e173); (try simp only [show (2 : Int).toNat = 2 from rfl, Nat.reduceMul, Nat.reduceEqDiff, Go.Addr.add, ↓reduceIte] at hx173_0); have qi173 : (2 < t163.length) = True := eq_true (by omega); (try rw [show ((2 : Int)).toNat = 2 from rfl] at hx173_0); have hn173_0 : ad167.block ≠ gb166 := Kd.own_blk (Kd.R_ne HO165.out BK166.out (by decide)); replace hx173_0 := (cell_far (p := ⟨gb166, 1, none⟩) (by first | (rw [add_block]; exact hn173_0) | (show (Addr.add _ _).block ≠ _; rw [add_block]; exact hn173_0) | exact hn173_0) (.int .i64 t171)).trans hx173_0; clear hn173_0; replace p173 := eq_true p173; replace q173 := eq_true q173) | ((with_reducible refine gate_callee (f := 91) rfl ?_); refine goesL_ (some 33) rfl rfl Try.func91 (by kernel_rfl) rfl #[.string (rdOf ByteArray.empty t163 2)] rfl (by (try simp only [mA, mC, mN]); first | done | rfl | (simp only [lD, lT]; rfl)) ?_; (with_reducible refine (spec_ParseInt.calls k (rdOf ByteArray.empty t163 2) t174 t175 _ A9.out).mono ?_); rintro e w22 ⟨rfl, hb⟩; refine ⟨_, rfl, ?_⟩; have n0_ := kp (Kd.R_below (by (with_reducible repeat (first | apply rA | apply rN | apply rD)); exact (Kd.R_mono (Kd.R_far (p := ⟨gb166, 1, none⟩) (Kd.R_types HO165.out BK166.out (by decide)) (fun _ hk => hk.2) (.int .i64 t171)) (fun _ h_ => h_.1))) hb); have n1_ := kp (blk_below (g := gb162) (o := .cells #[.int .i64 0, .int .i64 0, .int .i64 0] 33 (0, 0)) (by (with_reducible repeat (first | apply bN | apply bD | apply bA)); refine blk_far ?_ NB162_166.out _; (with_reducible repeat (first | apply bN | apply bD | apply bA)); exact BK162.out) hb); have n2_ := kp (blk_below (g := gb166) (o := .cells #[.int .i64 t168, .int .i64 t171, .int .i64 0] 33 (0, 0)) (by (with_reducible repeat (first | apply bN | apply bD | apply bA)); refine blk_put (cs := #[.int .i64 t168, .int .i64 0, .int .i64 0]) ?_ 1 _ rfl; (with_reducible repeat (first | apply bN | apply bD | apply bA)); exact BK166.out) hb); have n3_ := kp (below_step (by with_reducible repeat (first | exact HB.out | apply cA | apply cN | apply cD | refine below_set ?_ GE162.out | refine below_set ?_ GE166.out)) hb); clear HO165; clear BK162; clear BK166; clear HB; have HO165 := n0_; have BK162 := n1_; have BK166 := n2_; have HB := n3_; clear n0_ n1_ n2_ n3_; (try clear hb); have hcz23_0 : w22.cell? ⟨gb166, 0, none⟩ = some (.int .i64 t168) := (blk_cell BK166.out 0).trans rfl; have hcz23_1 : w22.cell? ⟨gb166, 1, none⟩ = some (.int .i64 t171) := (blk_cell BK166.out 1).trans rfl; have hcz23_2 : w22.cell? ⟨gb166, 2, none⟩ = some (.int .i64 0) := (blk_cell BK166.out 2).trans rfl; have hfz23_0 := blk_frozen BK166.out 0; have hfz23_1 := blk_frozen BK166.out 1; have hfz23_2 := blk_frozen BK166.out 2) | ((with_reducible refine gate_callee (f := 88) rfl ?_); refine goesL_ (some 38) rfl rfl Try.func88 (by kernel_rfl) rfl #[.agg #[.int .i64 t168, .int .i64 t171, .int .i64 t174]] rfl (by (try simp only [mA, mC, mN]); first | done | rfl | (simp only [lD, lT]; rfl)) ?_; (with_reducible refine (spec_FormatRow.calls k t168 t171 t174 t176 _ A10.out).mono ?_); rintro e w24 ⟨rfl, hb⟩; refine ⟨_, rfl, ?_⟩; have n0_ := kp (Kd.R_below (by (with_reducible repeat (first | apply rA | apply rN | apply rD)); exact (Kd.R_mono (Kd.R_far (p := ⟨gb166, 2, none⟩) (Kd.R_types HO165.out BK166.out (by decide)) (fun _ hk => hk.2) (.int .i64 t174)) (fun _ h_ => h_.1))) hb); have n1_ := kp (blk_below (g := gb162) (o := .cells #[.int .i64 0, .int .i64 0, .int .i64 0] 33 (0, 0)) (by (with_reducible repeat (first | apply bN | apply bD | apply bA)); refine blk_far ?_ NB162_166.out _; (with_reducible repeat (first | apply bN | apply bD | apply bA)); exact BK162.out) hb); have n2_ := kp (blk_below (g := gb166) (o := .cells #[.int .i64 t168, .int .i64 t171, .int .i64 t174] 33 (0, 0)) (by (with_reducible repeat (first | apply bN | apply bD | apply bA)); refine blk_put (cs := #[.int .i64 t168, .int .i64 t171, .int .i64 0]) ?_ 2 _ rfl; (with_reducible repeat (first | apply bN | apply bD | apply bA)); exact BK166.out) hb); have n3_ := kp (below_step (by with_reducible repeat (first | exact HB.out | apply cA | apply cN | apply cD | refine below_set ?_ GE162.out | refine below_set ?_ GE166.out)) hb); clear HO165; clear BK162; clear BK166; clear HB; have HO165 := n0_; have BK162 := n1_; have BK166 := n2_; have HB := n3_; clear n0_ n1_ n2_ n3_; (try clear hb); have hcz25_0 : w24.cell? ⟨gb166, 0, none⟩ = some (.int .i64 t168) := (blk_cell BK166.out 0).trans rfl; have hcz25_1 : w24.cell? ⟨gb166, 1, none⟩ = some (.int .i64 t171) := (blk_cell BK166.out 1).trans rfl; have hcz25_2 : w24.cell? ⟨gb166, 2, none⟩ = some (.int .i64 t174) := (blk_cell BK166.out 2).trans rfl; have hfz25_0 := blk_frozen BK166.out 0; have hfz25_1 := blk_frozen BK166.out 1; have hfz25_2 := blk_frozen BK166.out 2; have hcz26_0 : w24.cell? ⟨gb162, 0, none⟩ = some (.int .i64 0) := (blk_cell BK162.out 0).trans rfl; have hcz26_1 : w24.cell? ⟨gb162, 1, none⟩ = some (.int .i64 0) := (blk_cell BK162.out 1).trans rfl; have hcz26_2 : w24.cell? ⟨gb162, 2, none⟩ = some (.int .i64 0) := (blk_cell BK162.out 2).trans rfl; have hfz26_0 := blk_frozen BK162.out 0; have hfz26_1 := blk_frozen BK162.out 1; have hfz26_2 := blk_frozen BK162.out 2))
      refine bodyPost_ret (results_ct rfl _ _ gb162 33 #[.int .i64 t168, .int .i64 t171, .int .i64 t174] (0, 0) _ rfl (by (with_reducible repeat (first | apply bN | apply bD | apply bA)); refine blk_put (cs := #[.int .i64 t168, .int .i64 t171, .int .i64 0]) ?_ 2 _ rfl; (with_reducible repeat (first | apply bN | apply bD | apply bA)); refine blk_put (cs := #[.int .i64 t168, .int .i64 0, .int .i64 0]) ?_ 1 _ rfl; (with_reducible repeat (first | apply bN | apply bD | apply bA)); refine blk_put (cs := #[.int .i64 0, .int .i64 0, .int .i64 0]) ?_ 0 _ rfl; (with_reducible repeat (first | apply bN | apply bD | apply bA)); exact BK162.out) Try.underlying33 rfl (by kernel_rfl)) rfl ?_
      exact ⟨by first | rfl | (simp [errW_none, errW_some] <;> rfl) | (simp [*, errW_none, errW_some] <;> rfl), by with_reducible repeat (first | exact HB.out | apply cA | apply cN | apply cD | refine below_set ?_ GE162.out | refine below_set ?_ GE166.out)⟩
     ·rw [if_neg c11] at H
      have c11b0 : (t176.toList == a0.toList) = false := beq_eq_false_iff_ne.mpr c11
      have c11b1 : (t176.toList != a0.toList) = true := bne_iff_ne.mpr c11
      simp only [Option.some.injEq, Prod.mk.injEq] at H
      obtain ⟨rfl, rfl, rfl, rfl⟩ := H
      go_enter Try.func38, Try.ntmps38
      go_wp2_with (first | ((with_reducible refine gate_dst (N := 2) rfl ?_); refine box_event ?hg (N := 2) ?hd (cs := #[.int .i64 0, .int .i64 0, .int .i64 0]) (t := 33) ?hr ?_; (case hd => rfl); (case hg => rfl); (case hr => first | (go_simp; done) | (go_simp; rfl)); intro gb162 hg w27 hbox hb; have n0_ := kp (below_step (by with_reducible repeat (first | exact HB.out | apply cA | apply cN | apply cD)) hb); have n1_ := kp (hbox); have n2_ := kp ((by rw [hg]; exact (below_size (by with_reducible repeat (first | exact HB.out | apply cA | apply cN | apply cD))) : w.heap.size ≤ gb162)); have n3_ := kp ((by rw [hg]; exact (below_size (by with_reducible repeat (first | exact HB.out | apply cA | apply cN | apply cD))) : w.heap.size ≤ gb162)); clear HB; have HB := n0_; have BK162 := n1_; have GW162 := n2_; have GE162 := n3_; clear n0_ n1_ n2_ n3_; clear hb hbox hg) | ((with_reducible refine gate_callee (f := 90) rfl ?_); refine goesL_ (some 7) rfl rfl Try.func90 (by kernel_rfl) rfl #[.string a0, .int .u8 46] rfl (by (try simp only [mA, mC, mN]); first | done | rfl | (simp only [lD, lT]; rfl)) ?_; (with_reducible refine (spec_l2Cut.calls k a0 46 t163 _ A2.out).mono ?_); rintro e w28 ⟨v164, rfl, ho0, hb⟩; refine ⟨_, rfl, ?_⟩; have n0_ := kp (Kd.R_lower ho0 (below_size (by with_reducible repeat (first | exact HB.out | apply cA | apply cN | apply cD | refine below_set ?_ GE162.out)))); have n1_ := kp (blk_below (g := gb162) (o := .cells #[.int .i64 0, .int .i64 0, .int .i64 0] 33 (0, 0)) (by (with_reducible repeat (first | apply bN | apply bD | apply bA)); exact BK162.out) hb); have n2_ := kp (below_step (by with_reducible repeat (first | exact HB.out | apply cA | apply cN | apply cD | refine below_set ?_ GE162.out)) hb); clear BK162; clear HB; have HO165 := n0_; have BK162 := n1_; have HB := n2_; clear n0_ n1_ n2_; (try clear hb); (try clear ho0); obtain ⟨Ao29, co29, eo29⟩ := Kd.R_slice HO165.out; subst eo29) | ((with_reducible refine gate_dst (N := 5) rfl ?_); refine box_event ?hg (N := 5) ?hd (cs := #[.int .i64 0, .int .i64 0, .int .i64 0]) (t := 33) ?hr ?_; (case hd => rfl); (case hg => rfl); (case hr => first | (go_simp; done) | (go_simp; rfl)); intro gb166 hg w30 hbox hb; have n0_ := kp (Kd.R_below (by (with_reducible repeat (first | apply rA | apply rN | apply rD)); exact HO165.out) hb); have n1_ := kp (blk_below (g := gb162) (o := .cells #[.int .i64 0, .int .i64 0, .int .i64 0] 33 (0, 0)) (by (with_reducible repeat (first | apply bN | apply bD | apply bA)); exact BK162.out) hb); have n2_ := kp (below_step (by with_reducible repeat (first | exact HB.out | apply cA | apply cN | apply cD | refine below_set ?_ GE162.out)) hb); have n3_ := kp (hbox); have n4_ := kp ((by rw [hg]; exact (below_size (by with_reducible repeat (first | exact HB.out | apply cA | apply cN | apply cD | refine below_set ?_ GE162.out))) : w.heap.size ≤ gb166)); have n5_ := kp ((by rw [hg]; exact (below_size (by with_reducible repeat (first | exact HB.out | apply cA | apply cN | apply cD | refine below_set ?_ GE162.out))) : w.heap.size ≤ gb166)); have n6_ := kp ((by rw [hg]; exact Nat.ne_of_lt (blk_lt (g := gb162) (o := .cells #[.int .i64 0, .int .i64 0, .int .i64 0] 33 (0, 0)) (by (with_reducible repeat (first | apply bN | apply bD | apply bA)); exact BK162.out)) : gb162 ≠ gb166)); have n7_ := kp ((by rw [hg]; exact Nat.ne_of_gt (blk_lt (g := gb162) (o := .cells #[.int .i64 0, .int .i64 0, .int .i64 0] 33 (0, 0)) (by (with_reducible repeat (first | apply bN | apply bD | apply bA)); exact BK162.out)) : gb166 ≠ gb162)); clear HO165; clear BK162; clear HB; have HO165 := n0_; have BK162 := n1_; have HB := n2_; have BK166 := n3_; have GW166 := n4_; have GE166 := n5_; have NB162_166 := n6_; have NB166_162 := n7_; clear n0_ n1_ n2_ n3_ n4_ n5_ n6_ n7_; clear hb hbox hg; have hnb31 := NB166_162.out; have hnc31 := NB162_166.out; have hcz32_0 : w30.cell? ⟨gb166, 0, none⟩ = some (.int .i64 0) := (blk_cell BK166.out 0).trans rfl; have hcz32_1 : w30.cell? ⟨gb166, 1, none⟩ = some (.int .i64 0) := (blk_cell BK166.out 1).trans rfl; have hcz32_2 : w30.cell? ⟨gb166, 2, none⟩ = some (.int .i64 0) := (blk_cell BK166.out 2).trans rfl; have hfz32_0 := blk_frozen BK166.out 0; have hfz32_1 := blk_frozen BK166.out 1; have hfz32_2 := blk_frozen BK166.out 2; have p167 : 0 ≤ (0 : Int) := (by omega); have q167 : 0 < (t163.length : Int) := of_decide_eq_true (by first | (with_reducible assumption) | assumption); obtain ⟨ad167, e167, hx167_0⟩ := Kd.at_string (Kd.R_reads' HO165.out).2.2 0 p167 q167; cases e167; have qi167 : (0 < t163.length) = True := eq_true (by omega); (try rw [show ((0 : Int)).toNat = 0 from rfl] at hx167_0); (try rw [Addr.add_zero'] at hx167_0); have hn167_0 : ad167.block ≠ gb166 := Kd.own_blk (Kd.R_ne HO165.out BK166.out (by decide)); have hn167_1 : ad167.block ≠ gb166 := Kd.own_blk (Kd.R_ne HO165.out BK166.out (by decide)); have hn167_2 : ad167.block ≠ gb166 := Kd.own_blk (Kd.R_ne HO165.out BK166.out (by decide)); replace hx167_0 := (cell_far (p := ⟨gb166, 0, none⟩) (by first | (rw [add_block]; exact hn167_0) | (show (Addr.add _ _).block ≠ _; rw [add_block]; exact hn167_0) | exact hn167_0) (.int .i64 0)).trans hx167_0; replace hx167_0 := (cell_far (p := ⟨gb166, 1, none⟩) (by first | (rw [add_block]; exact hn167_1) | (show (Addr.add _ _).block ≠ _; rw [add_block]; exact hn167_1) | exact hn167_1) (.int .i64 0)).trans hx167_0; replace hx167_0 := (cell_far (p := ⟨gb166, 2, none⟩) (by first | (rw [add_block]; exact hn167_2) | (show (Addr.add _ _).block ≠ _; rw [add_block]; exact hn167_2) | exact hn167_2) (.int .i64 0)).trans hx167_0; clear hn167_0; clear hn167_1; clear hn167_2; replace p167 := eq_true p167; replace q167 := eq_true q167) | ((with_reducible refine gate_callee (f := 91) rfl ?_); refine goesL_ (some 17) rfl rfl Try.func91 (by kernel_rfl) rfl #[.string (rdOf ByteArray.empty t163 0)] rfl (by (try simp only [mA, mC, mN]); first | done | rfl | (simp only [lD, lT]; rfl)) ?_; (with_reducible refine (spec_ParseInt.calls k (rdOf ByteArray.empty t163 0) t168 t169 _ A5.out).mono ?_); rintro e w33 ⟨rfl, hb⟩; refine ⟨_, rfl, ?_⟩; have n0_ := kp (Kd.R_below (by (with_reducible repeat (first | apply rA | apply rN | apply rD)); exact (Kd.R_mono (Kd.R_far (p := ⟨gb166, 2, none⟩) (Kd.R_far (p := ⟨gb166, 1, none⟩) (Kd.R_far (p := ⟨gb166, 0, none⟩) (Kd.R_types HO165.out BK166.out (by decide)) (fun _ hk => hk.2) (.int .i64 0)) (fun _ hk => hk.2) (.int .i64 0)) (fun _ hk => hk.2) (.int .i64 0)) (fun _ h_ => h_.1))) hb); have n1_ := kp (blk_below (g := gb162) (o := .cells #[.int .i64 0, .int .i64 0, .int .i64 0] 33 (0, 0)) (by (with_reducible repeat (first | apply bN | apply bD | apply bA)); refine blk_far ?_ NB162_166.out _; (with_reducible repeat (first | apply bN | apply bD | apply bA)); refine blk_far ?_ NB162_166.out _; (with_reducible repeat (first | apply bN | apply bD | apply bA)); refine blk_far ?_ NB162_166.out _; (with_reducible repeat (first | apply bN | apply bD | apply bA)); exact BK162.out) hb); have n2_ := kp (blk_below (g := gb166) (o := .cells #[.int .i64 0, .int .i64 0, .int .i64 0] 33 (0, 0)) (by (with_reducible repeat (first | apply bN | apply bD | apply bA)); refine blk_put (cs := #[.int .i64 0, .int .i64 0, .int .i64 0]) ?_ 2 _ rfl; (with_reducible repeat (first | apply bN | apply bD | apply bA)); refine blk_put (cs := #[.int .i64 0, .int .i64 0, .int .i64 0]) ?_ 1 _ rfl; (with_reducible repeat (first | apply bN | apply bD | apply bA)); refine blk_put (cs := #[.int .i64 0, .int .i64 0, .int .i64 0]) ?_ 0 _ rfl; (with_reducible repeat (first | apply bN | apply bD | apply bA)); exact BK166.out) hb); have n3_ := kp (below_step (by with_reducible repeat (first | exact HB.out | apply cA | apply cN | apply cD | refine below_set ?_ GE162.out | refine below_set ?_ GE166.out)) hb); clear HO165; clear BK162; clear BK166; clear HB; have HO165 := n0_; have BK162 := n1_; have BK166 := n2_; have HB := n3_; clear n0_ n1_ n2_ n3_; (try clear hb); have hcz34_0 : w33.cell? ⟨gb166, 0, none⟩ = some (.int .i64 0) := (blk_cell BK166.out 0).trans rfl; have hcz34_1 : w33.cell? ⟨gb166, 1, none⟩ = some (.int .i64 0) := (blk_cell BK166.out 1).trans rfl; have hcz34_2 : w33.cell? ⟨gb166, 2, none⟩ = some (.int .i64 0) := (blk_cell BK166.out 2).trans rfl; have hfz34_0 := blk_frozen BK166.out 0; have hfz34_1 := blk_frozen BK166.out 1; have hfz34_2 := blk_frozen BK166.out 2; have p170 : 0 ≤ (1 : Int) := (by omega); have q170 : 1 < (t163.length : Int) := of_decide_eq_true (by first | (with_reducible assumption) | assumption); obtain ⟨ad170, e170, hx170_0⟩ := Kd.at_string (Kd.R_reads' HO165.out).2.2 1 p170 q170; obtain rfl : ad167 = ad170 := (by injection e170); (try simp only [show (1 : Int).toNat = 1 from rfl, Nat.reduceMul, Nat.reduceEqDiff, Go.Addr.add, ↓reduceIte] at hx170_0); have qi170 : (1 < t163.length) = True := eq_true (by omega); (try rw [show ((1 : Int)).toNat = 1 from rfl] at hx170_0); have hn170_0 : ad167.block ≠ gb166 := Kd.own_blk (Kd.R_ne HO165.out BK166.out (by decide)); replace hx170_0 := (cell_far (p := ⟨gb166, 0, none⟩) (by first | (rw [add_block]; exact hn170_0) | (show (Addr.add _ _).block ≠ _; rw [add_block]; exact hn170_0) | exact hn170_0) (.int .i64 t168)).trans hx170_0; clear hn170_0; replace p170 := eq_true p170; replace q170 := eq_true q170) | ((with_reducible refine gate_callee (f := 91) rfl ?_); refine goesL_ (some 25) rfl rfl Try.func91 (by kernel_rfl) rfl #[.string (rdOf ByteArray.empty t163 1)] rfl (by (try simp only [mA, mC, mN]); first | done | rfl | (simp only [lD, lT]; rfl)) ?_; (with_reducible refine (spec_ParseInt.calls k (rdOf ByteArray.empty t163 1) t171 t172 _ A7.out).mono ?_); rintro e w35 ⟨rfl, hb⟩; refine ⟨_, rfl, ?_⟩; have n0_ := kp (Kd.R_below (by (with_reducible repeat (first | apply rA | apply rN | apply rD)); exact (Kd.R_mono (Kd.R_far (p := ⟨gb166, 0, none⟩) (Kd.R_types HO165.out BK166.out (by decide)) (fun _ hk => hk.2) (.int .i64 t168)) (fun _ h_ => h_.1))) hb); have n1_ := kp (blk_below (g := gb162) (o := .cells #[.int .i64 0, .int .i64 0, .int .i64 0] 33 (0, 0)) (by (with_reducible repeat (first | apply bN | apply bD | apply bA)); refine blk_far ?_ NB162_166.out _; (with_reducible repeat (first | apply bN | apply bD | apply bA)); exact BK162.out) hb); have n2_ := kp (blk_below (g := gb166) (o := .cells #[.int .i64 t168, .int .i64 0, .int .i64 0] 33 (0, 0)) (by (with_reducible repeat (first | apply bN | apply bD | apply bA)); refine blk_put (cs := #[.int .i64 0, .int .i64 0, .int .i64 0]) ?_ 0 _ rfl; (with_reducible repeat (first | apply bN | apply bD | apply bA)); exact BK166.out) hb); have n3_ := kp (below_step (by with_reducible repeat (first | exact HB.out | apply cA | apply cN | apply cD | refine below_set ?_ GE162.out | refine below_set ?_ GE166.out)) hb); clear HO165; clear BK162; clear BK166; clear HB; have HO165 := n0_; have BK162 := n1_; have BK166 := n2_; have HB := n3_; clear n0_ n1_ n2_ n3_; (try clear hb); have hcz36_0 : w35.cell? ⟨gb166, 0, none⟩ = some (.int .i64 t168) := (blk_cell BK166.out 0).trans rfl; have hcz36_1 : w35.cell? ⟨gb166, 1, none⟩ = some (.int .i64 0) := (blk_cell BK166.out 1).trans rfl; have hcz36_2 : w35.cell? ⟨gb166, 2, none⟩ = some (.int .i64 0) := (blk_cell BK166.out 2).trans rfl; have hfz36_0 := blk_frozen BK166.out 0; have hfz36_1 := blk_frozen BK166.out 1; have hfz36_2 := blk_frozen BK166.out 2; have p173 : 0 ≤ (2 : Int) := (by omega); have q173 : 2 < (t163.length : Int) := of_decide_eq_true (by first | (with_reducible assumption) | assumption); obtain ⟨ad173, e173, hx173_0⟩ := Kd.at_string (Kd.R_reads' HO165.out).2.2 2 p173 q173; obtain rfl : ad167 = ad173 := (by injection e173); (try simp only [show (2 : Int).toNat = 2 from rfl, Nat.reduceMul, Nat.reduceEqDiff, Go.Addr.add, ↓reduceIte] at hx173_0); have qi173 : (2 < t163.length) = True := eq_true (by omega); (try rw [show ((2 : Int)).toNat = 2 from rfl] at hx173_0); have hn173_0 : ad167.block ≠ gb166 := Kd.own_blk (Kd.R_ne HO165.out BK166.out (by decide)); replace hx173_0 := (cell_far (p := ⟨gb166, 1, none⟩) (by first | (rw [add_block]; exact hn173_0) | (show (Addr.add _ _).block ≠ _; rw [add_block]; exact hn173_0) | exact hn173_0) (.int .i64 t171)).trans hx173_0; clear hn173_0; replace p173 := eq_true p173; replace q173 := eq_true q173) | ((with_reducible refine gate_callee (f := 91) rfl ?_); refine goesL_ (some 33) rfl rfl Try.func91 (by kernel_rfl) rfl #[.string (rdOf ByteArray.empty t163 2)] rfl (by (try simp only [mA, mC, mN]); first | done | rfl | (simp only [lD, lT]; rfl)) ?_; (with_reducible refine (spec_ParseInt.calls k (rdOf ByteArray.empty t163 2) t174 t175 _ A9.out).mono ?_); rintro e w37 ⟨rfl, hb⟩; refine ⟨_, rfl, ?_⟩; have n0_ := kp (Kd.R_below (by (with_reducible repeat (first | apply rA | apply rN | apply rD)); exact (Kd.R_mono (Kd.R_far (p := ⟨gb166, 1, none⟩) (Kd.R_types HO165.out BK166.out (by decide)) (fun _ hk => hk.2) (.int .i64 t171)) (fun _ h_ => h_.1))) hb); have n1_ := kp (blk_below (g := gb162) (o := .cells #[.int .i64 0, .int .i64 0, .int .i64 0] 33 (0, 0)) (by (with_reducible repeat (first | apply bN | apply bD | apply bA)); refine blk_far ?_ NB162_166.out _; (with_reducible repeat (first | apply bN | apply bD | apply bA)); exact BK162.out) hb); have n2_ := kp (blk_below (g := gb166) (o := .cells #[.int .i64 t168, .int .i64 t171, .int .i64 0] 33 (0, 0)) (by (with_reducible repeat (first | apply bN | apply bD | apply bA)); refine blk_put (cs := #[.int .i64 t168, .int .i64 0, .int .i64 0]) ?_ 1 _ rfl; (with_reducible repeat (first | apply bN | apply bD | apply bA)); exact BK166.out) hb); have n3_ := kp (below_step (by with_reducible repeat (first | exact HB.out | apply cA | apply cN | apply cD | refine below_set ?_ GE162.out | refine below_set ?_ GE166.out)) hb); clear HO165; clear BK162; clear BK166; clear HB; have HO165 := n0_; have BK162 := n1_; have BK166 := n2_; have HB := n3_; clear n0_ n1_ n2_ n3_; (try clear hb); have hcz38_0 : w37.cell? ⟨gb166, 0, none⟩ = some (.int .i64 t168) := (blk_cell BK166.out 0).trans rfl; have hcz38_1 : w37.cell? ⟨gb166, 1, none⟩ = some (.int .i64 t171) := (blk_cell BK166.out 1).trans rfl; have hcz38_2 : w37.cell? ⟨gb166, 2, none⟩ = some (.int .i64 0) := (blk_cell BK166.out 2).trans rfl; have hfz38_0 := blk_frozen BK166.out 0; have hfz38_1 := blk_frozen BK166.out 1; have hfz38_2 := blk_frozen BK166.out 2) | ((with_reducible refine gate_callee (f := 88) rfl ?_); refine goesL_ (some 38) rfl rfl Try.func88 (by kernel_rfl) rfl #[.agg #[.int .i64 t168, .int .i64 t171, .int .i64 t174]] rfl (by (try simp only [mA, mC, mN]); first | done | rfl | (simp only [lD, lT]; rfl)) ?_; (with_reducible refine (spec_FormatRow.calls k t168 t171 t174 t176 _ A10.out).mono ?_); rintro e w39 ⟨rfl, hb⟩; refine ⟨_, rfl, ?_⟩; have n0_ := kp (Kd.R_below (by (with_reducible repeat (first | apply rA | apply rN | apply rD)); exact (Kd.R_mono (Kd.R_far (p := ⟨gb166, 2, none⟩) (Kd.R_types HO165.out BK166.out (by decide)) (fun _ hk => hk.2) (.int .i64 t174)) (fun _ h_ => h_.1))) hb); have n1_ := kp (blk_below (g := gb162) (o := .cells #[.int .i64 0, .int .i64 0, .int .i64 0] 33 (0, 0)) (by (with_reducible repeat (first | apply bN | apply bD | apply bA)); refine blk_far ?_ NB162_166.out _; (with_reducible repeat (first | apply bN | apply bD | apply bA)); exact BK162.out) hb); have n2_ := kp (blk_below (g := gb166) (o := .cells #[.int .i64 t168, .int .i64 t171, .int .i64 t174] 33 (0, 0)) (by (with_reducible repeat (first | apply bN | apply bD | apply bA)); refine blk_put (cs := #[.int .i64 t168, .int .i64 t171, .int .i64 0]) ?_ 2 _ rfl; (with_reducible repeat (first | apply bN | apply bD | apply bA)); exact BK166.out) hb); have n3_ := kp (below_step (by with_reducible repeat (first | exact HB.out | apply cA | apply cN | apply cD | refine below_set ?_ GE162.out | refine below_set ?_ GE166.out)) hb); clear HO165; clear BK162; clear BK166; clear HB; have HO165 := n0_; have BK162 := n1_; have BK166 := n2_; have HB := n3_; clear n0_ n1_ n2_ n3_; (try clear hb); have hcz40_0 : w39.cell? ⟨gb162, 0, none⟩ = some (.int .i64 0) := (blk_cell BK162.out 0).trans rfl; have hcz40_1 : w39.cell? ⟨gb162, 1, none⟩ = some (.int .i64 0) := (blk_cell BK162.out 1).trans rfl; have hcz40_2 : w39.cell? ⟨gb162, 2, none⟩ = some (.int .i64 0) := (blk_cell BK162.out 2).trans rfl; have hfz40_0 := blk_frozen BK162.out 0; have hfz40_1 := blk_frozen BK162.out 1; have hfz40_2 := blk_frozen BK162.out 2))
      refine bodyPost_ret (results_ct rfl _ _ gb162 33 #[.int .i64 0, .int .i64 0, .int .i64 0] (0, 0) _ rfl (by (with_reducible repeat (first | apply bN | apply bD | apply bA)); refine blk_put (cs := #[.int .i64 0, .int .i64 0, .int .i64 0]) ?_ 2 _ rfl; (with_reducible repeat (first | apply bN | apply bD | apply bA)); refine blk_put (cs := #[.int .i64 0, .int .i64 0, .int .i64 0]) ?_ 1 _ rfl; (with_reducible repeat (first | apply bN | apply bD | apply bA)); refine blk_put (cs := #[.int .i64 0, .int .i64 0, .int .i64 0]) ?_ 0 _ rfl; (with_reducible repeat (first | apply bN | apply bD | apply bA)); exact BK162.out) Try.underlying33 rfl (by kernel_rfl)) rfl ?_
      exact ⟨by first | rfl | (simp [errW_none, errW_some] <;> rfl) | (simp [*, errW_none, errW_some] <;> rfl), by with_reducible repeat (first | exact HB.out | apply cA | apply cN | apply cD | refine below_set ?_ GE162.out | refine below_set ?_ GE166.out)⟩
    ·rw [if_neg c8] at H
     exact absurd H (by simp)
   ·rw [if_neg c6] at H
    exact absurd H (by simp)
  ·rw [if_neg c4] at H
   exact absurd H (by simp)
 ·rw [if_neg c3] at H
  have c3b0 : ((t163.length : Int) == 3) = false := beq_eq_false_iff_ne.mpr c3
  have c3b1 : ((t163.length : Int) != 3) = true := bne_iff_ne.mpr c3
  simp only [Option.some.injEq, Prod.mk.injEq] at H
  obtain ⟨rfl, rfl, rfl, rfl⟩ := H
  go_enter Try.func38, Try.ntmps38
  go_wp2_with (first | ((with_reducible refine gate_dst (N := 2) rfl ?_); refine box_event ?hg (N := 2) ?hd (cs := #[.int .i64 0, .int .i64 0, .int .i64 0]) (t := 33) ?hr ?_; (case hd => rfl); (case hg => rfl); (case hr => first | (go_simp; done) | (go_simp; rfl)); intro gb162 hg w41 hbox hb; have n0_ := kp (below_step (by with_reducible repeat (first | exact HB.out | apply cA | apply cN | apply cD)) hb); have n1_ := kp (hbox); have n2_ := kp ((by rw [hg]; exact (below_size (by with_reducible repeat (first | exact HB.out | apply cA | apply cN | apply cD))) : w.heap.size ≤ gb162)); have n3_ := kp ((by rw [hg]; exact (below_size (by with_reducible repeat (first | exact HB.out | apply cA | apply cN | apply cD))) : w.heap.size ≤ gb162)); clear HB; have HB := n0_; have BK162 := n1_; have GW162 := n2_; have GE162 := n3_; clear n0_ n1_ n2_ n3_; clear hb hbox hg) | ((with_reducible refine gate_callee (f := 90) rfl ?_); refine goesL_ (some 7) rfl rfl Try.func90 (by kernel_rfl) rfl #[.string a0, .int .u8 46] rfl (by (try simp only [mA, mC, mN]); first | done | rfl | (simp only [lD, lT]; rfl)) ?_; (with_reducible refine (spec_l2Cut.calls k a0 46 t163 _ A2.out).mono ?_); rintro e w42 ⟨v164, rfl, ho0, hb⟩; refine ⟨_, rfl, ?_⟩; have n0_ := kp (Kd.R_lower ho0 (below_size (by with_reducible repeat (first | exact HB.out | apply cA | apply cN | apply cD | refine below_set ?_ GE162.out)))); have n1_ := kp (blk_below (g := gb162) (o := .cells #[.int .i64 0, .int .i64 0, .int .i64 0] 33 (0, 0)) (by (with_reducible repeat (first | apply bN | apply bD | apply bA)); exact BK162.out) hb); have n2_ := kp (below_step (by with_reducible repeat (first | exact HB.out | apply cA | apply cN | apply cD | refine below_set ?_ GE162.out)) hb); clear BK162; clear HB; have HO165 := n0_; have BK162 := n1_; have HB := n2_; clear n0_ n1_ n2_; (try clear hb); (try clear ho0); obtain ⟨Ao43, co43, eo43⟩ := Kd.R_slice HO165.out; subst eo43; have hcz44_0 : w42.cell? ⟨gb162, 0, none⟩ = some (.int .i64 0) := (blk_cell BK162.out 0).trans rfl; have hcz44_1 : w42.cell? ⟨gb162, 1, none⟩ = some (.int .i64 0) := (blk_cell BK162.out 1).trans rfl; have hcz44_2 : w42.cell? ⟨gb162, 2, none⟩ = some (.int .i64 0) := (blk_cell BK162.out 2).trans rfl; have hfz44_0 := blk_frozen BK162.out 0; have hfz44_1 := blk_frozen BK162.out 1; have hfz44_2 := blk_frozen BK162.out 2))
  refine bodyPost_ret (results_ct rfl _ _ gb162 33 #[.int .i64 0, .int .i64 0, .int .i64 0] (0, 0) _ rfl (by (with_reducible repeat (first | apply bN | apply bD | apply bA)); refine blk_put (cs := #[.int .i64 0, .int .i64 0, .int .i64 0]) ?_ 2 _ rfl; (with_reducible repeat (first | apply bN | apply bD | apply bA)); refine blk_put (cs := #[.int .i64 0, .int .i64 0, .int .i64 0]) ?_ 1 _ rfl; (with_reducible repeat (first | apply bN | apply bD | apply bA)); refine blk_put (cs := #[.int .i64 0, .int .i64 0, .int .i64 0]) ?_ 0 _ rfl; (with_reducible repeat (first | apply bN | apply bD | apply bA)); exact BK162.out) Try.underlying33 rfl (by kernel_rfl)) rfl ?_
  exact ⟨by first | rfl | (simp [errW_none, errW_some] <;> rfl) | (simp [*, errW_none, errW_some] <;> rfl), by with_reducible repeat (first | exact HB.out | apply cA | apply cN | apply cD | refine below_set ?_ GE162.out)⟩

/-! ### impl_ParseInt: function 65 -/
mutual
def impl_ParseInt.j0 : Nat → ByteArray → ByteArray → Bool → Option (Int × Bool)
 | 0, _, _, _ => none
 | k + 1, x0, x4, x15 => if x15 = true then (if 1 ≤ (x0.size : Int) then (impl_ParseInt.j1 k x0 (x0.extract 1 x0.size)) else (none)) else (impl_ParseInt.j1 k x0 x4)
def impl_ParseInt.j1 : Nat → ByteArray → ByteArray → Option (Int × Bool)
 | 0, _, _ => none
 | k + 1, x0, x4 => if (x4.size : Int) < 1 then (impl_ParseInt.j2 k x0 x4 true) else (impl_ParseInt.j2 k x0 x4 (decide ((x4.size : Int) > 9)))
def impl_ParseInt.j2 : Nat → ByteArray → ByteArray → Bool → Option (Int × Bool)
 | 0, _, _, _ => none
 | k + 1, x0, x4, x25 => if x25 = true then (some (0, false)) else (impl_ParseInt.l0 k x0 x4 0 (x4.size : Int) 0)
def impl_ParseInt.l0 : Nat → ByteArray → ByteArray → Int → Int → Int → Option (Int × Bool)
 | 0, _, _, _, _, _ => none
 | k + 1, x0, x4, x5, x27, x28 => if x28 < x27 then (if 0 ≤ x28 then (if x28 < (x4.size : Int) then (if (bt x4 x28) < 48 then (some (0, false)) else (if (bt x4 x28) > 57 then (some (0, false)) else (impl_ParseInt.l0 k x0 x4 (wrap64 ((wrap64 (10 * x5)) + (((bt x4 x28) - 48) % 256))) x27 (wrap64 (x28 + 1))))) else (none)) else (none)) else (if (x4.size : Int) < (x0.size : Int) then ((impl_FormatInt.f k (wrap64 (-x5))).bind fun t177 => (if t177.toList = x0.toList then (some (wrap64 (-x5), true)) else (some (0, false)))) else ((impl_FormatInt.f k x5).bind fun t178 => (if t178.toList = x0.toList then (some (x5, true)) else (some (0, false)))))
end
def impl_ParseInt.f (k : Nat) (a0 : ByteArray) : Option (Int × Bool) := if (a0.size : Int) > 0 then (if 0 < (a0.size : Int) then (impl_ParseInt.j0 k a0 a0 ((bt a0 0) == 45)) else (none)) else (impl_ParseInt.j0 k a0 a0 false)
set_option maxHeartbeats 8000000 in
set_option maxRecDepth 100000 in
theorem impl_ParseInt.calls (k : Nat) (a0 : ByteArray) (r1 : Int) (r2 : Bool) (w : World) (h : impl_ParseInt.f k a0 = some (r1, r2)) :
  Calls Try.prog 65 #[.string a0] w fun e w' => e = .returned (.tuple #[.int .i64 r1, .bool r2]) ∧ Below w.heap.size w w' := by
 have HB := kp (Below.refl w.heap.size w)
 have H : (if (a0.size : Int) > 0 then (if 0 < (a0.size : Int) then (impl_ParseInt.j0 k a0 a0 ((bt a0 0) == 45)) else (none)) else (impl_ParseInt.j0 k a0 a0 false)) = some (r1, r2) := h
 clear h
 have HC2 := kp H
 clear H
 go_enter Try.func65, Try.ntmps65
 go_upto_region 2 with (fail)
 go_cut [15] (fun v15 wc => ∃ (kq : Nat) (x15_1 : Bool), v15 = .bool x15_1 ∧ Aside0 (impl_ParseInt.j0 kq a0 a0 x15_1 = some (r1, r2)) ∧ Aside0 (kq ≤ k) ∧ Aside0 (Below w.heap.size w wc))
 case first =>
  have H := HC2.out
  clear HC2
  by_cases c3 : (a0.size : Int) > 0
  ·rw [if_pos c3] at H
   have c3b0 : decide (0 < (a0.size : Int)) = true := decide_eq_true c3
   have c3b1 : decide (0 < a0.size) = true := decide_eq_true (by omega)
   clear c3
   (first | rw [c3b0] | (simp only [i64_w, i32_w]; rw [c3b0]) | skip)
   by_cases c4 : 0 < (a0.size : Int)
   ·rw [if_pos c4] at H
    have c4b0 : decide (0 < (a0.size : Int)) = true := decide_eq_true c4
    have c4b1 : decide (0 < a0.size) = true := decide_eq_true (by omega)
    clear c4
    have H' := kp H
    clear H
    have p5 : 0 ≤ (0 : Int) := (by omega)
    have q5 : 0 < a0.size := (by have : (0 : Int) < (a0.size : Int) := of_decide_eq_true (by first | (with_reducible assumption) | assumption); omega)
    have hx5 : ∀ h : 0 < a0.size, ((a0[0]'h).toNat : Int) = bt a0 0 := bt_at a0 0
    clear p5
    have qi5 : (0 < (a0.size : Int)) = True := eq_true (of_decide_eq_true (by first | (with_reducible assumption) | assumption))
    replace q5 := eq_true q5
    go_wp2
    go_meet
    case rel => exact ⟨_, (((bt a0 0) == 45)), (by first | rfl | (simp; done) | (simp [*]; done)), H', ⟨by first | omega | exact Nat.le_refl _⟩, ⟨by with_reducible repeat (first | exact HB.out | apply cA | apply cN | apply cD)⟩⟩
   ·rw [if_neg c4] at H
    exact absurd H (by simp)
  ·rw [if_neg c3] at H
   have c3b0 : decide (0 < (a0.size : Int)) = false := decide_eq_false c3
   have c3b1 : decide (0 < a0.size) = false := decide_eq_false (by omega)
   clear c3
   (first | rw [c3b0] | (simp only [i64_w, i32_w]; rw [c3b0]) | skip)
   have H' := kp H
   clear H
   go_wp2
   go_meet
   case rel => exact ⟨_, (false), (by first | rfl | (simp; done) | (simp [*]; done)), H', ⟨by first | omega | exact Nat.le_refl _⟩, ⟨by with_reducible repeat (first | exact HB.out | apply cA | apply cN | apply cD)⟩⟩
 case rest =>
  clear HC2
  try clear p2
  try clear c3
  try clear c3b0
  try clear c3b1
  try clear c4
  try clear c4b0
  try clear c4b1
  try clear p5
  try clear q5
  try clear hx5
  try clear qi5
  try clear p5
  try clear q5
  obtain ⟨kq, x15_1, rfl, HA, HJ1, HB⟩ := hcut
  cases kq with
  | zero => exact absurd HA.out (by simp [impl_ParseInt.j0])
  | succ kj1 =>
   have H := HA.out
   clear HA
   simp only [impl_ParseInt.j0] at H
   have HC6 := kp H
   clear H
   go_upto_if 15 with (fail)
   go_cut [4] (fun v4 wc => ∃ (kq : Nat) (x4_5 : ByteArray), v4 = .string x4_5 ∧ Aside0 (impl_ParseInt.j1 kq a0 x4_5 = some (r1, r2)) ∧ Aside0 (kq ≤ kj1) ∧ Aside0 (Below w.heap.size w wc))
   case first =>
    have H := HC6.out
    clear HC6
    by_cases c7 : x15_1 = true
    ·subst c7
     have H1 : (if 1 ≤ (a0.size : Int) then (impl_ParseInt.j1 kj1 a0 (a0.extract 1 a0.size)) else (none)) = some (r1, r2) := by rw [if_pos rfl] at H; exact H
     clear H
     have H := H1
     clear H1
     by_cases c8 : 1 ≤ (a0.size : Int)
     ·rw [if_pos c8] at H
      have c8b0 := eq_true c8
      have c8b1 : decide (1 ≤ (a0.size : Int)) = true := decide_eq_true c8
      clear c8
      have H' := kp H
      clear H
      go_wp2
      go_meet
      case rel => exact ⟨_, (a0.extract 1 a0.size), (by first | rfl | (simp; done) | (simp [*]; done)), H', ⟨by have := HJ1.out; first | omega | exact Nat.le_refl _⟩, ⟨by with_reducible repeat (first | exact HB.out | apply cA | apply cN | apply cD)⟩⟩
     ·rw [if_neg c8] at H
      exact absurd H (by simp)
    ·replace c7 := Bool.eq_false_iff.mpr c7
     subst c7
     have H1 : (impl_ParseInt.j1 kj1 a0 a0) = some (r1, r2) := by rw [if_neg (show ¬ (false = true) by decide)] at H; exact H
     clear H
     have H := H1
     clear H1
     have H' := kp H
     clear H
     go_wp2
     go_meet
     case rel => exact ⟨_, (a0), (by first | rfl | (simp; done) | (simp [*]; done)), H', ⟨by have := HJ1.out; first | omega | exact Nat.le_refl _⟩, ⟨by with_reducible repeat (first | exact HB.out | apply cA | apply cN | apply cD)⟩⟩
   case rest =>
    clear HC6
    try clear p2
    try clear c3
    try clear c3b0
    try clear c3b1
    try clear c4
    try clear c4b0
    try clear c4b1
    try clear p5
    try clear q5
    try clear hx5
    try clear qi5
    try clear c6
    try clear c7
    try clear c8
    try clear c8b0
    try clear c8b1
    try clear p2
    try clear p5
    try clear q5
    obtain ⟨kq, x4_5, rfl, HA, HJ5, HB⟩ := hcut
    cases kq with
    | zero => exact absurd HA.out (by simp [impl_ParseInt.j1])
    | succ kj5 =>
     have H := HA.out
     clear HA
     simp only [impl_ParseInt.j1] at H
     have HC9 := kp H
     clear H
     go_upto_region 4 with (fail)
     go_cut [25] (fun v25 wc => ∃ (kq : Nat) (x25_8 : Bool), v25 = .bool x25_8 ∧ Aside0 (impl_ParseInt.j2 kq a0 x4_5 x25_8 = some (r1, r2)) ∧ Aside0 (kq ≤ kj5) ∧ Aside0 (Below w.heap.size w wc))
     case first =>
      have H := HC9.out
      clear HC9
      by_cases c10 : (x4_5.size : Int) < 1
      ·rw [if_pos c10] at H
       have c10b0 : decide ((x4_5.size : Int) < 1) = true := decide_eq_true c10
       have c10b1 : decide (x4_5.size < 1) = true := decide_eq_true (by omega)
       clear c10
       (first | rw [c10b0] | (simp only [i64_w, i32_w]; rw [c10b0]) | skip)
       have H' := kp H
       clear H
       go_wp2
       go_meet
       case rel => exact ⟨_, (true), (by first | rfl | (simp; done) | (simp [*]; done)), H', ⟨by have := HJ1.out; have := HJ5.out; first | omega | exact Nat.le_refl _⟩, ⟨by with_reducible repeat (first | exact HB.out | apply cA | apply cN | apply cD)⟩⟩
      ·rw [if_neg c10] at H
       have c10b0 : decide ((x4_5.size : Int) < 1) = false := decide_eq_false c10
       have c10b1 : decide (x4_5.size < 1) = false := decide_eq_false (by omega)
       clear c10
       (first | rw [c10b0] | (simp only [i64_w, i32_w]; rw [c10b0]) | skip)
       have H' := kp H
       clear H
       go_wp2
       go_meet
       case rel => exact ⟨_, (decide ((x4_5.size : Int) > 9)), (by first | rfl | (simp; done) | (simp [*]; done)), H', ⟨by have := HJ1.out; have := HJ5.out; first | omega | exact Nat.le_refl _⟩, ⟨by with_reducible repeat (first | exact HB.out | apply cA | apply cN | apply cD)⟩⟩
     case rest =>
      clear HC9
      try clear c1
      try clear p2
      try clear c3
      try clear c3b0
      try clear c3b1
      try clear c4
      try clear c4b0
      try clear c4b1
      try clear p5
      try clear q5
      try clear hx5
      try clear qi5
      try clear c6
      try clear c7
      try clear c8
      try clear c8b0
      try clear c8b1
      try clear c10
      try clear c10b0
      try clear c10b1
      try clear p2
      try clear p5
      try clear q5
      obtain ⟨kq, x25_8, rfl, HA, HJ8, HB⟩ := hcut
      cases kq with
      | zero => exact absurd HA.out (by simp [impl_ParseInt.j2])
      | succ kj8 =>
       have H := HA.out
       clear HA
       simp only [impl_ParseInt.j2] at H
       by_cases c11 : x25_8 = true
       ·subst c11
        have H1 : (some (0, false)) = some (r1, r2) := by rw [if_pos rfl] at H; exact H
        clear H
        have H := H1
        clear H1
        simp only [Option.some.injEq, Prod.mk.injEq] at H
        obtain ⟨rfl, rfl⟩ := H
        go_wp2
        go_ret2
        exact ⟨by first | rfl | (simp [errW_none, errW_some] <;> rfl) | (simp [*, errW_none, errW_some] <;> rfl), by with_reducible repeat (first | exact HB.out | apply cA | apply cN | apply cD)⟩
       ·replace c11 := Bool.eq_false_iff.mpr c11
        subst c11
        have H1 : (impl_ParseInt.l0 kj8 a0 x4_5 0 (x4_5.size : Int) 0) = some (r1, r2) := by rw [if_neg (show ¬ (false = true) by decide)] at H; exact H
        clear H
        have H := H1
        clear H1
        have H' := kp H
        clear H
        go_wp2
        go_loopg [5, 28] kj8 (fun kq v5 v28 w' => ∃ (x5_4 : Int) (x28_4 : Int), v5 = .int .i64 x5_4 ∧ v28 = .int .i64 x28_4 ∧ Aside0 (impl_ParseInt.l0 kq a0 x4_5 x5_4 (x4_5.size : Int) x28_4 = some (r1, r2)) ∧ Aside0 (kq ≤ kj8) ∧ Aside0 (Below w.heap.size w w'))
        case atStart => exact ⟨(0), (0), (by first | rfl | (simp; done) | (simp [*]; done)), (by first | rfl | (simp; done) | (simp [*]; done)), H', ⟨Nat.le_refl _⟩, ⟨by with_reducible repeat (first | exact HB.out | apply cA | apply cN | apply cD)⟩⟩
        case round =>
         clear H'
         try clear c1
         try clear p2
         try clear c3
         try clear c3b0
         try clear c3b1
         try clear c4
         try clear c4b0
         try clear c4b1
         try clear p5
         try clear q5
         try clear hx5
         try clear qi5
         try clear c6
         try clear c7
         try clear c8
         try clear c8b0
         try clear c8b1
         try clear c10
         try clear c10b0
         try clear c10b1
         try clear c11
         try clear p2
         try clear p5
         try clear q5
         obtain ⟨x5_4, x28_4, rfl, rfl, HA, HK4, HB⟩ := hrel
         cases gk with
         | zero => exact absurd HA.out (by simp [impl_ParseInt.l0])
         | succ k4 =>
          have H := HA.out
          clear HA
          simp only [impl_ParseInt.l0] at H
          by_cases c12 : x28_4 < (x4_5.size : Int)
          ·rw [if_pos c12] at H
           have c12b0 : decide (x28_4 < (x4_5.size : Int)) = true := decide_eq_true c12
           clear c12
           by_cases c13 : 0 ≤ x28_4
           ·rw [if_pos c13] at H
            have c13b0 : decide (0 ≤ x28_4) = true := decide_eq_true c13
            clear c13
            by_cases c14 : x28_4 < (x4_5.size : Int)
            ·rw [if_pos c14] at H
             have c14b0 : decide (x28_4 < (x4_5.size : Int)) = true := decide_eq_true c14
             clear c14
             by_cases c16 : (bt x4_5 x28_4) < 48
             ·rw [if_pos c16] at H
              have c16b0 : decide ((bt x4_5 x28_4) < 48) = true := decide_eq_true c16
              clear c16
              simp only [Option.some.injEq, Prod.mk.injEq] at H
              obtain ⟨rfl, rfl⟩ := H
              have p15 : 0 ≤ (x28_4 : Int) := of_decide_eq_true (by first | (with_reducible assumption) | assumption)
              have q15 : x28_4 < (x4_5.size : Int) := of_decide_eq_true (by first | (with_reducible assumption) | assumption)
              have hx15 := bt_at x4_5 x28_4
              replace p15 := eq_true p15
              replace q15 := eq_true q15
              go_wp2
              go_ret2
              exact ⟨by first | rfl | (simp [errW_none, errW_some] <;> rfl) | (simp [*, errW_none, errW_some] <;> rfl), by with_reducible repeat (first | exact HB.out | apply cA | apply cN | apply cD)⟩
             ·rw [if_neg c16] at H
              have c16b0 : decide ((bt x4_5 x28_4) < 48) = false := decide_eq_false c16
              clear c16
              by_cases c18 : (bt x4_5 x28_4) > 57
              ·rw [if_pos c18] at H
               have c18b0 : decide (57 < (bt x4_5 x28_4)) = true := decide_eq_true c18
               clear c18
               simp only [Option.some.injEq, Prod.mk.injEq] at H
               obtain ⟨rfl, rfl⟩ := H
               have p15 : 0 ≤ (x28_4 : Int) := of_decide_eq_true (by first | (with_reducible assumption) | assumption)
               have q15 : x28_4 < (x4_5.size : Int) := of_decide_eq_true (by first | (with_reducible assumption) | assumption)
               have hx15 := bt_at x4_5 x28_4
               replace p15 := eq_true p15
               replace q15 := eq_true q15
               have p17 : 0 ≤ (x28_4 : Int) := of_decide_eq_true (by first | (with_reducible assumption) | assumption)
               have q17 : x28_4 < (x4_5.size : Int) := of_decide_eq_true (by first | (with_reducible assumption) | assumption)
               have hx17 := bt_at x4_5 x28_4
               replace p17 := eq_true p17
               replace q17 := eq_true q17
               go_wp2
               go_ret2
               exact ⟨by first | rfl | (simp [errW_none, errW_some] <;> rfl) | (simp [*, errW_none, errW_some] <;> rfl), by with_reducible repeat (first | exact HB.out | apply cA | apply cN | apply cD)⟩
              ·rw [if_neg c18] at H
               have c18b0 : decide (57 < (bt x4_5 x28_4)) = false := decide_eq_false c18
               clear c18
               have H' := kp H
               clear H
               have p15 : 0 ≤ (x28_4 : Int) := of_decide_eq_true (by first | (with_reducible assumption) | assumption)
               have q15 : x28_4 < (x4_5.size : Int) := of_decide_eq_true (by first | (with_reducible assumption) | assumption)
               have hx15 := bt_at x4_5 x28_4
               replace p15 := eq_true p15
               replace q15 := eq_true q15
               have p17 : 0 ≤ (x28_4 : Int) := of_decide_eq_true (by first | (with_reducible assumption) | assumption)
               have q17 : x28_4 < (x4_5.size : Int) := of_decide_eq_true (by first | (with_reducible assumption) | assumption)
               have hx17 := bt_at x4_5 x28_4
               replace p17 := eq_true p17
               replace q17 := eq_true q17
               have p19 : 0 ≤ (x28_4 : Int) := of_decide_eq_true (by first | (with_reducible assumption) | assumption)
               have q19 : x28_4 < (x4_5.size : Int) := of_decide_eq_true (by first | (with_reducible assumption) | assumption)
               have hx19 := bt_at x4_5 x28_4
               replace p19 := eq_true p19
               replace q19 := eq_true q19
               go_wp2
               go_roundg k4
               case measure => have := HJ1.out; have := HJ5.out; have := HJ8.out; have := HK4.out; omega
               case rel => exact ⟨(wrap64 ((wrap64 (10 * x5_4)) + (((bt x4_5 x28_4) - 48) % 256))), (wrap64 (x28_4 + 1)), (by first | rfl | (simp; done) | (simp [*]; done)), (by first | rfl | (simp; done) | (simp [*]; done)), H', ⟨by have := HJ1.out; have := HJ5.out; have := HJ8.out; have := HK4.out; omega⟩, ⟨by with_reducible repeat (first | exact HB.out | apply cA | apply cN | apply cD)⟩⟩
            ·rw [if_neg c14] at H
             exact absurd H (by simp)
           ·rw [if_neg c13] at H
            exact absurd H (by simp)
          ·rw [if_neg c12] at H
           have c12b0 : decide (x28_4 < (x4_5.size : Int)) = false := decide_eq_false c12
           clear c12
           by_cases c20 : (x4_5.size : Int) < (a0.size : Int)
           ·rw [if_pos c20] at H
            have c20b0 : decide ((x4_5.size : Int) < (a0.size : Int)) = true := decide_eq_true c20
            have c20b1 : decide (x4_5.size < a0.size) = true := decide_eq_true (Int.ofNat_lt.mp c20)
            clear c20
            replace H := Option.bind_eq_some_iff.mp H
            obtain ⟨t177, A210, H⟩ := H
            replace H : (if t177.toList = a0.toList then (some (wrap64 (-x5_4), true)) else (some (0, false))) = some (r1, r2) := H
            have A21 := kp A210
            clear A210
            by_cases c22 : t177.toList = a0.toList
            ·rw [if_pos c22] at H
             have c22b0 : (t177.toList == a0.toList) = true := beq_iff_eq.mpr c22
             have c22b1 : (t177.toList != a0.toList) = false := bne_eq_false_iff_eq.mpr c22
             clear c22
             simp only [Option.some.injEq, Prod.mk.injEq] at H
             obtain ⟨rfl, rfl⟩ := H
             go_wp2_with (first | ((with_reducible refine gate_callee (f := 66) rfl ?_); refine goesL_ (some 58) rfl rfl Try.func66 (by kernel_rfl) rfl #[.int .i64 (wrap64 (-x5_4))] rfl (by (try simp only [mA, mC, mN]); first | done | rfl | (simp only [lD, lT]; rfl)) ?_; (with_reducible refine (impl_FormatInt.calls k4 (wrap64 (-x5_4)) t177 _ A21.out).mono ?_); rintro e w23 ⟨rfl, hb⟩; refine ⟨_, rfl, ?_⟩; have n0_ := kp (below_step (by with_reducible repeat (first | exact HB.out | apply cA | apply cN | apply cD)) hb); clear HB; have HB := n0_; clear n0_; (try clear hb)))
             go_ret2
             exact ⟨by first | rfl | (simp [errW_none, errW_some] <;> rfl) | (simp [*, errW_none, errW_some] <;> rfl), by with_reducible repeat (first | exact HB.out | apply cA | apply cN | apply cD)⟩
            ·rw [if_neg c22] at H
             have c22b0 : (t177.toList == a0.toList) = false := beq_eq_false_iff_ne.mpr c22
             have c22b1 : (t177.toList != a0.toList) = true := bne_iff_ne.mpr c22
             simp only [Option.some.injEq, Prod.mk.injEq] at H
             obtain ⟨rfl, rfl⟩ := H
             go_wp2_with (first | ((with_reducible refine gate_callee (f := 66) rfl ?_); refine goesL_ (some 58) rfl rfl Try.func66 (by kernel_rfl) rfl #[.int .i64 (wrap64 (-x5_4))] rfl (by (try simp only [mA, mC, mN]); first | done | rfl | (simp only [lD, lT]; rfl)) ?_; (with_reducible refine (impl_FormatInt.calls k4 (wrap64 (-x5_4)) t177 _ A21.out).mono ?_); rintro e w24 ⟨rfl, hb⟩; refine ⟨_, rfl, ?_⟩; have n0_ := kp (below_step (by with_reducible repeat (first | exact HB.out | apply cA | apply cN | apply cD)) hb); clear HB; have HB := n0_; clear n0_; (try clear hb)))
             go_ret2
             exact ⟨by first | rfl | (simp [errW_none, errW_some] <;> rfl) | (simp [*, errW_none, errW_some] <;> rfl), by with_reducible repeat (first | exact HB.out | apply cA | apply cN | apply cD)⟩
           ·rw [if_neg c20] at H
            have c20b0 : decide ((x4_5.size : Int) < (a0.size : Int)) = false := decide_eq_false c20
            have c20b1 : decide (x4_5.size < a0.size) = false := decide_eq_false (fun h => c20 (Int.ofNat_lt.mpr h))
            clear c20
            replace H := Option.bind_eq_some_iff.mp H
            obtain ⟨t178, A250, H⟩ := H
            replace H : (if t178.toList = a0.toList then (some (x5_4, true)) else (some (0, false))) = some (r1, r2) := H
            have A25 := kp A250
            clear A250
            by_cases c26 : t178.toList = a0.toList
            ·rw [if_pos c26] at H
             have c26b0 : (t178.toList == a0.toList) = true := beq_iff_eq.mpr c26
             have c26b1 : (t178.toList != a0.toList) = false := bne_eq_false_iff_eq.mpr c26
             clear c26
             simp only [Option.some.injEq, Prod.mk.injEq] at H
             obtain ⟨rfl, rfl⟩ := H
             go_wp2_with (first | ((with_reducible refine gate_callee (f := 66) rfl ?_); refine goesL_ (some 58) rfl rfl Try.func66 (by kernel_rfl) rfl #[.int .i64 x5_4] rfl (by (try simp only [mA, mC, mN]); first | done | rfl | (simp only [lD, lT]; rfl)) ?_; (with_reducible refine (impl_FormatInt.calls k4 x5_4 t178 _ A25.out).mono ?_); rintro e w27 ⟨rfl, hb⟩; refine ⟨_, rfl, ?_⟩; have n0_ := kp (below_step (by with_reducible repeat (first | exact HB.out | apply cA | apply cN | apply cD)) hb); clear HB; have HB := n0_; clear n0_; (try clear hb)))
             go_ret2
             exact ⟨by first | rfl | (simp [errW_none, errW_some] <;> rfl) | (simp [*, errW_none, errW_some] <;> rfl), by with_reducible repeat (first | exact HB.out | apply cA | apply cN | apply cD)⟩
            ·rw [if_neg c26] at H
             have c26b0 : (t178.toList == a0.toList) = false := beq_eq_false_iff_ne.mpr c26
             have c26b1 : (t178.toList != a0.toList) = true := bne_iff_ne.mpr c26
             simp only [Option.some.injEq, Prod.mk.injEq] at H
             obtain ⟨rfl, rfl⟩ := H
             go_wp2_with (first | ((with_reducible refine gate_callee (f := 66) rfl ?_); refine goesL_ (some 58) rfl rfl Try.func66 (by kernel_rfl) rfl #[.int .i64 x5_4] rfl (by (try simp only [mA, mC, mN]); first | done | rfl | (simp only [lD, lT]; rfl)) ?_; (with_reducible refine (impl_FormatInt.calls k4 x5_4 t178 _ A25.out).mono ?_); rintro e w28 ⟨rfl, hb⟩; refine ⟨_, rfl, ?_⟩; have n0_ := kp (below_step (by with_reducible repeat (first | exact HB.out | apply cA | apply cN | apply cD)) hb); clear HB; have HB := n0_; clear n0_; (try clear hb)))
             go_ret2
             exact ⟨by first | rfl | (simp [errW_none, errW_some] <;> rfl) | (simp [*, errW_none, errW_some] <;> rfl), by with_reducible repeat (first | exact HB.out | apply cA | apply cN | apply cD)⟩

/-! ### impl_cut: function 92 -/
def impl_cut.l0 : Nat → ByteArray → Int → List ByteArray → Int → Int → Int → Option (List ByteArray)
 | 0, _, _, _, _, _, _ => none
 | k + 1, x0, x1, x5, x6, x10, x11 => if x11 < x10 then (if 0 ≤ x11 then (if x11 < (x0.size : Int) then (if (bt x0 x11) = x1 then (if 0 ≤ x6 then (if x6 ≤ x11 then (if x11 ≤ (x0.size : Int) then (if x5.length < 8796093022208 then (impl_cut.l0 k x0 x1 (x5 ++ [x0.extract (x6 : Int).toNat (x11 : Int).toNat]) (wrap64 (x11 + 1)) x10 (wrap64 (x11 + 1))) else (none)) else (none)) else (none)) else (none)) else (impl_cut.l0 k x0 x1 x5 x6 x10 (wrap64 (x11 + 1)))) else (none)) else (none)) else (if 0 ≤ x6 then (if x6 ≤ (x0.size : Int) then (if x5.length < 8796093022208 then (some (x5 ++ [x0.extract (x6 : Int).toNat x0.size])) else (none)) else (none)) else (none))
def impl_cut.f (k : Nat) (a0 : ByteArray) (a1 : Int) : Option (List ByteArray) := impl_cut.l0 k a0 a1 (([] : List ByteArray)) 0 (a0.size : Int) 0
set_option maxHeartbeats 8000000 in
set_option maxRecDepth 100000 in
theorem impl_cut.calls (k : Nat) (a0 : ByteArray) (a1 : Int) (r : List ByteArray) (w : World) (h : impl_cut.f k a0 a1 = some r) :
  Calls Try.prog 92 #[.string a0, .int .u8 a1] w fun e w' => ∃ v0_ : Value, e = .returned (v0_) ∧ Kd.R Kd.string 9 w' w.heap.size (fun _ => True) v0_ r ∧ Below w.heap.size w w' := by
 have HB := kp (Below.refl w.heap.size w)
 have H : (impl_cut.l0 k a0 a1 (([] : List ByteArray)) 0 (a0.size : Int) 0) = some r := h
 clear h
 obtain ⟨y179, hy179⟩ : ∃ y_ : List ByteArray, y_ = (([] : List ByteArray)) := ⟨_, rfl⟩
 replace H : (impl_cut.l0 k a0 a1 y179 0 (a0.size : Int) 0) = some r := by first | (rw [hy179]; with_reducible exact H) | (have H2_ := (Option.bind_some _ _).symm.trans H; rw [hy179]; with_reducible exact H2_) | (have H2_ := (Option.bind_some _ _).symm.trans H; with_reducible exact H2_) | with_reducible exact H | (rw [hy179]; exact H) | exact H
 have Ny179 := kp hy179
 clear hy179
 have H' := kp H
 clear H
 go_enter Try.func92, Try.ntmps92
 go_wp2_with (first | ((with_reducible refine gate_dst (N := 8) rfl ?_); refine Kd.R_lit Kd.string _ 9 ?hg (N := 8) ?hd (xs := ([] : List ByteArray)) (inner := []) (ok := fun _ => True) (okp := fun _ => True) ?hr ?hp (fun _ hk => hk) trivial (Below.refl _ _) (Nat.le_refl _) (by simp) ?_; (case hd => rfl); (case hg => rfl); (case hr => first | (go_simp; done) | (go_simp; rfl)); (case hp => exact (Reps.none _ _)); intro v180 w3 ho4 hb hg_ hnew_; clear hg_ hnew_; (first | rw [← Ny179.out] at ho4 | (simp only [Int.reduceToNat] at ho4; rw [← Ny179.out] at ho4)); have n0_ := kp (Kd.R_lower ho4 (below_size (by with_reducible repeat (first | exact HB.out | apply cA | apply cN | apply cD)))); have n1_ := kp (below_step (by with_reducible repeat (first | exact HB.out | apply cA | apply cN | apply cD)) hb); clear HB; have HO181 := n0_; have HB := n1_; clear n0_ n1_; clear hb ho4))
 go_loopg [5, 6, 11] k (fun kq v5 v6 v11 w' => ∃ (x5_1 : List ByteArray) (x6_1 : Int) (x11_1 : Int), v6 = .int .i64 x6_1 ∧ v11 = .int .i64 x11_1 ∧ Aside0 (impl_cut.l0 kq a0 a1 x5_1 x6_1 (a0.size : Int) x11_1 = some r) ∧ Aside0 (kq ≤ k) ∧ Aside0 (Kd.R Kd.string 9 w' w.heap.size (fun _ => True) v5 x5_1) ∧ Aside0 (Below w.heap.size w w'))
 case atStart => exact ⟨(y179), (0), (0), (by first | rfl | (simp; done) | (simp [*]; done)), (by first | rfl | (simp; done) | (simp [*]; done)), H', ⟨Nat.le_refl _⟩, ⟨by (with_reducible repeat (first | apply rA | apply rN | apply rD)); exact HO181.out⟩, ⟨by with_reducible repeat (first | exact HB.out | apply cA | apply cN | apply cD)⟩⟩
 case round =>
  clear H'
  try clear p2
  obtain ⟨x5_1, x6_1, x11_1, rfl, rfl, HA, HK1, HO_5, HB⟩ := hrel
  cases gk with
  | zero => exact absurd HA.out (by simp [impl_cut.l0])
  | succ k1 =>
   have H := HA.out
   clear HA
   simp only [impl_cut.l0] at H
   by_cases c5 : x11_1 < (a0.size : Int)
   ·rw [if_pos c5] at H
    have c5b0 : decide (x11_1 < (a0.size : Int)) = true := decide_eq_true c5
    clear c5
    by_cases c6 : 0 ≤ x11_1
    ·rw [if_pos c6] at H
     have c6b0 : decide (0 ≤ x11_1) = true := decide_eq_true c6
     clear c6
     by_cases c7 : x11_1 < (a0.size : Int)
     ·rw [if_pos c7] at H
      have c7b0 : decide (x11_1 < (a0.size : Int)) = true := decide_eq_true c7
      clear c7
      by_cases c9 : (bt a0 x11_1) = a1
      ·rw [if_pos c9] at H
       have c9b0 : ((bt a0 x11_1) == a1) = true := beq_iff_eq.mpr c9
       have c9b1 : ((bt a0 x11_1) != a1) = false := bne_eq_false_iff_eq.mpr c9
       clear c9
       by_cases c10 : 0 ≤ x6_1
       ·rw [if_pos c10] at H
        have c10b0 := eq_true c10
        have c10b1 : decide (0 ≤ x6_1) = true := decide_eq_true c10
        clear c10
        by_cases c11 : x6_1 ≤ x11_1
        ·rw [if_pos c11] at H
         have c11b0 := eq_true c11
         have c11b1 : decide (x6_1 ≤ x11_1) = true := decide_eq_true c11
         clear c11
         by_cases c12 : x11_1 ≤ (a0.size : Int)
         ·rw [if_pos c12] at H
          have c12b0 := eq_true c12
          have c12b1 : decide (x11_1 ≤ (a0.size : Int)) = true := decide_eq_true c12
          clear c12
          by_cases c13 : x5_1.length < 8796093022208
          ·rw [if_pos c13] at H
           have LMc13 := kp c13
           clear c13
           obtain ⟨y182, hy182⟩ : ∃ y_ : List ByteArray, y_ = (x5_1 ++ [a0.extract (x6_1 : Int).toNat (x11_1 : Int).toNat]) := ⟨_, rfl⟩
           replace H : (impl_cut.l0 k1 a0 a1 y182 (wrap64 (x11_1 + 1)) (a0.size : Int) (wrap64 (x11_1 + 1))) = some r := by first | (rw [hy182]; with_reducible exact H) | (have H2_ := (Option.bind_some _ _).symm.trans H; rw [hy182]; with_reducible exact H2_) | (have H2_ := (Option.bind_some _ _).symm.trans H; with_reducible exact H2_) | with_reducible exact H | (rw [hy182]; exact H) | exact H
           have Ny182 := kp hy182
           clear hy182
           have H' := kp H
           clear H
           have p8 : 0 ≤ (x11_1 : Int) := of_decide_eq_true (by first | (with_reducible assumption) | assumption)
           have q8 : x11_1 < (a0.size : Int) := of_decide_eq_true (by first | (with_reducible assumption) | assumption)
           have hx8 := bt_at a0 x11_1
           replace p8 := eq_true p8
           replace q8 := eq_true q8
           go_wp2_with (first | ((with_reducible refine gate_builtin (b := .append) (xs := #[.tmp 19, .tmp 24]) rfl ?_); at_builtin; refine Kd.R_append Kd.string (w0 := w) w.heap.size rfl (.tmp 19) (.tmp 24) 100 9 (.string ⟨#[]⟩) 16 rfl Try.underlying100 info9 rfl (by decide) (by omega) u5 x5_1 (a0.extract (x6_1 : Int).toNat (x11_1 : Int).toNat) [.string (a0.extract (x6_1 : Int).toNat (x11_1 : Int).toNat)] (fun _ => True) (fun _ => False) rfl rfl ?aP (fun _ hk => hk.elim) ?aF ?aO ?aB ?aS ?aL ?_; (case aP => exact rfl); (case aB => exact (by with_reducible repeat (first | exact HB.out | apply cA | apply cN | apply cD))); (case aF => exact (fun _ _ => trivial)); (case aO => exact (by (with_reducible repeat (first | apply rA | apply rN | apply rD)); exact HO_5.out)); (case aS => exact (below_size (by with_reducible repeat (first | exact HB.out | apply cA | apply cN | apply cD)))); (case aL => have := LMc13.out; omega); intro v183 w14 ho hb hg hat; rw [← Ny182.out] at ho; have n0_ := kp (hb); have n1_ := kp (ho); clear HB; clear HO_5; have HB := n0_; have HO184 := n1_; clear n0_ n1_; clear ho hb hg hat))
           go_roundg k1
           case measure => have := HK1.out; omega
           case rel => exact ⟨(y182), (wrap64 (x11_1 + 1)), (wrap64 (x11_1 + 1)), (by first | rfl | (simp; done) | (simp [*]; done)), (by first | rfl | (simp; done) | (simp [*]; done)), H', ⟨by have := HK1.out; omega⟩, ⟨by (with_reducible repeat (first | apply rA | apply rN | apply rD)); exact HO184.out⟩, ⟨by with_reducible repeat (first | exact HB.out | apply cA | apply cN | apply cD)⟩⟩
          ·rw [if_neg c13] at H
           exact absurd H (by simp)
         ·rw [if_neg c12] at H
          exact absurd H (by simp)
        ·rw [if_neg c11] at H
         exact absurd H (by simp)
       ·rw [if_neg c10] at H
        exact absurd H (by simp)
      ·rw [if_neg c9] at H
       have c9b0 : ((bt a0 x11_1) == a1) = false := beq_eq_false_iff_ne.mpr c9
       have c9b1 : ((bt a0 x11_1) != a1) = true := bne_iff_ne.mpr c9
       have H' := kp H
       clear H
       have p8 : 0 ≤ (x11_1 : Int) := of_decide_eq_true (by first | (with_reducible assumption) | assumption)
       have q8 : x11_1 < (a0.size : Int) := of_decide_eq_true (by first | (with_reducible assumption) | assumption)
       have hx8 := bt_at a0 x11_1
       replace p8 := eq_true p8
       replace q8 := eq_true q8
       go_wp2
       go_roundg k1
       case measure => have := HK1.out; omega
       case rel => exact ⟨(x5_1), (x6_1), (wrap64 (x11_1 + 1)), (by first | rfl | (simp; done) | (simp [*]; done)), (by first | rfl | (simp; done) | (simp [*]; done)), H', ⟨by have := HK1.out; omega⟩, ⟨by (with_reducible repeat (first | apply rA | apply rN | apply rD)); exact HO_5.out⟩, ⟨by with_reducible repeat (first | exact HB.out | apply cA | apply cN | apply cD)⟩⟩
     ·rw [if_neg c7] at H
      exact absurd H (by simp)
    ·rw [if_neg c6] at H
     exact absurd H (by simp)
   ·rw [if_neg c5] at H
    have c5b0 : decide (x11_1 < (a0.size : Int)) = false := decide_eq_false c5
    clear c5
    by_cases c15 : 0 ≤ x6_1
    ·rw [if_pos c15] at H
     have c15b0 := eq_true c15
     have c15b1 : decide (0 ≤ x6_1) = true := decide_eq_true c15
     clear c15
     by_cases c16 : x6_1 ≤ (a0.size : Int)
     ·rw [if_pos c16] at H
      have c16b0 := eq_true c16
      have c16b1 : decide (x6_1 ≤ (a0.size : Int)) = true := decide_eq_true c16
      clear c16
      by_cases c17 : x5_1.length < 8796093022208
      ·rw [if_pos c17] at H
       have LMc17 := kp c17
       clear c17
       obtain ⟨y185, hy185⟩ : ∃ y_ : List ByteArray, y_ = (x5_1 ++ [a0.extract (x6_1 : Int).toNat a0.size]) := ⟨_, rfl⟩
       replace H : (some y185) = some r := by first | (rw [hy185]; with_reducible exact H) | (have H2_ := (Option.bind_some _ _).symm.trans H; rw [hy185]; with_reducible exact H2_) | (have H2_ := (Option.bind_some _ _).symm.trans H; with_reducible exact H2_) | with_reducible exact H | (rw [hy185]; exact H) | exact H
       have Ny185 := kp hy185
       clear hy185
       obtain rfl := Option.some.inj H
       go_wp2_with (first | ((with_reducible refine gate_builtin (b := .append) (xs := #[.tmp 29, .tmp 33]) rfl ?_); at_builtin; refine Kd.R_append Kd.string (w0 := w) w.heap.size rfl (.tmp 29) (.tmp 33) 100 9 (.string ⟨#[]⟩) 16 rfl Try.underlying100 info9 rfl (by decide) (by omega) u5 x5_1 (a0.extract (x6_1 : Int).toNat a0.size) [.string (a0.extract (x6_1 : Int).toNat a0.size)] (fun _ => True) (fun _ => False) rfl rfl ?aP (fun _ hk => hk.elim) ?aF ?aO ?aB ?aS ?aL ?_; (case aP => exact rfl); (case aB => exact (by with_reducible repeat (first | exact HB.out | apply cA | apply cN | apply cD))); (case aF => exact (fun _ _ => trivial)); (case aO => exact (by (with_reducible repeat (first | apply rA | apply rN | apply rD)); exact HO_5.out)); (case aS => exact (below_size (by with_reducible repeat (first | exact HB.out | apply cA | apply cN | apply cD)))); (case aL => have := LMc17.out; omega); intro v186 w18 ho hb hg hat; rw [← Ny185.out] at ho; have n0_ := kp (hb); have n1_ := kp (ho); clear HB; clear HO_5; have HB := n0_; have HO187 := n1_; clear n0_ n1_; clear ho hb hg hat))
       go_ret
       exact ⟨_, by first | rfl | (simp [errW_none, errW_some] <;> rfl) | (simp [*, errW_none, errW_some] <;> rfl), by (with_reducible repeat (first | apply rA | apply rN | apply rD)); exact HO187.out, by with_reducible repeat (first | exact HB.out | apply cA | apply cN | apply cD)⟩
      ·rw [if_neg c17] at H
       exact absurd H (by simp)
     ·rw [if_neg c16] at H
      exact absurd H (by simp)
    ·rw [if_neg c15] at H
     exact absurd H (by simp)

end Go.Proofs.Ytkipmmkjbeeemaa.PFnRowFormat
