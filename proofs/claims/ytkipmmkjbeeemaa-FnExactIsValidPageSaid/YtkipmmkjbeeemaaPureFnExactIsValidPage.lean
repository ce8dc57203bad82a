/- The program's IsValidPage answers as the reference's does, for all arguments that the statement lets in; no further condition. -/
import Derived.Test.YtkipmmkjbeeemaaPFnExactIsValidPagex3
import Derived.Test.YtkipmmkjbeeemaaCore
namespace Go.Proofs.Ytkipmmkjbeeemaa.Pure
open Go.RowKit Go.Proofs.Ytkipmmkjbeeemaa.PFnExactIsValidPage Go.Proofs.YtkipmmkjbeeemaaW.PrintWords Go.Proofs.YtkipmmkjbeeemaaW.PrintLast Go.Proofs.YtkipmmkjbeeemaaW.PrintMore Go.Proofs.Ytkipmmkjbeeemaa.Core
set_option linter.unusedVariables false
set_option linter.unusedSimpArgs false

theorem toRow_f (a b c : Int) : laws_toRow.f a b c = some (a, b, c) := rfl
def cvR (x : S26) : S33 := ⟨x.f0, x.f1, x.f2⟩
def tup (x : S33) : Int × Int × Int := (x.f0, x.f1, x.f2)
theorem drop_nil_lt {α : Type} {l : List α} {i : Nat} (h : l.drop i = []) : ¬ (i : Int) < (l.length : Int) := by
  have := List.drop_eq_nil_iff.1 h
  omega
theorem rdL {l : List S26} {i : Nat} {b : S26} {r : List S26} (h : l.drop i = b :: r) : (i : Int) < (l.length : Int) ∧ rd_T26 l (i : Int) = b ∧ l.drop (i + 1) = r := by
  obtain ⟨hi, h1, h2⟩ := drop_split h
  refine ⟨by omega, ?_, h2⟩
  unfold rd_T26
  rw [Int.toNat_natCast, List.getD_eq_getElem?_getD, List.getElem?_eq_getElem hi, h1]; rfl
theorem rdI {l : List S33} {i : Nat} {b : S33} {r : List S33} (h : l.drop i = b :: r) : (i : Int) < (l.length : Int) ∧ rd_T33 l (i : Int) = b ∧ l.drop (i + 1) = r := by
  obtain ⟨hi, h1, h2⟩ := drop_split h
  refine ⟨by omega, ?_, h2⟩
  unfold rd_T33
  rw [Int.toNat_natCast, List.getD_eq_getElem?_getD, List.getElem?_eq_getElem hi, h1]; rfl
theorem nxt {n i : Nat} (hn : n ≤ 4611686018427387904) (h : (i : Int) < (n : Int)) : wrap64 ((i : Int) + 1) = ((i + 1 : Nat) : Int) := by
  rw [w64 (by omega) (by omega)]; omega
theorem szRowS_small (l : List S26) (a : Int) (ha : a ≤ 1048576) (h : (l.length : Int) ≤ a) : laws_szRowS.f l a = some (a - l.length) := by
  unfold laws_szRowS.f
  rw [w64 (by omega) (by omega), if_neg (by omega)]
theorem szRowS_big (l : List S26) (a : Int) (hl : l.length ≤ 9223372036854775807) (h0 : 0 ≤ a) (ha : a ≤ 1048576) (h : ¬ (l.length : Int) ≤ a) : laws_szRowS.f l a = some (-1) := by
  unfold laws_szRowS.f
  rw [w64 (by omega) (by omega), if_pos (by omega)]
theorem toRowS_ev (l : List S26) (hl : (l.length : Int) ≤ 1048576) : Ev (fun k => laws_toRowS.f k l) (l.map cvR) := by
  have key : ∀ (r : List S26) (d : List S33), l.drop d.length = r → Ev (fun k => laws_toRowS.l0 k l (d ++ List.replicate r.length z33) (d.length : Int)) (d ++ r.map cvR) := by
    intro r
    induction r with
    | nil =>
      intro d h
      refine Ev.succ ?_
      simp only [laws_toRowS.l0, List.length_nil, List.replicate_zero, List.append_nil, List.map_nil]
      exact Ev.neg (drop_nil_lt h) (Ev.now _)
    | cons b r ih =>
      intro d h
      obtain ⟨h1, h2, h3⟩ := rdL h
      refine Ev.succ ?_
      simp only [laws_toRowS.l0, h2, toRow_f, Option.bind_some, nxt (show l.length ≤ 4611686018427387904 by omega) h1]
      refine Ev.pos h1 (Ev.pos (Int.natCast_nonneg _) (Ev.pos ?_ ?_))
      · simp only [List.length_append, List.length_replicate, List.length_cons]; omega
      · have e : (d ++ List.replicate (b :: r).length z33).set (d.length : Int).toNat ⟨b.f0, b.f1, b.f2⟩ = (d ++ [cvR b]) ++ List.replicate r.length z33 := by
          rw [Int.toNat_natCast, List.set_append_right _ _ (Nat.le_refl _), Nat.sub_self, List.length_cons, List.replicate_succ, List.set_cons_zero, List.append_assoc]
          rfl
        rw [e]
        have := ih (d ++ [cvR b]) (by simpa using h3)
        simpa using this
  have := key l [] rfl
  simp only [laws_toRowS.f]
  refine Ev.pos (by omega) (Ev.pos (by omega) ?_)
  simpa using this
theorem eqRow_f (a b c : Int) : laws_eqRow.f a b c a b c = some true := by simp [laws_eqRow.f]
theorem eqRowS_ev (l : List S33) (hl : l.length ≤ 4611686018427387904) : Ev (fun k => laws_eqRowS.f k l l) true := by
  have key : ∀ (r : List S33) (i : Nat), l.drop i = r → Ev (fun k => laws_eqRowS.l0 k l l (i : Int)) true := by
    intro r
    induction r with
    | nil =>
      intro i h
      refine Ev.succ ?_
      simp only [laws_eqRowS.l0]
      exact Ev.neg (drop_nil_lt h) (Ev.now _)
    | cons b r ih =>
      intro i h
      obtain ⟨h1, h2, h3⟩ := rdI h
      refine Ev.succ ?_
      simp only [laws_eqRowS.l0, eqRow_f, Option.bind_some, if_true, nxt hl h1]
      exact Ev.pos h1 (Ev.pos (Int.natCast_nonneg _) (Ev.pos h1 (ih (i + 1) h3)))
  simp only [laws_eqRowS.f, if_true]
  exact key l 0 rfl
theorem map_len (l : List S26) : (l.map cvR).length = l.length := List.length_map ..
theorem szPage_small (l : List S26) (a : Int) (ha : a ≤ 1048576) (h : (l.length : Int) ≤ a) : laws_szPage.f l a = some (a - l.length) := by
  simp only [laws_szPage.f, szRowS_small l a ha h, Option.bind_some]
  rw [if_neg (by omega)]
theorem szPage_big (l : List S26) (a : Int) (hl : l.length ≤ 9223372036854775807) (h0 : 0 ≤ a) (ha : a ≤ 1048576) (h : ¬ (l.length : Int) ≤ a) : laws_szPage.f l a = some (-1) := by
  simp only [laws_szPage.f, szRowS_big l a hl h0 ha h, Option.bind_some]
  rw [if_pos (by omega)]
theorem toPage_ev (l : List S26) (hl : (l.length : Int) ≤ 1048576) : Ev (fun k => laws_toPage.f k l) (l.map cvR) := by
  simp only [laws_toPage.f]
  exact Ev.tl (toRowS_ev l hl) rfl
theorem eqPage_ev (l : List S33) (hl : l.length ≤ 4611686018427387904) : Ev (fun k => laws_eqPage.f k l l) true := by
  simp only [laws_eqPage.f]
  exact Ev.tl (eqRowS_ev l hl) rfl
theorem within_f (a b c : Int) : impl_within.f a b c = some (decide (b ≤ a) && decide (a ≤ c)) := by
  by_cases h : b ≤ a <;> simp [impl_within.f, h]
theorem l1In_f (a b c : Int) : spec_l1In.f a b c = some (decide (b ≤ a) && decide (a ≤ c)) := by
  by_cases h : b ≤ a <;> simp [spec_l1In.f, h]
def vrow (r : Int × Int × Int) : Bool := (decide (0 ≤ r.1) && decide (r.1 ≤ 9)) && ((decide (0 ≤ r.2.1) && decide (r.2.1 ≤ 99)) && (decide (0 ≤ r.2.2) && decide (r.2.2 ≤ 3)))
theorem impl_IsValidRow_f (a b c : Int) : impl_IsValidRow.f a b c = some (vrow (a, b, c)) := by
  simp only [impl_IsValidRow.f, within_f, Option.bind_some, vrow]
  cases (decide (0 ≤ a) && decide (a ≤ 9)) <;> cases (decide (0 ≤ b) && decide (b ≤ 99)) <;> simp
theorem spec_IsValidRow_f (a b c : Int) : spec_IsValidRow.f a b c = some (vrow (a, b, c)) := by
  simp only [spec_IsValidRow.f, l1In_f, Option.bind_some, vrow]
  cases (decide (0 ≤ a) && decide (a ≤ 9)) <;> cases (decide (0 ≤ b) && decide (b ≤ 99)) <;> simp
theorem vrow_iff {a b c : Int} : vrow (a, b, c) = true ↔ (0 ≤ a ∧ a ≤ 9) ∧ (0 ≤ b ∧ b ≤ 99) ∧ 0 ≤ c ∧ c ≤ 3 := by simp [vrow]
def allV (l : List S33) : Bool := l.all fun x => vrow (x.f0, x.f1, x.f2)
def avM (l : List S33) : Bool := allV l && decide ((l.length : Int) ≤ 24)
theorem spec_AreValidRows_ev (l : List S33) (hl : l.length ≤ 4611686018427387904) : Ev (fun k => spec_AreValidRows.f k l) (avM l) := by
  have key : ∀ (r : List S33) (i : Nat), l.drop i = r → Ev (fun k => spec_AreValidRows.l0 k l (i : Int)) (allV r && decide ((l.length : Int) ≤ 24)) := by
    intro r
    induction r with
    | nil =>
      intro i h
      refine Ev.succ ?_
      simp only [spec_AreValidRows.l0]
      exact Ev.neg (drop_nil_lt h) (Ev.now' (by simp [allV]))
    | cons x r ih =>
      intro i h
      obtain ⟨h1, h2, h3⟩ := rdI h
      refine Ev.succ ?_
      simp only [spec_AreValidRows.l0, h2, nxt hl h1, spec_IsValidRow_f, Option.bind_some]
      refine Ev.pos h1 (Ev.pos (Int.natCast_nonneg _) ?_)
      by_cases hv : vrow (x.f0, x.f1, x.f2) = true
      · refine Ev.pos hv ?_
        have e : allV (x :: r) = allV r := by simp [allV, hv]
        rw [e]; exact ih (i + 1) h3
      · exact Ev.neg hv (Ev.now' (by simp [allV, hv]))
  exact key l 0 rfl
theorem impl_allValid_ev (l : List S33) (hl : l.length ≤ 4611686018427387904) : Ev (fun k => impl_allValid.f k l) (allV l) := by
  have key : ∀ (r : List S33) (i : Nat), l.drop i = r → Ev (fun k => impl_allValid.l0 k l (l.length : Int) (i : Int)) (allV r) := by
    intro r
    induction r with
    | nil =>
      intro i h
      refine Ev.succ ?_
      simp only [impl_allValid.l0]
      exact Ev.neg (drop_nil_lt h) (Ev.now' (by simp [allV]))
    | cons x r ih =>
      intro i h
      obtain ⟨h1, h2, h3⟩ := rdI h
      refine Ev.succ ?_
      simp only [impl_allValid.l0, h2, nxt hl h1, impl_IsValidRow_f, Option.bind_some]
      refine Ev.pos h1 (Ev.pos (Int.natCast_nonneg _) (Ev.pos h1 ?_))
      by_cases hv : vrow (x.f0, x.f1, x.f2) = true
      · refine Ev.pos hv ?_
        have e : allV (x :: r) = allV r := by simp [allV, hv]
        rw [e]; exact ih (i + 1) h3
      · exact Ev.neg hv (Ev.now' (by simp [allV, hv]))
  exact key l 0 rfl
theorem impl_AreValidRows_ev (l : List S33) (hl : l.length ≤ 4611686018427387904) : Ev (fun k => impl_AreValidRows.f k l) (avM l) := by
  simp only [impl_AreValidRows.f]
  unfold avM
  by_cases h : (l.length : Int) ≤ 24
  · refine Ev.pos h (Ev.tl (impl_allValid_ev l hl) ?_)
    simp [h]
  · exact Ev.neg h (Ev.now' (by simp [h]))
def cost (r : Int × Int × Int) : Int := if vrow r = true then 1 + r.2.2 else 0
theorem impl_RowCost_f (a b c : Int) : impl_RowCost.f a b c = some (cost (a, b, c)) := by
  simp only [impl_RowCost.f, impl_IsValidRow_f, Option.bind_some, cost]
  by_cases h : vrow (a, b, c) = true
  · have := vrow_iff.1 h
    rw [if_pos h, if_pos h, w64 (by omega) (by omega)]
  · rw [if_neg h, if_neg h]
theorem spec_RowCost_f (a b c : Int) : spec_RowCost.f a b c = some (cost (a, b, c)) := by
  simp only [spec_RowCost.f, spec_IsValidRow_f, Option.bind_some, cost]
  by_cases h : vrow (a, b, c) = true
  · have := vrow_iff.1 h
    rw [if_pos h, if_pos h, w64 (by omega) (by omega)]
  · rw [if_neg h, if_neg h]
theorem cost_bd (r : Int × Int × Int) : 0 ≤ cost r ∧ cost r ≤ 4 := by
  obtain ⟨a, b, c⟩ := r
  unfold cost
  by_cases h : vrow (a, b, c) = true
  · have := vrow_iff.1 h
    rw [if_pos h]; simp only; omega
  · rw [if_neg h]; omega
def tcM : List S33 → Int → Int
  | [], n => n
  | x :: r, n => tcM r (n + cost (x.f0, x.f1, x.f2))
theorem spec_TotalCost_ev (l : List S33) (hl : l.length ≤ 1152921504606846976) : Ev (fun k => spec_TotalCost.f k l) (tcM l 0) := by
  have key : ∀ (r : List S33) (i : Nat) (n : Int), l.drop i = r → 0 ≤ n → n ≤ 4 * i → Ev (fun k => spec_TotalCost.l0 k l n (i : Int)) (tcM r n) := by
    intro r
    induction r with
    | nil =>
      intro i n h h0 hn
      refine Ev.succ ?_
      simp only [spec_TotalCost.l0]
      exact Ev.neg (drop_nil_lt h) (Ev.now _)
    | cons x r ih =>
      intro i n h h0 hn
      obtain ⟨h1, h2, h3⟩ := rdI h
      have hc := cost_bd (x.f0, x.f1, x.f2)
      refine Ev.succ ?_
      simp only [spec_TotalCost.l0, h2, nxt (show l.length ≤ 4611686018427387904 by omega) h1, spec_RowCost_f, Option.bind_some, w64 (x := n + cost (x.f0, x.f1, x.f2)) (by omega) (by omega)]
      exact Ev.pos h1 (Ev.pos (Int.natCast_nonneg _) (ih (i + 1) _ h3 (by omega) (by omega)))
  exact key l 0 0 rfl (by omega) (by omega)
theorem impl_TotalCost_ev (l : List S33) (hl : l.length ≤ 1152921504606846976) : Ev (fun k => impl_TotalCost.f k l) (tcM l 0) := by
  have key : ∀ (r : List S33) (i : Nat) (n : Int), l.drop i = r → 0 ≤ n → n ≤ 4 * i → Ev (fun k => impl_TotalCost.l0 k n l (l.length : Int) (i : Int)) (tcM r n) := by
    intro r
    induction r with
    | nil =>
      intro i n h h0 hn
      refine Ev.succ ?_
      simp only [impl_TotalCost.l0]
      exact Ev.neg (drop_nil_lt h) (Ev.now _)
    | cons x r ih =>
      intro i n h h0 hn
      obtain ⟨h1, h2, h3⟩ := rdI h
      have hc := cost_bd (x.f0, x.f1, x.f2)
      refine Ev.succ ?_
      simp only [impl_TotalCost.l0, h2, nxt (show l.length ≤ 4611686018427387904 by omega) h1, impl_RowCost_f, Option.bind_some, w64 (x := n + cost (x.f0, x.f1, x.f2)) (by omega) (by omega)]
      exact Ev.pos h1 (Ev.pos (Int.natCast_nonneg _) (Ev.pos h1 (ih (i + 1) _ h3 (by omega) (by omega))))
  exact key l 0 0 rfl (by omega) (by omega)
theorem tcM_bd : ∀ (l : List S33) (n : Int), n ≤ tcM l n ∧ tcM l n ≤ n + 4 * l.length
  | [], n => by simp [tcM]
  | x :: r, n => by
    have hc := cost_bd (x.f0, x.f1, x.f2)
    have := tcM_bd r (n + cost (x.f0, x.f1, x.f2))
    simp only [tcM, List.length_cons]
    omega
def vpM (l : List S33) : Bool := avM l && (decide (1 ≤ tcM l 0) && decide (tcM l 0 ≤ 8))
theorem spec_IsValidPage_ev (l : List S33) (hl : l.length ≤ 1152921504606846976) : Ev (fun k => spec_IsValidPage.f k l) (vpM l) := by
  simp only [spec_IsValidPage.f, l1In_f, Option.bind_some]
  unfold vpM
  refine Ev.bind (spec_AreValidRows_ev l (by omega)) ?_
  by_cases h : avM l = true
  · refine Ev.pos h (Ev.tl (spec_TotalCost_ev l hl) ?_)
    rw [h]; rfl
  · exact Ev.neg h (Ev.now' (by simp [h]))
theorem impl_IsValidPage_ev (l : List S33) (hl : l.length ≤ 1152921504606846976) : Ev (fun k => impl_IsValidPage.f k l) (vpM l) := by
  simp only [impl_IsValidPage.f, within_f, Option.bind_some]
  unfold vpM
  refine Ev.bind (impl_AreValidRows_ev l (by omega)) ?_
  by_cases h : avM l = true
  · refine Ev.pos h (Ev.tl (impl_TotalCost_ev l hl) ?_)
    rw [h]; rfl
  · exact Ev.neg h (Ev.now' (by simp [h]))
theorem FnExactIsValidPage {G : Prop} (l : List S26) (g : l.length ≤ 9223372036854775807 ∧ G) : ∃ k, laws_FnExactIsValidPage.f k l = some true := by
  refine Ev.rounds ?_
  simp only [laws_FnExactIsValidPage.f]
  by_cases hl : (l.length : Int) ≤ 1048576
  · have hm : (l.map cvR).length ≤ 4611686018427387904 := by rw [map_len]; omega
    have hn : (l.map cvR).length ≤ 1152921504606846976 := by rw [map_len]; omega
    simp only [szPage_small l _ (Int.le_refl _) hl, Option.bind_some]
    refine Ev.neg (by omega) (Ev.bind (toPage_ev l hl) (Ev.bind (spec_IsValidPage_ev _ hn) (Ev.bind (toPage_ev l hl) (Ev.bind (impl_IsValidPage_ev _ hn) ?_))))
    exact Ev.neg (by simp) (Ev.bind (toPage_ev l hl) (Ev.tl (eqPage_ev _ hm) rfl))
  · simp only [szPage_big l _ g.1 (by omega) (Int.le_refl _) hl, Option.bind_some]
    exact Ev.pos (by omega) (Ev.now _)

end Go.Proofs.Ytkipmmkjbeeemaa.Pure
