/- a file created on a drawn disk, filled with packed pages and sealed gives its rows back; unsealed it cannot be read and is removed, and what is left reads as before; no further condition. -/
import Derived.Test.YtljpfogplcdcjaaVQFnSealedFilesx50
import Derived.Test.YtljpfogplcdcjaaVCore
namespace Go.Proofs.Ytljpfogplcdcjaa.Pure
open Go.RowKit Go.Proofs.Ytljpfogplcdcjaa.PFnSealedFiles Go.Proofs.YtljpfogplcdcjaaW.PrintWords Go.Proofs.YtljpfogplcdcjaaW.PrintLast Go.Proofs.YtljpfogplcdcjaaW.PrintMore Go.Proofs.Ytljpfogplcdcjaa.Core
set_option linter.unusedVariables false
set_option linter.unusedSimpArgs false
theorem drop_nil_lt {α : Type} {l : List α} {i : Nat} (h : l.drop i = []) : ¬ (i : Int) < (l.length : Int) := by
 have := List.drop_eq_nil_iff.1 h
 omega
theorem rdI {l : List S42} {i : Nat} {b : S42} {r : List S42} (h : l.drop i = b :: r) : (i : Int) < (l.length : Int) ∧ rd_T42 l (i : Int) = b ∧ l.drop (i + 1) = r := by
 obtain ⟨hi, h1, h2⟩ := drop_split h
 refine ⟨by omega, ?_, h2⟩
 unfold rd_T42
 rw [Int.toNat_natCast, List.getD_eq_getElem?_getD, List.getElem?_eq_getElem hi, h1]; rfl
theorem nxt {n i : Nat} (hn : n ≤ 4611686018427387904) (h : (i : Int) < (n : Int)) : wrap64 ((i : Int) + 1) = ((i + 1 : Nat) : Int) := by
 rw [w64 (by omega) (by omega)]; omega
def vrow (r : Int × Int × Int) : Bool := (decide (0 ≤ r.1) && decide (r.1 ≤ 9)) && ((decide (0 ≤ r.2.1) && decide (r.2.1 ≤ 99)) && (decide (0 ≤ r.2.2) && decide (r.2.2 ≤ 3)))
theorem vrow_iff {a b c : Int} : vrow (a, b, c) = true ↔ (0 ≤ a ∧ a ≤ 9) ∧ (0 ≤ b ∧ b ≤ 99) ∧ 0 ≤ c ∧ c ≤ 3 := by simp [vrow]
def allV (l : List S42) : Bool := l.all fun x => vrow (x.f0, x.f1, x.f2)
def avM (l : List S42) : Bool := allV l && decide ((l.length : Int) ≤ 24)
theorem l1In_f (a b c : Int) : spec_l1In.f a b c = some (decide (b ≤ a) && decide (a ≤ c)) := by
 by_cases h : b ≤ a <;> simp [spec_l1In.f, h]
theorem spec_IsValidRow_f (a b c : Int) : spec_IsValidRow.f a b c = some (vrow (a, b, c)) := by
 simp only [spec_IsValidRow.f, l1In_f, Option.bind_some, vrow]
 cases (decide (0 ≤ a) && decide (a ≤ 9)) <;> cases (decide (0 ≤ b) && decide (b ≤ 99)) <;> simp
theorem spec_AreValidRows_ev (l : List S42) (hl : l.length ≤ 4611686018427387904) : Ev (fun k => spec_AreValidRows.f k l) (avM l) := by
 have key : ∀ (r : List S42) (i : Nat), l.drop i = r → Ev (fun k => spec_AreValidRows.l0 k l (i : Int)) (allV r && decide ((l.length : Int) ≤ 24)) := by
  intro r
  induction r with
  | nil =>
   intro i h
   refine Ev.succ ?_
   simp only [spec_AreValidRows.l0]
   exact Ev.neg (drop_nil_lt h) (Ev.now' (by simp [allV]))
  | cons x r ih =>
   intro i h
   obtain ⟨h1, h2, h3⟩ := rdI h
   refine Ev.succ ?_
   simp only [spec_AreValidRows.l0, h2, nxt hl h1, spec_IsValidRow_f, Option.bind_some]
   refine Ev.pos h1 (Ev.pos (Int.natCast_nonneg _) ?_)
   by_cases hv : vrow (x.f0, x.f1, x.f2) = true
   ·refine Ev.pos hv ?_
    have e : allV (x :: r) = allV r := by simp [allV, hv]
    rw [e]; exact ih (i + 1) h3
   ·exact Ev.neg hv (Ev.now' (by simp [allV, hv]))
 exact key l 0 rfl
theorem within_f (a b c : Int) : impl_within.f a b c = some (decide (b ≤ a) && decide (a ≤ c)) := by
 by_cases h : b ≤ a <;> simp [impl_within.f, h]
theorem impl_IsValidRow_f (a b c : Int) : impl_IsValidRow.f a b c = some (vrow (a, b, c)) := by
 simp only [impl_IsValidRow.f, within_f, Option.bind_some, vrow]
 cases (decide (0 ≤ a) && decide (a ≤ 9)) <;> cases (decide (0 ≤ b) && decide (b ≤ 99)) <;> simp
theorem impl_allValid_ev (l : List S42) (hl : l.length ≤ 4611686018427387904) : Ev (fun k => impl_allValid.f k l) (allV l) := by
 have key : ∀ (r : List S42) (i : Nat), l.drop i = r → Ev (fun k => impl_allValid.l0 k l (l.length : Int) (i : Int)) (allV r) := by
  intro r
  induction r with
  | nil =>
   intro i h
   refine Ev.succ ?_
   simp only [impl_allValid.l0]
   exact Ev.neg (drop_nil_lt h) (Ev.now' (by simp [allV]))
  | cons x r ih =>
   intro i h
   obtain ⟨h1, h2, h3⟩ := rdI h
   refine Ev.succ ?_
   simp only [impl_allValid.l0, h2, nxt hl h1, impl_IsValidRow_f, Option.bind_some]
   refine Ev.pos h1 (Ev.pos (Int.natCast_nonneg _) (Ev.pos h1 ?_))
   by_cases hv : vrow (x.f0, x.f1, x.f2) = true
   ·refine Ev.pos hv ?_
    have e : allV (x :: r) = allV r := by simp [allV, hv]
    rw [e]; exact ih (i + 1) h3
   ·exact Ev.neg hv (Ev.now' (by simp [allV, hv]))
 exact key l 0 rfl
theorem impl_AreValidRows_ev (l : List S42) (hl : l.length ≤ 4611686018427387904) : Ev (fun k => impl_AreValidRows.f k l) (avM l) := by
 simp only [impl_AreValidRows.f]
 unfold avM
 by_cases h : (l.length : Int) ≤ 24
 ·refine Ev.pos h (Ev.tl (impl_allValid_ev l hl) ?_)
  simp [h]
 ·exact Ev.neg h (Ev.now' (by simp [h]))
def cost (r : Int × Int × Int) : Int := if vrow r = true then 1 + r.2.2 else 0
theorem impl_RowCost_f (a b c : Int) : impl_RowCost.f a b c = some (cost (a, b, c)) := by
 simp only [impl_RowCost.f, impl_IsValidRow_f, Option.bind_some, cost]
 by_cases h : vrow (a, b, c) = true
 ·have := vrow_iff.1 h
  rw [if_pos h, if_pos h, w64 (by omega) (by omega)]
 ·rw [if_neg h, if_neg h]
theorem spec_RowCost_f (a b c : Int) : spec_RowCost.f a b c = some (cost (a, b, c)) := by
 simp only [spec_RowCost.f, spec_IsValidRow_f, Option.bind_some, cost]
 by_cases h : vrow (a, b, c) = true
 ·have := vrow_iff.1 h
  rw [if_pos h, if_pos h, w64 (by omega) (by omega)]
 ·rw [if_neg h, if_neg h]
theorem cost_bd (r : Int × Int × Int) : 0 ≤ cost r ∧ cost r ≤ 4 := by
 obtain ⟨a, b, c⟩ := r
 unfold cost
 by_cases h : vrow (a, b, c) = true
 ·have := vrow_iff.1 h
  rw [if_pos h]; simp only; omega
 ·rw [if_neg h]; omega
def tcM : List S42 → Int → Int
 | [], n => n
 | x :: r, n => tcM r (n + cost (x.f0, x.f1, x.f2))
theorem spec_TotalCost_ev (l : List S42) (hl : l.length ≤ 1152921504606846976) : Ev (fun k => spec_TotalCost.f k l) (tcM l 0) := by
 have key : ∀ (r : List S42) (i : Nat) (n : Int), l.drop i = r → 0 ≤ n → n ≤ 4 * i → Ev (fun k => spec_TotalCost.l0 k l n (i : Int)) (tcM r n) := by
  intro r
  induction r with
  | nil =>
   intro i n h h0 hn
   refine Ev.succ ?_
   simp only [spec_TotalCost.l0]
   exact Ev.neg (drop_nil_lt h) (Ev.now _)
  | cons x r ih =>
   intro i n h h0 hn
   obtain ⟨h1, h2, h3⟩ := rdI h
   have hc := cost_bd (x.f0, x.f1, x.f2)
   refine Ev.succ ?_
   simp only [spec_TotalCost.l0, h2, nxt (show l.length ≤ 4611686018427387904 by omega) h1, spec_RowCost_f, Option.bind_some, w64 (x := n + cost (x.f0, x.f1, x.f2)) (by omega) (by omega)]
   exact Ev.pos h1 (Ev.pos (Int.natCast_nonneg _) (ih (i + 1) _ h3 (by omega) (by omega)))
 exact key l 0 0 rfl (by omega) (by omega)
theorem impl_TotalCost_ev (l : List S42) (hl : l.length ≤ 1152921504606846976) : Ev (fun k => impl_TotalCost.f k l) (tcM l 0) := by
 have key : ∀ (r : List S42) (i : Nat) (n : Int), l.drop i = r → 0 ≤ n → n ≤ 4 * i → Ev (fun k => impl_TotalCost.l0 k n l (l.length : Int) (i : Int)) (tcM r n) := by
  intro r
  induction r with
  | nil =>
   intro i n h h0 hn
   refine Ev.succ ?_
   simp only [impl_TotalCost.l0]
   exact Ev.neg (drop_nil_lt h) (Ev.now _)
  | cons x r ih =>
   intro i n h h0 hn
   obtain ⟨h1, h2, h3⟩ := rdI h
   have hc := cost_bd (x.f0, x.f1, x.f2)
   refine Ev.succ ?_
   simp only [impl_TotalCost.l0, h2, nxt (show l.length ≤ 4611686018427387904 by omega) h1, impl_RowCost_f, Option.bind_some, w64 (x := n + cost (x.f0, x.f1, x.f2)) (by omega) (by omega)]
   exact Ev.pos h1 (Ev.pos (Int.natCast_nonneg _) (Ev.pos h1 (ih (i + 1) _ h3 (by omega) (by omega))))
 exact key l 0 0 rfl (by omega) (by omega)
theorem tcM_bd : ∀ (l : List S42) (n : Int), n ≤ tcM l n ∧ tcM l n ≤ n + 4 * l.length
 | [], n => by simp [tcM]
 | x :: r, n => by
  have hc := cost_bd (x.f0, x.f1, x.f2)
  have := tcM_bd r (n + cost (x.f0, x.f1, x.f2))
  simp only [tcM, List.length_cons]
  omega
def vpM (l : List S42) : Bool := avM l && (decide (1 ≤ tcM l 0) && decide (tcM l 0 ≤ 8))
theorem spec_IsValidPage_ev (l : List S42) (hl : l.length ≤ 1152921504606846976) : Ev (fun k => spec_IsValidPage.f k l) (vpM l) := by
 simp only [spec_IsValidPage.f, l1In_f, Option.bind_some]
 unfold vpM
 refine Ev.bind (spec_AreValidRows_ev l (by omega)) ?_
 by_cases h : avM l = true
 ·refine Ev.pos h (Ev.tl (spec_TotalCost_ev l hl) ?_)
  rw [h]; rfl
 ·exact Ev.neg h (Ev.now' (by simp [h]))
theorem impl_IsValidPage_ev (l : List S42) (hl : l.length ≤ 1152921504606846976) : Ev (fun k => impl_IsValidPage.f k l) (vpM l) := by
 simp only [impl_IsValidPage.f, within_f, Option.bind_some]
 unfold vpM
 refine Ev.bind (impl_AreValidRows_ev l (by omega)) ?_
 by_cases h : avM l = true
 ·refine Ev.pos h (Ev.tl (impl_TotalCost_ev l hl) ?_)
  rw [h]; rfl
 ·exact Ev.neg h (Ev.now' (by simp [h]))
theorem rdT39 {l : List S39} {i : Nat} {b : S39} {r : List S39} (h : l.drop i = b :: r) : (i : Int) < (l.length : Int) ∧ rd_T39 l (i : Int) = b ∧ l.drop (i + 1) = r := by
 obtain ⟨hi, h1, h2⟩ := drop_split h
 refine ⟨by omega, ?_, h2⟩
 unfold rd_T39
 rw [Int.toNat_natCast, List.getD_eq_getElem?_getD, List.getElem?_eq_getElem hi, h1]; rfl
def vpsM (l : List S39) : Bool := l.all fun x => vpM x.f0
theorem spec_l4Pages_ev (l : List S39) (hl : l.length ≤ 1048576) (hp : ∀ x ∈ l, x.f0.length ≤ 1048576) : Ev (fun k => spec_l4Pages.f k l) (vpsM l) := by
 have key : ∀ (r : List S39) (i : Nat), l.drop i = r → (∀ x ∈ r, x.f0.length ≤ 1048576) → Ev (fun k => spec_l4Pages.l0 k l (i : Int)) (vpsM r) := by
  intro r
  induction r with
  | nil =>
   intro i h hr
   refine Ev.succ ?_
   simp only [spec_l4Pages.l0]
   exact Ev.neg (drop_nil_lt h) (Ev.now _)
  | cons x r ih =>
   intro i h hr
   obtain ⟨h1, h2, h3⟩ := rdT39 h
   have hx := hr x (by simp)
   refine Ev.succ ?_
   simp only [spec_l4Pages.l0, h2, nxt (show l.length ≤ 4611686018427387904 by omega) h1]
   refine Ev.pos h1 (Ev.pos (Int.natCast_nonneg _) (Ev.bind (spec_IsValidPage_ev x.f0 (by omega)) ?_))
   by_cases hv : vpM x.f0 = true
   ·have e : vpsM (x :: r) = vpsM r := by simp [vpsM, hv]
    rw [e]
    exact Ev.pos hv (ih (i + 1) h3 (fun y hy => hr y (by simp [hy])))
   ·exact Ev.neg hv (Ev.now' (by simp [vpsM, hv]))
 exact key l 0 rfl hp
theorem impl_validPages_ev (l : List S39) (hl : l.length ≤ 1048576) (hp : ∀ x ∈ l, x.f0.length ≤ 1048576) : Ev (fun k => impl_validPages.f k l) (vpsM l) := by
 have key : ∀ (r : List S39) (i : Nat), l.drop i = r → (∀ x ∈ r, x.f0.length ≤ 1048576) → Ev (fun k => impl_validPages.l0 k l (l.length : Int) (i : Int)) (vpsM r) := by
  intro r
  induction r with
  | nil =>
   intro i h hr
   refine Ev.succ ?_
   simp only [impl_validPages.l0]
   exact Ev.neg (drop_nil_lt h) (Ev.now _)
  | cons x r ih =>
   intro i h hr
   obtain ⟨h1, h2, h3⟩ := rdT39 h
   have hx := hr x (by simp)
   refine Ev.succ ?_
   simp only [impl_validPages.l0, h2, nxt (show l.length ≤ 4611686018427387904 by omega) h1]
   refine Ev.pos h1 (Ev.pos (Int.natCast_nonneg _) (Ev.pos h1 (Ev.bind (impl_IsValidPage_ev x.f0 (by omega)) ?_)))
   by_cases hv : vpM x.f0 = true
   ·have e : vpsM (x :: r) = vpsM r := by simp [vpsM, hv]
    rw [e]
    exact Ev.pos hv (ih (i + 1) h3 (fun y hy => hr y (by simp [hy])))
   ·exact Ev.neg hv (Ev.now' (by simp [vpsM, hv]))
 exact key l 0 rfl hp
theorem rdT87 {l : List S87} {i : Nat} {b : S87} {r : List S87} (h : l.drop i = b :: r) : (i : Int) < (l.length : Int) ∧ rd_T87 l (i : Int) = b ∧ l.drop (i + 1) = r := by
 obtain ⟨hi, h1, h2⟩ := drop_split h
 refine ⟨by omega, ?_, h2⟩
 unfold rd_T87
 rw [Int.toNat_natCast, List.getD_eq_getElem?_getD, List.getElem?_eq_getElem hi, h1]; rfl
def cpM : List S87 → Int → Int
 | [], n => n
 | x :: r, n => cpM r (n + x.f1.length)
theorem spec_CountPages_ev (l : List S87) (m : Int) (hl : l.length ≤ 1048576) (hp : ∀ x ∈ l, x.f1.length ≤ 1048576) : Ev (fun k => spec_CountPages.f k l m) (cpM l 0) := by
 have key : ∀ (r : List S87) (i : Nat) (n : Int), l.drop i = r → (∀ x ∈ r, x.f1.length ≤ 1048576) → 0 ≤ n → n ≤ 1048576 * i → Ev (fun k => spec_CountPages.l0 k n (i : Int) l m) (cpM r n) := by
  intro r
  induction r with
  | nil =>
   intro i n h hr h0 hn
   refine Ev.succ ?_
   simp only [spec_CountPages.l0]
   exact Ev.neg (drop_nil_lt h) (Ev.now _)
  | cons x r ih =>
   intro i n h hr h0 hn
   obtain ⟨h1, h2, h3⟩ := rdT87 h
   have hx := hr x (by simp)
   refine Ev.succ ?_
   simp only [spec_CountPages.l0, h2, nxt (show l.length ≤ 4611686018427387904 by omega) h1, w64 (x := n + (x.f1.length : Int)) (by omega) (by omega)]
   exact Ev.pos h1 (Ev.pos (Int.natCast_nonneg _) (ih (i + 1) _ h3 (fun y hy => hr y (by simp [hy])) (by omega) (by omega)))
 exact key l 0 0 rfl hp (by omega) (by omega)
theorem impl_CountPages_ev (l : List S87) (m : Int) (hl : l.length ≤ 1048576) (hp : ∀ x ∈ l, x.f1.length ≤ 1048576) : Ev (fun k => impl_CountPages.f k l m) (cpM l 0) := by
 have key : ∀ (r : List S87) (i : Nat) (n : Int), l.drop i = r → (∀ x ∈ r, x.f1.length ≤ 1048576) → 0 ≤ n → n ≤ 1048576 * i → Ev (fun k => impl_CountPages.l0 k n l (l.length : Int) (i : Int)) (cpM r n) := by
  intro r
  induction r with
  | nil =>
   intro i n h hr h0 hn
   refine Ev.succ ?_
   simp only [impl_CountPages.l0]
   exact Ev.neg (drop_nil_lt h) (Ev.now _)
  | cons x r ih =>
   intro i n h hr h0 hn
   obtain ⟨h1, h2, h3⟩ := rdT87 h
   have hx := hr x (by simp)
   refine Ev.succ ?_
   simp only [impl_CountPages.l0, h2, nxt (show l.length ≤ 4611686018427387904 by omega) h1, w64 (x := n + (x.f1.length : Int)) (by omega) (by omega)]
   exact Ev.pos h1 (Ev.pos (Int.natCast_nonneg _) (Ev.pos h1 (ih (i + 1) _ h3 (fun y hy => hr y (by simp [hy])) (by omega) (by omega))))
 exact key l 0 0 rfl hp (by omega) (by omega)
def dM (n : Int) : Option Int → List S87 → Bool
 | _, [] => true
 | p, x :: r => (decide (0 ≤ x.f0) && decide (x.f0 ≤ wrap64 (n - 1))) && ((match p with | none => true | some q => !decide (x.f0 ≤ q)) && (vpsM x.f1 && ((x.f3 || decide (x.f2 = 0)) && dM n (some x.f0) r)))
def idM (l : List S87) (n : Int) : Bool := dM n none l && ((decide (0 ≤ n) && decide (n ≤ 1000)) && decide (cpM l 0 ≤ 40))
theorem spec_IsValidDisk_ev (l : List S87) (n : Int) (hl : l.length ≤ 1048576) (hp0 : ∀ x ∈ l, x.f1.length ≤ 1048576 ∧ ∀ q ∈ x.f1, q.f0.length ≤ 1048576) : Ev (fun k => spec_IsValidDisk.f k l n) (idM l n) := by
 obtain ⟨T, hT⟩ : ∃ T, T = ((decide (0 ≤ n) && decide (n ≤ 1000)) && decide (cpM l 0 ≤ 40)) := ⟨_, rfl⟩
 have key : ∀ (r : List S87) (i : Nat) (p : Option Int), l.drop i = r → ((i = 0 ∧ p = none) ∨ ∃ j y, i = j + 1 ∧ l.drop j = y :: r ∧ p = some y.f0) → (∀ x ∈ r, x.f1.length ≤ 1048576 ∧ ∀ q ∈ x.f1, q.f0.length ≤ 1048576) → Ev (fun k => spec_IsValidDisk.l0 k (i : Int) l n) (dM n p r && T) := by
  intro r
  induction r with
  | nil =>
   intro i p h hp hr
   refine Ev.succ ?_
   simp only [spec_IsValidDisk.l0, l1In_f, Option.bind_some]
   refine Ev.neg (drop_nil_lt h) ?_
   by_cases hn : (decide (0 ≤ n) && decide (n ≤ 1000)) = true
   ·exact Ev.pos hn (Ev.tl (spec_CountPages_ev l n hl (fun x hx => (hp0 x hx).1)) (by rw [hT]; simp only [dM, hn, Bool.true_and]))
   ·exact Ev.neg hn (Ev.now' (by rw [hT]; simp only [Bool.not_eq_true] at hn; simp only [dM, hn, Bool.false_and, Bool.and_false]))
  | cons x r ih =>
   intro i p h hp hr
   obtain ⟨h1, h2, h3⟩ := rdT87 h
   have hx := hr x (by simp)
   have hr' := ih (i + 1) (some x.f0) h3 (Or.inr ⟨i, x, rfl, h, rfl⟩) (fun y hy => hr y (by simp [hy]))
   have rest : Ev (fun k => (spec_l4Pages.f k x.f1).bind fun t => if t = true then (if x.f3 = true then spec_IsValidDisk.l0 k (((i + 1 : Nat) : Int)) l n else if x.f2 = 0 then spec_IsValidDisk.l0 k (((i + 1 : Nat) : Int)) l n else some false) else some false) (vpsM x.f1 && ((x.f3 || decide (x.f2 = 0)) && (dM n (some x.f0) r && T))) := by
    refine Ev.bind (spec_l4Pages_ev x.f1 hx.1 hx.2) ?_
    by_cases hv : vpsM x.f1 = true
    ·rw [hv, Bool.true_and]
     by_cases hs : x.f3 = true
     ·have e : ((x.f3 || decide (x.f2 = 0)) && (dM n (some x.f0) r && T)) = (dM n (some x.f0) r && T) := by rw [hs, Bool.true_or, Bool.true_and]
      rw [e]
      exact Ev.pos (by trivial) (Ev.pos hs hr')
     ·by_cases hc : x.f2 = 0
      ·have e : ((x.f3 || decide (x.f2 = 0)) && (dM n (some x.f0) r && T)) = (dM n (some x.f0) r && T) := by rw [decide_eq_true hc, Bool.or_true, Bool.true_and]
       rw [e]
       exact Ev.pos (by trivial) (Ev.neg hs (Ev.pos hc hr'))
      ·exact Ev.pos (by trivial) (Ev.neg hs (Ev.neg hc (Ev.now' (by simp [hs, hc]))))
    ·exact Ev.neg hv (Ev.now' (by simp [hv]))
   refine Ev.succ ?_
   simp only [spec_IsValidDisk.l0, h2, l1In_f, Option.bind_some, nxt (show l.length ≤ 4611686018427387904 by omega) h1]
   refine Ev.pos h1 (Ev.pos (Int.natCast_nonneg _) ?_)
   by_cases ha : (decide (0 ≤ x.f0) && decide (x.f0 ≤ wrap64 (n - 1))) = true
   ·refine Ev.pos ha ?_
    rcases hp with ⟨hi, hp⟩ | ⟨j, y, hj, hy, hp⟩
    ·have e : (dM n p (x :: r) && T) = (vpsM x.f1 && ((x.f3 || decide (x.f2 = 0)) && (dM n (some x.f0) r && T))) := by
      subst hp
      simp only [dM, ha, Bool.true_and, Bool.and_assoc]
     rw [e]
     exact Ev.neg (by omega) rest
    ·obtain ⟨j1, j2, _⟩ := rdT87 hy
     have ew : wrap64 ((i : Int) - 1) = (j : Int) := by rw [w64 (by omega) (by omega)]; omega
     simp only [ew, j2]
     refine Ev.pos (by omega) (Ev.pos (Int.natCast_nonneg _) (Ev.pos j1 ?_))
     by_cases ho : x.f0 ≤ y.f0
     ·exact Ev.pos ho (Ev.now' (by subst hp; simp [dM, ho]))
     ·have e : (dM n p (x :: r) && T) = (vpsM x.f1 && ((x.f3 || decide (x.f2 = 0)) && (dM n (some x.f0) r && T))) := by
       subst hp
       simp only [dM, ha, decide_eq_false ho, Bool.not_false, Bool.true_and, Bool.and_assoc]
      rw [e]
      exact Ev.neg ho rest
   ·exact Ev.neg ha (Ev.now' (by simp only [Bool.not_eq_true] at ha; simp only [dM, ha, Bool.false_and]))
 have := key l 0 none rfl (Or.inl ⟨rfl, rfl⟩) hp0
 unfold idM
 rw [← hT]
 exact this
theorem impl_IsValidDisk_ev (l : List S87) (n : Int) (hl : l.length ≤ 1048576) (hp0 : ∀ x ∈ l, x.f1.length ≤ 1048576 ∧ ∀ q ∈ x.f1, q.f0.length ≤ 1048576) : Ev (fun k => impl_IsValidDisk.f k l n) (idM l n) := by
 have key : ∀ (r : List S87) (i : Nat) (p : Option Int), l.drop i = r → ((i = 0 ∧ p = none) ∨ ∃ j y, i = j + 1 ∧ l.drop j = y :: r ∧ p = some y.f0) → (∀ x ∈ r, x.f1.length ≤ 1048576 ∧ ∀ q ∈ x.f1, q.f0.length ≤ 1048576) → Ev (fun k => impl_IsValidDisk.l0 k l (l.length : Int) (i : Int) l n) (dM n p r) := by
  intro r
  induction r with
  | nil =>
   intro i p h hp hr
   refine Ev.succ ?_
   simp only [impl_IsValidDisk.l0]
   exact Ev.neg (drop_nil_lt h) (Ev.now' rfl)
  | cons x r ih =>
   intro i p h hp hr
   obtain ⟨h1, h2, h3⟩ := rdT87 h
   have hx := hr x (by simp)
   have hr' := ih (i + 1) (some x.f0) h3 (Or.inr ⟨i, x, rfl, h, rfl⟩) (fun y hy => hr y (by simp [hy]))
   have rest : Ev (fun k => (impl_validPages.f k x.f1).bind fun t => if t = true then (if x.f3 = true then impl_IsValidDisk.l0 k l (l.length : Int) (((i + 1 : Nat) : Int)) l n else if x.f2 = 0 then impl_IsValidDisk.l0 k l (l.length : Int) (((i + 1 : Nat) : Int)) l n else some false) else some false) (vpsM x.f1 && ((x.f3 || decide (x.f2 = 0)) && (dM n (some x.f0) r))) := by
    refine Ev.bind (impl_validPages_ev x.f1 hx.1 hx.2) ?_
    by_cases hv : vpsM x.f1 = true
    ·rw [hv, Bool.true_and]
     by_cases hs : x.f3 = true
     ·have e : ((x.f3 || decide (x.f2 = 0)) && (dM n (some x.f0) r)) = (dM n (some x.f0) r) := by rw [hs, Bool.true_or, Bool.true_and]
      rw [e]
      exact Ev.pos (by trivial) (Ev.pos hs hr')
     ·by_cases hc : x.f2 = 0
      ·have e : ((x.f3 || decide (x.f2 = 0)) && (dM n (some x.f0) r)) = (dM n (some x.f0) r) := by rw [decide_eq_true hc, Bool.or_true, Bool.true_and]
       rw [e]
       exact Ev.pos (by trivial) (Ev.neg hs (Ev.pos hc hr'))
      ·exact Ev.pos (by trivial) (Ev.neg hs (Ev.neg hc (Ev.now' (by simp [hs, hc]))))
    ·exact Ev.neg hv (Ev.now' (by simp [hv]))
   refine Ev.succ ?_
   simp only [impl_IsValidDisk.l0, h2, within_f, Option.bind_some, nxt (show l.length ≤ 4611686018427387904 by omega) h1]
   refine Ev.pos h1 (Ev.pos (Int.natCast_nonneg _) (Ev.pos h1 ?_))
   by_cases ha : (decide (0 ≤ x.f0) && decide (x.f0 ≤ wrap64 (n - 1))) = true
   ·refine Ev.pos ha ?_
    rcases hp with ⟨hi, hp⟩ | ⟨j, y, hj, hy, hp⟩
    ·have e : (dM n p (x :: r)) = (vpsM x.f1 && ((x.f3 || decide (x.f2 = 0)) && (dM n (some x.f0) r))) := by
      subst hp
      simp only [dM, ha, Bool.true_and, Bool.and_assoc]
     rw [e]
     exact Ev.neg (by omega) rest
    ·obtain ⟨j1, j2, _⟩ := rdT87 hy
     have ew : wrap64 ((i : Int) - 1) = (j : Int) := by rw [w64 (by omega) (by omega)]; omega
     simp only [ew, j2]
     refine Ev.pos (by omega) (Ev.pos (Int.natCast_nonneg _) (Ev.pos j1 ?_))
     by_cases ho : x.f0 ≤ y.f0
     ·exact Ev.pos ho (Ev.now' (by subst hp; simp [dM, ho]))
     ·have e : (dM n p (x :: r)) = (vpsM x.f1 && ((x.f3 || decide (x.f2 = 0)) && (dM n (some x.f0) r))) := by
       subst hp
       simp only [dM, ha, decide_eq_false ho, Bool.not_false, Bool.true_and, Bool.and_assoc]
      rw [e]
      exact Ev.neg ho rest
   ·exact Ev.neg ha (Ev.now' (by simp only [Bool.not_eq_true] at ha; simp only [dM, ha, Bool.false_and]))
 have hj : ∀ b, Ev (fun k => impl_IsValidDisk.j0 k b l n) (!b && dM n none l) := by
  intro b
  refine Ev.succ ?_
  simp only [impl_IsValidDisk.j0]
  cases b with
  | false => exact Ev.neg (by decide) (by simpa using key l 0 none rfl (Or.inl ⟨rfl, rfl⟩) hp0)
  | true => exact Ev.pos (by trivial) (Ev.now' rfl)
 simp only [impl_IsValidDisk.f, within_f, Option.bind_some]
 by_cases hn : (decide (0 ≤ n) && decide (n ≤ 1000)) = true
 ·refine Ev.pos hn (Ev.bind (impl_CountPages_ev l n hl (fun x hx => (hp0 x hx).1)) ?_)
  have e : idM l n = (!(decide (cpM l 0 > 40)) && dM n none l) := by
   unfold idM
   rw [hn, Bool.true_and]
   by_cases hc : cpM l 0 ≤ 40
   ·rw [decide_eq_true hc, decide_eq_false (by omega)]; simp
   ·rw [decide_eq_false hc, decide_eq_true (by omega)]; simp
  rw [e]
  exact hj _
 ·refine Ev.neg hn ?_
  have e : idM l n = (!true && dM n none l) := by
   simp only [Bool.not_eq_true] at hn
   unfold idM
   rw [hn]; simp
  rw [e]
  exact hj _
def crM (l : List S87) (n : Int) : List S87 × Int × Int × Bool :=
 if idM l n = true then (if n ≥ 1000 then (l, n, 0, false) else (l ++ [⟨n, [], 0, false⟩], n + 1, n, true)) else (l, n, 0, false)
theorem idM_n {l : List S87} {n : Int} (h : idM l n = true) : 0 ≤ n ∧ n ≤ 1000 := by
 simp only [idM, Bool.and_eq_true, decide_eq_true_eq] at h
 omega
theorem spec_l6Copy_ev (l : List S87) (n : Int) (hl : l.length ≤ 1048576) (hp0 : ∀ x ∈ l, x.f1.length ≤ 1048576 ∧ ∀ q ∈ x.f1, q.f0.length ≤ 1048576) : Ev (fun k => spec_l6Copy.f k l n) (l, n) := by
 have inner : ∀ (x : S87) (rr : List S87) (i : Nat) (acc : List S87) (R : List S87 × Int), l.drop i = x :: rr → acc.length ≤ 1048576 → Ev (fun k => spec_l6Copy.l0 k ((i + 1 : Nat) : Int) l n (acc ++ [x]) n) R → (x.f1.length ≤ 1048576 ∧ ∀ q ∈ x.f1, q.f0.length ≤ 1048576) →
   ∀ (r pd : List S39) (j : Nat), x.f1.drop j = r → pd ++ r = x.f1 → Ev (fun k => spec_l6Copy.l1 k (i : Int) (j : Int) l n acc n x.f0 pd x.f2 x.f3) R := by
  intro x rr i acc R h ha hR hx r
  obtain ⟨h1, h2, h3⟩ := rdT87 h
  induction r with
  | nil =>
   intro pd j hd he
   rw [List.append_nil] at he
   subst he
   refine Ev.succ ?_
   simp only [spec_l6Copy.l1, h2, nxt (show l.length ≤ 4611686018427387904 by omega) h1]
   exact Ev.pos (Int.natCast_nonneg _) (Ev.pos h1 (Ev.neg (drop_nil_lt hd) (Ev.pos (by omega) hR)))
  | cons p r ih =>
   intro pd j hd he
   obtain ⟨g1, g2, g3⟩ := rdT39 hd
   have hq := hx.2 p (by rw [← he]; simp)
   have hpl : pd.length ≤ 1048576 := by have := congrArg List.length he; rw [List.length_append] at this; omega
   refine Ev.succ ?_
   simp only [spec_l6Copy.l1, h2, g2, nxt (show x.f1.length ≤ 4611686018427387904 by omega) g1, Option.bind_some, List.nil_append]
   refine Ev.pos (Int.natCast_nonneg _) (Ev.pos h1 (Ev.pos g1 (Ev.pos (Int.natCast_nonneg _) (Ev.pos (by simp only [List.length_nil]; omega) (Ev.pos (by omega) ?_)))))
   exact ih (pd ++ [p]) (j + 1) g3 (by rw [List.append_assoc]; exact he)
 have key : ∀ (r : List S87) (i : Nat) (acc : List S87), l.drop i = r → acc ++ r = l → Ev (fun k => spec_l6Copy.l0 k (i : Int) l n acc n) (l, n) := by
  intro r
  induction r with
  | nil =>
   intro i acc h he
   rw [List.append_nil] at he
   subst he
   refine Ev.succ ?_
   simp only [spec_l6Copy.l0]
   exact Ev.neg (drop_nil_lt h) (Ev.now _)
  | cons x r ih =>
   intro i acc h he
   obtain ⟨h1, h2, h3⟩ := rdT87 h
   have hal : acc.length ≤ 1048576 := by have := congrArg List.length he; rw [List.length_append] at this; omega
   refine Ev.succ ?_
   simp only [spec_l6Copy.l0, h2]
   refine Ev.pos h1 (Ev.pos (Int.natCast_nonneg _) ?_)
   exact inner x r i acc (l, n) h hal (ih (i + 1) (acc ++ [x]) h3 (by rw [List.append_assoc]; exact he)) (hp0 x (by rw [← he]; simp)) x.f1 [] 0 rfl rfl
 exact key l 0 [] rfl rfl
theorem spec_CreateFile_ev (l : List S87) (n : Int) (hl : l.length ≤ 1048576) (hp0 : ∀ x ∈ l, x.f1.length ≤ 1048576 ∧ ∀ q ∈ x.f1, q.f0.length ≤ 1048576) : Ev (fun k => spec_CreateFile.f k l n) (crM l n) := by
 simp only [spec_CreateFile.f]
 refine Ev.bind (spec_l6Copy_ev l n hl hp0) (Ev.bind (spec_IsValidDisk_ev l n hl hp0) ?_)
 unfold crM
 by_cases hv : idM l n = true
 ·have hn := idM_n hv
  refine Ev.pos hv ?_
  rw [if_pos hv]
  by_cases h1 : n ≥ 1000
  ·refine Ev.pos h1 ?_; rw [if_pos h1]; exact Ev.now _
  ·refine Ev.neg h1 ?_; rw [if_neg h1]; exact Ev.pos (by (try dsimp only); omega) (Ev.now' (by (try dsimp only); rw [w64 (by omega) (by omega)]))
 ·refine Ev.neg hv ?_
  rw [if_neg hv]; exact Ev.now _
theorem cpM_le : ∀ (l : List S87) (n : Int), n ≤ cpM l n
 | [], n => Int.le_refl _
 | x :: r, n => by simp only [cpM]; have := cpM_le r (n + x.f1.length); omega
theorem cpM_mem : ∀ (l : List S87) (n : Int), ∀ x ∈ l, n + x.f1.length ≤ cpM l n
 | [], n => by simp
 | y :: r, n => by
  intro x hx
  simp only [cpM]
  rcases List.mem_cons.1 hx with rfl | hx
  ·exact cpM_le r _
  ·have := cpM_mem r (n + y.f1.length) x hx; omega
theorem dM_vps (n : Int) : ∀ (l : List S87) (p : Option Int), dM n p l = true → ∀ x ∈ l, vpsM x.f1 = true
 | [], p, _ => by simp
 | y :: r, p, h => by
  intro x hx
  simp only [dM, Bool.and_eq_true] at h
  rcases List.mem_cons.1 hx with rfl | hx
  ·exact h.2.2.1
  ·exact dM_vps n r _ h.2.2.2.2 x hx
theorem vps_mem {l : List S39} (h : vpsM l = true) : ∀ x ∈ l, vpM x.f0 = true := by
 intro x hx
 induction l with
 | nil => simp at hx
 | cons y r ih =>
  have h2 : vpM y.f0 = true ∧ vpsM r = true := by simpa [vpsM] using h
  rcases List.mem_cons.1 hx with rfl | hx
  ·exact h2.1
  ·exact ih h2.2 hx
theorem vpM_len {l : List S42} (h : vpM l = true) : l.length ≤ 24 := by
 unfold vpM avM at h; simp at h; omega
theorem idM_small {l : List S87} {n : Int} (h : idM l n = true) : ∀ x ∈ l, x.f1.length ≤ 40 ∧ ∀ p ∈ x.f1, p.f0.length ≤ 24 := by
 intro x hx
 simp only [idM, Bool.and_eq_true, decide_eq_true_eq] at h
 have h1 := cpM_mem l 0 x hx
 exact ⟨by omega, fun p hp => vpM_len (vps_mem (dM_vps n l none h.1 x hx) p hp)⟩
def faM (a : Int) : Nat → List S87 → Int
 | _, [] => -1
 | i, x :: r => if x.f0 = a then (i : Int) else faM a (i + 1) r
theorem faM_cases (a : Int) : ∀ (l : List S87) (i : Nat), faM a i l = -1 ∨ ∃ (j : Nat) (x : S87), l[j]? = some x ∧ x.f0 = a ∧ faM a i l = ((i + j : Nat) : Int)
 | [], i => .inl rfl
 | x :: r, i => by
  simp only [faM]
  by_cases h : x.f0 = a
  ·rw [if_pos h]; exact .inr ⟨0, x, rfl, h, rfl⟩
  ·rw [if_neg h]
   rcases faM_cases a r (i + 1) with h1 | ⟨j, y, h1, h2, h3⟩
   ·exact .inl h1
   ·exact .inr ⟨j + 1, y, by simpa using h1, h2, by rw [h3]; congr 1; omega⟩
theorem faM_at {l : List S87} {a : Int} (h : ¬ faM a 0 l < 0) : 0 ≤ faM a 0 l ∧ faM a 0 l < (l.length : Int) ∧ rd_T87 l (faM a 0 l) ∈ l := by
 rcases faM_cases a l 0 with h1 | ⟨j, x, h1, h2, h3⟩
 ·omega
 ·obtain ⟨hj, hx⟩ := List.getElem?_eq_some_iff.1 h1
  rw [h3, Nat.zero_add]
  refine ⟨by omega, by omega, ?_⟩
  unfold rd_T87
  rw [Int.toNat_natCast, List.getD_eq_getElem?_getD, h1, ← hx]
  exact List.getElem_mem hj
def apL (l : List S87) (j : Nat) (q : List S42) : List S87 := l.set j ⟨(rd_T87 l j).f0, (rd_T87 l j).f1 ++ [⟨q⟩], (rd_T87 l j).f2, false⟩
def apM (l : List S87) (n a : Int) (q : List S42) : List S87 × Int × Bool :=
 if idM l n = true then (if faM a 0 l < 0 then (l, n, false) else (if (rd_T87 l (faM a 0 l)).f3 = true then (l, n, false) else (if vpM q = true then (if cpM l 0 ≥ 40 then (l, n, false) else (apL l (faM a 0 l).toNat q, n, true)) else (l, n, false)))) else (l, n, false)
theorem idM_cp {l : List S87} {n : Int} (h : idM l n = true) : cpM l 0 ≤ 40 := by
 simp only [idM, Bool.and_eq_true, decide_eq_true_eq] at h
 exact h.2.2
theorem spec_l6At_ev (l : List S87) (n a : Int) (hl : l.length ≤ 1048576) : Ev (fun k => spec_l6At.f k l n a) (faM a 0 l) := by
 have key : ∀ (r : List S87) (i : Nat), l.drop i = r → Ev (fun k => spec_l6At.l0 k a (i : Int) l n) (faM a i r) := by
  intro r
  induction r with
  | nil =>
   intro i h
   refine Ev.succ ?_
   simp only [spec_l6At.l0, faM]
   exact Ev.neg (drop_nil_lt h) (Ev.now _)
  | cons x r ih =>
   intro i h
   obtain ⟨h1, h2, h3⟩ := rdT87 h
   refine Ev.succ ?_
   simp only [spec_l6At.l0, faM, h2, nxt (show l.length ≤ 4611686018427387904 by omega) h1]
   refine Ev.pos h1 (Ev.pos (Int.natCast_nonneg _) ?_)
   by_cases hz : x.f0 = a
   ·rw [if_pos hz]; exact Ev.pos hz (Ev.now _)
   ·rw [if_neg hz]; exact Ev.neg hz (ih (i + 1) h3)
 exact key l 0 rfl
theorem spec_AppendPage_ev (l : List S87) (n a : Int) (q : List S42) (hl : l.length ≤ 1048576) (hp0 : ∀ x ∈ l, x.f1.length ≤ 1048576 ∧ ∀ q ∈ x.f1, q.f0.length ≤ 1048576) (hq : q.length ≤ 1048576) : Ev (fun k => spec_AppendPage.f k l n a q) (apM l n a q) := by
 simp only [spec_AppendPage.f]
 refine Ev.bind (spec_l6Copy_ev l n hl hp0) (Ev.bind (spec_l6At_ev l n a hl) (Ev.bind (spec_IsValidDisk_ev l n hl hp0) ?_))
 dsimp only
 unfold apM
 by_cases hv : idM l n = true
 ·rw [if_pos hv]; refine Ev.pos hv ?_
  have hcp := idM_cp hv
  by_cases hf : faM a 0 l < 0
  ·rw [if_pos hf]; exact Ev.pos hf (Ev.now _)
  ·rw [if_neg hf]
   obtain ⟨h1, h2, h3⟩ := faM_at hf
   obtain ⟨j, hj⟩ := Int.eq_ofNat_of_zero_le h1
   rw [hj] at hf h1 h2 h3 ⊢
   have hx := hp0 _ h3
   refine Ev.neg hf (Ev.pos h1 (Ev.pos h2 ?_))
   simp only [Int.toNat_natCast]
   by_cases hz : (rd_T87 l j).f3 = true
   ·rw [if_pos hz]; exact Ev.pos hz (Ev.now _)
   ·rw [if_neg hz]
    refine Ev.neg hz (Ev.bind (spec_IsValidPage_ev q (by omega)) ?_)
    by_cases hvp : vpM q = true
    ·rw [if_pos hvp]
     refine Ev.pos hvp (Ev.bind (spec_CountPages_ev l n hl (fun x hx => (hp0 x hx).1)) ?_)
     by_cases hc : cpM l 0 ≥ 40
     ·rw [if_pos hc]; exact Ev.pos (by omega) (Ev.now _)
     ·rw [if_neg hc]
      refine Ev.neg (by omega) (Ev.pos h2 (Ev.pos (by omega) (Ev.pos (by omega) (Ev.now' ?_))))
      unfold apL
      simp only [Bool.not_eq_true] at hz
      rw [hz]
    ·rw [if_neg hvp]; exact Ev.neg hvp (Ev.now _)
 ·rw [if_neg hv]; exact Ev.neg hv (Ev.now _)
def dgs (n : Nat) : List Int := if h : n = 0 then [] else dgs (n / 10) ++ [48 + ((n % 10 : Nat) : Int)]
termination_by n
decreasing_by omega
theorem dgs_zero : dgs 0 = [] := by rw [dgs, dif_pos rfl]
theorem dgs_pos {n : Nat} (h : n ≠ 0) : dgs n = dgs (n / 10) ++ [48 + ((n % 10 : Nat) : Int)] := by rw [dgs, dif_neg h]
theorem dgs_length : ∀ (k n : Nat), n < 10 ^ k → (dgs n).length ≤ k
 | 0, n, h => by
  have : n = 0 := by simpa using h
  subst this; rw [dgs_zero]; exact Nat.le_refl _
 | k + 1, n, h => by
  by_cases h0 : n = 0
  ·subst h0; rw [dgs_zero]; exact Nat.zero_le _
  ·rw [dgs_pos h0]
   have := dgs_length k (n / 10) (by rw [Nat.pow_succ] at h; omega)
   simp only [List.length_append, List.length_cons, List.length_nil]; omega
def dec (n : Nat) : List Int := if n = 0 then [48] else dgs n
def fmtI (n : Int) : List Int := if n < 0 then 45 :: dec n.natAbs else dec n.natAbs
theorem str_cons (c : Int) (s : List Int) : strOfNums [c] ++ strOfNums s = strOfNums (c :: s) := by
 rw [str_mkB, str_mkB, str_mkB, mkB_append]; rfl
theorem str_append (a b : List Int) : strOfNums a ++ strOfNums b = strOfNums (a ++ b) := by
 rw [str_mkB, str_mkB, str_mkB, mkB_append, List.map_append]
theorem str_minus (s : List Int) : (⟨#[45]⟩ : ByteArray) ++ strOfNums s = strOfNums (45 :: s) := str_cons 45 s
theorem dec_len (n : Nat) (hn : n ≤ 9223372036854775808) : (dec n).length ≤ 19 := by
 unfold dec
 split
 ·decide
 ·exact dgs_length 19 n (by omega)
def frI (a b c : Int) : List Int := if vrow (a, b, c) = true then fmtI a ++ 46 :: (fmtI b ++ 46 :: fmtI c) else []
theorem fmtI_len (n : Int) (h1 : -9223372036854775808 ≤ n) (h2 : n ≤ 9223372036854775807) : (fmtI n).length ≤ 20 := by
 have := dec_len n.natAbs (by omega)
 unfold fmtI
 split
 ·simp only [List.length_cons]; omega
 ·omega
theorem str_dot (s : List Int) : strOfNums s ++ (⟨#[46]⟩ : ByteArray) = strOfNums (s ++ [46]) := str_append s [46]
def tailI : List S42 → List Int
 | [] => []
 | x :: r => 32 :: (frI x.f0 x.f1 x.f2 ++ tailI r)
def rowsI : List S42 → List Int
 | [] => []
 | x :: r => frI x.f0 x.f1 x.f2 ++ tailI r
def frsI (l : List S42) : List Int := if avM l = true then rowsI l else []
theorem frI_len (a b c : Int) : (frI a b c).length ≤ 62 := by
 unfold frI
 by_cases h : vrow (a, b, c) = true
 ·have hv := vrow_iff.1 h
  have l1 := fmtI_len a (by omega) (by omega)
  have l2 := fmtI_len b (by omega) (by omega)
  have l3 := fmtI_len c (by omega) (by omega)
  rw [if_pos h]
  simp only [List.length_append, List.length_cons]; omega
 ·rw [if_neg h]; simp
theorem tailI_len : ∀ l, (tailI l).length ≤ 63 * l.length
 | [] => by simp [tailI]
 | x :: r => by
  have h1 := frI_len x.f0 x.f1 x.f2
  have h2 := tailI_len r
  simp only [tailI, List.length_cons, List.length_append]; omega
theorem avM_len {l : List S42} (h : avM l = true) : l.length ≤ 24 := by
 unfold avM at h
 simp at h
 omega
theorem str_sp (s : List Int) : strOfNums s ++ (⟨#[32]⟩ : ByteArray) = strOfNums (s ++ [32]) := str_append s [32]
theorem frsI_len (l : List S42) : (frsI l).length ≤ 2000 := by
 unfold frsI
 by_cases h : avM l = true
 ·have h1 := avM_len h
  rw [if_pos h]
  cases l with
  | nil => simp [rowsI]
  | cons x r =>
   have h2 := frI_len x.f0 x.f1 x.f2
   have h3 := tailI_len r
   simp only [List.length_cons] at h1
   simp only [rowsI, List.length_append]; omega
 ·rw [if_neg h]; simp
def pagesI : List S39 → List Int
 | [] => []
 | x :: r => 91 :: (frsI x.f0 ++ (93 :: pagesI r))
def fpM (l : List S39) : List Int := if vpsM l = true then pagesI l else []
theorem str_lb (s : List Int) : strOfNums s ++ (⟨#[91]⟩ : ByteArray) = strOfNums (s ++ [91]) := str_append s [91]
theorem str_rb (s : List Int) : strOfNums s ++ (⟨#[93]⟩ : ByteArray) = strOfNums (s ++ [93]) := str_append s [93]
theorem lb_str (s : List Int) : (⟨#[91]⟩ : ByteArray) ++ strOfNums s = strOfNums (91 :: s) := str_append [91] s
def chkM (l : List UInt8) (x : Int) : Int := l.foldl (fun x b => (x * 37 + (b.toNat : Int) + 1) % 65521) x
theorem chk_step (x : Int) (s : ByteArray) (i : Int) (h0 : 0 ≤ x) (h1 : x < 65521) :
  Int.tmod (wrap64 ((wrap64 ((wrap64 (x * 37)) + (wrap64 (bt s i)))) + 1)) 65521 = (x * 37 + bt s i + 1) % 65521 := by
 have hb := bt_range s i
 rw [bt_w, w64 (x := x * 37) (by omega) (by omega), w64 (x := x * 37 + bt s i) (by omega) (by omega), w64 (by omega) (by omega), Int.tmod_eq_emod_of_nonneg (by omega)]
theorem spec_chk (s : ByteArray) (hs : s.size ≤ 140737488351232) : ∀ (l : List UInt8) (i : Nat) (x : Int), s.data.toList.drop i = l → 0 ≤ x → x < 65521 →
  Ev (fun k => spec_ChecksumOf.l0 k s x (i : Int)) (chkM l x) := by
 intro l
 induction l with
 | nil =>
  intro i x h h0 h1
  refine Ev.succ ?_
  simp only [spec_ChecksumOf.l0, if_neg (dropB_nil h)]
  exact Ev.now _
 | cons b l ih =>
  intro i x h h0 h1
  obtain ⟨h2, h3, h4⟩ := dropB_cons h
  have e := chk_step x s i h0 h1
  rw [h3] at e
  refine Ev.succ ?_
  simp only [spec_ChecksumOf.l0, if_pos h2, if_pos (Int.natCast_nonneg i), h3, e, nx hs h2]
  exact ih (i + 1) _ h4 (by omega) (by omega)
theorem impl_chk (s : ByteArray) (hs : s.size ≤ 140737488351232) : ∀ (l : List UInt8) (i : Nat) (x : Int), s.data.toList.drop i = l → 0 ≤ x → x < 65521 →
  Ev (fun k => impl_ChecksumOf.l0 k s x (s.size : Int) (i : Int)) (chkM l x) := by
 intro l
 induction l with
 | nil =>
  intro i x h h0 h1
  refine Ev.succ ?_
  simp only [impl_ChecksumOf.l0, if_neg (dropB_nil h)]
  exact Ev.now _
 | cons b l ih =>
  intro i x h h0 h1
  obtain ⟨h2, h3, h4⟩ := dropB_cons h
  have e := chk_step x s i h0 h1
  rw [h3] at e
  refine Ev.succ ?_
  simp only [impl_ChecksumOf.l0, if_pos h2, if_pos (Int.natCast_nonneg i), Int.mul_comm 37 x, h3, e, nx hs h2]
  exact ih (i + 1) _ h4 (by omega) (by omega)
theorem spec_ChecksumOf_ev (s : ByteArray) (hs : s.size ≤ 140737488351232) : Ev (fun k => spec_ChecksumOf.f k s) (chkM s.data.toList 11) := spec_chk s hs _ 0 11 rfl (by omega) (by omega)
theorem impl_ChecksumOf_ev (s : ByteArray) (hs : s.size ≤ 140737488351232) : Ev (fun k => impl_ChecksumOf.f k s) (chkM s.data.toList 11) := impl_chk s hs _ 0 11 rfl (by omega) (by omega)
def ckM (l : List S39) : Int := chkM (strOfNums (fpM l)).data.toList 11
theorem pagesI_len : ∀ l : List S39, (pagesI l).length ≤ 2002 * l.length
 | [] => Nat.le_refl _
 | x :: r => by have := pagesI_len r; have := frsI_len x.f0; simp only [pagesI, List.length_cons, List.length_append]; omega
theorem fpM_size (l : List S39) (hl : l.length ≤ 1048576) : (strOfNums (fpM l)).size ≤ 140737488351232 := by
 rw [strOfNums_size]
 unfold fpM
 have := pagesI_len l
 split
 ·omega
 ·simp
def sealM (l : List S87) (n a : Int) : List S87 × Int × Bool :=
 if idM l n = true then (if faM a 0 l < 0 then (l, n, false) else (if (rd_T87 l (faM a 0 l)).f3 = true then (l, n, false) else (l.set (faM a 0 l).toNat ⟨(rd_T87 l (faM a 0 l)).f0, (rd_T87 l (faM a 0 l)).f1, ckM (rd_T87 l (faM a 0 l)).f1, true⟩, n, true))) else (l, n, false)
theorem rd_set {l : List S87} {j : Nat} (h : j < l.length) (v : S87) : rd_T87 (l.set j v) j = v := by
 unfold rd_T87
 rw [Int.toNat_natCast, List.getD_eq_getElem?_getD, List.getElem?_set_self h, Option.getD_some]
theorem spec_dig (x : Int) (n : Nat) (hx : x.natAbs = n) (hn : n ≤ 9223372036854775808) :
  (if Int.tmod x 10 < 0 then (wrap64 (48 + wrap64 (-(Int.tmod x 10)))) % 256 else (wrap64 (48 + Int.tmod x 10)) % 256) = 48 + ((n % 10 : Nat) : Int) ∧ (Int.tdiv x 10).natAbs = n / 10 ∧ (wrap64 (Int.tdiv x 10) = Int.tdiv x 10) := by
 rcases Int.le_total 0 x with h | h
 ·have e1 : Int.tmod x 10 = x % 10 := Int.tmod_eq_emod_of_nonneg h
  have e2 : Int.tdiv x 10 = x / 10 := Int.tdiv_eq_ediv_of_nonneg h
  rw [e1, e2, if_neg (by omega)]
  refine ⟨?_, by omega, w64 (by omega) (by omega)⟩
  rw [w64 (by omega) (by omega)]; omega
 ·obtain ⟨m, rfl⟩ : ∃ m : Nat, x = -(m : Int) := ⟨n, by omega⟩
  have e1 : Int.tmod (-(m : Int)) 10 = -((m : Int) % 10) := by rw [Int.neg_tmod, Int.tmod_eq_emod_of_nonneg (by omega)]
  have e2 : Int.tdiv (-(m : Int)) 10 = -((m : Int) / 10) := by rw [Int.neg_tdiv, Int.tdiv_eq_ediv_of_nonneg (by omega)]
  rw [e1, e2]
  refine ⟨?_, by omega, w64 (by omega) (by omega)⟩
  split
  ·rw [w64 (x := -(-((m : Int) % 10))) (by omega) (by omega), w64 (by omega) (by omega)]; omega
  ·rw [w64 (by omega) (by omega)]; omega
theorem spec_fmt : ∀ (n : Nat) (x : Int) (s : List Int) (neg : Bool), x.natAbs = n → n ≤ 9223372036854775808 → s.length + (dgs n).length ≤ 40 →
  Ev (fun k => spec_FormatInt.l0 k x (strOfNums s) neg) (if neg = true then strOfNums (45 :: (dgs n ++ s)) else strOfNums (dgs n ++ s)) := by
 intro n
 induction n using Nat.strongRecOn with
 | _ n ih =>
  intro x s neg hx hn hl
  refine Ev.succ ?_
  by_cases h : n = 0
  ·subst h
   simp only [spec_FormatInt.l0, if_pos (show x = 0 by omega), dgs_zero, List.nil_append, str_minus]
   simp only [dgs_zero, List.length_nil] at hl
   cases neg
   ·exact Ev.neg (by decide) (Ev.now _)
   ·refine Ev.pos (by trivial) ?_
    exact Ev.pos (by rw [strOfNums_size]; omega) (Ev.now _)
  ·obtain ⟨d1, d2, d3⟩ := spec_dig x n hx hn
   rw [dgs_pos h] at hl
   simp only [List.length_append, List.length_cons, List.length_nil] at hl
   have step := ih (n / 10) (by omega) (Int.tdiv x 10) ((48 + ((n % 10 : Nat) : Int)) :: s) neg d2 (by omega) (by simp only [List.length_cons]; omega)
   simp only [spec_FormatInt.l0, if_neg (show ¬ x = 0 by omega), d3, Option.bind_some]
   have e : dgs n ++ s = dgs (n / 10) ++ ((48 + ((n % 10 : Nat) : Int)) :: s) := by rw [dgs_pos h]; simp
   rw [e]
   by_cases hm : Int.tmod x 10 < 0
   ·rw [if_pos hm] at d1
    refine Ev.pos hm ?_
    simp only [d1, str_cons]
    exact Ev.pos (by rw [strOfNums_size, strOfNums_size]; simp only [List.length_cons, List.length_nil]; omega) step
   ·rw [if_neg hm] at d1
    refine Ev.neg hm ?_
    simp only [d1, str_cons]
    exact Ev.pos (by rw [strOfNums_size, strOfNums_size]; simp only [List.length_cons, List.length_nil]; omega) step
theorem spec_FormatInt_ev (n : Int) (h1 : -9223372036854775808 ≤ n) (h2 : n ≤ 9223372036854775807) : Ev (fun k => spec_FormatInt.f k n) (strOfNums (fmtI n)) := by
 simp only [spec_FormatInt.f]
 by_cases h0 : n = 0
 ·subst h0
  exact Ev.pos rfl (Ev.now' rfl)
 ·refine Ev.neg h0 ?_
  have := spec_fmt n.natAbs n [] (decide (n < 0)) rfl (by omega) (by have := dgs_length 19 n.natAbs (by omega); simp only [List.length_nil]; omega)
  have e : strOfNums (fmtI n) = (if decide (n < 0) = true then strOfNums (45 :: (dgs n.natAbs ++ [])) else strOfNums (dgs n.natAbs ++ [])) := by
   unfold fmtI dec
   rw [if_neg (show ¬ n.natAbs = 0 by omega)]
   by_cases hn : n < 0 <;> simp [hn]
  rw [e]
  exact this
theorem spec_FormatRow_ev (a b c : Int) : Ev (fun k => spec_FormatRow.f k a b c) (strOfNums (frI a b c)) := by
 simp only [spec_FormatRow.f, spec_IsValidRow_f, Option.bind_some]
 unfold frI
 by_cases h : vrow (a, b, c) = true
 ·have hv := vrow_iff.1 h
  have l1 := fmtI_len a (by omega) (by omega)
  have l2 := fmtI_len b (by omega) (by omega)
  have l3 := fmtI_len c (by omega) (by omega)
  rw [if_pos h]
  refine Ev.pos h (Ev.bind (spec_FormatInt_ev a (by omega) (by omega)) (Ev.pos (by rw [strOfNums_size]; omega) (Ev.bind (spec_FormatInt_ev b (by omega) (by omega)) ?_)))
  simp only [str_dot, str_append]
  refine Ev.pos ?_ (Ev.pos ?_ (Ev.bind (spec_FormatInt_ev c (by omega) (by omega)) ?_))
  ·rw [strOfNums_size, strOfNums_size]; simp only [List.length_append, List.length_cons, List.length_nil]; omega
  ·rw [strOfNums_size]; simp only [List.length_append, List.length_cons, List.length_nil]; omega
  ·simp only [str_append]
   refine Ev.pos ?_ (Ev.now' ?_)
   ·rw [strOfNums_size, strOfNums_size]; simp only [List.length_append, List.length_cons, List.length_nil]; omega
   ·simp
 ·rw [if_neg h]
  exact Ev.neg h (Ev.now' rfl)
theorem spec_FormatRows_ev (l : List S42) (hl : l.length ≤ 4611686018427387904) : Ev (fun k => spec_FormatRows.f k l) (strOfNums (frsI l)) := by
 by_cases hv : avM l = true
 ·have hl24 := avM_len hv
  have key : ∀ (r : List S42) (i : Nat) (acc : List Int), l.drop i = r → 1 ≤ i → acc.length + 63 * r.length ≤ 10000 → Ev (fun k => spec_FormatRows.l0 k l (strOfNums acc) (i : Int)) (strOfNums (acc ++ tailI r)) := by
   intro r
   induction r with
   | nil =>
    intro i acc h hi ha
    refine Ev.succ ?_
    simp only [spec_FormatRows.l0]
    refine Ev.neg (drop_nil_lt h) (Ev.succ ?_)
    simp only [spec_FormatRows.j1]
    exact Ev.neg (by decide) (Ev.now' (by simp [tailI]))
   | cons x r ih =>
    intro i acc h hi ha
    obtain ⟨h1, h2, h3⟩ := rdI h
    have hf := frI_len x.f0 x.f1 x.f2
    simp only [List.length_cons] at ha
    refine Ev.succ ?_
    simp only [spec_FormatRows.l0]
    refine Ev.pos h1 (Ev.bind (spec_AreValidRows_ev l hl) (Ev.succ ?_))
    simp only [spec_FormatRows.j1, h2, nxt hl h1, hv]
    refine Ev.pos (by trivial) (Ev.pos (by omega) (Ev.pos (by rw [strOfNums_size]; omega) (Ev.pos (Int.natCast_nonneg _) (Ev.pos h1 (Ev.bind (spec_FormatRow_ev _ _ _) ?_)))))
    simp only [str_sp, str_append]
    refine Ev.pos (by rw [strOfNums_size, strOfNums_size]; simp only [List.length_append, List.length_cons, List.length_nil]; omega) ?_
    have := ih (i + 1) ((acc ++ [32]) ++ frI x.f0 x.f1 x.f2) h3 (by omega) (by simp only [List.length_append, List.length_cons, List.length_nil]; omega)
    simpa [tailI] using this
  have e : frsI l = rowsI l := if_pos hv
  rw [e]
  cases hd : l with
  | nil =>
   refine Ev.succ (g := fun k => spec_FormatRows.l0 k [] (⟨#[]⟩ : ByteArray) 0) ?_
   simp only [spec_FormatRows.l0]
   refine Ev.neg (by simp) (Ev.succ ?_)
   simp only [spec_FormatRows.j1]
   exact Ev.neg (by decide) (Ev.now' rfl)
  | cons x r =>
   rw [← hd]
   have h0 : l.drop 0 = x :: r := by rw [List.drop_zero, hd]
   obtain ⟨h1, h2, h3⟩ := rdI h0
   have hf := frI_len x.f0 x.f1 x.f2
   have hlr : r.length ≤ 24 := by rw [hd] at hl24; simp only [List.length_cons] at hl24; omega
   have e1 : wrap64 (0 + 1) = ((0 + 1 : Nat) : Int) := by rw [w64 (by omega) (by omega)]; rfl
   have h1' : (0 : Int) < (l.length : Int) := h1
   have h2' : rd_T42 l 0 = x := h2
   refine Ev.succ (g := fun k => spec_FormatRows.l0 k l (⟨#[]⟩ : ByteArray) 0) ?_
   simp only [spec_FormatRows.l0]
   refine Ev.pos h1' (Ev.bind (spec_AreValidRows_ev l hl) (Ev.succ ?_))
   simp only [spec_FormatRows.j1, h2', hv, e1]
   refine Ev.pos (by trivial) (Ev.neg (by omega) (Ev.pos (by omega) (Ev.pos h1' (Ev.bind (spec_FormatRow_ev _ _ _) ?_))))
   have e2 : (⟨#[]⟩ : ByteArray) ++ strOfNums (frI x.f0 x.f1 x.f2) = strOfNums (frI x.f0 x.f1 x.f2) := str_append [] _
   have e3 : (⟨#[]⟩ : ByteArray).size = 0 := rfl
   simp only [e2]
   refine Ev.pos (by rw [strOfNums_size, e3]; omega) ?_
   have := key r (0 + 1) (frI x.f0 x.f1 x.f2) h3 (by omega) (by omega)
   rw [hd]
   rw [hd] at this
   exact this
 ·have e : frsI l = [] := if_neg hv
  rw [e]
  have hj : ∀ b, b = false → Ev (fun k => spec_FormatRows.j1 k l (⟨#[]⟩ : ByteArray) 0 b) (strOfNums []) := by
   intro b hb
   subst hb
   refine Ev.succ ?_
   simp only [spec_FormatRows.j1]
   exact Ev.neg (by decide) (Ev.now' rfl)
  refine Ev.succ (g := fun k => spec_FormatRows.l0 k l (⟨#[]⟩ : ByteArray) 0) ?_
  simp only [spec_FormatRows.l0]
  by_cases h0 : (0 : Int) < (l.length : Int)
  ·exact Ev.pos h0 (Ev.bind (spec_AreValidRows_ev l hl) (hj _ (by simpa using hv)))
  ·exact Ev.neg h0 (hj _ rfl)
theorem spec_FormatPages_ev (l : List S39) (hl : l.length ≤ 1048576) (hp : ∀ x ∈ l, x.f0.length ≤ 1048576) : Ev (fun k => spec_FormatPages.f k l) (strOfNums (fpM l)) := by
 by_cases hv : vpsM l = true
 ·have key : ∀ (r : List S39) (i : Nat) (acc : List Int), l.drop i = r → (∀ x ∈ r, x.f0.length ≤ 1048576) → acc.length + 2002 * r.length ≤ 4000000000 → Ev (fun k => spec_FormatPages.l0 k l (strOfNums acc) (i : Int)) (strOfNums (acc ++ pagesI r)) := by
   intro r
   induction r with
   | nil =>
    intro i acc h hr ha
    refine Ev.succ ?_
    simp only [spec_FormatPages.l0]
    exact Ev.neg (drop_nil_lt h) (Ev.now' (by simp [pagesI]))
   | cons x r ih =>
    intro i acc h hr ha
    obtain ⟨h1, h2, h3⟩ := rdT39 h
    have hx := hr x (by simp)
    have hf := frsI_len x.f0
    simp only [List.length_cons] at ha
    refine Ev.succ ?_
    simp only [spec_FormatPages.l0, h2, nxt (show l.length ≤ 4611686018427387904 by omega) h1]
    refine Ev.pos h1 (Ev.bind (spec_l4Pages_ev l hl hp) (Ev.pos hv (Ev.pos (by rw [strOfNums_size]; omega) (Ev.pos (Int.natCast_nonneg _) (Ev.bind (spec_FormatRows_ev x.f0 (by omega)) ?_)))))
    simp only [str_lb, str_append]
    refine Ev.pos (by rw [strOfNums_size, strOfNums_size]; simp only [List.length_append, List.length_cons, List.length_nil]; omega) (Ev.pos (by rw [strOfNums_size]; simp only [List.length_append, List.length_cons, List.length_nil]; omega) ?_)
    simp only [str_rb]
    have := ih (i + 1) (((acc ++ [91]) ++ frsI x.f0) ++ [93]) h3 (fun y hy => hr y (by simp [hy])) (by simp only [List.length_append, List.length_cons, List.length_nil]; omega)
    simpa [pagesI] using this
  have e : fpM l = pagesI l := if_pos hv
  rw [e]
  exact key l 0 [] rfl hp (by simp only [List.length_nil]; omega)
 ·have e : fpM l = [] := if_neg hv
  rw [e]
  refine Ev.succ (g := fun k => spec_FormatPages.l0 k l (⟨#[]⟩ : ByteArray) 0) ?_
  simp only [spec_FormatPages.l0]
  by_cases h0 : (0 : Int) < (l.length : Int)
  ·exact Ev.pos h0 (Ev.bind (spec_l4Pages_ev l hl hp) (Ev.neg hv (Ev.now' rfl)))
  ·exact Ev.neg h0 (Ev.now' rfl)
theorem spec_SealFile_ev (l : List S87) (n a : Int) (hl : l.length ≤ 1048576) (hp0 : ∀ x ∈ l, x.f1.length ≤ 1048576 ∧ ∀ q ∈ x.f1, q.f0.length ≤ 1048576) : Ev (fun k => spec_SealFile.f k l n a) (sealM l n a) := by
 simp only [spec_SealFile.f, Option.bind_some]
 refine Ev.bind (spec_l6Copy_ev l n hl hp0) (Ev.bind (spec_l6At_ev l n a hl) (Ev.bind (spec_IsValidDisk_ev l n hl hp0) ?_))
 dsimp only
 unfold sealM
 by_cases hv : idM l n = true
 ·rw [if_pos hv]; refine Ev.pos hv ?_
  by_cases hf : faM a 0 l < 0
  ·rw [if_pos hf]; refine Ev.pos hf (Ev.succ ?_); simp only [spec_SealFile.j0]; exact Ev.pos trivial (Ev.now _)
  ·rw [if_neg hf]
   obtain ⟨h1, h2, h3⟩ := faM_at hf
   obtain ⟨j, hj⟩ := Int.eq_ofNat_of_zero_le h1
   rw [hj] at hf h1 h2 h3 ⊢
   have hjl : j < l.length := by omega
   have hx := hp0 _ h3
   refine Ev.neg hf (Ev.pos h1 (Ev.pos h2 (Ev.succ ?_)))
   simp only [spec_SealFile.j0, Option.bind_some, Int.toNat_natCast]
   by_cases hz : (rd_T87 l j).f3 = true
   ·rw [if_pos hz]; exact Ev.pos hz (Ev.now _)
   ·rw [if_neg hz]
    simp only [rd_set hjl, List.set_set]
    generalize rd_T87 l j = x at hx hz
    exact Ev.neg hz (Ev.pos h1 (Ev.pos h2 (Ev.pos h2 (Ev.bind (spec_FormatPages_ev x.f1 hx.1 hx.2) (Ev.bind (spec_ChecksumOf_ev _ (fpM_size x.f1 hx.1)) (Ev.now _))))))
 ·rw [if_neg hv]; refine Ev.neg hv (Ev.succ ?_); simp only [spec_SealFile.j0]; exact Ev.pos trivial (Ev.now _)
def delM (l : List S87) (n a : Int) : List S87 × Int × Bool :=
 if idM l n = true then (if faM a 0 l < 0 then (l, n, false) else (l.eraseIdx (faM a 0 l).toNat, n, true)) else (l, n, false)
theorem spec_DeleteFile_ev (l : List S87) (n a : Int) (hl : l.length ≤ 1048576) (hp0 : ∀ x ∈ l, x.f1.length ≤ 1048576 ∧ ∀ q ∈ x.f1, q.f0.length ≤ 1048576) : Ev (fun k => spec_DeleteFile.f k l n a) (delM l n a) := by
 simp only [spec_DeleteFile.f, Option.bind_some]
 refine Ev.bind (spec_l6Copy_ev l n hl hp0) (Ev.bind (spec_l6At_ev l n a hl) (Ev.bind (spec_IsValidDisk_ev l n hl hp0) ?_))
 dsimp only
 unfold delM
 by_cases hv : idM l n = true
 ·refine Ev.pos hv ?_
  rw [if_pos hv]
  by_cases hf : faM a 0 l < 0
  ·refine Ev.pos hf ?_
   rw [if_pos hf]; exact Ev.now _
  ·refine Ev.neg hf ?_
   rw [if_neg hf]
   obtain ⟨h1, h2, -⟩ := faM_at hf
   obtain ⟨j, hj⟩ := Int.eq_ofNat_of_zero_le h1
   rw [hj] at hf h1 h2 ⊢
   have hjl : j < l.length := by omega
   have hw : wrap64 ((j : Int) + 1) = ((j + 1 : Nat) : Int) := by rw [w64 (by omega) (by omega)]; omega
   simp only [hw, Int.toNat_natCast]
   refine Ev.pos h1 (Ev.pos (by omega) (Ev.pos (by simp only [List.length_nil, List.length_take]; omega) (Ev.pos (by omega) (Ev.pos (by omega) (Ev.pos (by simp only [List.length_append, List.length_nil, List.length_take, List.length_drop]; omega) (Ev.now' (by rw [List.nil_append, List.eraseIdx_eq_take_drop_succ])))))))
 ·refine Ev.neg hv ?_
  rw [if_neg hv]; exact Ev.now _
theorem spec_WouldOverflow_ev (l : List S42) (hl : l.length ≤ 1152921504606846976) (a b c : Int) : Ev (fun k => spec_WouldOverflow.f k l a b c) (decide (tcM l 0 + cost (a, b, c) > 8)) := by
 simp only [spec_WouldOverflow.f, spec_RowCost_f, Option.bind_some]
 have h1 := tcM_bd l 0
 have h2 := cost_bd (a, b, c)
 refine Ev.tl (spec_TotalCost_ev l hl) ?_
 rw [w64 (by omega) (by omega)]
def packM : List S42 → List S39 → List S42 → List S39
 | [], acc, p => if p.length > 0 then acc ++ [⟨p⟩] else acc
 | x :: r, acc, p => if tcM p 0 + cost (x.f0, x.f1, x.f2) > 8 then packM r (acc ++ [⟨p⟩]) [x] else packM r acc (p ++ [x])
theorem packM_len : ∀ (r : List S42) (acc : List S39) (p : List S42), (packM r acc p).length ≤ acc.length + r.length + 1
 | [], acc, p => by simp only [packM]; split <;> simp
 | x :: r, acc, p => by
  simp only [packM]
  split
  ·have := packM_len r (acc ++ [⟨p⟩]) [x]; simp only [List.length_append, List.length_cons, List.length_nil] at this ⊢; omega
  ·have := packM_len r acc (p ++ [x]); simp only [List.length_cons] at this ⊢; omega
theorem packM_small (m : Nat) : ∀ (r : List S42) (acc : List S39) (p : List S42), p.length + r.length ≤ m → (∀ x ∈ acc, x.f0.length ≤ m) → ∀ x ∈ packM r acc p, x.f0.length ≤ m
 | [], acc, p, hp, ha => by
  simp only [packM]
  intro x hx
  split at hx
  ·rcases List.mem_append.1 hx with h | h
   ·exact ha x h
   ·rw [List.mem_singleton.1 h]; simp only [List.length_nil] at hp; exact hp
  ·exact ha x hx
 | y :: r, acc, p, hp, ha => by
  simp only [packM]
  simp only [List.length_cons] at hp
  split
  ·refine packM_small m r _ [y] (by simp only [List.length_cons, List.length_nil]; omega) (fun x hx => ?_)
   rcases List.mem_append.1 hx with h | h
   ·exact ha x h
   ·rw [List.mem_singleton.1 h]; show p.length ≤ m; omega
  ·exact packM_small m r acc (p ++ [y]) (by simp only [List.length_append, List.length_cons, List.length_nil]; omega) ha
def packs (l : List S42) : List S39 := if avM l = true then packM l [] [] else []
theorem avM_le {l : List S42} (h : avM l = true) : l.length ≤ 24 := by unfold avM at h; simp at h; omega
theorem spec_PackPages_ev (l : List S42) (hl : l.length ≤ 1048576) : Ev (fun k => spec_PackPages.f k l) (packs l) := by
 have key : l.length ≤ 24 → ∀ (r : List S42) (i : Nat) (acc : List S39) (p : List S42), l.drop i = r → acc.length ≤ i → p.length ≤ i → i ≤ l.length → Ev (fun k => spec_PackPages.l0 k l acc (i : Int) p) (packM r acc p) := by
  intro hs r
  induction r with
  | nil =>
   intro i acc p h ha hp hil
   have hi := List.drop_eq_nil_iff.1 h
   refine Ev.succ ?_
   simp only [spec_PackPages.l0, packM]
   refine Ev.neg (drop_nil_lt h) ?_
   by_cases hz : p.length > 0
   ·rw [if_pos hz]
    refine Ev.pos (by omega) ?_
    exact Ev.pos (by omega) (Ev.now _)
   ·rw [if_neg hz]
    exact Ev.neg (by omega) (Ev.now _)
  | cons x r ih =>
   intro i acc p h ha hp hil
   obtain ⟨h1, h2, h3⟩ := rdI h
   refine Ev.succ ?_
   simp only [spec_PackPages.l0, h2, nxt (show l.length ≤ 4611686018427387904 by omega) h1]
   refine Ev.pos h1 (Ev.pos (Int.natCast_nonneg _) (Ev.bind (spec_WouldOverflow_ev p (by omega) _ _ _) ?_))
   simp only [packM]
   by_cases hz : tcM p 0 + cost (x.f0, x.f1, x.f2) > 8
   ·rw [if_pos hz]
    refine Ev.pos (by simpa using hz) (Ev.pos (by omega) (Ev.pos (by simp) ?_))
    exact ih (i + 1) _ _ h3 (by simp only [List.length_append, List.length_cons, List.length_nil]; omega) (by simp) (by omega)
   ·rw [if_neg hz]
    refine Ev.neg (by simpa using hz) (Ev.pos (by omega) ?_)
    exact ih (i + 1) _ _ h3 (by omega) (by simp only [List.length_append, List.length_cons, List.length_nil]; omega) (by omega)
 simp only [spec_PackPages.f, Option.bind_some]
 refine Ev.bind (spec_AreValidRows_ev l (by omega)) ?_
 unfold packs
 by_cases hv : avM l = true
 ·rw [if_pos hv]
  exact Ev.pos hv (key (avM_le hv) l 0 [] [] rfl (Nat.le_refl _) (Nat.le_refl _) (Nat.zero_le _))
 ·rw [if_neg hv]
  exact Ev.neg hv (Ev.now _)
theorem packs_bd (q : List S42) (m : Nat) (hq : q.length ≤ m) : (packs q).length ≤ m + 1 ∧ ∀ x ∈ packs q, x.f0.length ≤ m := by
 unfold packs
 split
 ·have h1 := packM_len q [] []
  simp only [List.length_nil] at h1
  exact ⟨by omega, packM_small m _ [] [] (by simp only [List.length_nil]; omega) (by simp)⟩
 ·exact ⟨by simp, by simp⟩
theorem bits_and_le (y : Int) (m : Nat) (hm : m < 1000) : 0 ≤ Go.bits .and .i64 y (m : Int) ∧ Go.bits .and .i64 y (m : Int) ≤ m := by
 have h : (BitVec.ofInt 64 y &&& BitVec.ofInt 64 (m : Int)).toNat ≤ m := by
  rw [BitVec.toNat_and]
  refine Nat.le_trans Nat.and_le_right ?_
  rw [BitVec.ofInt_natCast, BitVec.toNat_ofNat]
  exact Nat.mod_le _ _
 have e : Go.bits .and .i64 y (m : Int) = IntKind.i64.wrap (((BitVec.ofInt 64 y &&& BitVec.ofInt 64 (m : Int)).toNat : Nat) : Int) := rfl
 rw [e, IntKind.wrap_i64]
 omega
theorem l1Byte_some (b : List Int) (i h : Int) (hb : b.length ≤ 140737488351232) (hi : 0 ≤ i) : ∃ x i' h', spec_l1Byte.f b i h = some (x, i', h') ∧ (0 ≤ x ∧ x ≤ 255) ∧ 0 ≤ i' := by
 unfold spec_l1Byte.f
 by_cases h1 : i < (b.length : Int)
 ·rw [if_pos h1, if_pos hi]
  refine ⟨_, _, _, rfl, bits_and_le _ 255 (by decide), ?_⟩
  rw [w64 (by omega) (by omega)]; omega
 ·rw [if_neg h1]
  exact ⟨_, _, _, rfl, bits_and_le _ 255 (by decide), hi⟩
theorem tmod_bd (x n : Int) (h0 : 0 ≤ x) (hn : 0 < n) : 0 ≤ Int.tmod x n ∧ Int.tmod x n < n := by
 rw [Int.tmod_eq_emod_of_nonneg h0]
 exact ⟨Int.emod_nonneg _ (by omega), Int.emod_lt_of_pos _ hn⟩
theorem l1Below_some (b : List Int) (i h n : Int) (hb : b.length ≤ 140737488351232) (hi : 0 ≤ i) : ∃ x i' h', spec_l1Below.f b i h n = some (x, i', h') ∧ 0 ≤ x ∧ (0 < n → x < n) ∧ (n ≤ 0 → x = 0) ∧ 0 ≤ i' := by
 unfold spec_l1Below.f
 by_cases h1 : n ≤ 0
 ·rw [if_pos h1]
  exact ⟨_, _, _, rfl, by omega, by omega, by omega, hi⟩
 ·rw [if_neg h1]
  by_cases h2 : n ≤ 256
  ·rw [if_pos h2]
   obtain ⟨x, i', h', e, hx, hi'⟩ := l1Byte_some b i h hb hi
   rw [e]
   simp only [Option.bind_some]
   rw [if_neg (by omega)]
   have := tmod_bd x n hx.1 (by omega)
   exact ⟨_, _, _, rfl, this.1, fun _ => this.2, by omega, hi'⟩
  ·rw [if_neg h2]
   obtain ⟨x, i1, h1', e1, hx, hi1⟩ := l1Byte_some b i h hb hi
   obtain ⟨y, i2, h2', e2, hy, hi2⟩ := l1Byte_some b i1 h1' hb hi1
   obtain ⟨z, i3, h3', e3, hz, hi3⟩ := l1Byte_some b i2 h2' hb hi2
   obtain ⟨u, i4, h4', e4, hu, hi4⟩ := l1Byte_some b i3 h3' hb hi3
   simp only [e1, e2, e3, e4, Option.bind_some]
   rw [if_neg (by omega), w64 (x := x * 16777216) (by omega) (by omega), w64 (x := y * 65536) (by omega) (by omega), w64 (x := z * 256) (by omega) (by omega), w64 (x := x * 16777216 + y * 65536) (by omega) (by omega), w64 (x := x * 16777216 + y * 65536 + z * 256) (by omega) (by omega), w64 (by omega) (by omega)]
   have := tmod_bd (x * 16777216 + y * 65536 + z * 256 + u) n (by omega) (by omega)
   exact ⟨_, _, _, rfl, this.1, fun _ => this.2, by omega, hi4⟩
theorem l1Once_some (b : List Int) (i h n : Int) (hb : b.length ≤ 140737488351232) (hi : 0 ≤ i) : ∃ x i' h', spec_l1Once.f b i h n = some (x, i', h') ∧ 0 ≤ i' := by
 obtain ⟨x, i', h', e, _, _, _, hi'⟩ := l1Below_some b i h n hb hi
 unfold spec_l1Once.f
 rw [e]
 exact ⟨_, _, _, rfl, hi'⟩
theorem l1PickInt_some (b : List Int) (i h : Int) (l : List Int) (hb : b.length ≤ 140737488351232) (hi : 0 ≤ i) (hl : 0 < l.length) : ∃ x i' h', spec_l1PickInt.f b i h l = some (x, i', h') ∧ x ∈ l ∧ 0 ≤ i' := by
 obtain ⟨x, i', h', e, h0, h1, _, hi'⟩ := l1Below_some b i h (l.length : Int) hb hi
 have hx := h1 (by omega)
 unfold spec_l1PickInt.f
 rw [e]
 simp only [Option.bind_some]
 rw [if_pos h0, if_pos hx]
 refine ⟨_, _, _, rfl, ?_, hi'⟩
 unfold rd
 have hlt : x.toNat < l.length := by omega
 rw [List.getD_eq_getElem?_getD, List.getElem?_eq_getElem hlt]
 exact List.getElem_mem hlt
theorem l2Row_some (b : List Int) (i h keys : Int) (hb : b.length ≤ 140737488351232) (hi : 0 ≤ i) (hk : 0 < keys) :
  ∃ x y z i' h', spec_l2Row.f b i h keys = some (x, y, z, i', h') ∧ (0 ≤ x ∧ x < keys) ∧ (0 ≤ y ∧ y < 100) ∧ (0 ≤ z ∧ z ≤ 3) ∧ 0 ≤ i' := by
 obtain ⟨x, i1, h1, e1, x0, x1, _, j1⟩ := l1Below_some b i h keys hb hi
 obtain ⟨y, i2, h2, e2, y0, y1, _, j2⟩ := l1Below_some b i1 h1 100 hb j1
 obtain ⟨z, i3, h3, e3, z0, j3⟩ := l1PickInt_some b i2 h2 [0, 0, 1, 2, 3] hb j2 (by simp)
 unfold spec_l2Row.f
 simp only [e1, e2, e3, Option.bind_some]
 refine ⟨_, _, _, _, _, rfl, ⟨x0, x1 hk⟩, ⟨y0, y1 (by decide)⟩, ?_, j3⟩
 simp only [List.mem_cons, List.not_mem_nil, or_false] at z0
 omega
theorem l2Any_some (b : List Int) (i h : Int) (hb : b.length ≤ 140737488351232) (hi : 0 ≤ i) :
  ∃ x y z i' h', spec_l2Any.f b i h = some (x, y, z, i', h') ∧ 0 ≤ i' := by
 obtain ⟨x, y, z, i1, h1, e1, _, _, _, j1⟩ := l2Row_some b i h 10 hb hi (by decide)
 obtain ⟨t, i2, h2, e2, _, _, _, j2⟩ := l1Below_some b i1 h1 8 hb j1
 unfold spec_l2Any.f
 simp only [e1, e2, Option.bind_some]
 by_cases t0 : t = 0
 ·rw [if_pos t0]
  obtain ⟨u, i3, h3, e3, _, j3⟩ := l1PickInt_some b i2 h2 [-1, 10] hb j2 (by simp)
  simp only [e3, Option.bind_some]
  exact ⟨_, _, _, _, _, rfl, j3⟩
 ·rw [if_neg t0]
  by_cases t1 : t = 1
  ·rw [if_pos t1]
   obtain ⟨u, i3, h3, e3, _, j3⟩ := l1PickInt_some b i2 h2 [-1, 100, 99] hb j2 (by simp)
   simp only [e3, Option.bind_some]
   exact ⟨_, _, _, _, _, rfl, j3⟩
  ·rw [if_neg t1]
   by_cases t2 : t = 2
   ·rw [if_pos t2]
    obtain ⟨u, i3, h3, e3, _, j3⟩ := l1PickInt_some b i2 h2 [-1, 4] hb j2 (by simp)
    simp only [e3, Option.bind_some]
    exact ⟨_, _, _, _, _, rfl, j3⟩
   ·rw [if_neg t2]
    exact ⟨_, _, _, _, _, rfl, j2⟩
theorem l2Rows_ev (b : List Int) (i h a : Int) (hb : b.length ≤ 140737488351232) (hi : 0 ≤ i) (ha0 : 0 ≤ a) (ha : a ≤ 1000) :
  ∃ l i' h', Ev (fun k => spec_l2Rows.f k b i h a) (l, i', h') ∧ (l.length : Int) ≤ a ∧ 0 ≤ i' := by
 have key : ∀ (d : Nat) (acc : List S42) (keys i h : Int), 0 < keys → 0 ≤ i → acc.length + d ≤ 2000 → d ≤ 1000 → ∃ l i' h', Ev (fun k => spec_l2Rows.l0 k acc keys (d : Int) b i h) (l, i', h') ∧ l.length ≤ acc.length + d ∧ 0 ≤ i' := by
  intro d
  induction d with
  | zero =>
   intro acc keys i h hk hi hd hd2
   refine ⟨acc, i, h, Ev.succ ?_, by omega, hi⟩
   simp only [spec_l2Rows.l0]
   exact Ev.neg (by omega) (Ev.now _)
  | succ d ih =>
   intro acc keys i h hk hi hd hd2
   obtain ⟨x, y, z, i1, h1, e1, _, _, _, j1⟩ := l2Row_some b i h keys hb hi hk
   obtain ⟨l, i', h', e, hl, hi'⟩ := ih (acc ++ [⟨x, y, z⟩]) keys i1 h1 hk j1 (by simp only [List.length_append, List.length_cons, List.length_nil]; omega) (by omega)
   refine ⟨l, i', h', Ev.succ ?_, by simp only [List.length_append, List.length_cons, List.length_nil] at hl; omega, hi'⟩
   have ed : wrap64 (((d + 1 : Nat) : Int) - 1) = (d : Int) := by rw [w64 (by omega) (by omega)]; omega
   simp only [spec_l2Rows.l0, e1, Option.bind_some, ed]
   exact Ev.pos (by omega) (Ev.pos (by omega) e)
 obtain ⟨q, i1, h1, e1, q0, j1⟩ := l1PickInt_some b i h [1, 2, 4, 10] hb hi (by simp)
 have ea : wrap64 (a + 1) = a + 1 := w64 (by omega) (by omega)
 obtain ⟨m, i2, h2, e2, m0, m1, _, j2⟩ := l1Below_some b i1 h1 (a + 1) hb j1
 have hm := m1 (by omega)
 obtain ⟨m, rfl⟩ := Int.eq_ofNat_of_zero_le m0
 have hq : 0 < q := by simp only [List.mem_cons, List.not_mem_nil, or_false] at q0; omega
 obtain ⟨l, i', h', e, hl, hi'⟩ := key m [] q i2 h2 hq j2 (by simp only [List.length_nil]; omega) (by omega)
 refine ⟨l, i', h', ?_, by simp only [List.length_nil] at hl; omega, hi'⟩
 simp only [spec_l2Rows.f, e1, ea, e2, Option.bind_some]
 exact e
theorem l2Bent_ev (b : List Int) (i h a : Int) (hb : b.length ≤ 140737488351232) (hi : 0 ≤ i) (ha0 : 0 ≤ a) (ha : a ≤ 1000) :
  ∃ l i' h', Ev (fun k => spec_l2Bent.f k b i h a) (l, i', h') ∧ (l.length : Int) ≤ a + 1 ∧ 0 ≤ i' := by
 obtain ⟨l, i1, h1, e1, hl, j1⟩ := l2Rows_ev b i h a hb hi ha0 ha
 obtain ⟨o, i2, h2, e2, j2⟩ := l1Once_some b i1 h1 14 hb j1
 obtain ⟨x, y, z, i3, h3, e3, j3⟩ := l2Any_some b i2 h2 hb j2
 cases o with
 | true =>
  refine ⟨l ++ [⟨x, y, z⟩], i3, h3, ?_, by simp only [List.length_append, List.length_cons, List.length_nil]; omega, j3⟩
  simp only [spec_l2Bent.f]
  refine Ev.bind e1 ?_
  simp only [e2, e3, Option.bind_some]
  exact Ev.pos (by trivial) (Ev.pos (by omega) (Ev.now _))
 | false =>
  refine ⟨l, i2, h2, ?_, by omega, j2⟩
  simp only [spec_l2Bent.f]
  refine Ev.bind e1 ?_
  simp only [e2, Option.bind_some]
  exact Ev.neg (by decide) (Ev.now _)
theorem l1New_ev (l : List Int) (hl : l.length ≤ 140737488351232) : ∃ h, Ev (fun k => spec_l1New.f k l) (l, 0, h) := by
 have key : ∀ (d i : Nat) (x : Int), i + d = 4000 → ∃ h, Ev (fun k => spec_l1New.l0 k l x (i : Int)) (l, 0, h) := by
  intro d
  induction d with
  | zero =>
   intro i x hi
   refine ⟨x, Ev.succ ?_⟩
   simp only [spec_l1New.l0]
   by_cases h1 : (i : Int) < (l.length : Int)
   ·exact Ev.pos h1 (Ev.neg (by omega) (Ev.now _))
   ·exact Ev.neg h1 (Ev.now _)
  | succ d ih =>
   intro i x hi
   by_cases h1 : (i : Int) < (l.length : Int)
   ·have e1 : wrap64 ((i : Int) + 1) = ((i + 1 : Nat) : Int) := by rw [w64 (by omega) (by omega)]; omega
    obtain ⟨h, e⟩ := ih (i + 1) (Go.bits .and .i64 (wrap64 ((wrap64 ((wrap64 (x * 131)) + (wrap64 (rd l (i : Int))))) + 7)) 1073741823) (by omega)
    refine ⟨h, Ev.succ ?_⟩
    simp only [spec_l1New.l0, e1]
    exact Ev.pos h1 (Ev.pos (by omega) (Ev.pos (Int.natCast_nonneg _) e))
   ·refine ⟨x, Ev.succ ?_⟩
    simp only [spec_l1New.l0]
    exact Ev.neg h1 (Ev.now _)
 exact key 4000 0 _ rfl
theorem big_f (l : List Int) : laws_big.f l = some (decide ((l.length : Int) > 1048576)) := rfl
def Sz (a b : Nat) (l : List S87) : Prop := l.length ≤ a ∧ ∀ x ∈ l, x.f1.length ≤ b ∧ ∀ q ∈ x.f1, q.f0.length ≤ 100
theorem Sz_mono {a b a' b' : Nat} {l : List S87} (h : Sz a b l) (ha : a ≤ a') (hb : b ≤ b') : Sz a' b' l := ⟨by have := h.1; omega, fun x hx => ⟨by have := (h.2 x hx).1; omega, (h.2 x hx).2⟩⟩
theorem Sz_len {a b : Nat} {l : List S87} (h : Sz a b l) (ha : a ≤ 1000) : l.length ≤ 1048576 := by have := h.1; omega
theorem Sz_in {a b : Nat} {l : List S87} (h : Sz a b l) (hb : b ≤ 1000) : ∀ x ∈ l, x.f1.length ≤ 1048576 ∧ ∀ q ∈ x.f1, q.f0.length ≤ 1048576 := fun x hx => ⟨by have := (h.2 x hx).1; omega, fun q hq => by have := (h.2 x hx).2 q hq; omega⟩
theorem Sz_set {a b : Nat} {l : List S87} (h : Sz a b l) (j : Nat) {y : S87} (hy : y.f1.length ≤ b ∧ ∀ q ∈ y.f1, q.f0.length ≤ 100) : Sz a b (l.set j y) := ⟨by rw [List.length_set]; exact h.1, fun x hx => by
 rcases List.mem_or_eq_of_mem_set hx with hx | rfl
 ·exact h.2 x hx
 ·exact hy⟩
theorem crM_sz {a b : Nat} {l : List S87} (n : Int) (h : Sz a b l) : Sz (a + 1) b (crM l n).1 := by
 unfold crM
 split
 ·split
  ·exact Sz_mono h (by omega) (Nat.le_refl _)
  ·refine ⟨by simp only [List.length_append, List.length_cons, List.length_nil]; have := h.1; omega, fun x hx => ?_⟩
   rcases List.mem_append.1 hx with hx | hx
   ·exact h.2 x hx
   ·rw [List.mem_singleton.1 hx]; exact ⟨by simp, by simp⟩
 ·exact Sz_mono h (by omega) (Nat.le_refl _)
theorem apM_sz {a b : Nat} {l : List S87} (n m : Int) {q : List S42} (h : Sz a b l) (hq : q.length ≤ 100) : Sz a (b + 1) (apM l n m q).1 := by
 have h0 : Sz a (b + 1) l := Sz_mono h (Nat.le_refl _) (by omega)
 unfold apM
 split
 ·split
  ·exact h0
  ·rename_i hf
   split
   ·exact h0
   ·split
    ·split
     ·exact h0
     ·obtain ⟨h1, h2, h3⟩ := faM_at hf
      have hx := h.2 _ h3
      have e : (((faM m 0 l).toNat : Nat) : Int) = faM m 0 l := Int.toNat_of_nonneg h1
      refine Sz_set h0 _ ⟨?_, fun p hp => ?_⟩
      ·simp only [e, List.length_append, List.length_cons, List.length_nil]; omega
      ·simp only [e] at hp
       rcases List.mem_append.1 hp with hp | hp
       ·exact hx.2 p hp
       ·rw [List.mem_singleton.1 hp]; exact hq
    ·exact h0
 ·exact h0
theorem sealM_sz {a b : Nat} {l : List S87} (n m : Int) (h : Sz a b l) : Sz a b (sealM l n m).1 := by
 unfold sealM
 split
 ·split
  ·exact h
  ·rename_i hf
   split
   ·exact h
   ·have hx := h.2 _ (faM_at hf).2.2
    exact Sz_set h _ hx
 ·exact h
theorem delM_sz {a b : Nat} {l : List S87} (n m : Int) (h : Sz a b l) : Sz a b (delM l n m).1 := by
 unfold delM
 split
 ·split
  ·exact h
  ·refine ⟨Nat.le_trans (List.length_eraseIdx_le _ _) h.1, fun x hx => h.2 x (List.mem_of_mem_eraseIdx hx)⟩
 ·exact h
theorem rdF_mem {l : List S87} {t : Int} (h0 : 0 ≤ t) (h1 : t < (l.length : Int)) : rd_T87 l t ∈ l := by
 unfold rd_T87
 have hlt : t.toNat < l.length := by omega
 rw [List.getD_eq_getElem?_getD, List.getElem?_eq_getElem hlt]
 exact List.getElem_mem hlt
theorem l6_last (b : List Int) (l : List S87) (n i h : Int) (hb : b.length ≤ 140737488351232) (hi : 0 ≤ i) (hs : Sz 8 60 l) :
  ∃ l' n' i' h', Ev (fun k => spec_l6Disk.l0 k 0 b i h l n) (l', n', i', h') ∧ Sz 10 60 l' ∧ 0 ≤ i' := by
 have hs' : Sz 10 60 l := Sz_mono hs (by omega) (Nat.le_refl _)
 have hl := hs.1
 by_cases hz : (l.length : Int) = 0
 ·refine ⟨l, n, i, h, ?_, hs', hi⟩
  refine Ev.succ ?_
  simp only [spec_l6Disk.l0]
  exact Ev.neg (by omega) (Ev.pos hz (Ev.now _))
 ·obtain ⟨t, i1, h1, e1, t0, t1, _, j1⟩ := l1Below_some b i h (l.length : Int) hb hi
  have t2 := t1 (by omega)
  have hm := hs'.2 _ (rdF_mem t0 t2)
  obtain ⟨s, i2, h2, e2, s0, _, _, j2⟩ := l1Below_some b i1 h1 10 hb j1
  by_cases c0 : s = 0
  ·refine ⟨_, n, i2, h2, ?_, Sz_set hs' t.toNat (y := ⟨(rd_T87 l t).f0, (rd_T87 l t).f1, wrap64 (((rd_T87 l t).f2) + 1), (rd_T87 l t).f3⟩) hm, j2⟩
   refine Ev.succ ?_
   simp only [spec_l6Disk.l0, e1, e2, Option.bind_some]
   exact Ev.neg (by omega) (Ev.neg hz (Ev.pos c0 (Ev.pos t0 (Ev.pos t2 (Ev.now _)))))
  ·by_cases c1 : s = 1
   ·obtain ⟨u, i3, h3, e3, _, _, _, j3⟩ := l1Below_some b i2 h2 3 hb j2
    refine ⟨l, u, i3, h3, ?_, hs', j3⟩
    refine Ev.succ ?_
    simp only [spec_l6Disk.l0, e1, e2, e3, Option.bind_some]
    exact Ev.neg (by omega) (Ev.neg hz (Ev.neg c0 (Ev.pos c1 (Ev.now _))))
   ·by_cases c2 : s = 2
    ·refine ⟨l ++ [⟨(rd_T87 l t).f0, (rd_T87 l t).f1, (rd_T87 l t).f2, (rd_T87 l t).f3⟩], n, i2, h2, ?_, ⟨by simp only [List.length_append, List.length_cons, List.length_nil]; omega, fun x hx => ?_⟩, j2⟩
     ·refine Ev.succ ?_
      simp only [spec_l6Disk.l0, e1, e2, Option.bind_some]
      exact Ev.neg (by omega) (Ev.neg hz (Ev.neg c0 (Ev.neg c1 (Ev.pos c2 (Ev.pos t0 (Ev.pos t2 (Ev.pos (by omega) (Ev.now _))))))))
     ·rcases List.mem_append.1 hx with hx | hx
      ·exact hs'.2 x hx
      ·rw [List.mem_singleton.1 hx]; exact hm
    ·by_cases c3 : s = 3
     ·by_cases c4 : ((rd_T87 l t).f1.length : Int) > 0
      ·refine ⟨_, n, i2, h2, ?_, Sz_set hs' t.toNat (y := ⟨(rd_T87 l t).f0, ((rd_T87 l t).f1).drop 1, (rd_T87 l t).f2, (rd_T87 l t).f3⟩) ⟨by rw [List.length_drop]; omega, fun q hq => hm.2 q (List.mem_of_mem_drop hq)⟩, j2⟩
       refine Ev.succ ?_
       simp only [spec_l6Disk.l0, e1, e2, Option.bind_some]
       exact Ev.neg (by omega) (Ev.neg hz (Ev.neg c0 (Ev.neg c1 (Ev.neg c2 (Ev.pos c3 (Ev.pos t0 (Ev.pos t2 (Ev.pos c4 (Ev.pos (by omega) (Ev.now _))))))))))
      ·refine ⟨l, n, i2, h2, ?_, hs', j2⟩
       refine Ev.succ ?_
       simp only [spec_l6Disk.l0, e1, e2, Option.bind_some]
       exact Ev.neg (by omega) (Ev.neg hz (Ev.neg c0 (Ev.neg c1 (Ev.neg c2 (Ev.pos c3 (Ev.pos t0 (Ev.pos t2 (Ev.neg c4 (Ev.now _)))))))))
     ·refine ⟨l, n, i2, h2, ?_, hs', j2⟩
      refine Ev.succ ?_
      simp only [spec_l6Disk.l0, e1, e2, Option.bind_some]
      exact Ev.neg (by omega) (Ev.neg hz (Ev.neg c0 (Ev.neg c1 (Ev.neg c2 (Ev.neg c3 (Ev.now _))))))
theorem l6_main (b : List Int) (hb : b.length ≤ 140737488351232) : ∀ (d A B : Nat) (l : List S87) (n i h : Int), 0 ≤ i → Sz A B l → A + d ≤ 8 → B + 8 * d ≤ 60 → d ≤ 5 →
  ∃ l' n' i' h', Ev (fun k => spec_l6Disk.l0 k (d : Int) b i h l n) (l', n', i', h') ∧ Sz 10 60 l' ∧ 0 ≤ i' := by
 intro d
 induction d with
 | zero => exact fun A B l n i h hi hs hA hB _ => l6_last b l n i h hb hi (Sz_mono hs (by omega) (by omega))
 | succ d ih =>
  intro A B l n i h hi hs hA hB hd
  have wz : wrap64 (((d + 1 : Nat) : Int) - 1) = (d : Int) := by rw [w64 (by omega) (by omega)]; omega
  have j2 : ∀ (l : List S87) (n i h nm : Int), 0 ≤ i → Sz (A + 1) (B + 7) l → ∃ l' n' i' h', Ev (fun k => spec_l6Disk.j2 k ((d + 1 : Nat) : Int) nm b i h l n) (l', n', i', h') ∧ Sz 10 60 l' ∧ 0 ≤ i' := by
   intro l n i h nm hi hs
   obtain ⟨o, i2, h2, e2, j2⟩ := l1Once_some b i h 6 hb hi
   by_cases ho : o = true
   ·have eD := spec_DeleteFile_ev l n nm (Sz_len hs (by omega)) (Sz_in hs (by omega))
    have hD := delM_sz n nm hs
    generalize delM l n nm = r at eD hD
    obtain ⟨l2, n2, bo⟩ := r
    obtain ⟨l', n', i', h', e, s, ji⟩ := ih (A + 1) (B + 7) l2 n2 i2 h2 j2 hD (by omega) (by omega) (by omega)
    refine ⟨l', n', i', h', ?_, s, ji⟩
    refine Ev.succ ?_
    simp only [spec_l6Disk.j2, e2, Option.bind_some, wz]
    exact Ev.pos ho (Ev.bind eD e)
   ·obtain ⟨l', n', i', h', e, s, ji⟩ := ih (A + 1) (B + 7) l n i2 h2 j2 hs (by omega) (by omega) (by omega)
    refine ⟨l', n', i', h', ?_, s, ji⟩
    refine Ev.succ ?_
    simp only [spec_l6Disk.j2, e2, Option.bind_some, wz]
    exact Ev.neg ho e
  have l1 : ∀ (p : List S39), p.length ≤ 7 → ∀ (r : List S39) (j : Nat) (l : List S87) (n i h nm : Int), p.drop j = r → (∀ x ∈ r, x.f0.length ≤ 6) → 0 ≤ i → Sz (A + 1) (B + j) l → j ≤ 7 → ∃ l' n' i' h', Ev (fun k => spec_l6Disk.l1 k ((d + 1 : Nat) : Int) nm p (j : Int) b i h l n) (l', n', i', h') ∧ Sz 10 60 l' ∧ 0 ≤ i' := by
   intro p hp r
   induction r with
   | nil =>
    intro j l n i h nm hr hx hi hs hj
    have hs7 : Sz (A + 1) (B + 7) l := Sz_mono hs (Nat.le_refl _) (by omega)
    obtain ⟨o, i2, h2, e2, k2⟩ := l1Once_some b i h 4 hb hi
    by_cases ho : o = true
    ·obtain ⟨l', n', i', h', e, s, ji⟩ := j2 l n i2 h2 nm k2 hs7
     refine ⟨l', n', i', h', ?_, s, ji⟩
     refine Ev.succ ?_
     simp only [spec_l6Disk.l1, e2, Option.bind_some]
     exact Ev.neg (drop_nil_lt hr) (Ev.pos ho e)
    ·have eS := spec_SealFile_ev l n nm (Sz_len hs (by omega)) (Sz_in hs (by omega))
     have hS := sealM_sz n nm hs7
     generalize sealM l n nm = r at eS hS
     obtain ⟨l2, n2, bo⟩ := r
     obtain ⟨l', n', i', h', e, s, ji⟩ := j2 l2 n2 i2 h2 nm k2 hS
     refine ⟨l', n', i', h', ?_, s, ji⟩
     refine Ev.succ ?_
     simp only [spec_l6Disk.l1, e2, Option.bind_some]
     exact Ev.neg (drop_nil_lt hr) (Ev.neg ho (Ev.bind eS e))
   | cons x r ih2 =>
    intro j l n i h nm hr hx hi hs hj
    obtain ⟨h1, h2, h3⟩ := rdT39 hr
    have hx0 := hx x (by simp)
    have eA := spec_AppendPage_ev l n nm x.f0 (Sz_len hs (by omega)) (Sz_in hs (by omega)) (by omega)
    have hA2 := apM_sz n nm hs (show x.f0.length ≤ 100 by omega)
    generalize apM l n nm x.f0 = q at eA hA2
    obtain ⟨l2, n2, bo⟩ := q
    obtain ⟨l', n', i', h', e, s, ji⟩ := ih2 (j + 1) l2 n2 i h nm h3 (fun y hy => hx y (by simp [hy])) hi hA2 (by omega)
    refine ⟨l', n', i', h', ?_, s, ji⟩
    refine Ev.succ ?_
    simp only [spec_l6Disk.l1, h2, nxt (show p.length ≤ 4611686018427387904 by omega) h1]
    exact Ev.pos h1 (Ev.pos (Int.natCast_nonneg _) (Ev.bind eA e))
  have eC := spec_CreateFile_ev l n (Sz_len hs (by omega)) (Sz_in hs (by omega))
  have hC := crM_sz n hs
  generalize crM l n = c at eC hC
  obtain ⟨l2, n2, nm, bo⟩ := c
  obtain ⟨q, i1, h1, e1, hq, j1⟩ := l2Rows_ev b i h 6 hb hi (by omega) (by omega)
  have eP := spec_PackPages_ev q (by omega)
  obtain ⟨hpl, hps⟩ := packs_bd q 6 (by omega)
  generalize packs q = p at eP hpl hps
  obtain ⟨l', n', i', h', e, s, ji⟩ := l1 p hpl p 0 l2 n2 i1 h1 nm rfl hps j1 hC (by omega)
  refine ⟨l', n', i', h', ?_, s, ji⟩
  refine Ev.succ ?_
  simp only [spec_l6Disk.l0]
  exact Ev.pos (by omega) (Ev.bind eC (Ev.bind e1 (Ev.bind eP e)))
theorem l6Disk_ev (b : List Int) (i h : Int) (hb : b.length ≤ 140737488351232) (hi : 0 ≤ i) :
  ∃ l n i' h', Ev (fun k => spec_l6Disk.f k b i h) (l, n, i', h') ∧ Sz 10 60 l ∧ 0 ≤ i' := by
 obtain ⟨t, i1, h1, e1, t0, t1, _, j1⟩ := l1Below_some b i h 5 hb hi
 have t2 := t1 (by omega)
 obtain ⟨d, rfl⟩ := Int.eq_ofNat_of_zero_le t0
 obtain ⟨l, n, i2, h2, e2, s, j2⟩ := l6_main b hb d 0 0 [] 0 i1 h1 j1 ⟨by simp, by simp⟩ (by omega) (by omega) (by omega)
 refine ⟨l, n, i2, h2, ?_, s, j2⟩
 simp only [spec_l6Disk.f, e1, Option.bind_some]
 exact e2
theorem vps_snocA {l : List S39} {q : List S42} (h : vpsM l = true) (hq : vpM q = true) : vpsM (l ++ [⟨q⟩]) = true := by
 simp only [vpsM, List.all_append, Bool.and_eq_true] at h ⊢
 exact ⟨h, by simp [hq]⟩
def tot : List S39 → Nat
 | [] => 0
 | x :: r => x.f0.length + tot r
def flat : List S39 → List S42
 | [] => []
 | x :: r => x.f0 ++ flat r
theorem flat_len : ∀ l : List S39, (flat l).length = tot l
 | [] => rfl
 | x :: r => by simp [flat, tot, flat_len r]
theorem impl_Unpack_ev (l : List S39) (hl : l.length ≤ 1048576) (ht : tot l ≤ 1048576) : Ev (fun k => impl_UnpackPages.f k l) (flat l) := by
 have key : ∀ (r : List S39) (i : Nat) (d : List S42), l.drop i = r → d.length + tot r ≤ 1048576 → Ev (fun k => impl_UnpackPages.l0 k d l (l.length : Int) (i : Int)) (d ++ flat r) := by
  intro r
  induction r with
  | nil =>
   intro i d h hd
   refine Ev.succ ?_
   simp only [impl_UnpackPages.l0]
   exact Ev.neg (drop_nil_lt h) (Ev.now' (by simp [flat]))
  | cons b r ih =>
   intro i d h hd
   obtain ⟨h1, h2, h3⟩ := rdT39 h
   simp only [tot] at hd
   refine Ev.succ ?_
   simp only [impl_UnpackPages.l0, h2, nxt (show l.length ≤ 4611686018427387904 by omega) h1]
   refine Ev.pos h1 (Ev.pos (Int.natCast_nonneg _) (Ev.pos h1 (Ev.pos (by omega) ?_)))
   have := ih (i + 1) (d ++ b.f0) h3 (by simp only [List.length_append]; omega)
   rw [flat, ← List.append_assoc]
   exact this
 have := key l 0 [] rfl (by simpa using ht)
 simpa [impl_UnpackPages.f] using this
theorem spec_Unpack_ev (l : List S39) (hl : l.length ≤ 1048576) (ht : tot l ≤ 1048576) : Ev (fun k => spec_UnpackPages.f k l) (flat l) := by
 have key : ∀ (r : List S39) (i : Nat) (d : List S42), l.drop i = r → d.length + tot r ≤ 1048576 → Ev (fun k => spec_UnpackPages.l0 k l d (i : Int)) (d ++ flat r) := by
  intro r
  induction r with
  | nil =>
   intro i d h hd
   refine Ev.succ ?_
   simp only [spec_UnpackPages.l0]
   exact Ev.neg (drop_nil_lt h) (Ev.now' (by simp [flat]))
  | cons b r ih =>
   intro i d h hd
   obtain ⟨h1, h2, h3⟩ := rdT39 h
   simp only [tot] at hd
   refine Ev.succ ?_
   simp only [spec_UnpackPages.l0, h2, nxt (show l.length ≤ 4611686018427387904 by omega) h1]
   refine Ev.pos h1 (Ev.pos (Int.natCast_nonneg _) (Ev.pos (by omega) ?_))
   have := ih (i + 1) (d ++ b.f0) h3 (by simp only [List.length_append]; omega)
   rw [flat, ← List.append_assoc]
   exact this
 have := key l 0 [] rfl (by simpa using ht)
 simpa [spec_UnpackPages.f] using this
def rfM (l : List S87) (n a : Int) : List S42 × Bool :=
 if idM l n = true then (if faM a 0 l < 0 then ([], false) else (if (rd_T87 l (faM a 0 l)).f3 = true then (if (rd_T87 l (faM a 0 l)).f2 = ckM (rd_T87 l (faM a 0 l)).f1 then (flat (rd_T87 l (faM a 0 l)).f1, true) else ([], false)) else ([], false))) else ([], false)
theorem tot_small {l : List S39} (h : l.length ≤ 40) (hp : ∀ p ∈ l, p.f0.length ≤ 24) : tot l ≤ 960 := by
 have : ∀ (l : List S39), (∀ p ∈ l, p.f0.length ≤ 24) → tot l ≤ 24 * l.length := by
  intro l
  induction l with
  | nil => intro _; simp [tot]
  | cons x r ih =>
   intro hp
   have h1 := hp x (by simp)
   have h2 := ih (fun y hy => hp y (by simp [hy]))
   simp only [tot, List.length_cons]; omega
 have := this l hp
 omega
def duM (l : List S87) (n : Int) : List S87 × Int := (l.filter (fun x => (rfM l n x.f0).2), n)
theorem dM_none {n : Int} {p : Option Int} {l : List S87} (h : dM n p l = true) : dM n none l = true := by
 cases l with
 | nil => rfl
 | cons x r =>
  simp only [dM, Bool.and_eq_true] at h ⊢
  exact ⟨h.1, trivial, h.2.2⟩
theorem dM_gt {n : Int} : ∀ (l : List S87) (b : Int), dM n (some b) l = true → ∀ x ∈ l, b < x.f0
 | [], b, _ => by simp
 | y :: r, b, h => by
  simp only [dM, Bool.and_eq_true, Bool.not_eq_true', decide_eq_false_iff_not] at h
  intro x hx
  rcases List.mem_cons.1 hx with rfl | hx
  ·omega
  ·have := dM_gt r y.f0 h.2.2.2.2 x hx; omega
theorem dM_some {n b : Int} {l : List S87} (h : dM n none l = true) (hb : ∀ x ∈ l, b < x.f0) : dM n (some b) l = true := by
 cases l with
 | nil => rfl
 | cons x r =>
  simp only [dM, Bool.and_eq_true, Bool.not_eq_true', decide_eq_false_iff_not] at h ⊢
  have := hb x (by simp)
  exact ⟨h.1, by omega, h.2.2⟩
theorem dM_name {n : Int} : ∀ (l : List S87) (p : Option Int), dM n p l = true → ∀ x ∈ l, 0 ≤ x.f0 ∧ x.f0 ≤ wrap64 (n - 1)
 | [], p, _ => by simp
 | y :: r, p, h => by
  simp only [dM, Bool.and_eq_true, decide_eq_true_eq] at h
  intro x hx
  rcases List.mem_cons.1 hx with rfl | hx
  ·exact h.1
  ·exact dM_name r _ h.2.2.2.2 x hx
theorem dM_up {n m : Int} (hm : wrap64 (n - 1) ≤ wrap64 (m - 1)) : ∀ (l : List S87) (p : Option Int), dM n p l = true → dM m p l = true
 | [], p, _ => rfl
 | y :: r, p, h => by
  simp only [dM, Bool.and_eq_true, decide_eq_true_eq] at h ⊢
  exact ⟨⟨h.1.1, by omega⟩, h.2.1, h.2.2.1, h.2.2.2.1, dM_up hm r _ h.2.2.2.2⟩
theorem dM_snoc {n : Int} {y : S87} (h0 : 0 ≤ y.f0) (h1 : y.f0 ≤ wrap64 (n - 1)) (h2 : vpsM y.f1 = true) (h3 : (y.f3 || decide (y.f2 = 0)) = true) : ∀ (l : List S87) (p : Option Int), dM n p l = true → (∀ x ∈ l, x.f0 < y.f0) → (∀ q, p = some q → q < y.f0) → dM n p (l ++ [y]) = true
 | [], p, _, _, hp => by
  simp only [List.nil_append, dM, Bool.and_eq_true, decide_eq_true_eq, and_true]
  refine ⟨⟨h0, h1⟩, ?_, h2, h3⟩
  cases p with
  | none => rfl
  | some q => have := hp q rfl; simp only [Bool.not_eq_true', decide_eq_false_iff_not]; omega
 | x :: r, p, h, hl, hp => by
  simp only [List.cons_append, dM, Bool.and_eq_true, decide_eq_true_eq] at h ⊢
  exact ⟨h.1, h.2.1, h.2.2.1, h.2.2.2.1, dM_snoc h0 h1 h2 h3 r _ h.2.2.2.2 (fun z hz => hl z (by simp [hz])) (fun q hq => by cases hq; exact hl x (by simp))⟩
theorem dM_filter {n : Int} (f : S87 → Bool) : ∀ (l : List S87) (p : Option Int), dM n p l = true → dM n p (l.filter f) = true
 | [], p, _ => rfl
 | x :: r, p, h => by
  have h' := h
  simp only [dM, Bool.and_eq_true] at h
  have ih := dM_filter f r _ h.2.2.2.2
  by_cases hf : f x = true
  ·rw [List.filter_cons_of_pos hf]
   simp only [dM, Bool.and_eq_true]
   exact ⟨h.1, h.2.1, h.2.2.1, h.2.2.2.1, ih⟩
  ·rw [List.filter_cons_of_neg hf]
   cases p with
   | none => exact dM_none ih
   | some q =>
    refine dM_some (dM_none ih) (fun z hz => ?_)
    exact dM_gt (x :: r) q h' z (by simp [(List.mem_filter.1 hz).1])
theorem cpM_shift : ∀ (l : List S87) (n : Int), cpM l n = cpM l 0 + n
 | [], n => by simp [cpM]
 | x :: r, n => by simp only [cpM]; rw [cpM_shift r (n + _), cpM_shift r (0 + _)]; omega
theorem cpM_app : ∀ (l m : List S87) (n : Int), cpM (l ++ m) n = cpM m (cpM l n)
 | [], m, n => rfl
 | x :: r, m, n => by simp only [List.cons_append, cpM]; exact cpM_app r m _
theorem cpM_filter (f : S87 → Bool) : ∀ (l : List S87), cpM (l.filter f) 0 ≤ cpM l 0
 | [] => Int.le_refl _
 | x :: r => by
  have ih := cpM_filter f r
  by_cases hf : f x = true
  ·rw [List.filter_cons_of_pos hf]
   simp only [cpM]
   rw [cpM_shift, cpM_shift r]; omega
  ·rw [List.filter_cons_of_neg hf]
   simp only [cpM]
   rw [cpM_shift r]; omega
theorem idM_filter {l : List S87} {n : Int} (f : S87 → Bool) (h : idM l n = true) : idM (l.filter f) n = true := by
 simp only [idM, Bool.and_eq_true, decide_eq_true_eq] at h ⊢
 have := cpM_filter f l
 exact ⟨dM_filter f l none h.1, h.2.1, by omega⟩
theorem faM_no (a : Int) : ∀ (l : List S87) (i : Nat), (∀ x ∈ l, x.f0 ≠ a) → faM a i l = -1
 | [], i, _ => rfl
 | x :: r, i, h => by
  simp only [faM]
  rw [if_neg (h x (by simp))]
  exact faM_no a r (i + 1) (fun y hy => h y (by simp [hy]))
theorem faM_snoc {y : S87} : ∀ (l : List S87) (i : Nat), (∀ x ∈ l, x.f0 ≠ y.f0) → faM y.f0 i (l ++ [y]) = ((i + l.length : Nat) : Int)
 | [], i, _ => by simp [faM]
 | x :: r, i, h => by
  simp only [List.cons_append, faM]
  rw [if_neg (h x (by simp)), faM_snoc r (i + 1) (fun z hz => h z (by simp [hz]))]
  simp only [List.length_cons]; omega
theorem faM_uniq {n : Int} {x : S87} : ∀ (l : List S87) (p : Option Int) (i : Nat), dM n p l = true → x ∈ l → ∃ j, l[j]? = some x ∧ faM x.f0 i l = ((i + j : Nat) : Int)
 | [], p, i, _, hx => by simp at hx
 | y :: r, p, i, h, hx => by
  simp only [dM, Bool.and_eq_true] at h
  simp only [faM]
  by_cases he : y.f0 = x.f0
  ·rw [if_pos he]
   rcases List.mem_cons.1 hx with rfl | hx
   ·exact ⟨0, rfl, rfl⟩
   ·have := dM_gt r y.f0 h.2.2.2.2 x hx; omega
  ·rw [if_neg he]
   rcases List.mem_cons.1 hx with rfl | hx
   ·exact absurd rfl he
   ·obtain ⟨j, h1, h2⟩ := faM_uniq r _ (i + 1) h.2.2.2.2 hx
    exact ⟨j + 1, by simpa using h1, by rw [h2]; congr 1; omega⟩
def goodF (x : S87) : Bool := x.f3 && decide (x.f2 = ckM x.f1)
theorem rfM_two {l : List S87} {n : Int} (h : idM l n = true) {x : S87} (hx : x ∈ l) : (rfM l n x.f0).2 = goodF x ∧ (goodF x = true → rfM l n x.f0 = (flat x.f1, true)) := by
 have hd : dM n none l = true := by simp only [idM, Bool.and_eq_true] at h; exact h.1
 obtain ⟨j, h1, h2⟩ := faM_uniq l none 0 hd hx
 have hr : rd_T87 l (faM x.f0 0 l) = x := by
  rw [h2, Nat.zero_add]; unfold rd_T87
  rw [Int.toNat_natCast, List.getD_eq_getElem?_getD, h1]; rfl
 unfold rfM goodF
 rw [if_pos h, if_neg (by omega), hr]
 by_cases h3 : x.f3 = true
 ·rw [if_pos h3]
  by_cases h4 : x.f2 = ckM x.f1
  ·rw [if_pos h4]; simp [h3, h4]
  ·rw [if_neg h4]; simp [h3, h4]
 ·rw [if_neg h3]; simp [h3]
theorem duM_good {l : List S87} {n : Int} (h : idM l n = true) : duM l n = (l.filter goodF, n) := by
 unfold duM
 rw [List.filter_congr (fun x hx => (rfM_two h hx).1)]
theorem rfM_no {l : List S87} (n a : Int) (h : ∀ x ∈ l, x.f0 ≠ a) : (rfM l n a).2 = false := by
 unfold rfM
 rw [faM_no a l 0 h]
 split
 ·rw [if_pos (by omega)]
 ·rfl
theorem rd_snoc (l : List S87) (y : S87) : rd_T87 (l ++ [y]) (l.length : Int) = y := by
 unfold rd_T87
 rw [Int.toNat_natCast, List.getD_eq_getElem?_getD]
 simp
theorem idM_next {l : List S87} {n : Int} (h : idM l n = true) (hn : n < 1000) {y : S87} (h0 : y.f0 = n) (h2 : vpsM y.f1 = true) (h3 : (y.f3 || decide (y.f2 = 0)) = true) (hc : cpM l 0 + y.f1.length ≤ 40) : idM (l ++ [y]) (n + 1) = true ∧ (∀ x ∈ l, x.f0 ≠ y.f0) ∧ cpM (l ++ [y]) 0 = cpM l 0 + y.f1.length := by
 simp only [idM, Bool.and_eq_true, decide_eq_true_eq] at h
 have e1 : wrap64 (n - 1) = n - 1 := w64 (by omega) (by omega)
 have e2 : wrap64 (n + 1 - 1) = n := by rw [w64 (by omega) (by omega)]; omega
 have hlt : ∀ x ∈ l, x.f0 < y.f0 := fun x hx => by have := (dM_name l none h.1 x hx).2; omega
 have ec : cpM (l ++ [y]) 0 = cpM l 0 + y.f1.length := by rw [cpM_app]; simp only [cpM]
 refine ⟨?_, fun x hx => by have := hlt x hx; omega, ec⟩
 simp only [idM, Bool.and_eq_true, decide_eq_true_eq]
 refine ⟨dM_snoc (by omega) (by omega) h2 h3 l none (dM_up (by omega) l none h.1) hlt (by simp), by omega, by omega⟩
theorem apM_X {l : List S87} {n : Int} {pgs : List S39} {q : List S42} (h : idM l n = true) (hn : n < 1000) (hp : vpsM pgs = true) (hq : vpM q = true) (hc : cpM l 0 + pgs.length ≤ 40) :
  apM (l ++ [⟨n, pgs, 0, false⟩]) (n + 1) n q = if cpM l 0 + pgs.length ≥ 40 then (l ++ [⟨n, pgs, 0, false⟩], n + 1, false) else (l ++ [⟨n, pgs ++ [⟨q⟩], 0, false⟩], n + 1, true) := by
 obtain ⟨hv, hne, he⟩ := idM_next (y := ⟨n, pgs, 0, false⟩) h hn rfl hp (by simp) hc
 have hf : faM n 0 (l ++ [⟨n, pgs, 0, false⟩]) = (l.length : Int) := by
  have := faM_snoc (y := ⟨n, pgs, 0, false⟩) l 0 hne
  rw [this]; simp
 unfold apM
 rw [if_pos hv, hf, if_neg (by omega), rd_snoc, if_neg (by simp), if_pos hq, he]
 by_cases h40 : cpM l 0 + (pgs.length : Int) ≥ 40
 ·rw [if_pos h40, if_pos h40]
 ·rw [if_neg h40, if_neg h40]
  unfold apL
  rw [Int.toNat_natCast, rd_snoc]
  simp
theorem sealM_X {l : List S87} {n : Int} {pgs : List S39} (h : idM l n = true) (hn : n < 1000) (hp : vpsM pgs = true) (hc : cpM l 0 + pgs.length ≤ 40) :
  sealM (l ++ [⟨n, pgs, 0, false⟩]) (n + 1) n = (l ++ [⟨n, pgs, ckM pgs, true⟩], n + 1, true) := by
 obtain ⟨hv, hne, he⟩ := idM_next (y := ⟨n, pgs, 0, false⟩) h hn rfl hp (by simp) hc
 have hf : faM n 0 (l ++ [⟨n, pgs, 0, false⟩]) = (l.length : Int) := by
  have := faM_snoc (y := ⟨n, pgs, 0, false⟩) l 0 hne
  rw [this]; simp
 unfold sealM
 rw [if_pos hv, hf, if_neg (by omega), rd_snoc, if_neg (by simp), Int.toNat_natCast]
 simp
theorem delM_X {l : List S87} {n : Int} {y : S87} (h : idM l n = true) (hn : n < 1000) (h0 : y.f0 = n) (h2 : vpsM y.f1 = true) (h3 : (y.f3 || decide (y.f2 = 0)) = true) (hc : cpM l 0 + y.f1.length ≤ 40) :
  delM (l ++ [y]) (n + 1) n = (l, n + 1, true) := by
 obtain ⟨hv, hne, he⟩ := idM_next h hn h0 h2 h3 hc
 have hf : faM n 0 (l ++ [y]) = (l.length : Int) := by
  have := faM_snoc (y := y) l 0 hne
  rw [h0] at this; rw [this]; simp
 unfold delM
 rw [if_pos hv, hf, if_neg (by omega), Int.toNat_natCast]
 simp [List.eraseIdx_append_of_length_le]
theorem crM_ok {l : List S87} {n : Int} (h : (crM l n).2.2.2 = true) : idM l n = true ∧ n < 1000 ∧ crM l n = (l ++ [⟨n, [], 0, false⟩], n + 1, n, true) := by
 unfold crM at h ⊢
 by_cases hv : idM l n = true
 ·rw [if_pos hv] at h ⊢
  by_cases hn : n ≥ 1000
  ·rw [if_pos hn] at h; simp at h
  ·rw [if_neg hn]; exact ⟨hv, by omega, rfl⟩
 ·rw [if_neg hv] at h; simp at h
theorem crM_no {l : List S87} {n : Int} (h : ¬ (crM l n).2.2.2 = true) : crM l n = (l, n, 0, false) := by
 unfold crM at h ⊢
 by_cases hv : idM l n = true
 ·rw [if_pos hv] at h ⊢
  by_cases hn : n ≥ 1000
  ·rw [if_pos hn]
  ·rw [if_neg hn] at h; simp at h
 ·rw [if_neg hv]
theorem impl_clonePages_ev (l : List S39) (hl : l.length ≤ 1048576) (hp : ∀ q ∈ l, q.f0.length ≤ 1048576) : Ev (fun k => impl_clonePages.f k l) l := by
 have key : ∀ (r : List S39) (i : Nat) (acc : List S39), l.drop i = r → acc ++ r = l → Ev (fun k => impl_clonePages.l0 k acc l (l.length : Int) (i : Int)) l := by
  intro r
  induction r with
  | nil =>
   intro i acc h he
   rw [List.append_nil] at he
   subst he
   refine Ev.succ ?_
   simp only [impl_clonePages.l0]
   exact Ev.neg (drop_nil_lt h) (Ev.now _)
  | cons x r ih =>
   intro i acc h he
   obtain ⟨h1, h2, h3⟩ := rdT39 h
   have hal : acc.length ≤ 1048576 := by have := congrArg List.length he; rw [List.length_append] at this; omega
   have hx := hp x (by rw [← he]; simp)
   have hc : impl_clone.f x.f0 = some x.f0 := by unfold impl_clone.f; rw [if_pos (by omega)]
   refine Ev.succ ?_
   simp only [impl_clonePages.l0, h2, nxt (show l.length ≤ 4611686018427387904 by omega) h1, hc, Option.bind_some]
   refine Ev.pos h1 (Ev.pos (Int.natCast_nonneg _) (Ev.pos h1 (Ev.pos (by omega) ?_)))
   exact ih (i + 1) (acc ++ [x]) h3 (by rw [List.append_assoc]; exact he)
 exact key l 0 [] rfl rfl
theorem impl_cloneDisk_ev (l : List S87) (n : Int) (hl : l.length ≤ 1048576) (hp0 : ∀ x ∈ l, x.f1.length ≤ 1048576 ∧ ∀ q ∈ x.f1, q.f0.length ≤ 1048576) : Ev (fun k => impl_cloneDisk.f k l n) (l, n) := by
 have key : ∀ (r : List S87) (i : Nat) (acc : List S87), l.drop i = r → acc ++ r = l → Ev (fun k => impl_cloneDisk.l0 k l (l.length : Int) (i : Int) acc n) (l, n) := by
  intro r
  induction r with
  | nil =>
   intro i acc h he
   rw [List.append_nil] at he
   subst he
   refine Ev.succ ?_
   simp only [impl_cloneDisk.l0]
   exact Ev.neg (drop_nil_lt h) (Ev.now _)
  | cons x r ih =>
   intro i acc h he
   obtain ⟨h1, h2, h3⟩ := rdT87 h
   have hal : acc.length ≤ 1048576 := by have := congrArg List.length he; rw [List.length_append] at this; omega
   have hx := hp0 x (by rw [← he]; simp)
   refine Ev.succ ?_
   simp only [impl_cloneDisk.l0, h2, nxt (show l.length ≤ 4611686018427387904 by omega) h1]
   refine Ev.pos h1 (Ev.pos (Int.natCast_nonneg _) (Ev.pos h1 (Ev.bind (impl_clonePages_ev x.f1 hx.1 hx.2) (Ev.pos (by omega) ?_))))
   exact ih (i + 1) (acc ++ [x]) h3 (by rw [List.append_assoc]; exact he)
 exact key l 0 [] rfl rfl
theorem impl_CreateFile_ev (l : List S87) (n : Int) (hl : l.length ≤ 1048576) (hp0 : ∀ x ∈ l, x.f1.length ≤ 1048576 ∧ ∀ q ∈ x.f1, q.f0.length ≤ 1048576) : Ev (fun k => impl_CreateFile.f k l n) (crM l n) := by
 simp only [impl_CreateFile.f]
 refine Ev.bind (impl_cloneDisk_ev l n hl hp0) (Ev.bind (impl_IsValidDisk_ev l n hl hp0) ?_)
 unfold crM
 by_cases hv : idM l n = true
 ·have hn := idM_n hv
  refine Ev.pos hv ?_
  rw [if_pos hv]
  by_cases h1 : n ≥ 1000
  ·rw [if_pos h1]; exact Ev.pos (by omega) (Ev.now _)
  ·rw [if_neg h1]; exact Ev.neg (by omega) (Ev.pos (by (try dsimp only); omega) (Ev.now' (by (try dsimp only); rw [w64 (by omega) (by omega)])))
 ·refine Ev.neg hv ?_
  rw [if_neg hv]; exact Ev.now _
theorem impl_fileAt_ev (l : List S87) (n a : Int) (hl : l.length ≤ 1048576) : Ev (fun k => impl_fileAt.f k l n a) (faM a 0 l) := by
 have key : ∀ (r : List S87) (i : Nat), l.drop i = r → Ev (fun k => impl_fileAt.l0 k a l (l.length : Int) (i : Int)) (faM a i r) := by
  intro r
  induction r with
  | nil =>
   intro i h
   refine Ev.succ ?_
   simp only [impl_fileAt.l0, faM]
   exact Ev.neg (drop_nil_lt h) (Ev.now _)
  | cons x r ih =>
   intro i h
   obtain ⟨h1, h2, h3⟩ := rdT87 h
   refine Ev.succ ?_
   simp only [impl_fileAt.l0, faM, h2, nxt (show l.length ≤ 4611686018427387904 by omega) h1]
   refine Ev.pos h1 (Ev.pos (Int.natCast_nonneg _) (Ev.pos h1 ?_))
   by_cases hz : x.f0 = a
   ·rw [if_pos hz]; exact Ev.pos hz (Ev.now _)
   ·rw [if_neg hz]; exact Ev.neg hz (ih (i + 1) h3)
 exact key l 0 rfl
theorem impl_AppendPage_ev (l : List S87) (n a : Int) (q : List S42) (hl : l.length ≤ 1048576) (hp0 : ∀ x ∈ l, x.f1.length ≤ 1048576 ∧ ∀ q ∈ x.f1, q.f0.length ≤ 1048576) (hq : q.length ≤ 1048576) : Ev (fun k => impl_AppendPage.f k l n a q) (apM l n a q) := by
 simp only [impl_AppendPage.f]
 refine Ev.bind (impl_cloneDisk_ev l n hl hp0) (Ev.bind (impl_fileAt_ev l n a hl) (Ev.bind (impl_IsValidDisk_ev l n hl hp0) ?_))
 dsimp only
 unfold apM
 by_cases hv : idM l n = true
 ·rw [if_pos hv]; refine Ev.pos hv ?_
  by_cases hf : faM a 0 l < 0
  ·rw [if_pos hf]; exact Ev.pos hf (Ev.now _)
  ·rw [if_neg hf]
   obtain ⟨h1, h2, h3⟩ := faM_at hf
   obtain ⟨j, hj⟩ := Int.eq_ofNat_of_zero_le h1
   rw [hj] at hf h1 h2 h3 ⊢
   have hx := hp0 _ h3
   refine Ev.neg hf (Ev.pos h1 (Ev.pos h2 ?_))
   simp only [Int.toNat_natCast]
   by_cases hz : (rd_T87 l j).f3 = true
   ·rw [if_pos hz]; exact Ev.pos hz (Ev.now _)
   ·rw [if_neg hz]
    refine Ev.neg hz (Ev.bind (impl_IsValidPage_ev q (by omega)) ?_)
    by_cases hvp : vpM q = true
    ·rw [if_pos hvp]
     refine Ev.pos hvp (Ev.bind (impl_CountPages_ev l n hl (fun x hx => (hp0 x hx).1)) ?_)
     by_cases hc : cpM l 0 ≥ 40
     ·refine Ev.pos hc ?_
      rw [if_pos hc]; exact Ev.now _
     ·refine Ev.neg hc ?_
      rw [if_neg hc]
      exact Ev.pos (by omega) (Ev.pos (by omega) (Ev.now _))
    ·rw [if_neg hvp]; exact Ev.neg hvp (Ev.now _)
 ·rw [if_neg hv]; exact Ev.neg hv (Ev.now _)
theorem u64w (x : Int) : IntKind.u64.wrap x = x % 18446744073709551616 := by simp [IntKind.wrap, IntKind.bits, IntKind.signed]
theorem impl_dec : ∀ (n : Nat), n ≤ 9223372036854775808 → Ev (fun k => impl_decimal.f k (n : Int)) (strOfNums (dec n)) := by
 intro n
 induction n using Nat.strongRecOn with
 | _ n ih =>
  intro hn
  refine Ev.succ ?_
  simp only [impl_decimal.f]
  by_cases h : n < 10
  ·refine Ev.pos (by omega) (Ev.now' ?_)
   have e : IntKind.u64.wrap (48 + (n : Int)) % 256 = 48 + (n : Int) := by rw [u64w]; omega
   rw [e]
   unfold dec
   by_cases h0 : n = 0
   ·subst h0; rfl
   ·rw [if_neg h0, dgs_pos h0, show n / 10 = 0 by omega, dgs_zero, show n % 10 = n by omega]; rfl
  ·refine Ev.neg (by omega) ?_
   have e1 : IntKind.u64.wrap (Int.tdiv (n : Int) 10) = ((n / 10 : Nat) : Int) := by rw [Int.tdiv_eq_ediv_of_nonneg (by omega), u64w]; omega
   have e2 : IntKind.u64.wrap (48 + Int.tmod (n : Int) 10) % 256 = 48 + ((n % 10 : Nat) : Int) := by rw [Int.tmod_eq_emod_of_nonneg (by omega), u64w]; omega
   simp only [e1, e2, Option.bind_some]
   refine Ev.tl (ih (n / 10) (by omega) (by omega)) ?_
   have hl := dec_len (n / 10) (by omega)
   rw [if_pos (by rw [strOfNums_size, strOfNums_size]; simp only [List.length_cons, List.length_nil]; omega), str_append]
   have e3 : dec n = dec (n / 10) ++ [48 + ((n % 10 : Nat) : Int)] := by
    unfold dec
    rw [if_neg (show ¬ n = 0 by omega), if_neg (show ¬ n / 10 = 0 by omega), dgs_pos (show n ≠ 0 by omega)]
   rw [e3]
theorem impl_FormatInt_ev (n : Int) (h1 : -9223372036854775808 ≤ n) (h2 : n ≤ 9223372036854775807) : Ev (fun k => impl_FormatInt.f k n) (strOfNums (fmtI n)) := by
 simp only [impl_FormatInt.f]
 have hl := dec_len n.natAbs (by omega)
 by_cases h : n < 0
 ·refine Ev.pos h ?_
  have e : IntKind.u64.wrap (-(IntKind.u64.wrap n)) = (n.natAbs : Int) := by rw [u64w, u64w]; omega
  simp only [e]
  refine Ev.tl (impl_dec n.natAbs (by omega)) ?_
  rw [if_pos (by rw [strOfNums_size]; omega), str_minus]
  unfold fmtI
  rw [if_pos h]
 ·refine Ev.neg h ?_
  have e : IntKind.u64.wrap n = (n.natAbs : Int) := by rw [u64w]; omega
  simp only [e]
  refine Ev.tl (impl_dec n.natAbs (by omega)) ?_
  unfold fmtI
  rw [if_neg h]
theorem impl_FormatRow_ev (a b c : Int) : Ev (fun k => impl_FormatRow.f k a b c) (strOfNums (frI a b c)) := by
 simp only [impl_FormatRow.f, impl_IsValidRow_f, Option.bind_some]
 unfold frI
 by_cases h : vrow (a, b, c) = true
 ·have hv := vrow_iff.1 h
  have l1 := fmtI_len a (by omega) (by omega)
  have l2 := fmtI_len b (by omega) (by omega)
  have l3 := fmtI_len c (by omega) (by omega)
  rw [if_pos h]
  refine Ev.pos h (Ev.bind (impl_FormatInt_ev a (by omega) (by omega)) (Ev.pos (by rw [strOfNums_size]; omega) (Ev.bind (impl_FormatInt_ev b (by omega) (by omega)) ?_)))
  simp only [str_dot, str_append]
  refine Ev.pos ?_ (Ev.pos ?_ (Ev.bind (impl_FormatInt_ev c (by omega) (by omega)) ?_))
  ·rw [strOfNums_size, strOfNums_size]; simp only [List.length_append, List.length_cons, List.length_nil]; omega
  ·rw [strOfNums_size]; simp only [List.length_append, List.length_cons, List.length_nil]; omega
  ·simp only [str_append]
   refine Ev.pos ?_ (Ev.now' ?_)
   ·rw [strOfNums_size, strOfNums_size]; simp only [List.length_append, List.length_cons, List.length_nil]; omega
   ·simp
 ·rw [if_neg h]
  exact Ev.neg h (Ev.now' rfl)
theorem dgs_dig : ∀ (n : Nat), ∀ c ∈ dgs n, 48 ≤ c ∧ c ≤ 57 := by
 intro n
 induction n using Nat.strongRecOn with
 | _ n ih =>
  intro c hc
  by_cases h : n = 0
  ·subst h; rw [dgs_zero] at hc; simp at hc
  ·rw [dgs_pos h] at hc
   rcases List.mem_append.1 hc with hc | hc
   ·exact ih (n / 10) (by omega) c hc
   ·have : c = 48 + ((n % 10 : Nat) : Int) := by simpa using hc
    omega
theorem dec_dig (n : Nat) : ∀ c ∈ dec n, 48 ≤ c ∧ c ≤ 57 := by
 intro c hc
 unfold dec at hc
 split at hc
 ·have : c = 48 := by simpa using hc
  omega
 ·exact dgs_dig n c hc
theorem dec_range (n : Nat) : ∀ c ∈ dec n, 0 ≤ c ∧ c ≤ 255 := fun c hc => by have := dec_dig n c hc; omega
theorem fmtI_range (n : Int) : ∀ c ∈ fmtI n, 0 ≤ c ∧ c ≤ 255 := by
 intro c hc
 unfold fmtI at hc
 split at hc
 ·rcases List.mem_cons.1 hc with rfl | hc
  ·omega
  ·exact dec_range _ c hc
 ·exact dec_range _ c hc
def numsB (s : ByteArray) : List Int := s.data.toList.map fun b => (b.toNat : Int)
theorem numsB_len (s : ByteArray) : (numsB s).length = s.size := by unfold numsB; rw [List.length_map, ← ba_size]
theorem numsB_str (l : List Int) (h : ∀ c ∈ l, 0 ≤ c ∧ c ≤ 255) : numsB (strOfNums l) = l := by
 unfold numsB
 rw [strOfNums_data, List.map_map]
 have : ∀ c ∈ l, ((fun b : UInt8 => (b.toNat : Int)) ∘ fun n : Int => UInt8.ofNat n.toNat) c = id c := by
  intro c hc
  have := h c hc
  simp; omega
 rw [List.map_congr_left this, List.map_id]
theorem str_numsB (s : ByteArray) : strOfNums (numsB s) = s := by
 unfold numsB strOfNums
 rw [List.map_map]
 have : ((fun n : Int => UInt8.ofNat n.toNat) ∘ fun b : UInt8 => (b.toNat : Int)) = id := by funext b; simp
 rw [this, List.map_id]
theorem rdB {l : List ByteArray} {i : Nat} {b : ByteArray} {r : List ByteArray} (h : l.drop i = b :: r) : (i : Int) < (l.length : Int) ∧ rdOf ByteArray.empty l (i : Int) = b ∧ l.drop (i + 1) = r := by
 obtain ⟨hi, h1, h2⟩ := drop_split h
 refine ⟨by omega, ?_, h2⟩
 unfold rdOf
 rw [Int.toNat_natCast, List.getD_eq_getElem?_getD, List.getElem?_eq_getElem hi, h1]; rfl
def tailT : List ByteArray → List Int
 | [] => []
 | t :: r => 32 :: (numsB t ++ tailT r)
def joinT : List ByteArray → List Int
 | [] => []
 | t :: r => numsB t ++ tailT r
theorem impl_joined_ev (w : List ByteArray) (hw : w.length ≤ 100) (ht : ∀ t ∈ w, t.size ≤ 100) : Ev (fun k => impl_joined.f k w (⟨#[32]⟩ : ByteArray)) (strOfNums (joinT w)) := by
 have es : (⟨#[32]⟩ : ByteArray).size = 1 := rfl
 have key : ∀ (r : List ByteArray) (i : Nat) (acc : List Int), w.drop i = r → 1 ≤ i → (∀ t ∈ r, t.size ≤ 100) → acc.length + 101 * r.length ≤ 20000 → Ev (fun k => impl_joined.l0 k (⟨#[32]⟩ : ByteArray) (strOfNums acc) w (w.length : Int) (i : Int)) (strOfNums (acc ++ tailT r)) := by
  intro r
  induction r with
  | nil =>
   intro i acc h hi hr ha
   refine Ev.succ ?_
   simp only [impl_joined.l0]
   exact Ev.neg (drop_nil_lt h) (Ev.now' (by simp [tailT]))
  | cons t r ih =>
   intro i acc h hi hr ha
   obtain ⟨h1, h2, h3⟩ := rdB h
   have hz := hr t (by simp)
   simp only [List.length_cons] at ha
   refine Ev.succ ?_
   simp only [impl_joined.l0, h2, nxt (show w.length ≤ 4611686018427387904 by omega) h1]
   refine Ev.pos h1 (Ev.pos (Int.natCast_nonneg _) (Ev.pos h1 (Ev.pos (by omega) (Ev.pos (by rw [strOfNums_size, es]; omega) ?_))))
   simp only [str_sp]
   refine Ev.pos (by rw [strOfNums_size]; simp only [List.length_append, List.length_cons, List.length_nil]; omega) ?_
   have e : strOfNums (acc ++ [32]) ++ t = strOfNums ((acc ++ [32]) ++ numsB t) := by
    have := str_append (acc ++ [32]) (numsB t)
    rw [str_numsB] at this
    exact this
   rw [e]
   have := ih (i + 1) ((acc ++ [32]) ++ numsB t) h3 (by omega) (fun q hq => hr q (by simp [hq])) (by simp only [List.length_append, List.length_cons, List.length_nil, numsB_len]; omega)
   simpa [tailT] using this
 cases hd : w with
 | nil =>
  refine Ev.succ (g := fun k => impl_joined.l0 k (⟨#[32]⟩ : ByteArray) (⟨#[]⟩ : ByteArray) [] (([] : List ByteArray).length : Int) 0) ?_
  simp only [impl_joined.l0]
  exact Ev.neg (by simp) (Ev.now' rfl)
 | cons t r =>
  rw [← hd]
  have h0 : w.drop 0 = t :: r := by rw [List.drop_zero, hd]
  obtain ⟨h1, h2, h3⟩ := rdB h0
  have hz := ht t (by rw [hd]; simp)
  have h1' : (0 : Int) < (w.length : Int) := h1
  have h2' : rdOf ByteArray.empty w 0 = t := h2
  have e1 : wrap64 (0 + 1) = ((0 + 1 : Nat) : Int) := by rw [w64 (by omega) (by omega)]; rfl
  refine Ev.succ (g := fun k => impl_joined.l0 k (⟨#[32]⟩ : ByteArray) (⟨#[]⟩ : ByteArray) w (w.length : Int) 0) ?_
  simp only [impl_joined.l0, h2', e1]
  have e2 : (⟨#[]⟩ : ByteArray) ++ t = strOfNums (numsB t) := by
   have := str_append [] (numsB t)
   rw [List.nil_append] at this
   rw [← this, str_numsB]; rfl
  have e3 : (⟨#[]⟩ : ByteArray).size = 0 := rfl
  simp only [e2]
  refine Ev.pos h1' (Ev.pos (by omega) (Ev.pos h1' (Ev.neg (by omega) (Ev.pos (by rw [e3]; omega) ?_))))
  have hlr : r.length ≤ 99 := by rw [hd] at hw; simp only [List.length_cons] at hw; omega
  have := key r (0 + 1) (numsB t) h3 (by omega) (fun q hq => ht q (by rw [hd]; simp [hq])) (by rw [numsB_len]; omega)
  rw [hd]
  rw [hd] at this
  exact this
theorem frI_rg (a b c : Int) : ∀ d ∈ frI a b c, 0 ≤ d ∧ d ≤ 255 := by
 intro d hd
 unfold frI at hd
 split at hd
 ·rcases List.mem_append.1 hd with hd | hd
  ·exact fmtI_range a d hd
  ·rcases List.mem_cons.1 hd with rfl | hd
   ·omega
   ·rcases List.mem_append.1 hd with hd | hd
    ·exact fmtI_range b d hd
    ·rcases List.mem_cons.1 hd with rfl | hd
     ·omega
     ·exact fmtI_range c d hd
 ·simp at hd
theorem tailT_map : ∀ (r : List S42), tailT (r.map fun x => strOfNums (frI x.f0 x.f1 x.f2)) = tailI r
 | [] => rfl
 | x :: r => by
  simp only [List.map_cons, tailT, tailI, tailT_map r, numsB_str _ (frI_rg x.f0 x.f1 x.f2)]
theorem joinT_map (l : List S42) : joinT (l.map fun x => strOfNums (frI x.f0 x.f1 x.f2)) = rowsI l := by
 cases l with
 | nil => rfl
 | cons x r => simp only [List.map_cons, joinT, rowsI, tailT_map r, numsB_str _ (frI_rg x.f0 x.f1 x.f2)]
theorem impl_rowTexts_ev (l : List S42) (hl : l.length ≤ 24) : Ev (fun k => impl_rowTexts.f k l) (strOfNums (rowsI l)) := by
 have key : ∀ (r : List S42) (i : Nat) (acc : List ByteArray), l.drop i = r → acc.length + r.length ≤ 24 → (∀ t ∈ acc, t.size ≤ 100) → Ev (fun k => impl_rowTexts.l0 k acc l (l.length : Int) (i : Int)) (strOfNums (joinT (acc ++ r.map fun x => strOfNums (frI x.f0 x.f1 x.f2)))) := by
  intro r
  induction r with
  | nil =>
   intro i acc h ha ht
   refine Ev.succ ?_
   simp only [impl_rowTexts.l0, List.map_nil, List.append_nil]
   simp only [List.length_nil] at ha
   exact Ev.neg (drop_nil_lt h) (Ev.tl (impl_joined_ev acc (by omega) ht) rfl)
  | cons x r ih =>
   intro i acc h ha ht
   obtain ⟨h1, h2, h3⟩ := rdI h
   have hf := frI_len x.f0 x.f1 x.f2
   simp only [List.length_cons] at ha
   refine Ev.succ ?_
   simp only [impl_rowTexts.l0, h2, nxt (show l.length ≤ 4611686018427387904 by omega) h1]
   refine Ev.pos h1 (Ev.pos (Int.natCast_nonneg _) (Ev.pos h1 (Ev.bind (impl_FormatRow_ev _ _ _) (Ev.pos (by omega) ?_))))
   have := ih (i + 1) (acc ++ [strOfNums (frI x.f0 x.f1 x.f2)]) h3 (by simp only [List.length_append, List.length_cons, List.length_nil]; omega) (fun t htm => by
    rcases List.mem_append.1 htm with htm | htm
    ·exact ht t htm
    ·have : t = strOfNums (frI x.f0 x.f1 x.f2) := by simpa using htm
     rw [this, strOfNums_size]; omega)
   simpa using this
 have := key l 0 [] rfl (by simpa using hl) (fun t ht => by simp at ht)
 rw [List.nil_append, joinT_map] at this
 exact this
theorem impl_FormatRows_ev (l : List S42) (hl : l.length ≤ 4611686018427387904) : Ev (fun k => impl_FormatRows.f k l) (strOfNums (frsI l)) := by
 simp only [impl_FormatRows.f]
 refine Ev.bind (impl_AreValidRows_ev l hl) ?_
 by_cases hv : avM l = true
 ·have e : frsI l = rowsI l := if_pos hv
  rw [e]
  exact Ev.pos hv (Ev.tl (impl_rowTexts_ev l (avM_len hv)) rfl)
 ·have e : frsI l = [] := if_neg hv
  rw [e]
  exact Ev.neg hv (Ev.now' rfl)
theorem impl_FormatPages_ev (l : List S39) (hl : l.length ≤ 1048576) (hp : ∀ x ∈ l, x.f0.length ≤ 1048576) : Ev (fun k => impl_FormatPages.f k l) (strOfNums (fpM l)) := by
 have key : ∀ (r : List S39) (i : Nat) (acc : List Int), l.drop i = r → (∀ x ∈ r, x.f0.length ≤ 1048576) → acc.length + 2002 * r.length ≤ 4000000000 → Ev (fun k => impl_FormatPages.l0 k (strOfNums acc) l (l.length : Int) (i : Int)) (strOfNums (acc ++ pagesI r)) := by
  intro r
  induction r with
  | nil =>
   intro i acc h hr ha
   refine Ev.succ ?_
   simp only [impl_FormatPages.l0]
   exact Ev.neg (drop_nil_lt h) (Ev.now' (by simp [pagesI]))
  | cons x r ih =>
   intro i acc h hr ha
   obtain ⟨h1, h2, h3⟩ := rdT39 h
   have hx := hr x (by simp)
   have hf := frsI_len x.f0
   simp only [List.length_cons] at ha
   refine Ev.succ ?_
   simp only [impl_FormatPages.l0, h2, nxt (show l.length ≤ 4611686018427387904 by omega) h1]
   refine Ev.pos h1 (Ev.pos (Int.natCast_nonneg _) (Ev.pos h1 (Ev.bind (impl_FormatRows_ev x.f0 (by omega)) ?_)))
   simp only [lb_str, str_rb, str_append]
   refine Ev.pos (by rw [strOfNums_size]; omega) (Ev.pos (by rw [strOfNums_size]; simp only [List.length_cons]; omega) (Ev.pos (by rw [strOfNums_size, strOfNums_size]; simp only [List.length_append, List.length_cons, List.length_nil]; omega) ?_))
   have := ih (i + 1) (acc ++ ((91 :: frsI x.f0) ++ [93])) h3 (fun y hy => hr y (by simp [hy])) (by simp only [List.length_append, List.length_cons, List.length_nil]; omega)
   simpa [pagesI] using this
 simp only [impl_FormatPages.f]
 refine Ev.bind (impl_validPages_ev l hl hp) ?_
 by_cases hv : vpsM l = true
 ·have e : fpM l = pagesI l := if_pos hv
  rw [e]
  exact Ev.pos hv (key l 0 [] rfl hp (by simp only [List.length_nil]; omega))
 ·have e : fpM l = [] := if_neg hv
  rw [e]
  exact Ev.neg hv (Ev.now' rfl)
theorem impl_SealFile_ev (l : List S87) (n a : Int) (hl : l.length ≤ 1048576) (hp0 : ∀ x ∈ l, x.f1.length ≤ 1048576 ∧ ∀ q ∈ x.f1, q.f0.length ≤ 1048576) : Ev (fun k => impl_SealFile.f k l n a) (sealM l n a) := by
 simp only [impl_SealFile.f, Option.bind_some]
 refine Ev.bind (impl_cloneDisk_ev l n hl hp0) (Ev.bind (impl_fileAt_ev l n a hl) (Ev.bind (impl_IsValidDisk_ev l n hl hp0) ?_))
 dsimp only
 unfold sealM
 by_cases hv : idM l n = true
 ·rw [if_pos hv]; refine Ev.pos hv ?_
  by_cases hf : faM a 0 l < 0
  ·rw [if_pos hf]; refine Ev.pos hf (Ev.succ ?_); simp only [impl_SealFile.j0]; exact Ev.pos trivial (Ev.now _)
  ·rw [if_neg hf]
   obtain ⟨h1, h2, h3⟩ := faM_at hf
   obtain ⟨j, hj⟩ := Int.eq_ofNat_of_zero_le h1
   rw [hj] at hf h1 h2 h3 ⊢
   have hjl : j < l.length := by omega
   have hx := hp0 _ h3
   refine Ev.neg hf (Ev.pos h1 (Ev.pos h2 (Ev.succ ?_)))
   simp only [impl_SealFile.j0, Option.bind_some, Int.toNat_natCast]
   by_cases hz : (rd_T87 l j).f3 = true
   ·rw [if_pos hz]; exact Ev.pos hz (Ev.now _)
   ·rw [if_neg hz]
    simp only [rd_set hjl, List.set_set]
    generalize rd_T87 l j = x at hx hz
    exact Ev.neg hz (Ev.pos h1 (Ev.pos h2 (Ev.bind (impl_FormatPages_ev x.f1 hx.1 hx.2) (Ev.bind (impl_ChecksumOf_ev _ (fpM_size x.f1 hx.1)) (Ev.now _)))))
 ·rw [if_neg hv]; refine Ev.neg hv (Ev.succ ?_); simp only [impl_SealFile.j0]; exact Ev.pos trivial (Ev.now _)
theorem impl_DeleteFile_ev (l : List S87) (n a : Int) (hl : l.length ≤ 1048576) (hp0 : ∀ x ∈ l, x.f1.length ≤ 1048576 ∧ ∀ q ∈ x.f1, q.f0.length ≤ 1048576) : Ev (fun k => impl_DeleteFile.f k l n a) (delM l n a) := by
 simp only [impl_DeleteFile.f, Option.bind_some]
 refine Ev.bind (impl_cloneDisk_ev l n hl hp0) (Ev.bind (impl_fileAt_ev l n a hl) (Ev.bind (impl_IsValidDisk_ev l n hl hp0) ?_))
 dsimp only
 unfold delM
 by_cases hv : idM l n = true
 ·refine Ev.pos hv ?_
  rw [if_pos hv]
  by_cases hf : faM a 0 l < 0
  ·refine Ev.pos hf ?_
   rw [if_pos hf]; exact Ev.now _
  ·refine Ev.neg hf ?_
   rw [if_neg hf]
   obtain ⟨h1, h2, -⟩ := faM_at hf
   obtain ⟨j, hj⟩ := Int.eq_ofNat_of_zero_le h1
   rw [hj] at hf h1 h2 ⊢
   have hjl : j < l.length := by omega
   have hw : wrap64 ((j : Int) + 1) = ((j + 1 : Nat) : Int) := by rw [w64 (by omega) (by omega)]; omega
   simp only [hw, Int.toNat_natCast]
   refine Ev.pos h1 (Ev.pos (by omega) (Ev.pos (by omega) (Ev.pos (by omega) (Ev.now _))))
 ·refine Ev.neg hv ?_
  rw [if_neg hv]; exact Ev.now _
theorem impl_ReadFile_ev (l : List S87) (n a : Int) (hl : l.length ≤ 1048576) (hp0 : ∀ x ∈ l, x.f1.length ≤ 1048576 ∧ ∀ q ∈ x.f1, q.f0.length ≤ 1048576) : Ev (fun k => impl_ReadFile.f k l n a) (rfM l n a) := by
 simp only [impl_ReadFile.f]
 refine Ev.bind (impl_fileAt_ev l n a hl) (Ev.bind (impl_IsValidDisk_ev l n hl hp0) ?_)
 unfold rfM
 by_cases hv : idM l n = true
 ·rw [if_pos hv]
  refine Ev.pos hv ?_
  by_cases hf : faM a 0 l < 0
  ·rw [if_pos hf]; exact Ev.pos hf (Ev.now _)
  ·rw [if_neg hf]
   obtain ⟨h1, h2, h3⟩ := faM_at hf
   have hx := hp0 _ h3
   have hs := idM_small hv _ h3
   generalize rd_T87 l (faM a 0 l) = x at hx hs
   refine Ev.neg hf (Ev.pos h1 (Ev.pos h2 ?_))
   by_cases hz : x.f3 = true
   ·rw [if_pos hz]
    refine Ev.pos hz (Ev.bind (impl_FormatPages_ev x.f1 hx.1 hx.2) (Ev.bind (impl_ChecksumOf_ev _ (fpM_size x.f1 hx.1)) ?_))
    by_cases hc : x.f2 = ckM x.f1
    ·rw [if_pos hc]
     exact Ev.pos hc (Ev.tl (impl_Unpack_ev x.f1 hx.1 (by have := tot_small hs.1 hs.2; omega)) rfl)
    ·rw [if_neg hc]; exact Ev.neg hc (Ev.now _)
   ·rw [if_neg hz]; exact Ev.neg hz (Ev.now _)
 ·rw [if_neg hv]
  exact Ev.neg hv (Ev.now _)
theorem impl_DeleteUnreadableFiles_ev (l : List S87) (n : Int) (hl : l.length ≤ 1048576) (hp0 : ∀ x ∈ l, x.f1.length ≤ 1048576 ∧ ∀ q ∈ x.f1, q.f0.length ≤ 1048576) : Ev (fun k => impl_DeleteUnreadableFiles.f k l n) (duM l n) := by
 have key : ∀ (r : List S87) (i : Nat) (acc : List S87), l.drop i = r → acc.length ≤ i → Ev (fun k => impl_DeleteUnreadableFiles.l0 k acc l (l.length : Int) (i : Int) l n l n) (acc ++ r.filter (fun x => (rfM l n x.f0).2), n) := by
  intro r
  induction r with
  | nil =>
   intro i acc h _
   refine Ev.succ ?_
   simp only [impl_DeleteUnreadableFiles.l0, List.filter_nil, List.append_nil]
   exact Ev.neg (drop_nil_lt h) (Ev.now _)
  | cons x r ih =>
   intro i acc h ha
   obtain ⟨h1, h2, h3⟩ := rdT87 h
   refine Ev.succ ?_
   simp only [impl_DeleteUnreadableFiles.l0, h2, nxt (show l.length ≤ 4611686018427387904 by omega) h1]
   refine Ev.pos h1 (Ev.pos (Int.natCast_nonneg _) (Ev.pos h1 (Ev.bind (impl_ReadFile_ev l n x.f0 hl hp0) ?_)))
   by_cases hb : (rfM l n x.f0).2 = true
   ·rw [List.filter_cons_of_pos (by exact hb)]
    refine Ev.pos hb (Ev.pos (by omega) ?_)
    have := ih (i + 1) (acc ++ [x]) h3 (by simp only [List.length_append, List.length_cons, List.length_nil]; omega)
    rw [List.append_assoc] at this
    exact this
   ·rw [List.filter_cons_of_neg (by exact hb)]
    exact Ev.neg hb (ih (i + 1) acc h3 (by omega))
 simp only [impl_DeleteUnreadableFiles.f]
 refine Ev.bind (impl_cloneDisk_ev l n hl hp0) ?_
 have := key l 0 [] rfl (Nat.le_refl _)
 rw [List.nil_append] at this
 exact this
theorem spec_ReadFile_ev (l : List S87) (n a : Int) (hl : l.length ≤ 1048576) (hp0 : ∀ x ∈ l, x.f1.length ≤ 1048576 ∧ ∀ q ∈ x.f1, q.f0.length ≤ 1048576) : Ev (fun k => spec_ReadFile.f k l n a) (rfM l n a) := by
 simp only [spec_ReadFile.f]
 refine Ev.bind (spec_l6At_ev l n a hl) (Ev.bind (spec_IsValidDisk_ev l n hl hp0) ?_)
 unfold rfM
 by_cases hv : idM l n = true
 ·rw [if_pos hv]
  refine Ev.pos hv ?_
  by_cases hf : faM a 0 l < 0
  ·rw [if_pos hf]; exact Ev.pos hf (Ev.now _)
  ·rw [if_neg hf]
   obtain ⟨h1, h2, h3⟩ := faM_at hf
   have hx := hp0 _ h3
   have hs := idM_small hv _ h3
   generalize rd_T87 l (faM a 0 l) = x at hx hs
   refine Ev.neg hf (Ev.pos h1 (Ev.pos h2 ?_))
   by_cases hz : x.f3 = true
   ·rw [if_pos hz]
    refine Ev.pos hz (Ev.bind (spec_FormatPages_ev x.f1 hx.1 hx.2) (Ev.bind (spec_ChecksumOf_ev _ (fpM_size x.f1 hx.1)) ?_))
    by_cases hc : x.f2 = ckM x.f1
    ·rw [if_pos hc]
     exact Ev.pos hc (Ev.tl (spec_Unpack_ev x.f1 hx.1 (by have := tot_small hs.1 hs.2; omega)) rfl)
    ·rw [if_neg hc]; exact Ev.neg hc (Ev.now _)
   ·rw [if_neg hz]; exact Ev.neg hz (Ev.now _)
 ·rw [if_neg hv]
  exact Ev.neg hv (Ev.now _)
theorem spec_DeleteUnreadableFiles_ev (l : List S87) (n : Int) (hl : l.length ≤ 1048576) (hp0 : ∀ x ∈ l, x.f1.length ≤ 1048576 ∧ ∀ q ∈ x.f1, q.f0.length ≤ 1048576) : Ev (fun k => spec_DeleteUnreadableFiles.f k l n) (duM l n) := by
 have key : ∀ (r : List S87) (i : Nat) (acc : List S87), l.drop i = r → acc.length ≤ i → Ev (fun k => spec_DeleteUnreadableFiles.l0 k (i : Int) l n acc n l n) (acc ++ r.filter (fun x => (rfM l n x.f0).2), n) := by
  intro r
  induction r with
  | nil =>
   intro i acc h _
   refine Ev.succ ?_
   simp only [spec_DeleteUnreadableFiles.l0, List.filter_nil, List.append_nil]
   exact Ev.neg (drop_nil_lt h) (Ev.now _)
  | cons x r ih =>
   intro i acc h ha
   obtain ⟨h1, h2, h3⟩ := rdT87 h
   refine Ev.succ ?_
   simp only [spec_DeleteUnreadableFiles.l0, h2, nxt (show l.length ≤ 4611686018427387904 by omega) h1]
   refine Ev.pos h1 (Ev.pos (Int.natCast_nonneg _) (Ev.bind (spec_ReadFile_ev l n x.f0 hl hp0) ?_))
   by_cases hb : (rfM l n x.f0).2 = true
   ·rw [List.filter_cons_of_pos (by exact hb)]
    refine Ev.pos hb (Ev.pos (by omega) ?_)
    have := ih (i + 1) (acc ++ [x]) h3 (by simp only [List.length_append, List.length_cons, List.length_nil]; omega)
    rw [List.append_assoc] at this
    exact this
   ·rw [List.filter_cons_of_neg (by exact hb)]
    exact Ev.neg hb (ih (i + 1) acc h3 (by omega))
 simp only [spec_DeleteUnreadableFiles.f]
 refine Ev.bind (spec_l6Copy_ev l n hl hp0) (Ev.bind (spec_l6Copy_ev l n hl hp0) ?_)
 have := key l 0 [] rfl (Nat.le_refl _)
 rw [List.nil_append] at this
 exact this
def neR (x y : S42) : Bool := !(x.f0 == y.f0) || (!(x.f1 == y.f1) || (!(x.f2 == y.f2)))
def rowsE : List S42 → List S42 → Bool
 | [], [] => true
 | x :: r, y :: s => if neR x y = true then false else rowsE r s
 | _, _ => false
def rowsEq (a b : List S42) : Bool := if a.length = b.length then rowsE a b else false
theorem rowsE_refl : ∀ a, rowsE a a = true
 | [] => rfl
 | x :: r => by simp [rowsE, neR, rowsE_refl r]
def pagesE : List S39 → List S39 → Bool
 | [], [] => true
 | x :: r, y :: s => if rowsEq x.f0 y.f0 = true then pagesE r s else false
 | _, _ => false
def filesE : List S87 → List S87 → Bool
 | [], [] => true
 | x :: r, y :: s => if x.f0 = y.f0 ∧ x.f2 = y.f2 ∧ x.f3 = y.f3 ∧ x.f1.length = y.f1.length then (pagesE x.f1 y.f1 && filesE r s) else false
 | _, _ => false
def diskE (a : List S87) (m : Int) (b : List S87) (n : Int) : Bool := if m = n ∧ a.length = b.length then filesE a b else false
theorem pagesE_refl : ∀ a, pagesE a a = true
 | [] => rfl
 | x :: r => by simp [pagesE, rowsEq, rowsE_refl, pagesE_refl r]
theorem filesE_refl : ∀ a, filesE a a = true
 | [] => rfl
 | x :: r => by simp [filesE, pagesE_refl, filesE_refl r]
theorem diskE_refl (a : List S87) (m : Int) : diskE a m a m = true := by simp [diskE, filesE_refl]
def LenP (l : List S39) : Prop := l.length ≤ 4611686018427387904 ∧ ∀ x ∈ l, x.f0.length ≤ 4611686018427387904
theorem spec_l6Rows_ev (a b : List S42) (ha : a.length ≤ 4611686018427387904) : Ev (fun k => spec_l6Rows.f k a b) (rowsEq a b) := by
 have key : ∀ (r s : List S42) (i : Nat), a.drop i = r → b.drop i = s → r.length = s.length → Ev (fun k => spec_l6Rows.l0 k a b (i : Int)) (rowsE r s) := by
  intro r
  induction r with
  | nil =>
   intro s i h hs hl
   obtain rfl : s = [] := List.eq_nil_of_length_eq_zero (by simpa using hl.symm)
   refine Ev.succ ?_
   simp only [spec_l6Rows.l0]
   exact Ev.neg (drop_nil_lt h) (Ev.now _)
  | cons x r ih =>
   intro s i h hs hl
   cases s with
   | nil => simp at hl
   | cons y s =>
    obtain ⟨h1, h2, h3⟩ := rdI h
    obtain ⟨g1, g2, g3⟩ := rdI hs
    refine Ev.succ ?_
    simp only [spec_l6Rows.l0, h2, g2, nxt ha h1, rowsE]
    refine Ev.pos h1 (Ev.pos (Int.natCast_nonneg _) (Ev.pos g1 ?_))
    by_cases hn : neR x y = true
    ·rw [if_pos hn]; exact Ev.pos hn (Ev.now _)
    ·rw [if_neg hn]; exact Ev.neg hn (ih s (i + 1) h3 g3 (by simpa using hl))
 simp only [spec_l6Rows.f]
 unfold rowsEq
 by_cases h : a.length = b.length
 ·rw [if_pos h]; exact Ev.pos (by omega) (key a b 0 rfl rfl h)
 ·rw [if_neg h]; exact Ev.neg (by omega) (Ev.now _)
theorem spec_EqualDisks_ev (a : List S87) (m : Int) (b : List S87) (n : Int) (ha : a.length ≤ 4611686018427387904) (hp : ∀ x ∈ a, LenP x.f1) : Ev (fun k => spec_EqualDisks.f k a m b n) (diskE a m b n) := by
 have inner : ∀ (x y : S87) (i : Nat) (R : Bool), LenP x.f1 → wrap64 ((i : Int) + 1) = ((i + 1 : Nat) : Int) → Ev (fun k => spec_EqualDisks.l0 k ((i + 1 : Nat) : Int) a m b n) R → ∀ (p q : List S39) (j : Nat), x.f1.drop j = p → y.f1.drop j = q → p.length = q.length → (∀ z ∈ p, z.f0.length ≤ 4611686018427387904) →
   Ev (fun k => spec_EqualDisks.l1 k (i : Int) (j : Int) a m b n x.f0 x.f1 x.f2 x.f3 y.f0 y.f1 y.f2 y.f3) (pagesE p q && R) := by
  intro x y i R hx hi hR p
  induction p with
  | nil =>
   intro q j h hs hl hz
   obtain rfl : q = [] := List.eq_nil_of_length_eq_zero (by simpa using hl.symm)
   refine Ev.succ ?_
   simp only [spec_EqualDisks.l1, hi, pagesE, Bool.true_and]
   exact Ev.neg (drop_nil_lt h) hR
  | cons u p ih =>
   intro q j h hs hl hz
   cases q with
   | nil => simp at hl
   | cons v q =>
    obtain ⟨h1, h2, h3⟩ := rdT39 h
    obtain ⟨g1, g2, g3⟩ := rdT39 hs
    refine Ev.succ ?_
    simp only [spec_EqualDisks.l1, h2, g2, nxt hx.1 h1, pagesE]
    refine Ev.pos h1 (Ev.pos (Int.natCast_nonneg _) (Ev.pos g1 (Ev.bind (spec_l6Rows_ev u.f0 v.f0 (hz u (by simp))) ?_)))
    by_cases hn : rowsEq u.f0 v.f0 = true
    ·rw [if_pos hn]; exact Ev.pos hn (ih q (j + 1) h3 g3 (by simpa using hl) (fun z hz' => hz z (by simp [hz'])))
    ·rw [if_neg hn]; exact Ev.neg hn (Ev.now _)
 have key : ∀ (r s : List S87) (i : Nat), a.drop i = r → b.drop i = s → r.length = s.length → (∀ x ∈ r, LenP x.f1) → Ev (fun k => spec_EqualDisks.l0 k (i : Int) a m b n) (filesE r s) := by
  intro r
  induction r with
  | nil =>
   intro s i h hs hl hr
   obtain rfl : s = [] := List.eq_nil_of_length_eq_zero (by simpa using hl.symm)
   refine Ev.succ ?_
   simp only [spec_EqualDisks.l0]
   exact Ev.neg (drop_nil_lt h) (Ev.now _)
  | cons x r ih =>
   intro s i h hs hl hr
   cases s with
   | nil => simp at hl
   | cons y s =>
    obtain ⟨h1, h2, h3⟩ := rdT87 h
    obtain ⟨g1, g2, g3⟩ := rdT87 hs
    have hx := hr x (by simp)
    have tt : Ev (fun k => spec_EqualDisks.j2 k (i : Int) true a m b n x.f0 x.f1 x.f2 x.f3 y.f0 y.f1 y.f2 y.f3) false := by
     refine Ev.succ ?_
     simp only [spec_EqualDisks.j2]
     exact Ev.pos (by trivial) (Ev.now _)
    refine Ev.succ ?_
    simp only [spec_EqualDisks.l0, h2, g2, filesE]
    refine Ev.pos h1 (Ev.pos (Int.natCast_nonneg _) (Ev.pos g1 ?_))
    by_cases e0 : x.f0 = y.f0
    ·refine Ev.pos e0 ?_
     by_cases e2 : x.f2 = y.f2
     ·refine Ev.pos e2 ?_
      by_cases e3 : x.f3 = y.f3
      ·refine Ev.neg (by simp [e3]) (Ev.succ ?_)
       simp only [spec_EqualDisks.j2]
       by_cases e1 : x.f1.length = y.f1.length
       ·rw [if_pos ⟨e0, e2, e3, e1⟩]
        refine Ev.neg (by simp [e1]) ?_
        exact inner x y i _ hx (nxt ha h1) (ih s (i + 1) h3 g3 (by simpa using hl) (fun z hz => hr z (by simp [hz]))) x.f1 y.f1 0 rfl rfl e1 hx.2
       ·rw [if_neg (fun hh => e1 hh.2.2.2)]
        exact Ev.pos (by simp; omega) (Ev.now _)
      ·rw [if_neg (fun hh => e3 hh.2.2.1)]
       exact Ev.pos (by simpa using e3) tt
     ·rw [if_neg (fun hh => e2 hh.2.1)]
      exact Ev.neg e2 tt
    ·rw [if_neg (fun hh => e0 hh.1)]
     exact Ev.neg e0 tt
 simp only [spec_EqualDisks.f]
 unfold diskE
 by_cases hmn : m = n
 ·refine Ev.pos hmn (Ev.succ ?_)
  simp only [spec_EqualDisks.j0]
  by_cases hl : a.length = b.length
  ·rw [if_pos ⟨hmn, hl⟩]; exact Ev.neg (by simp [hl]) (key a b 0 rfl rfl hl hp)
  ·rw [if_neg (fun hh => hl hh.2)]; exact Ev.pos (by simp; omega) (Ev.now _)
 ·rw [if_neg (fun hh => hmn hh.1)]
  refine Ev.neg hmn (Ev.succ ?_)
  simp only [spec_EqualDisks.j0]
  exact Ev.pos (by trivial) (Ev.now _)
theorem sameRows_ev (a : List S42) (ha : a.length ≤ 4611686018427387904) : Ev (fun k => laws_sameRows.f k a a) true := by
 have key : ∀ (r : List S42) (i : Nat), a.drop i = r → Ev (fun k => laws_sameRows.l0 k a a (i : Int)) true := by
  intro r
  induction r with
  | nil =>
   intro i h
   refine Ev.succ ?_
   simp only [laws_sameRows.l0]
   exact Ev.neg (drop_nil_lt h) (Ev.now _)
  | cons x r ih =>
   intro i h
   obtain ⟨h1, h2, h3⟩ := rdI h
   refine Ev.succ ?_
   simp only [laws_sameRows.l0, h2, nxt ha h1]
   exact Ev.pos h1 (Ev.pos (Int.natCast_nonneg _) (Ev.pos h1 (Ev.neg (by simp) (ih (i + 1) h3))))
 simp only [laws_sameRows.f]
 exact Ev.pos (by trivial) (key a 0 rfl)
theorem vps_snoc (l : List S39) (x : S39) : vpsM (l ++ [x]) = (vpsM l && vpM x.f0) := by simp [vpsM]
theorem tcM_add : ∀ (l : List S42) (n : Int), tcM l n = n + tcM l 0
 | [], n => by simp [tcM]
 | x :: r, n => by
  rw [tcM, tcM, tcM_add r (n + _), tcM_add r (0 + _)]; omega
theorem tcM_snoc (l : List S42) (x : S42) : tcM (l ++ [x]) 0 = tcM l 0 + cost (x.f0, x.f1, x.f2) := by
 induction l with
 | nil => simp [tcM]
 | cons y r ih =>
  rw [List.cons_append, tcM, tcM, tcM_add (r ++ [x]), ih, tcM_add r (0 + _)]; omega
theorem cost_one {x : S42} (h : vrow (x.f0, x.f1, x.f2) = true) : 1 ≤ cost (x.f0, x.f1, x.f2) := by
 unfold cost
 rw [if_pos h]
 have := (vrow_iff.1 h).2.2.1
 show 1 ≤ 1 + x.f2
 omega
theorem tcM_one : ∀ {l : List S42}, l ≠ [] → allV l = true → 1 ≤ tcM l 0
 | [], h, _ => absurd rfl h
 | x :: r, _, h => by
  simp only [allV, List.all_cons, Bool.and_eq_true] at h
  have h1 := cost_one h.1
  have h2 := (tcM_bd r (0 + cost (x.f0, x.f1, x.f2))).1
  rw [tcM]; omega
def nextP : List S39 → Prop
 | x :: y :: r => (∃ z t, y.f0 = z :: t ∧ tcM x.f0 0 + cost (z.f0, z.f1, z.f2) > 8) ∧ nextP (y :: r)
 | _ => True
theorem next_snoc : ∀ (a : List S39) (u y : S39), nextP (a ++ [u]) → (∃ z t, y.f0 = z :: t ∧ tcM u.f0 0 + cost (z.f0, z.f1, z.f2) > 8) → nextP (a ++ [u] ++ [y])
 | [], u, y, _, h => ⟨h, trivial⟩
 | [v], u, y, h0, h => ⟨h0.1, h, trivial⟩
 | v :: q :: a, u, y, h0, h => ⟨h0.1, next_snoc (q :: a) u y h0.2 h⟩
theorem next_last : ∀ (a : List S39) (p : List S42) (x : S42), nextP (a ++ [⟨p⟩]) → p ≠ [] → nextP (a ++ [⟨p ++ [x]⟩])
 | [], p, x, _, _ => trivial
 | [v], p, x, h0, hp => by
  obtain ⟨⟨z, t, e, hc⟩, _⟩ := h0
  exact ⟨⟨z, t ++ [x], by rw [show p = z :: t from e]; rfl, hc⟩, trivial⟩
 | v :: q :: a, p, x, h0, hp => ⟨h0.1, next_last (q :: a) p x h0.2 hp⟩
theorem flat_app : ∀ (a b : List S39), flat (a ++ b) = flat a ++ flat b
 | [], b => rfl
 | x :: a, b => by rw [List.cons_append, flat, flat, flat_app a b, List.append_assoc]
theorem vp_of {p : List S42} (h : allV p = true) (hl : p.length ≤ 24) (hp : p ≠ []) (ht : tcM p 0 ≤ 8) : vpM p = true := by
 have h1 := tcM_one hp h
 unfold vpM avM
 rw [h]
 simp only [Bool.true_and, Bool.and_eq_true, decide_eq_true_eq]
 omega
theorem pack_ok : ∀ (r : List S42) (acc : List S39) (p : List S42), allV r = true → allV p = true → p.length + r.length ≤ 24 → tcM p 0 ≤ 8 → (p = [] → acc = []) → vpsM acc = true → nextP (acc ++ [⟨p⟩]) →
  vpsM (packM r acc p) = true ∧ nextP (packM r acc p) ∧ flat (packM r acc p) = flat acc ++ p ++ r
 | [], acc, p, hr, hp, hl, ht, hn, hv, hx => by
  simp only [packM]
  by_cases h : p.length > 0
  ·rw [if_pos h]
   have hp0 : p ≠ [] := fun e => by rw [e] at h; simp at h
   refine ⟨?_, hx, ?_⟩
   ·rw [vps_snoc, hv, vp_of hp (by simp only [List.length_nil] at hl; omega) hp0 ht]; rfl
   ·rw [flat_app, flat, flat, List.append_nil, List.append_nil]
  ·rw [if_neg h]
   have hp0 : p = [] := List.eq_nil_of_length_eq_zero (by omega)
   rw [hn hp0, hp0]
   exact ⟨rfl, trivial, rfl⟩
 | x :: r, acc, p, hr, hp, hl, ht, hn, hv, hx => by
  simp only [packM]
  simp only [allV, List.all_cons, Bool.and_eq_true] at hr
  simp only [List.length_cons] at hl
  by_cases h : tcM p 0 + cost (x.f0, x.f1, x.f2) > 8
  ·rw [if_pos h]
   have hc := cost_bd (x.f0, x.f1, x.f2)
   have hp0 : p ≠ [] := fun e => by rw [e] at h; simp only [tcM] at h; omega
   obtain ⟨g1, g2, g3⟩ := pack_ok r (acc ++ [⟨p⟩]) [x] hr.2 (by simp [allV, hr.1]) (by simp only [List.length_cons, List.length_nil]; omega) (by simp only [tcM]; omega) (fun e => by cases e) (by rw [vps_snoc, hv, vp_of hp (by omega) hp0 ht]; rfl) (next_snoc acc ⟨p⟩ ⟨[x]⟩ hx ⟨x, [], rfl, h⟩)
   refine ⟨g1, g2, ?_⟩
   rw [g3, flat_app, flat, flat, List.append_nil, List.append_assoc _ [x], List.singleton_append]
  ·rw [if_neg h]
   obtain ⟨g1, g2, g3⟩ := pack_ok r acc (p ++ [x]) hr.2 (by simp only [allV, List.all_append, List.all_cons, List.all_nil, Bool.and_true, Bool.and_eq_true]; exact ⟨hp, hr.1⟩) (by simp only [List.length_append, List.length_cons, List.length_nil]; omega) (by rw [tcM_snoc]; omega) (fun e => by simp at e) hv (by
    by_cases hp0 : p = []
    ·rw [hn hp0]; exact trivial
    ·exact next_last acc p x hx hp0)
   refine ⟨g1, g2, ?_⟩
   rw [g3, List.append_assoc, List.append_assoc, List.append_assoc]; rfl
theorem packs_ok {l : List S42} (h : avM l = true) : vpsM (packs l) = true ∧ nextP (packs l) ∧ flat (packs l) = l := by
 have hl := avM_le h
 have hv : allV l = true := by unfold avM at h; simp only [Bool.and_eq_true] at h; exact h.1
 obtain ⟨g1, g2, g3⟩ := pack_ok l [] [] hv rfl (by simp only [List.length_nil]; omega) (by simp only [tcM]; omega) (fun _ => rfl) rfl trivial
 unfold packs
 rw [if_pos h]
 exact ⟨g1, g2, by rw [g3]; rfl⟩
theorem Sz_LenP {a b : Nat} {l : List S87} (h : Sz a b l) (hb : b ≤ 1000) : ∀ x ∈ l, LenP x.f1 := fun x hx => ⟨by have := (h.2 x hx).1; omega, fun q hq => by have := (h.2 x hx).2 q hq; omega⟩
theorem Sz_snoc {l : List S87} {y : S87} (h : Sz 10 60 l) (h1 : y.f1.length ≤ 40) (h2 : vpsM y.f1 = true) : Sz 11 60 (l ++ [y]) := by
 refine ⟨by simp only [List.length_append, List.length_cons, List.length_nil]; have := h.1; omega, fun x hx => ?_⟩
 rcases List.mem_append.1 hx with hx | hx
 ·exact h.2 x hx
 ·rw [List.mem_singleton.1 hx]; exact ⟨by omega, fun q hq => by have := vpM_len (vps_mem h2 q hq); omega⟩
theorem Sz_filter {a b : Nat} {l : List S87} (f : S87 → Bool) (h : Sz a b l) : Sz a b (l.filter f) := ⟨Nat.le_trans (List.length_filter_le _ _) h.1, fun x hx => h.2 x (List.mem_filter.1 hx).1⟩
theorem FnSealedFiles : laws_FnSealedFiles.Pure := by
 intro code hmax hsz hwf
 by_cases hbig : (code.length : Int) > 1048576
 ·have hb0 : laws_big.f code = some true := by rw [big_f]; exact congrArg some (decide_eq_true hbig)
  refine ⟨0, ?_⟩
  unfold laws_FnSealedFiles.f
  rw [hb0]; rfl
 ·have hb0 : laws_big.f code = some false := by rw [big_f]; exact congrArg some (decide_eq_false hbig)
  have hc : code.length ≤ 140737488351232 := by omega
  obtain ⟨h, en⟩ := l1New_ev code hc
  obtain ⟨l, n, i1, h1, e1, s, j1⟩ := l6Disk_ev code 0 h hc (Int.le_refl _)
  have eD : Ev (fun k => spec_DrawCreateFile.f k code) (l, n) := by simp only [spec_DrawCreateFile.f]; exact Ev.bind en (Ev.bind e1 (Ev.now _))
  obtain ⟨w, i2, h2, e2, hw, _⟩ := l2Bent_ev code 0 h 12 hc (by omega) (by omega) (by omega)
  have eN : Ev (fun k => spec_DrawNewSorter.f k code) w := by simp only [spec_DrawNewSorter.f]; exact Ev.bind en (Ev.bind e2 (Ev.now _))
  have eP := spec_PackPages_ev w (by omega)
  have hpv : vpsM (packs w) = true := by
   by_cases ha : avM w = true
   ·exact (packs_ok ha).1
   ·unfold packs; rw [if_neg ha]; rfl
  obtain ⟨hpl, _⟩ := packs_bd w 13 (by omega)
  generalize packs w = p at eP hpv hpl
  have ls := Sz_len s (by omega)
  have is := Sz_in s (by omega)
  have eI := impl_CreateFile_ev l n ls is
  have eS := spec_CreateFile_ev l n ls is
  have eV := impl_IsValidDisk_ev l n ls is
  have eW := spec_IsValidDisk_ev l n ls is
  have hE : Ev (fun k => laws_FnSealedFiles.f k code) true := by
   simp only [laws_FnSealedFiles.f, hb0, Option.bind_some]
   refine Ev.neg (by decide) (Ev.bind eD (Ev.bind eI (Ev.bind eS ?_)))
   dsimp only
   refine Ev.neg (by simp) (Ev.pos rfl (Ev.bind eV (Ev.bind eW (Ev.neg (by simp) ?_))))
   by_cases his : (crM l n).2.2.2 = true
   case neg =>
    refine Ev.neg his ?_
    rw [crM_no his]
    dsimp only
    refine Ev.bind (spec_EqualDisks_ev l n l n (by have := s.1; omega) (Sz_LenP s (by omega))) ?_
    rw [diskE_refl]
    refine Ev.succ ?_
    simp only [laws_FnSealedFiles.j0]
    exact Ev.neg (by decide) (Ev.neg (by decide) (Ev.now _))
   refine Ev.pos his ?_
   obtain ⟨hv, hn, hcr⟩ := crM_ok his
   rw [hcr]
   dsimp only
   have hn0 : 0 ≤ n := (idM_n hv).1
   have hcp : cpM l 0 ≤ 40 := idM_cp hv
   have hname : ∀ x ∈ l, x.f0 ≠ n := (idM_next (y := ⟨n, [], 0, false⟩) hv hn rfl rfl (by simp) (by simpa using hcp)).2.1
   -- the file with its pages so far
   have keyL : ∀ (r : List S39) (i : Nat) (pgs : List S39), p.drop i = r → vpsM r = true → vpsM pgs = true → cpM l 0 + pgs.length ≤ 40 → Ev (fun k => laws_FnSealedFiles.l0 k n false p (flat pgs) (i : Int) (l ++ [⟨n, pgs, 0, false⟩]) (n + 1)) true := by
    intro r
    induction r with
    | nil =>
     intro i pgs hr _ hpg hle
     have hk0 : (0 : Int) ≤ cpM l 0 := cpM_le l 0
     have hpl40 : pgs.length ≤ 40 := by omega
     obtain ⟨vX, _, _⟩ := idM_next (y := ⟨n, pgs, 0, false⟩) hv hn rfl hpg (by simp) hle
     obtain ⟨vS, _, _⟩ := idM_next (y := ⟨n, pgs, ckM pgs, true⟩) hv hn rfl hpg (by simp) hle
     have sX : Sz 11 60 (l ++ [⟨n, pgs, 0, false⟩]) := Sz_snoc s hpl40 hpg
     have sS : Sz 11 60 (l ++ [⟨n, pgs, ckM pgs, true⟩]) := Sz_snoc s hpl40 hpg
     have r1 : (rfM (l ++ [⟨n, pgs, 0, false⟩]) (n + 1) n).2 = false := by
      have := (rfM_two vX (x := ⟨n, pgs, 0, false⟩) (by simp)).1
      simpa [goodF] using this
     have r2 : rfM (l ++ [⟨n, pgs, ckM pgs, true⟩]) (n + 1) n = (flat pgs, true) := (rfM_two vS (x := ⟨n, pgs, ckM pgs, true⟩) (by simp)).2 (by simp [goodF])
     have dX : duM (l ++ [⟨n, pgs, 0, false⟩]) (n + 1) = (l.filter goodF, n + 1) := by
      rw [duM_good vX, List.filter_append]
      simp [goodF]
     have vC : idM (l.filter goodF) (n + 1) = true := by
      have := idM_filter goodF vX
      rw [List.filter_append] at this
      simpa [goodF] using this
     have dC : duM (l.filter goodF) (n + 1) = (l.filter goodF, n + 1) := by
      rw [duM_good vC, List.filter_filter]
      simp
     have r3 : (rfM (l.filter goodF) (n + 1) n).2 = false := rfM_no _ _ (fun x hx => hname x (List.mem_filter.1 hx).1)
     have r4 : (rfM l (n + 1) n).2 = false := rfM_no _ _ hname
     have sC : Sz 10 60 (l.filter goodF) := Sz_filter goodF s
     have eR1 := impl_ReadFile_ev (l ++ [⟨n, pgs, 0, false⟩]) (n + 1) n (Sz_len sX (by omega)) (Sz_in sX (by omega))
     have eS1 := impl_SealFile_ev (l ++ [⟨n, pgs, 0, false⟩]) (n + 1) n (Sz_len sX (by omega)) (Sz_in sX (by omega))
     rw [sealM_X hv hn hpg hle] at eS1
     have eR2 := impl_ReadFile_ev (l ++ [⟨n, pgs, ckM pgs, true⟩]) (n + 1) n (Sz_len sS (by omega)) (Sz_in sS (by omega))
     rw [r2] at eR2
     have eU := impl_DeleteUnreadableFiles_ev (l ++ [⟨n, pgs, 0, false⟩]) (n + 1) (Sz_len sX (by omega)) (Sz_in sX (by omega))
     have eU2 := spec_DeleteUnreadableFiles_ev (l ++ [⟨n, pgs, 0, false⟩]) (n + 1) (Sz_len sX (by omega)) (Sz_in sX (by omega))
     rw [dX] at eU eU2
     have eUC := impl_DeleteUnreadableFiles_ev (l.filter goodF) (n + 1) (Sz_len sC (by omega)) (Sz_in sC (by omega))
     rw [dC] at eUC
     have eR3 := impl_ReadFile_ev (l.filter goodF) (n + 1) n (Sz_len sC (by omega)) (Sz_in sC (by omega))
     have eDl := impl_DeleteFile_ev (l ++ [⟨n, pgs, ckM pgs, true⟩]) (n + 1) n (Sz_len sS (by omega)) (Sz_in sS (by omega))
     rw [delM_X (y := ⟨n, pgs, ckM pgs, true⟩) hv hn rfl hpg (by simp) hle] at eDl
     have eR4 := impl_ReadFile_ev l (n + 1) n ls is
     have eQ := spec_EqualDisks_ev (l.filter goodF) (n + 1) (l.filter goodF) (n + 1) (by have := sC.1; omega) (Sz_LenP sC (by omega))
     rw [diskE_refl] at eQ
     have eVC := impl_IsValidDisk_ev (l.filter goodF) (n + 1) (Sz_len sC (by omega)) (Sz_in sC (by omega))
     rw [vC] at eVC
     have hfl : (flat pgs).length ≤ 960 := by rw [flat_len]; exact tot_small hpl40 (fun q hq => vpM_len (vps_mem hpg q hq))
     have eSR := sameRows_ev (flat pgs) (by omega)
     refine Ev.succ ?_
     simp only [laws_FnSealedFiles.l0]
     refine Ev.neg (drop_nil_lt hr) (Ev.bind eR1 (Ev.bind eS1 ?_))
     refine Ev.bind eR2 (Ev.bind eU ?_)
     refine Ev.bind eR3 (Ev.bind eDl ?_)
     refine Ev.bind eR4 ?_
     refine Ev.neg (by decide) (Ev.neg (by rw [r1]; decide) (Ev.pos rfl (Ev.pos rfl (Ev.bind eSR (Ev.pos rfl (Ev.neg (by rw [r3]; decide) ?_))))))
     refine Ev.bind eVC (Ev.pos rfl (Ev.pos rfl (Ev.neg (by rw [r4]; decide) ?_)))
     refine Ev.bind eUC (Ev.bind eQ (Ev.pos rfl (Ev.bind eU2 (Ev.bind eQ (Ev.now _)))))
    | cons q r ih =>
     intro i pgs hr hrv hpg hle
     have hk0 : (0 : Int) ≤ cpM l 0 := cpM_le l 0
     have hpl40 : pgs.length ≤ 40 := by omega
     obtain ⟨x1, x2, x3⟩ := rdT39 hr
     have hq2 : vpM q.f0 = true ∧ vpsM r = true := by simpa [vpsM] using hrv
     have hql := vpM_len hq2.1
     obtain ⟨vX, _, cX⟩ := idM_next (y := ⟨n, pgs, 0, false⟩) hv hn rfl hpg (by simp) hle
     have sX : Sz 11 60 (l ++ [⟨n, pgs, 0, false⟩]) := Sz_snoc s hpl40 hpg
     have eA := impl_AppendPage_ev (l ++ [⟨n, pgs, 0, false⟩]) (n + 1) n q.f0 (Sz_len sX (by omega)) (Sz_in sX (by omega)) (by omega)
     rw [apM_X hv hn hpg hq2.1 hle] at eA
     have hfl : (flat pgs).length ≤ 960 := by rw [flat_len]; exact tot_small hpl40 (fun q hq => vpM_len (vps_mem hpg q hq))
     refine Ev.succ ?_
     simp only [laws_FnSealedFiles.l0, x2, nxt (show p.length ≤ 4611686018427387904 by omega) x1]
     refine Ev.pos x1 (Ev.pos (Int.natCast_nonneg _) ?_)
     by_cases h40 : cpM l 0 + (pgs.length : Int) ≥ 40
     ·rw [if_pos h40] at eA
      refine Ev.bind eA (Ev.neg (by simp) (Ev.bind (spec_CountPages_ev _ (n + 1) (Sz_len sX (by omega)) (fun y hy => (Sz_in sX (by omega) y hy).1)) (Ev.neg (by rw [cX]; dsimp only; omega) ?_)))
      exact ih (i + 1) pgs x3 hq2.2 hpg hle
     ·rw [if_neg h40] at eA
      refine Ev.bind eA (Ev.pos rfl (Ev.pos (by omega) ?_))
      have e3 : flat pgs ++ q.f0 = flat (pgs ++ [⟨q.f0⟩]) := by rw [flat_app]; simp [flat]
      rw [e3]
      exact ih (i + 1) _ x3 hq2.2 (vps_snocA hpg hq2.1) (by simp only [List.length_append, List.length_cons, List.length_nil]; omega)
   obtain ⟨v0, _, _⟩ := idM_next (y := ⟨n, [], 0, false⟩) hv hn rfl rfl (by simp) (by simpa using hcp)
   have s0 : Sz 11 60 (l ++ [⟨n, [], 0, false⟩]) := Sz_snoc s (by simp) rfl
   have r0 : (rfM (l ++ [⟨n, [], 0, false⟩]) (n + 1) n).2 = false := by
    have := (rfM_two v0 (x := ⟨n, [], 0, false⟩) (by simp)).1
    simpa [goodF] using this
   have eR0 := impl_ReadFile_ev (l ++ [⟨n, [], 0, false⟩]) (n + 1) n (Sz_len s0 (by omega)) (Sz_in s0 (by omega))
   refine Ev.succ ?_
   simp only [laws_FnSealedFiles.j0]
   refine Ev.neg (by decide) (Ev.pos trivial (Ev.bind eR0 (Ev.bind eN (Ev.bind eP ?_))))
   rw [r0]
   exact keyL p 0 [] rfl hpv rfl (by simpa using hcp)
  obtain ⟨K, hK⟩ := hE
  exact ⟨K, hK K (Nat.le_refl _)⟩
end Go.Proofs.Ytljpfogplcdcjaa.Pure
