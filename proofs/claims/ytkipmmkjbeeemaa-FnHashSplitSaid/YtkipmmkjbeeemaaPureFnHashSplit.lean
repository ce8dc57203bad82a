/- SplitByHashBit keeps equal keys on one side, its two sides together are all rows, and any two different keys are separated at some level, for every drawn input; no further condition. -/
import Derived.Test.YtkipmmkjbeeemaaQFnHashSplitx7
import Derived.Test.YtkipmmkjbeeemaaCore
namespace Go.Proofs.Ytkipmmkjbeeemaa.Pure
open Go.RowKit Go.Proofs.Ytkipmmkjbeeemaa.PFnHashSplit Go.Proofs.YtkipmmkjbeeemaaW.PrintWords Go.Proofs.YtkipmmkjbeeemaaW.PrintLast Go.Proofs.YtkipmmkjbeeemaaW.PrintMore Go.Proofs.Ytkipmmkjbeeemaa.Core
set_option linter.unusedVariables false
set_option linter.unusedSimpArgs false

theorem drop_nil_lt {α : Type} {l : List α} {i : Nat} (h : l.drop i = []) : ¬ (i : Int) < (l.length : Int) := by
  have := List.drop_eq_nil_iff.1 h
  omega
theorem rdI {l : List S33} {i : Nat} {b : S33} {r : List S33} (h : l.drop i = b :: r) : (i : Int) < (l.length : Int) ∧ rd_T33 l (i : Int) = b ∧ l.drop (i + 1) = r := by
  obtain ⟨hi, h1, h2⟩ := drop_split h
  refine ⟨by omega, ?_, h2⟩
  unfold rd_T33
  rw [Int.toNat_natCast, List.getD_eq_getElem?_getD, List.getElem?_eq_getElem hi, h1]; rfl
theorem nxt {n i : Nat} (hn : n ≤ 4611686018427387904) (h : (i : Int) < (n : Int)) : wrap64 ((i : Int) + 1) = ((i + 1 : Nat) : Int) := by
  rw [w64 (by omega) (by omega)]; omega
theorem within_f (a b c : Int) : impl_within.f a b c = some (decide (b ≤ a) && decide (a ≤ c)) := by
  by_cases h : b ≤ a <;> simp [impl_within.f, h]
theorem l1In_f (a b c : Int) : spec_l1In.f a b c = some (decide (b ≤ a) && decide (a ≤ c)) := by
  by_cases h : b ≤ a <;> simp [spec_l1In.f, h]
theorem hashbit_eq (a b : Int) : impl_HashBit.f a b = spec_HashBit.f a b := by
  unfold impl_HashBit.f spec_HashBit.f
  simp only [within_f, l1In_f, Int.mul_comm 7 a]
theorem hashbit_some (a b : Int) : ∃ r, spec_HashBit.f a b = some r := by
  unfold spec_HashBit.f
  rw [l1In_f, l1In_f]
  simp only [Option.bind_some]
  split
  · rename_i h
    split
    · rw [if_pos (by simp at h; omega)]; exact ⟨_, rfl⟩
    · exact ⟨_, rfl⟩
  · exact ⟨_, rfl⟩
def hbV (a b : Int) : Int := (spec_HashBit.f a b).getD 0
theorem spec_HashBit_v (a b : Int) : spec_HashBit.f a b = some (hbV a b) := by
  obtain ⟨r, hr⟩ := hashbit_some a b
  unfold hbV; rw [hr]; rfl
theorem impl_HashBit_v (a b : Int) : impl_HashBit.f a b = some (hbV a b) := by rw [hashbit_eq]; exact spec_HashBit_v a b
def cp (x : S33) : S33 := ⟨x.f0, x.f1, x.f2⟩
def spl (b : Int) : List S33 → List S33 → List S33 → List S33 × List S33
  | [], p, q => (p, q)
  | x :: r, p, q => if hbV x.f0 b = 0 then spl b r (p ++ [x]) q else spl b r p (q ++ [x])
theorem spec_Split_ev (l : List S33) (hl : l.length ≤ 1048576) (b : Int) : Ev (fun k => spec_SplitByHashBit.f k l b) (spl b l [] []) := by
  have key : ∀ (r : List S33) (i : Nat) (p q : List S33), l.drop i = r → p.length ≤ i → q.length ≤ i → Ev (fun k => spec_SplitByHashBit.l0 k l b p q (i : Int)) (spl b r p q) := by
    intro r
    induction r with
    | nil =>
      intro i p q h hp hq
      refine Ev.succ ?_
      simp only [spec_SplitByHashBit.l0]
      exact Ev.neg (drop_nil_lt h) (Ev.now _)
    | cons x r ih =>
      intro i p q h hp hq
      obtain ⟨h1, h2, h3⟩ := rdI h
      refine Ev.succ ?_
      simp only [spec_SplitByHashBit.l0, h2, nxt (show l.length ≤ 4611686018427387904 by omega) h1, spec_HashBit_v, Option.bind_some]
      refine Ev.pos h1 (Ev.pos (Int.natCast_nonneg _) ?_)
      simp only [spl]
      by_cases hz : hbV x.f0 b = 0
      · rw [if_pos hz]
        exact Ev.pos hz (Ev.pos (by omega) (ih (i + 1) _ _ h3 (by simp only [List.length_append, List.length_cons, List.length_nil]; omega) (by omega)))
      · rw [if_neg hz]
        exact Ev.neg hz (Ev.pos (by omega) (ih (i + 1) _ _ h3 (by omega) (by simp only [List.length_append, List.length_cons, List.length_nil]; omega)))
  exact key l 0 [] [] rfl (Nat.le_refl _) (Nat.le_refl _)
theorem impl_Split_ev (l : List S33) (hl : l.length ≤ 1048576) (b : Int) : Ev (fun k => impl_SplitByHashBit.f k l b) (spl b l [] []) := by
  have key : ∀ (r : List S33) (i : Nat) (p q : List S33), l.drop i = r → p.length ≤ i → q.length ≤ i → Ev (fun k => impl_SplitByHashBit.l0 k b p q l (l.length : Int) (i : Int)) (spl b r p q) := by
    intro r
    induction r with
    | nil =>
      intro i p q h hp hq
      refine Ev.succ ?_
      simp only [impl_SplitByHashBit.l0]
      exact Ev.neg (drop_nil_lt h) (Ev.now _)
    | cons x r ih =>
      intro i p q h hp hq
      obtain ⟨h1, h2, h3⟩ := rdI h
      refine Ev.succ ?_
      simp only [impl_SplitByHashBit.l0, h2, nxt (show l.length ≤ 4611686018427387904 by omega) h1, impl_HashBit_v, Option.bind_some]
      refine Ev.pos h1 (Ev.pos (Int.natCast_nonneg _) (Ev.pos h1 ?_))
      simp only [spl]
      by_cases hz : hbV x.f0 b = 0
      · rw [if_pos hz]
        exact Ev.pos hz (Ev.pos (by omega) (ih (i + 1) _ _ h3 (by simp only [List.length_append, List.length_cons, List.length_nil]; omega) (by omega)))
      · rw [if_neg hz]
        exact Ev.neg hz (Ev.pos (by omega) (ih (i + 1) _ _ h3 (by omega) (by simp only [List.length_append, List.length_cons, List.length_nil]; omega)))
  exact key l 0 [] [] rfl (Nat.le_refl _) (Nat.le_refl _)
def allKey (k : Int) (r : List S33) : Bool := r.all fun y => decide (y.f0 = k)
def sameM (l : List S33) : Bool := allKey (rd_T33 l 0).f0 (l.drop 1)
theorem spec_AllSameKey_ev (l : List S33) (hl : l.length ≤ 4611686018427387904) : Ev (fun k => spec_AllSameKey.f k l) (sameM l) := by
  have key : ∀ (r : List S33) (i : Nat), l.drop i = r → Ev (fun k => spec_AllSameKey.l0 k l (i : Int)) (allKey (rd_T33 l 0).f0 r) := by
    intro r
    induction r with
    | nil =>
      intro i h
      refine Ev.succ ?_
      simp only [spec_AllSameKey.l0]
      exact Ev.neg (drop_nil_lt h) (Ev.now _)
    | cons b r ih =>
      intro i h
      obtain ⟨h1, h2, h3⟩ := rdI h
      refine Ev.succ ?_
      simp only [spec_AllSameKey.l0, h2, nxt hl h1]
      refine Ev.pos h1 (Ev.pos (Int.natCast_nonneg _) (Ev.pos (by omega) ?_))
      by_cases hb : b.f0 = (rd_T33 l 0).f0
      · refine Ev.pos hb ?_
        have e : allKey (rd_T33 l 0).f0 (b :: r) = allKey (rd_T33 l 0).f0 r := by simp [allKey, hb]
        rw [e]; exact ih (i + 1) h3
      · exact Ev.neg hb (Ev.now' (by simp [allKey, hb]))
  exact key (l.drop 1) 1 rfl
theorem impl_AllSameKey_ev (l : List S33) (hl : l.length ≤ 4611686018427387904) : Ev (fun k => impl_AllSameKey.f k l) (sameM l) := by
  have key : ∀ (r : List S33) (i : Nat), l.drop i = r → Ev (fun k => impl_AllSameKey.l0 k l l (l.length : Int) (i : Int)) (allKey (rd_T33 l 0).f0 r) := by
    intro r
    induction r with
    | nil =>
      intro i h
      refine Ev.succ ?_
      simp only [impl_AllSameKey.l0]
      exact Ev.neg (drop_nil_lt h) (Ev.now _)
    | cons b r ih =>
      intro i h
      obtain ⟨h1, h2, h3⟩ := rdI h
      refine Ev.succ ?_
      simp only [impl_AllSameKey.l0, h2, nxt hl h1]
      refine Ev.pos h1 (Ev.pos (Int.natCast_nonneg _) (Ev.pos h1 (Ev.pos (by omega) ?_)))
      by_cases hb : b.f0 = (rd_T33 l 0).f0
      · refine Ev.pos hb ?_
        have e : allKey (rd_T33 l 0).f0 (b :: r) = allKey (rd_T33 l 0).f0 r := by simp [allKey, hb]
        rw [e]; exact ih (i + 1) h3
      · exact Ev.neg hb (Ev.now' (by simp [allKey, hb]))
  have e : sameM l = allKey (rd_T33 l 0).f0 l := by
    cases l with
    | nil => rfl
    | cons x r => simp [sameM, allKey, rd_T33]
  rw [e]
  exact key l 0 rfl
def vrow (r : Int × Int × Int) : Bool := (decide (0 ≤ r.1) && decide (r.1 ≤ 9)) && ((decide (0 ≤ r.2.1) && decide (r.2.1 ≤ 99)) && (decide (0 ≤ r.2.2) && decide (r.2.2 ≤ 3)))
theorem vrow_iff {a b c : Int} : vrow (a, b, c) = true ↔ (0 ≤ a ∧ a ≤ 9) ∧ (0 ≤ b ∧ b ≤ 99) ∧ 0 ≤ c ∧ c ≤ 3 := by simp [vrow]
def allV (l : List S33) : Bool := l.all fun x => vrow (x.f0, x.f1, x.f2)
def avM (l : List S33) : Bool := allV l && decide ((l.length : Int) ≤ 24)
theorem spec_IsValidRow_f (a b c : Int) : spec_IsValidRow.f a b c = some (vrow (a, b, c)) := by
  simp only [spec_IsValidRow.f, l1In_f, Option.bind_some, vrow]
  cases (decide (0 ≤ a) && decide (a ≤ 9)) <;> cases (decide (0 ≤ b) && decide (b ≤ 99)) <;> simp
theorem spec_AreValidRows_ev (l : List S33) (hl : l.length ≤ 4611686018427387904) : Ev (fun k => spec_AreValidRows.f k l) (avM l) := by
  have key : ∀ (r : List S33) (i : Nat), l.drop i = r → Ev (fun k => spec_AreValidRows.l0 k l (i : Int)) (allV r && decide ((l.length : Int) ≤ 24)) := by
    intro r
    induction r with
    | nil =>
      intro i h
      refine Ev.succ ?_
      simp only [spec_AreValidRows.l0]
      exact Ev.neg (drop_nil_lt h) (Ev.now' (by simp [allV]))
    | cons x r ih =>
      intro i h
      obtain ⟨h1, h2, h3⟩ := rdI h
      refine Ev.succ ?_
      simp only [spec_AreValidRows.l0, h2, nxt hl h1, spec_IsValidRow_f, Option.bind_some]
      refine Ev.pos h1 (Ev.pos (Int.natCast_nonneg _) ?_)
      by_cases hv : vrow (x.f0, x.f1, x.f2) = true
      · refine Ev.pos hv ?_
        have e : allV (x :: r) = allV r := by simp [allV, hv]
        rw [e]; exact ih (i + 1) h3
      · exact Ev.neg hv (Ev.now' (by simp [allV, hv]))
  exact key l 0 rfl
def ord (a b : Int) : Int := if a < b then -1 else if b < a then 1 else 0
def cmpR (r q : Int × Int × Int) : Int := if ord r.1 q.1 ≠ 0 then ord r.1 q.1 else if ord r.2.1 q.2.1 ≠ 0 then ord r.2.1 q.2.1 else ord r.2.2 q.2.2
theorem ord_anti (a b : Int) : ord b a = -ord a b := by
  unfold ord
  rcases Int.lt_trichotomy a b with h | h | h
  · rw [if_neg (show ¬ b < a by omega), if_pos h, if_pos h]; rfl
  · subst h; simp
  · rw [if_pos h, if_neg (show ¬ a < b by omega), if_pos h]
theorem cmpR_anti (r q : Int × Int × Int) : cmpR q r = -cmpR r q := by
  unfold cmpR
  rw [ord_anti r.1 q.1, ord_anti r.2.1 q.2.1, ord_anti r.2.2 q.2.2]
  by_cases h1 : ord r.1 q.1 = 0
  · by_cases h2 : ord r.2.1 q.2.1 = 0
    · simp [h1, h2]
    · simp [h1, h2]
  · simp [h1]
theorem ord_zero {a b : Int} (h : ord a b = 0) : a = b := by
  unfold ord at h
  split at h
  · cases h
  · split at h
    · cases h
    · omega
theorem ord_self (a : Int) : ord a a = 0 := by simp [ord]
def cR (x y : S33) : Int := cmpR (x.f0, x.f1, x.f2) (y.f0, y.f1, y.f2)
theorem cR_zero {x y : S33} (h : cR x y = 0) : x = y := by
  unfold cR cmpR at h
  simp only at h
  split at h
  · rename_i h1; exact absurd h h1
  · rename_i h1
    split at h
    · rename_i h2; exact absurd h h2
    · rename_i h2
      have e1 := ord_zero (Decidable.not_not.1 h1)
      have e2 := ord_zero (Decidable.not_not.1 h2)
      have e3 := ord_zero h
      cases x; cases y; simp only at e1 e2 e3; subst e1; subst e2; subst e3; rfl
theorem cR_self (x : S33) : cR x x = 0 := by simp [cR, cmpR, ord_self]
theorem cR_anti (x y : S33) : cR y x = -cR x y := cmpR_anti _ _
def leR (x y : S33) : Prop := cR x y ≤ 0
theorem ord_le {a b : Int} : ord a b ≤ 0 ↔ a ≤ b := by
  unfold ord
  split
  · omega
  · split <;> omega
theorem leR_iff {x y : S33} : leR x y ↔ x.f0 < y.f0 ∨ (x.f0 = y.f0 ∧ (x.f1 < y.f1 ∨ (x.f1 = y.f1 ∧ x.f2 ≤ y.f2))) := by
  unfold leR cR cmpR
  simp only
  have o : ∀ a b : Int, ord a b = 0 ↔ a = b := fun a b => ⟨ord_zero, fun h => h ▸ ord_self a⟩
  have l : ∀ a b : Int, ord a b ≤ 0 ↔ a ≤ b := fun a b => ord_le
  by_cases h1 : x.f0 = y.f0
  · rw [if_neg (by rw [h1]; exact fun hh => hh (ord_self _))]
    by_cases h2 : x.f1 = y.f1
    · rw [if_neg (by rw [h2]; exact fun hh => hh (ord_self _)), l]; omega
    · rw [if_pos (fun hh => h2 ((o _ _).1 hh)), l]; omega
  · rw [if_pos (fun hh => h1 ((o _ _).1 hh)), l]; omega
theorem leR_trans {x y z : S33} (h : leR x y) (k : leR y z) : leR x z := by
  rw [leR_iff] at h k ⊢; omega
theorem leR_total (x y : S33) : leR x y ∨ leR y x := by
  rw [leR_iff, leR_iff]; omega
theorem leR_antisymm {x y : S33} (h : leR x y) (k : leR y x) : x = y := by
  have : cR x y = 0 := by unfold leR at h k; rw [cR_anti] at k; omega
  exact cR_zero this
theorem sorted_unique : ∀ (a b : List S33), List.Pairwise leR a → List.Pairwise leR b → a.Perm b → a = b
  | [], b, _, _, h => (List.Perm.nil_eq h)
  | x :: a, b, ha, hb, h => by
    cases b with
    | nil => exact absurd h.length_eq (by simp)
    | cons y b =>
      have hx : x ∈ y :: b := h.subset (by simp)
      have hy : y ∈ x :: a := h.symm.subset (by simp)
      have e : x = y := by
        rcases List.mem_cons.1 hx with h1 | h1
        · exact h1
        · rcases List.mem_cons.1 hy with h2 | h2
          · exact h2.symm
          · exact leR_antisymm ((List.pairwise_cons.1 ha).1 y h2) ((List.pairwise_cons.1 hb).1 x h1)
      subst e
      rw [sorted_unique a b (List.pairwise_cons.1 ha).2 (List.pairwise_cons.1 hb).2 (List.Perm.cons_inv h)]
/-- Insertion from the right end, as the reference does it. -/
def insR (x : S33) : List S33 → List S33
  | [] => [x]
  | y :: r => if cR y x > 0 then x :: y :: r else y :: insR x r
theorem insR_perm (x : S33) : ∀ l, (insR x l).Perm (x :: l)
  | [] => List.Perm.refl _
  | y :: r => by
    unfold insR
    split
    · exact List.Perm.refl _
    · exact ((insR_perm x r).cons y).trans (List.Perm.swap x y r)
theorem insR_sorted (x : S33) : ∀ l, List.Pairwise leR l → List.Pairwise leR (insR x l)
  | [], _ => by simp [insR]
  | y :: r, h => by
    have hy := List.pairwise_cons.1 h
    unfold insR
    split
    · rename_i hc
      have hxy : leR x y := by unfold leR; rw [cR_anti]; omega
      exact List.pairwise_cons.2 ⟨fun z hz => by
        rcases List.mem_cons.1 hz with rfl | hz
        · exact hxy
        · exact leR_trans hxy (hy.1 z hz), h⟩
    · rename_i hc
      refine List.pairwise_cons.2 ⟨fun z hz => ?_, insR_sorted x r hy.2⟩
      rcases List.mem_cons.1 ((insR_perm x r).subset hz) with rfl | hz
      · unfold leR; omega
      · exact hy.1 z hz
def isortR : List S33 → List S33 → List S33
  | [], acc => acc
  | x :: r, acc => isortR r (insR x acc)
theorem isortR_ok : ∀ (l acc : List S33), List.Pairwise leR acc → List.Pairwise leR (isortR l acc) ∧ (isortR l acc).Perm (l ++ acc)
  | [], acc, h => ⟨h, List.Perm.refl _⟩
  | x :: r, acc, h => by
    obtain ⟨h1, h2⟩ := isortR_ok r (insR x acc) (insR_sorted x acc h)
    refine ⟨h1, h2.trans (((insR_perm x acc).append_left r).trans ?_)⟩
    exact List.perm_middle
def sortM (l : List S33) : List S33 := isortR l []
theorem sortM_sorted (l : List S33) : List.Pairwise leR (sortM l) := (isortR_ok l [] List.Pairwise.nil).1
theorem sortM_perm (l : List S33) : (sortM l).Perm l := by
  have := (isortR_ok l [] List.Pairwise.nil).2
  rwa [List.append_nil] at this
theorem sortM_eq {a b : List S33} (h : a.Perm b) : sortM a = sortM b :=
  sorted_unique _ _ (sortM_sorted a) (sortM_sorted b) ((sortM_perm a).trans (h.trans (sortM_perm b).symm))
theorem sortM_len (l : List S33) : (sortM l).length = l.length := (sortM_perm l).length_eq
/-- Where a walk from the right end stops: the place of x in a sorted list. -/
theorem insR_at (x : S33) : ∀ (l : List S33) (k : Nat), k ≤ l.length → (∀ j (h : j < l.length), k ≤ j → cR l[j] x > 0) → (∀ j (h : j < l.length), j < k → ¬ cR l[j] x > 0) → insR x l = l.take k ++ x :: l.drop k
  | [], k, hk, _, _ => by
    have : k = 0 := by simpa using hk
    subst this; rfl
  | y :: r, 0, hk, h1, h2 => by
    unfold insR
    rw [if_pos (show cR y x > 0 from h1 0 (by simp) (Nat.le_refl _))]; rfl
  | y :: r, k + 1, hk, h1, h2 => by
    unfold insR
    rw [if_neg (show ¬ cR y x > 0 from h2 0 (by simp) (by omega)), insR_at x r k (by simpa using hk) (fun j h hj => (show cR r[j] x > 0 from h1 (j + 1) (by simpa using h) (by omega))) (fun j h hj => (show ¬ cR r[j] x > 0 from h2 (j + 1) (by simpa using h) (by omega)))]
    rfl
theorem spec_CompareRows_ev (a b c x y z : Int) : Ev (fun k => spec_CompareRows.f k a b c x y z) (cmpR (a, b, c) (x, y, z)) := by
  simp only [spec_CompareRows.f]
  have step : ∀ (p q : List Int) (i : Int) (r : Int), p.length = 3 → q.length = 3 → 0 ≤ i → i < 3 → (ord (rd p i) (rd q i) = 0 → Ev (fun k => spec_CompareRows.l0 k p q (i + 1)) r) → (ord (rd p i) (rd q i) ≠ 0 → r = ord (rd p i) (rd q i)) → Ev (fun k => spec_CompareRows.l0 k p q i) r := by
    intro p q i r hp hq h0 h1 e1 e2
    refine Ev.succ ?_
    simp only [spec_CompareRows.l0]
    refine Ev.pos h1 (Ev.pos h0 (Ev.pos (by omega) (Ev.pos (by omega) ?_)))
    unfold ord at e1 e2
    by_cases h : rd p i < rd q i
    · refine Ev.pos h (Ev.now' ?_)
      rw [if_pos h] at e2
      exact (e2 (by decide)).symm
    · refine Ev.neg h ?_
      by_cases h' : rd p i > rd q i
      · refine Ev.pos h' (Ev.now' ?_)
        rw [if_neg h, if_pos h'] at e2
        exact (e2 (by decide)).symm
      · refine Ev.neg h' ?_
        rw [if_neg h, if_neg h'] at e1
        rw [w64 (by omega) (by omega)]
        exact e1 rfl
  refine step _ _ 0 _ rfl rfl (by decide) (by decide) (fun h0 => ?_) (fun h0 => ?_)
  · refine step _ _ (0 + 1) _ rfl rfl (by decide) (by decide) (fun h1 => ?_) (fun h1 => ?_)
    · refine step _ _ (0 + 1 + 1) _ rfl rfl (by decide) (by decide) (fun h2 => ?_) (fun h2 => ?_)
      · refine Ev.succ ?_
        simp only [spec_CompareRows.l0]
        refine Ev.neg (by decide) (Ev.now' ?_)
        have h0' : ord a x = 0 := h0
        have h1' : ord b y = 0 := h1
        have h2' : ord c z = 0 := h2
        simp [cmpR, h0', h1', h2']
      · have h0' : ord a x = 0 := h0
        have h1' : ord b y = 0 := h1
        show cmpR (a, b, c) (x, y, z) = ord c z
        simp [cmpR, h0', h1']
    · have h0' : ord a x = 0 := h0
      have h1' : ord b y ≠ 0 := h1
      show cmpR (a, b, c) (x, y, z) = ord b y
      simp [cmpR, h0', h1']
  · have h0' : ord a x ≠ 0 := h0
    show cmpR (a, b, c) (x, y, z) = ord a x
    simp [cmpR, h0']
theorem spec_SortRows_ev (l : List S33) (hl : l.length ≤ 1048576) : Ev (fun k => spec_SortRows.f k l) (sortM l) := by
  have inner : ∀ (acc : List S33) (x : S33) (i : Nat) (r : List S33) (R : List S33), l.drop i = x :: r → acc.length ≤ 1048576 → List.Pairwise leR acc → Ev (fun k => spec_SortRows.l0 k l (insR x acc) ((i + 1 : Nat) : Int)) R →
      ∀ (k : Nat), k ≤ acc.length → (∀ j (h : j < acc.length), k ≤ j → cR acc[j] x > 0) → Ev (fun m => spec_SortRows.l1 m l acc (i : Int) (k : Int)) R := by
    intro acc x i r R hd ha hs hR k
    obtain ⟨h1, h2, h3⟩ := rdI hd
    have e1 : wrap64 ((i : Int) + 1) = ((i + 1 : Nat) : Int) := nxt (show l.length ≤ 4611686018427387904 by omega) h1
    have fin : ∀ k : Nat, k ≤ acc.length → insR x acc = acc.take k ++ x :: acc.drop k → Ev (fun m => (some (([(⟨x.f0, x.f1, x.f2⟩ : S33)] : List (S33)) : List (S33))).bind fun y282 => (if 0 ≤ (k : Int) then (if (k : Int) ≤ (acc.length : Int) then ((some (acc.drop ((k : Int) : Int).toNat : List (S33))).bind fun y285 => (if y282.length + y285.length < 5864062014805 then ((some (y282 ++ y285 : List (S33))).bind fun y289 => ((some (([] : List (S33)) : List (S33))).bind fun y292 => ((some (acc.take ((k : Int) : Int).toNat : List (S33))).bind fun y295 => (if y292.length + y295.length < 5864062014805 then ((some (y292 ++ y295 : List (S33))).bind fun y299 => (if y299.length + y289.length < 5864062014805 then (spec_SortRows.l0 m l (y299 ++ y289) ((i + 1 : Nat) : Int)) else (none))) else (none))))) else (none))) else (none)) else (none))) R := by
      intro k hk he
      simp only [Option.bind_some, Int.toNat_natCast]
      refine Ev.pos (Int.natCast_nonneg _) (Ev.pos (by omega) (Ev.pos ?_ (Ev.pos ?_ (Ev.pos ?_ ?_))))
      · simp only [List.length_cons, List.length_nil, List.length_drop]; omega
      · simp only [List.length_nil, List.length_take]; omega
      · simp only [List.length_cons, List.length_nil, List.length_drop, List.length_take, List.length_append]; omega
      · rw [he] at hR
        exact hR
    induction k with
    | zero =>
      intro hk hc
      refine Ev.succ ?_
      simp only [spec_SortRows.l1, h2, e1]
      refine Ev.neg (by omega) (Ev.pos (Int.natCast_nonneg _) (Ev.pos h1 ?_))
      exact fin 0 (Nat.zero_le _) (insR_at x acc 0 (Nat.zero_le _) hc (fun j h hj => by omega))
    | succ k ih =>
      intro hk hc
      have e2 : wrap64 (((k + 1 : Nat) : Int) - 1) = (k : Int) := by rw [w64 (by omega) (by omega)]; omega
      have hkl : k < acc.length := by omega
      have e3 : rd_T33 acc (k : Int) = acc[k] := (rdI (List.drop_eq_getElem_cons hkl)).2.1
      refine Ev.succ ?_
      simp only [spec_SortRows.l1, h2, e1, e2, e3]
      refine Ev.pos (by omega) (Ev.pos (Int.natCast_nonneg _) (Ev.pos (by omega) (Ev.pos (Int.natCast_nonneg _) (Ev.pos h1 (Ev.bind (spec_CompareRows_ev _ _ _ _ _ _) ?_)))))
      by_cases hcmp : cR acc[k] x > 0
      · refine Ev.pos hcmp (ih (by omega) (fun j h hj => ?_))
        by_cases hjk : j = k
        · subst hjk; exact hcmp
        · exact hc j h (by omega)
      · refine Ev.neg hcmp ?_
        refine fin (k + 1) hk (insR_at x acc (k + 1) hk hc (fun j h hj => ?_))
        by_cases hjk : j = k
        · subst hjk; exact hcmp
        · have hp : leR acc[j] acc[k] := (List.pairwise_iff_getElem.1 hs) j k h hkl (by omega)
          have hle : leR acc[k] x := by unfold leR; omega
          have := leR_trans hp hle
          unfold leR at this
          omega
  have key : ∀ (r : List S33) (i : Nat) (acc : List S33), l.drop i = r → acc.length + r.length ≤ 1048576 → List.Pairwise leR acc → Ev (fun k => spec_SortRows.l0 k l acc (i : Int)) (isortR r acc) := by
    intro r
    induction r with
    | nil =>
      intro i acc h ha hs
      refine Ev.succ ?_
      simp only [spec_SortRows.l0]
      exact Ev.neg (drop_nil_lt h) (Ev.now _)
    | cons x r ih =>
      intro i acc h ha hs
      obtain ⟨h1, h2, h3⟩ := rdI h
      simp only [List.length_cons] at ha
      refine Ev.succ ?_
      simp only [spec_SortRows.l0]
      refine Ev.pos h1 (inner acc x i r _ h (by omega) hs ?_ acc.length (Nat.le_refl _) (fun j h hj => by omega))
      exact ih (i + 1) (insR x acc) h3 (by rw [(insR_perm x acc).length_eq]; simp only [List.length_cons]; omega) (insR_sorted x acc hs)
  exact key l 0 [] rfl (by simpa using hl) List.Pairwise.nil
def neR (x y : S33) : Bool := !(x.f0 == y.f0) || (!(x.f1 == y.f1) || (!(x.f2 == y.f2)))
def rowsE : List S33 → List S33 → Bool
  | [], [] => true
  | x :: r, y :: s => if neR x y = true then false else rowsE r s
  | _, _ => false
def rowsEq (a b : List S33) : Bool := if a.length = b.length then rowsE a b else false
theorem rowsE_refl : ∀ a, rowsE a a = true
  | [] => rfl
  | x :: r => by simp [rowsE, neR, rowsE_refl r]
def bagE (a b : List S33) : Bool := rowsEq (sortM a) (sortM b)
theorem spec_EqualBags_ev (a b : List S33) (ha : a.length ≤ 1048576) (hb : b.length ≤ 1048576) : Ev (fun k => spec_EqualBags.f k a b) (bagE a b) := by
  have key : ∀ (p q r s : List S33) (i : Nat), p.length ≤ 4611686018427387904 → p.drop i = r → q.drop i = s → r.length = s.length → Ev (fun k => spec_EqualBags.l0 k p q (i : Int)) (rowsE r s) := by
    intro p q r
    induction r with
    | nil =>
      intro s i hp h hs hl
      obtain rfl : s = [] := List.eq_nil_of_length_eq_zero (by simpa using hl.symm)
      refine Ev.succ ?_
      simp only [spec_EqualBags.l0]
      exact Ev.neg (drop_nil_lt h) (Ev.now _)
    | cons x r ih =>
      intro s i hp h hs hl
      cases s with
      | nil => simp at hl
      | cons y s =>
        obtain ⟨h1, h2, h3⟩ := rdI h
        obtain ⟨g1, g2, g3⟩ := rdI hs
        refine Ev.succ ?_
        simp only [spec_EqualBags.l0, h2, g2, nxt hp h1, rowsE]
        refine Ev.pos h1 (Ev.pos (Int.natCast_nonneg _) (Ev.pos g1 ?_))
        by_cases hn : neR x y = true
        · rw [if_pos hn]; exact Ev.pos hn (Ev.now _)
        · rw [if_neg hn]; exact Ev.neg hn (ih s (i + 1) hp h3 g3 (by simpa using hl))
  simp only [spec_EqualBags.f]
  refine Ev.bind (spec_SortRows_ev a ha) (Ev.bind (spec_SortRows_ev b hb) ?_)
  unfold bagE rowsEq
  by_cases h : (sortM a).length = (sortM b).length
  · rw [if_pos h]; exact Ev.pos (by omega) (key _ _ _ _ 0 (by rw [sortM_len]; omega) rfl rfl h)
  · rw [if_neg h]; exact Ev.neg (by omega) (Ev.now _)
theorem sameRows_ev (a : List S33) (ha : a.length ≤ 4611686018427387904) : Ev (fun k => laws_sameRows.f k a a) true := by
  have key : ∀ (r : List S33) (i : Nat), a.drop i = r → Ev (fun k => laws_sameRows.l0 k a a (i : Int)) true := by
    intro r
    induction r with
    | nil =>
      intro i h
      refine Ev.succ ?_
      simp only [laws_sameRows.l0]
      exact Ev.neg (drop_nil_lt h) (Ev.now _)
    | cons x r ih =>
      intro i h
      obtain ⟨h1, h2, h3⟩ := rdI h
      refine Ev.succ ?_
      simp only [laws_sameRows.l0, h2, nxt ha h1]
      exact Ev.pos h1 (Ev.pos (Int.natCast_nonneg _) (Ev.pos h1 (Ev.neg (by simp) (ih (i + 1) h3))))
  simp only [laws_sameRows.f]
  exact Ev.pos (by trivial) (key a 0 rfl)
theorem bits_and_le (y : Int) (m : Nat) (hm : m < 1000) : 0 ≤ Go.bits .and .i64 y (m : Int) ∧ Go.bits .and .i64 y (m : Int) ≤ m := by
  have h : (BitVec.ofInt 64 y &&& BitVec.ofInt 64 (m : Int)).toNat ≤ m := by
    rw [BitVec.toNat_and]
    refine Nat.le_trans Nat.and_le_right ?_
    rw [BitVec.ofInt_natCast, BitVec.toNat_ofNat]
    exact Nat.mod_le _ _
  have e : Go.bits .and .i64 y (m : Int) = IntKind.i64.wrap (((BitVec.ofInt 64 y &&& BitVec.ofInt 64 (m : Int)).toNat : Nat) : Int) := rfl
  rw [e, IntKind.wrap_i64]
  omega
theorem l1Byte_some (b : List Int) (i h : Int) (hb : b.length ≤ 140737488351232) (hi : 0 ≤ i) : ∃ x i' h', spec_l1Byte.f b i h = some (x, i', h') ∧ (0 ≤ x ∧ x ≤ 255) ∧ 0 ≤ i' := by
  unfold spec_l1Byte.f
  by_cases h1 : i < (b.length : Int)
  · rw [if_pos h1, if_pos hi]
    refine ⟨_, _, _, rfl, bits_and_le _ 255 (by decide), ?_⟩
    rw [w64 (by omega) (by omega)]; omega
  · rw [if_neg h1]
    exact ⟨_, _, _, rfl, bits_and_le _ 255 (by decide), hi⟩
theorem tmod_bd (x n : Int) (h0 : 0 ≤ x) (hn : 0 < n) : 0 ≤ Int.tmod x n ∧ Int.tmod x n < n := by
  rw [Int.tmod_eq_emod_of_nonneg h0]
  exact ⟨Int.emod_nonneg _ (by omega), Int.emod_lt_of_pos _ hn⟩
theorem l1Below_some (b : List Int) (i h n : Int) (hb : b.length ≤ 140737488351232) (hi : 0 ≤ i) : ∃ x i' h', spec_l1Below.f b i h n = some (x, i', h') ∧ 0 ≤ x ∧ (0 < n → x < n) ∧ (n ≤ 0 → x = 0) ∧ 0 ≤ i' := by
  unfold spec_l1Below.f
  by_cases h1 : n ≤ 0
  · rw [if_pos h1]
    exact ⟨_, _, _, rfl, by omega, by omega, by omega, hi⟩
  · rw [if_neg h1]
    by_cases h2 : n ≤ 256
    · rw [if_pos h2]
      obtain ⟨x, i', h', e, hx, hi'⟩ := l1Byte_some b i h hb hi
      rw [e]
      simp only [Option.bind_some]
      rw [if_neg (by omega)]
      have := tmod_bd x n hx.1 (by omega)
      exact ⟨_, _, _, rfl, this.1, fun _ => this.2, by omega, hi'⟩
    · rw [if_neg h2]
      obtain ⟨x, i1, h1', e1, hx, hi1⟩ := l1Byte_some b i h hb hi
      obtain ⟨y, i2, h2', e2, hy, hi2⟩ := l1Byte_some b i1 h1' hb hi1
      obtain ⟨z, i3, h3', e3, hz, hi3⟩ := l1Byte_some b i2 h2' hb hi2
      obtain ⟨u, i4, h4', e4, hu, hi4⟩ := l1Byte_some b i3 h3' hb hi3
      simp only [e1, e2, e3, e4, Option.bind_some]
      rw [if_neg (by omega), w64 (x := x * 16777216) (by omega) (by omega), w64 (x := y * 65536) (by omega) (by omega), w64 (x := z * 256) (by omega) (by omega), w64 (x := x * 16777216 + y * 65536) (by omega) (by omega), w64 (x := x * 16777216 + y * 65536 + z * 256) (by omega) (by omega), w64 (by omega) (by omega)]
      have := tmod_bd (x * 16777216 + y * 65536 + z * 256 + u) n (by omega) (by omega)
      exact ⟨_, _, _, rfl, this.1, fun _ => this.2, by omega, hi4⟩
theorem l1Once_some (b : List Int) (i h n : Int) (hb : b.length ≤ 140737488351232) (hi : 0 ≤ i) : ∃ x i' h', spec_l1Once.f b i h n = some (x, i', h') ∧ 0 ≤ i' := by
  obtain ⟨x, i', h', e, _, _, _, hi'⟩ := l1Below_some b i h n hb hi
  unfold spec_l1Once.f
  rw [e]
  exact ⟨_, _, _, rfl, hi'⟩
theorem l1PickInt_some (b : List Int) (i h : Int) (l : List Int) (hb : b.length ≤ 140737488351232) (hi : 0 ≤ i) (hl : 0 < l.length) : ∃ x i' h', spec_l1PickInt.f b i h l = some (x, i', h') ∧ x ∈ l ∧ 0 ≤ i' := by
  obtain ⟨x, i', h', e, h0, h1, _, hi'⟩ := l1Below_some b i h (l.length : Int) hb hi
  have hx := h1 (by omega)
  unfold spec_l1PickInt.f
  rw [e]
  simp only [Option.bind_some]
  rw [if_pos h0, if_pos hx]
  refine ⟨_, _, _, rfl, ?_, hi'⟩
  unfold rd
  have hlt : x.toNat < l.length := by omega
  rw [List.getD_eq_getElem?_getD, List.getElem?_eq_getElem hlt]
  exact List.getElem_mem hlt
theorem l2Row_some (b : List Int) (i h keys : Int) (hb : b.length ≤ 140737488351232) (hi : 0 ≤ i) (hk : 0 < keys) :
    ∃ x y z i' h', spec_l2Row.f b i h keys = some (x, y, z, i', h') ∧ (0 ≤ x ∧ x < keys) ∧ (0 ≤ y ∧ y < 100) ∧ (0 ≤ z ∧ z ≤ 3) ∧ 0 ≤ i' := by
  obtain ⟨x, i1, h1, e1, x0, x1, _, j1⟩ := l1Below_some b i h keys hb hi
  obtain ⟨y, i2, h2, e2, y0, y1, _, j2⟩ := l1Below_some b i1 h1 100 hb j1
  obtain ⟨z, i3, h3, e3, z0, j3⟩ := l1PickInt_some b i2 h2 [0, 0, 1, 2, 3] hb j2 (by simp)
  unfold spec_l2Row.f
  simp only [e1, e2, e3, Option.bind_some]
  refine ⟨_, _, _, _, _, rfl, ⟨x0, x1 hk⟩, ⟨y0, y1 (by decide)⟩, ?_, j3⟩
  simp only [List.mem_cons, List.not_mem_nil, or_false] at z0
  omega
theorem l2Any_some (b : List Int) (i h : Int) (hb : b.length ≤ 140737488351232) (hi : 0 ≤ i) :
    ∃ x y z i' h', spec_l2Any.f b i h = some (x, y, z, i', h') ∧ 0 ≤ i' := by
  obtain ⟨x, y, z, i1, h1, e1, _, _, _, j1⟩ := l2Row_some b i h 10 hb hi (by decide)
  obtain ⟨t, i2, h2, e2, _, _, _, j2⟩ := l1Below_some b i1 h1 8 hb j1
  unfold spec_l2Any.f
  simp only [e1, e2, Option.bind_some]
  by_cases t0 : t = 0
  · rw [if_pos t0]
    obtain ⟨u, i3, h3, e3, _, j3⟩ := l1PickInt_some b i2 h2 [-1, 10] hb j2 (by simp)
    simp only [e3, Option.bind_some]
    exact ⟨_, _, _, _, _, rfl, j3⟩
  · rw [if_neg t0]
    by_cases t1 : t = 1
    · rw [if_pos t1]
      obtain ⟨u, i3, h3, e3, _, j3⟩ := l1PickInt_some b i2 h2 [-1, 100, 99] hb j2 (by simp)
      simp only [e3, Option.bind_some]
      exact ⟨_, _, _, _, _, rfl, j3⟩
    · rw [if_neg t1]
      by_cases t2 : t = 2
      · rw [if_pos t2]
        obtain ⟨u, i3, h3, e3, _, j3⟩ := l1PickInt_some b i2 h2 [-1, 4] hb j2 (by simp)
        simp only [e3, Option.bind_some]
        exact ⟨_, _, _, _, _, rfl, j3⟩
      · rw [if_neg t2]
        exact ⟨_, _, _, _, _, rfl, j2⟩
theorem l2Rows_ev (b : List Int) (i h a : Int) (hb : b.length ≤ 140737488351232) (hi : 0 ≤ i) (ha0 : 0 ≤ a) (ha : a ≤ 1000) :
    ∃ l i' h', Ev (fun k => spec_l2Rows.f k b i h a) (l, i', h') ∧ (l.length : Int) ≤ a ∧ 0 ≤ i' := by
  have key : ∀ (d : Nat) (acc : List S33) (keys i h : Int), 0 < keys → 0 ≤ i → acc.length + d ≤ 2000 → d ≤ 1000 → ∃ l i' h', Ev (fun k => spec_l2Rows.l0 k acc keys (d : Int) b i h) (l, i', h') ∧ l.length ≤ acc.length + d ∧ 0 ≤ i' := by
    intro d
    induction d with
    | zero =>
      intro acc keys i h hk hi hd hd2
      refine ⟨acc, i, h, Ev.succ ?_, by omega, hi⟩
      simp only [spec_l2Rows.l0]
      exact Ev.neg (by omega) (Ev.now _)
    | succ d ih =>
      intro acc keys i h hk hi hd hd2
      obtain ⟨x, y, z, i1, h1, e1, _, _, _, j1⟩ := l2Row_some b i h keys hb hi hk
      obtain ⟨l, i', h', e, hl, hi'⟩ := ih (acc ++ [⟨x, y, z⟩]) keys i1 h1 hk j1 (by simp only [List.length_append, List.length_cons, List.length_nil]; omega) (by omega)
      refine ⟨l, i', h', Ev.succ ?_, by simp only [List.length_append, List.length_cons, List.length_nil] at hl; omega, hi'⟩
      have ed : wrap64 (((d + 1 : Nat) : Int) - 1) = (d : Int) := by rw [w64 (by omega) (by omega)]; omega
      simp only [spec_l2Rows.l0, e1, Option.bind_some, ed]
      exact Ev.pos (by omega) (Ev.pos (by omega) e)
  obtain ⟨q, i1, h1, e1, q0, j1⟩ := l1PickInt_some b i h [1, 2, 4, 10] hb hi (by simp)
  have ea : wrap64 (a + 1) = a + 1 := w64 (by omega) (by omega)
  obtain ⟨m, i2, h2, e2, m0, m1, _, j2⟩ := l1Below_some b i1 h1 (a + 1) hb j1
  have hm := m1 (by omega)
  obtain ⟨m, rfl⟩ := Int.eq_ofNat_of_zero_le m0
  have hq : 0 < q := by simp only [List.mem_cons, List.not_mem_nil, or_false] at q0; omega
  obtain ⟨l, i', h', e, hl, hi'⟩ := key m [] q i2 h2 hq j2 (by simp only [List.length_nil]; omega) (by omega)
  refine ⟨l, i', h', ?_, by simp only [List.length_nil] at hl; omega, hi'⟩
  simp only [spec_l2Rows.f, e1, ea, e2, Option.bind_some]
  exact e
theorem l2Bent_ev (b : List Int) (i h a : Int) (hb : b.length ≤ 140737488351232) (hi : 0 ≤ i) (ha0 : 0 ≤ a) (ha : a ≤ 1000) :
    ∃ l i' h', Ev (fun k => spec_l2Bent.f k b i h a) (l, i', h') ∧ (l.length : Int) ≤ a + 1 ∧ 0 ≤ i' := by
  obtain ⟨l, i1, h1, e1, hl, j1⟩ := l2Rows_ev b i h a hb hi ha0 ha
  obtain ⟨o, i2, h2, e2, j2⟩ := l1Once_some b i1 h1 14 hb j1
  obtain ⟨x, y, z, i3, h3, e3, j3⟩ := l2Any_some b i2 h2 hb j2
  cases o with
  | true =>
    refine ⟨l ++ [⟨x, y, z⟩], i3, h3, ?_, by simp only [List.length_append, List.length_cons, List.length_nil]; omega, j3⟩
    simp only [spec_l2Bent.f]
    refine Ev.bind e1 ?_
    simp only [e2, e3, Option.bind_some]
    exact Ev.pos (by trivial) (Ev.pos (by omega) (Ev.now _))
  | false =>
    refine ⟨l, i2, h2, ?_, by omega, j2⟩
    simp only [spec_l2Bent.f]
    refine Ev.bind e1 ?_
    simp only [e2, Option.bind_some]
    exact Ev.neg (by decide) (Ev.now _)
theorem l1New_ev (l : List Int) (hl : l.length ≤ 140737488351232) : ∃ h, Ev (fun k => spec_l1New.f k l) (l, 0, h) := by
  have key : ∀ (d i : Nat) (x : Int), i + d = 4000 → ∃ h, Ev (fun k => spec_l1New.l0 k l x (i : Int)) (l, 0, h) := by
    intro d
    induction d with
    | zero =>
      intro i x hi
      refine ⟨x, Ev.succ ?_⟩
      simp only [spec_l1New.l0]
      by_cases h1 : (i : Int) < (l.length : Int)
      · exact Ev.pos h1 (Ev.neg (by omega) (Ev.now _))
      · exact Ev.neg h1 (Ev.now _)
    | succ d ih =>
      intro i x hi
      by_cases h1 : (i : Int) < (l.length : Int)
      · have e1 : wrap64 ((i : Int) + 1) = ((i + 1 : Nat) : Int) := by rw [w64 (by omega) (by omega)]; omega
        obtain ⟨h, e⟩ := ih (i + 1) (Go.bits .and .i64 (wrap64 ((wrap64 ((wrap64 (x * 131)) + (wrap64 (rd l (i : Int))))) + 7)) 1073741823) (by omega)
        refine ⟨h, Ev.succ ?_⟩
        simp only [spec_l1New.l0, e1]
        exact Ev.pos h1 (Ev.pos (by omega) (Ev.pos (Int.natCast_nonneg _) e))
      · refine ⟨x, Ev.succ ?_⟩
        simp only [spec_l1New.l0]
        exact Ev.neg h1 (Ev.now _)
  exact key 4000 0 _ rfl
theorem big_f (l : List Int) : laws_big.f l = some (decide ((l.length : Int) > 1048576)) := rfl
def fsl (l : List S33) : Nat → Int → Int
  | 0, _ => 4
  | d + 1, n => if (spl n l [] []).1.length > 0 ∧ (spl n l [] []).2.length > 0 then n else fsl l d (n + 1)
theorem spec_First_ev (l : List S33) (hl : l.length ≤ 1048576) : Ev (fun k => spec_FirstSplittingLevel.f k l) (fsl l 4 0) := by
  have key : ∀ (d : Nat) (n : Int), 0 ≤ n → n + d = 4 → Ev (fun k => spec_FirstSplittingLevel.l0 k l n) (fsl l d n) := by
    intro d
    induction d with
    | zero =>
      intro n h0 hd
      refine Ev.succ ?_
      simp only [spec_FirstSplittingLevel.l0, fsl]
      exact Ev.neg (by omega) (Ev.now _)
    | succ d ih =>
      intro n h0 hd
      refine Ev.succ ?_
      simp only [spec_FirstSplittingLevel.l0, fsl, w64 (x := n + 1) (by omega) (by omega)]
      refine Ev.pos (by omega) (Ev.bind (spec_Split_ev l hl n) ?_)
      by_cases h1 : (spl n l [] []).1.length > 0
      · refine Ev.pos (by omega) ?_
        by_cases h2 : (spl n l [] []).2.length > 0
        · rw [if_pos ⟨h1, h2⟩]; exact Ev.pos (by omega) (Ev.now _)
        · rw [if_neg (fun hh => h2 hh.2)]; exact Ev.neg (by omega) (ih (n + 1) (by omega) (by omega))
      · rw [if_neg (fun hh => h1 hh.1)]
        exact Ev.neg (by omega) (ih (n + 1) (by omega) (by omega))
  exact key 4 0 (by omega) (by omega)
theorem impl_First_ev (l : List S33) (hl : l.length ≤ 1048576) : Ev (fun k => impl_FirstSplittingLevel.f k l) (fsl l 4 0) := by
  have key : ∀ (d : Nat) (n : Int), 0 ≤ n → n + d = 4 → Ev (fun k => impl_FirstSplittingLevel.l0 k l n) (fsl l d n) := by
    intro d
    induction d with
    | zero =>
      intro n h0 hd
      refine Ev.succ ?_
      simp only [impl_FirstSplittingLevel.l0, fsl]
      exact Ev.neg (by omega) (Ev.now _)
    | succ d ih =>
      intro n h0 hd
      refine Ev.succ ?_
      simp only [impl_FirstSplittingLevel.l0, fsl, w64 (x := n + 1) (by omega) (by omega)]
      refine Ev.pos (by omega) (Ev.bind (impl_Split_ev l hl n) ?_)
      by_cases h1 : (spl n l [] []).1.length > 0
      · refine Ev.pos (by omega) ?_
        by_cases h2 : (spl n l [] []).2.length > 0
        · rw [if_pos ⟨h1, h2⟩]; exact Ev.pos (by omega) (Ev.now _)
        · rw [if_neg (fun hh => h2 hh.2)]; exact Ev.neg (by omega) (ih (n + 1) (by omega) (by omega))
      · rw [if_neg (fun hh => h1 hh.1)]
        exact Ev.neg (by omega) (ih (n + 1) (by omega) (by omega))
  exact key 4 0 (by omega) (by omega)
theorem hbV01 (a b : Int) : 0 ≤ hbV a b ∧ hbV a b ≤ 1 := by
  have h := spec_HashBit_v a b
  unfold spec_HashBit.f at h
  rw [l1In_f, l1In_f] at h
  simp only [Option.bind_some] at h
  split at h
  · split at h
    · split at h
      · have e := Option.some.inj h
        rw [← e]
        exact bits_and_le _ 1 (by decide)
      · cases h
    · have e := Option.some.inj h
      omega
  · have e := Option.some.inj h
    omega
def zer (b : Int) (x : S33) : Bool := decide (hbV x.f0 b = 0)
theorem spl_filter (b : Int) : ∀ (l p q : List S33), spl b l p q = (p ++ l.filter (zer b), q ++ l.filter (fun x => !zer b x))
  | [], p, q => by simp [spl]
  | x :: r, p, q => by
    simp only [spl]
    by_cases h : hbV x.f0 b = 0
    · rw [if_pos h, spl_filter b r]
      have hz : zer b x = true := decide_eq_true h
      simp [hz]
    · rw [if_neg h, spl_filter b r]
      have hz : zer b x = false := decide_eq_false h
      simp [hz]
theorem spl_fst (b : Int) (l : List S33) : (spl b l [] []).1 = l.filter (zer b) := by rw [spl_filter]; simp
theorem spl_snd (b : Int) (l : List S33) : (spl b l [] []).2 = l.filter (fun x => !zer b x) := by rw [spl_filter]; simp
def both (l : List S33) (n : Int) : Prop := (spl n l [] []).1.length > 0 ∧ (spl n l [] []).2.length > 0
theorem both_iff (l : List S33) (n : Int) : both l n ↔ (∃ x ∈ l, zer n x = true) ∧ ∃ y ∈ l, zer n y = false := by
  unfold both
  rw [spl_fst, spl_snd]
  constructor
  · rintro ⟨h1, h2⟩
    obtain ⟨x, hx⟩ := List.exists_mem_of_length_pos h1
    obtain ⟨y, hy⟩ := List.exists_mem_of_length_pos h2
    rw [List.mem_filter] at hx hy
    exact ⟨⟨x, hx.1, hx.2⟩, y, hy.1, by simpa using hy.2⟩
  · rintro ⟨⟨x, hx, hx2⟩, y, hy, hy2⟩
    exact ⟨List.length_pos_of_mem (List.mem_filter.2 ⟨hx, hx2⟩), List.length_pos_of_mem (List.mem_filter.2 ⟨hy, by simp [hy2]⟩)⟩
theorem fsl_four (l : List S33) : ∀ (d : Nat) (n : Int), (∀ j, ¬ both l j) → fsl l d n = 4
  | 0, n, _ => rfl
  | d + 1, n, h => by
    unfold fsl
    rw [if_neg (show ¬ ((spl n l [] []).1.length > 0 ∧ (spl n l [] []).2.length > 0) from h n)]
    exact fsl_four l d (n + 1) h
theorem fsl_less (l : List S33) : ∀ (d : Nat) (n j : Int), n + d = 4 → n ≤ j → j < 4 → both l j → fsl l d n < 4
  | 0, n, j, hd, h1, h2, hb => by omega
  | d + 1, n, j, hd, h1, h2, hb => by
    unfold fsl
    by_cases hn : both l n
    · rw [if_pos (show (spl n l [] []).1.length > 0 ∧ (spl n l [] []).2.length > 0 from hn)]; omega
    · rw [if_neg (show ¬ ((spl n l [] []).1.length > 0 ∧ (spl n l [] []).2.length > 0) from hn)]
      refine fsl_less l d (n + 1) j (by omega) ?_ h2 hb
      rcases Int.lt_or_eq_of_le h1 with h | h
      · omega
      · subst h; exact absurd hb hn
theorem keysep : ∀ k1 k2 : Fin 10, k1 ≠ k2 → ∃ v : Fin 4, hbV (k1.val : Int) (v.val : Int) ≠ hbV (k2.val : Int) (v.val : Int) := by decide +kernel
theorem sep (a b : Int) (ha : 0 ≤ a ∧ a ≤ 9) (hb : 0 ≤ b ∧ b ≤ 9) (h : a ≠ b) : ∃ v : Int, 0 ≤ v ∧ v < 4 ∧ hbV a v ≠ hbV b v := by
  obtain ⟨a, rfl⟩ := Int.eq_ofNat_of_zero_le ha.1
  obtain ⟨b, rfl⟩ := Int.eq_ofNat_of_zero_le hb.1
  obtain ⟨v, hv⟩ := keysep ⟨a, by omega⟩ ⟨b, by omega⟩ (fun hh => h (by injection hh with hh; omega))
  exact ⟨(v.val : Int), by omega, by omega, hv⟩
theorem allKey_iff (k : Int) (r : List S33) : allKey k r = true ↔ ∀ y ∈ r, y.f0 = k := by
  unfold allKey; rw [List.all_eq_true]; simp
theorem level_same (m : List S33) (hv : avM m = true) : (fsl m 4 0 == 4) = sameM m := by
  have hkeys : ∀ x ∈ m, 0 ≤ x.f0 ∧ x.f0 ≤ 9 := by
    intro x hx
    have h1 : allV m = true := by unfold avM at hv; simp at hv; exact hv.1
    unfold allV at h1
    rw [List.all_eq_true] at h1
    have := vrow_iff.1 (h1 x hx)
    omega
  cases m with
  | nil =>
    have e : fsl [] 4 0 = 4 := fsl_four [] 4 0 (fun j hb => by have := hb.1; simp [spl] at this)
    rw [e]; rfl
  | cons x r =>
    by_cases hs : sameM (x :: r) = true
    · have h0 : ∀ y ∈ x :: r, y.f0 = x.f0 := by
        intro y hy
        rcases List.mem_cons.1 hy with rfl | hy
        · rfl
        · exact (allKey_iff _ _).1 hs y hy
      have e : fsl (x :: r) 4 0 = 4 := fsl_four _ 4 0 (fun j hb => by
        obtain ⟨⟨a, ha, ha2⟩, b, hb1, hb2⟩ := (both_iff _ _).1 hb
        unfold zer at ha2 hb2
        rw [h0 a ha] at ha2
        rw [h0 b hb1] at hb2
        rw [ha2] at hb2
        cases hb2)
      rw [e, hs]; rfl
    · have hne : ∃ y ∈ r, y.f0 ≠ x.f0 := by
        refine Classical.byContradiction fun hh => hs ?_
        exact (allKey_iff _ _).2 (fun y hy => Classical.byContradiction fun h => hh ⟨y, hy, h⟩)
      obtain ⟨y, hy, hyx⟩ := hne
      obtain ⟨v, v0, v4, hv2⟩ := sep y.f0 x.f0 (hkeys y (by simp [hy])) (hkeys x (by simp)) hyx
      have b1 := hbV01 y.f0 v
      have b2 := hbV01 x.f0 v
      have hb : both (x :: r) v := by
        rw [both_iff]
        by_cases hz : hbV y.f0 v = 0
        · exact ⟨⟨y, by simp [hy], decide_eq_true hz⟩, x, by simp, decide_eq_false (fun hh => hv2 (by rw [hz, hh]))⟩
        · exact ⟨⟨x, by simp, decide_eq_true (by omega)⟩, y, by simp [hy], decide_eq_false hz⟩
      have hl := fsl_less (x :: r) 4 0 v (by omega) v0 v4 hb
      have e1 : (fsl (x :: r) 4 0 == 4) = false := by rw [beq_eq_false_iff_ne]; omega
      have e2 : sameM (x :: r) = false := by simpa using hs
      rw [e1, e2]
theorem FnHashSplit : laws_FnHashSplit.Pure := by
  intro code hmax hsz hwf
  by_cases hbig : (code.length : Int) > 1048576
  · exact ⟨0, .inl (by rw [big_f]; exact congrArg some (decide_eq_true hbig))⟩
  · have hb0 : laws_big.f code = some false := by rw [big_f]; exact congrArg some (decide_eq_false hbig)
    have hc : code.length ≤ 140737488351232 := by omega
    obtain ⟨h, en⟩ := l1New_ev code hc
    -- the drawn rows and level
    obtain ⟨l, i1, h1, e1, hl, j1⟩ := l2Bent_ev code 0 h 8 hc (by omega) (by omega) (by omega)
    obtain ⟨x, i2, h2, e2, _, _, _, j2⟩ := l1Below_some code i1 h1 6 hc j1
    have hl9 : l.length ≤ 1048576 := by omega
    have eD : Ev (fun k => spec_DrawSplitByHashBit.f k code) (l, wrap64 (x - 1)) := by
      simp only [spec_DrawSplitByHashBit.f]
      refine Ev.bind en (Ev.bind e1 ?_)
      simp only [e2, Option.bind_some]
      exact Ev.now _
    generalize wrap64 (x - 1) = lev at eD
    obtain ⟨kx, ik, hk, ek, _, _, _, jk⟩ := l1Below_some code 0 h 12 hc (by omega)
    obtain ⟨ky, ik2, hk2, ek2, _, _, _, jk2⟩ := l1Below_some code ik hk 6 hc jk
    have eH : Ev (fun k => spec_DrawHashBit.f k code) (wrap64 (kx - 1), wrap64 (ky - 1)) := by
      simp only [spec_DrawHashBit.f]
      refine Ev.bind en ?_
      simp only [ek, ek2, Option.bind_some]
      exact Ev.now _
    generalize wrap64 (kx - 1) = key at eH
    generalize wrap64 (ky - 1) = klev at eH
    -- the drawn rows for the level
    obtain ⟨m, i3, h3, e3, hm, j3⟩ := l2Bent_ev code 0 h 4 hc (by omega) (by omega) (by omega)
    have eM : Ev (fun k => spec_DrawFirstSplittingLevel.f k code) m := by
      simp only [spec_DrawFirstSplittingLevel.f]
      exact Ev.bind en (Ev.tl e3 rfl)
    have hm5 : m.length ≤ 1048576 := by omega
    have hI := impl_Split_ev l hl9 lev
    have hS := spec_Split_ev l hl9 lev
    have fa := spl_fst lev l
    have fb := spl_snd lev l
    generalize spl lev l [] [] = ab at hI hS fa fb
    obtain ⟨a, b⟩ := ab
    simp only at fa fb
    have la : a.length ≤ l.length := by rw [fa]; exact List.length_filter_le _ _
    have lb : b.length ≤ l.length := by rw [fb]; exact List.length_filter_le _ _
    have hperm : (a ++ b).Perm l := by rw [fa, fb]; exact List.filter_append_perm _ _
    have hbag : bagE (a ++ b) l = true := by
      unfold bagE rowsEq
      rw [sortM_eq hperm, if_pos rfl]
      exact rowsE_refl _
    have hdiff : ∀ p ∈ a, ∀ q ∈ b, p.f0 ≠ q.f0 := by
      intro p hp q hq he
      rw [fa, List.mem_filter] at hp
      rw [fb, List.mem_filter] at hq
      have h1 := hp.2
      have h2 := hq.2
      unfold zer at h1 h2
      rw [he] at h1
      rw [h1] at h2
      simp at h2
    have hb01 := hbV01 key klev
    have hpt : ∀ i j : Nat, i < a.length → j < b.length → ((rd_T33 a (i : Int)).f0 == (rd_T33 b (j : Int)).f0) = false := by
      intro i j hi hj
      have e1 : rd_T33 a (i : Int) = a[i] := by unfold rd_T33; rw [Int.toNat_natCast, List.getD_eq_getElem?_getD, List.getElem?_eq_getElem hi]; rfl
      have e2 : rd_T33 b (j : Int) = b[j] := by unfold rd_T33; rw [Int.toNat_natCast, List.getD_eq_getElem?_getD, List.getElem?_eq_getElem hj]; rfl
      rw [e1, e2, beq_eq_false_iff_ne]
      exact hdiff _ (List.getElem_mem hi) _ (List.getElem_mem hj)
    have hE := spec_EqualBags_ev (a ++ b) l (by rw [List.length_append]; omega) hl9
    rw [hbag] at hE
    obtain ⟨K1, eD⟩ := eD
    obtain ⟨K2, hI⟩ := hI
    obtain ⟨K3, hS⟩ := hS
    obtain ⟨K4, eH⟩ := eH
    obtain ⟨K5, s1⟩ := sameRows_ev a (by omega)
    obtain ⟨K6, s2⟩ := sameRows_ev b (by omega)
    obtain ⟨K7, hE⟩ := hE
    obtain ⟨K8, eM⟩ := eM
    obtain ⟨K9, f1⟩ := impl_First_ev m hm5
    obtain ⟨K10, f2⟩ := spec_First_ev m hm5
    obtain ⟨K11, k1⟩ := impl_AllSameKey_ev m (by omega)
    obtain ⟨K12, k2⟩ := spec_AllSameKey_ev m (by omega)
    obtain ⟨K13, v1⟩ := spec_AreValidRows_ev m (by omega)
    exact ⟨K1 + K2 + K3 + K4 + K5 + K6 + K7 + K8 + K9 + K10 + K11 + K12 + K13, .inr ⟨l, a, b, m, lev, key, klev, hbV key klev, fsl m 4 0, sameM m, avM m, hb0, eD _ (by omega), hI _ (by omega), hS _ (by omega), eH _ (by omega), s1 _ (by omega), s2 _ (by omega), impl_HashBit_v _ _, spec_HashBit_v _ _, by omega, by omega, by omega, by omega, hE _ (by omega), hpt, eM _ (by omega), f1 _ (by omega), f2 _ (by omega), k1 _ (by omega), k2 _ (by omega), v1 _ (by omega), fun hv => by rw [level_same m hv]; simp⟩⟩

end Go.Proofs.Ytkipmmkjbeeemaa.Pure
