/- The program's IsSorted answers as the reference's does, for all arguments that the statement lets in; no further condition. -/
import Derived.Test.YtdegdgliijcjbaaPFnExactIsSortedx3
import Derived.Test.YtdegdgliijcjbaaCore
namespace Go.Proofs.Ytdegdgliijcjbaa.Pure
open Go.RowKit Go.Proofs.Ytdegdgliijcjbaa.PFnExactIsSorted Go.Proofs.YtdegdgliijcjbaaW.PrintWords Go.Proofs.YtdegdgliijcjbaaW.PrintLast Go.Proofs.YtdegdgliijcjbaaW.PrintMore Go.Proofs.Ytdegdgliijcjbaa.Core
set_option linter.unusedVariables false
set_option linter.unusedSimpArgs false

theorem toRow_f (a b c : Int) : laws_toRow.f a b c = some (a, b, c) := rfl
def cvR (x : S28) : S30 := ⟨x.f0, x.f1, x.f2⟩
def tup (x : S30) : Int × Int × Int := (x.f0, x.f1, x.f2)
theorem drop_nil_lt {α : Type} {l : List α} {i : Nat} (h : l.drop i = []) : ¬ (i : Int) < (l.length : Int) := by
  have := List.drop_eq_nil_iff.1 h
  omega
theorem rdL {l : List S28} {i : Nat} {b : S28} {r : List S28} (h : l.drop i = b :: r) : (i : Int) < (l.length : Int) ∧ rd_T28 l (i : Int) = b ∧ l.drop (i + 1) = r := by
  obtain ⟨hi, h1, h2⟩ := drop_split h
  refine ⟨by omega, ?_, h2⟩
  unfold rd_T28
  rw [Int.toNat_natCast, List.getD_eq_getElem?_getD, List.getElem?_eq_getElem hi, h1]; rfl
theorem rdI {l : List S30} {i : Nat} {b : S30} {r : List S30} (h : l.drop i = b :: r) : (i : Int) < (l.length : Int) ∧ rd_T30 l (i : Int) = b ∧ l.drop (i + 1) = r := by
  obtain ⟨hi, h1, h2⟩ := drop_split h
  refine ⟨by omega, ?_, h2⟩
  unfold rd_T30
  rw [Int.toNat_natCast, List.getD_eq_getElem?_getD, List.getElem?_eq_getElem hi, h1]; rfl
theorem nxt {n i : Nat} (hn : n ≤ 4611686018427387904) (h : (i : Int) < (n : Int)) : wrap64 ((i : Int) + 1) = ((i + 1 : Nat) : Int) := by
  rw [w64 (by omega) (by omega)]; omega
theorem szRowS_small (l : List S28) (a : Int) (ha : a ≤ 1048576) (h : (l.length : Int) ≤ a) : laws_szRowS.f l a = some (a - l.length) := by
  unfold laws_szRowS.f
  rw [w64 (by omega) (by omega), if_neg (by omega)]
theorem szRowS_big (l : List S28) (a : Int) (hl : l.length ≤ 9223372036854775807) (h0 : 0 ≤ a) (ha : a ≤ 1048576) (h : ¬ (l.length : Int) ≤ a) : laws_szRowS.f l a = some (-1) := by
  unfold laws_szRowS.f
  rw [w64 (by omega) (by omega), if_pos (by omega)]
theorem toRowS_ev (l : List S28) (hl : (l.length : Int) ≤ 1048576) : Ev (fun k => laws_toRowS.f k l) (l.map cvR) := by
  have key : ∀ (r : List S28) (d : List S30), l.drop d.length = r → Ev (fun k => laws_toRowS.l0 k l (d ++ List.replicate r.length z30) (d.length : Int)) (d ++ r.map cvR) := by
    intro r
    induction r with
    | nil =>
      intro d h
      refine Ev.succ ?_
      simp only [laws_toRowS.l0, List.length_nil, List.replicate_zero, List.append_nil, List.map_nil]
      exact Ev.neg (drop_nil_lt h) (Ev.now _)
    | cons b r ih =>
      intro d h
      obtain ⟨h1, h2, h3⟩ := rdL h
      refine Ev.succ ?_
      simp only [laws_toRowS.l0, h2, toRow_f, Option.bind_some, nxt (show l.length ≤ 4611686018427387904 by omega) h1]
      refine Ev.pos h1 (Ev.pos (Int.natCast_nonneg _) (Ev.pos ?_ ?_))
      · simp only [List.length_append, List.length_replicate, List.length_cons]; omega
      · have e : (d ++ List.replicate (b :: r).length z30).set (d.length : Int).toNat ⟨b.f0, b.f1, b.f2⟩ = (d ++ [cvR b]) ++ List.replicate r.length z30 := by
          rw [Int.toNat_natCast, List.set_append_right _ _ (Nat.le_refl _), Nat.sub_self, List.length_cons, List.replicate_succ, List.set_cons_zero, List.append_assoc]
          rfl
        rw [e]
        have := ih (d ++ [cvR b]) (by simpa using h3)
        simpa using this
  have := key l [] rfl
  simp only [laws_toRowS.f]
  refine Ev.pos (by omega) (Ev.pos (by omega) ?_)
  simpa using this
theorem eqRow_f (a b c : Int) : laws_eqRow.f a b c a b c = some true := by simp [laws_eqRow.f]
theorem eqRowS_ev (l : List S30) (hl : l.length ≤ 4611686018427387904) : Ev (fun k => laws_eqRowS.f k l l) true := by
  have key : ∀ (r : List S30) (i : Nat), l.drop i = r → Ev (fun k => laws_eqRowS.l0 k l l (i : Int)) true := by
    intro r
    induction r with
    | nil =>
      intro i h
      refine Ev.succ ?_
      simp only [laws_eqRowS.l0]
      exact Ev.neg (drop_nil_lt h) (Ev.now _)
    | cons b r ih =>
      intro i h
      obtain ⟨h1, h2, h3⟩ := rdI h
      refine Ev.succ ?_
      simp only [laws_eqRowS.l0, eqRow_f, Option.bind_some, if_true, nxt hl h1]
      exact Ev.pos h1 (Ev.pos (Int.natCast_nonneg _) (Ev.pos h1 (ih (i + 1) h3)))
  simp only [laws_eqRowS.f, if_true]
  exact key l 0 rfl
theorem map_len (l : List S28) : (l.map cvR).length = l.length := List.length_map ..
def ord (a b : Int) : Int := if a < b then -1 else if b < a then 1 else 0
def cmpR (r q : Int × Int × Int) : Int := if ord r.1 q.1 ≠ 0 then ord r.1 q.1 else if ord r.2.1 q.2.1 ≠ 0 then ord r.2.1 q.2.1 else ord r.2.2 q.2.2
theorem order_f (a b : Int) : impl_order.f a b = some (ord a b) := by
  unfold impl_order.f ord
  by_cases h : a < b
  · rw [if_pos h, if_pos h]
  · rw [if_neg h, if_neg h]
    by_cases h2 : b < a
    · rw [if_pos (show a > b from h2), if_pos h2]
    · rw [if_neg (show ¬ a > b from h2), if_neg h2]
theorem impl_CompareRows_f (a b c x y z : Int) : impl_CompareRows.f a b c x y z = some (cmpR (a, b, c) (x, y, z)) := by
  simp only [impl_CompareRows.f, order_f, Option.bind_some, cmpR]
  by_cases h1 : ord a x = 0
  · rw [if_pos h1, if_neg (show ¬ ord a x ≠ 0 from fun hh => hh h1)]
    by_cases h2 : ord b y = 0
    · rw [if_pos h2, if_neg (show ¬ ord b y ≠ 0 from fun hh => hh h2)]
    · rw [if_neg h2, if_pos h2]
  · rw [if_neg h1, if_pos h1]
theorem spec_CompareRows_ev (a b c x y z : Int) : Ev (fun k => spec_CompareRows.f k a b c x y z) (cmpR (a, b, c) (x, y, z)) := by
  simp only [spec_CompareRows.f]
  have step : ∀ (p q : List Int) (i : Int) (r : Int), p.length = 3 → q.length = 3 → 0 ≤ i → i < 3 → (ord (rd p i) (rd q i) = 0 → Ev (fun k => spec_CompareRows.l0 k p q (i + 1)) r) → (ord (rd p i) (rd q i) ≠ 0 → r = ord (rd p i) (rd q i)) → Ev (fun k => spec_CompareRows.l0 k p q i) r := by
    intro p q i r hp hq h0 h1 e1 e2
    refine Ev.succ ?_
    simp only [spec_CompareRows.l0]
    refine Ev.pos h1 (Ev.pos h0 (Ev.pos (by omega) (Ev.pos (by omega) ?_)))
    unfold ord at e1 e2
    by_cases h : rd p i < rd q i
    · refine Ev.pos h (Ev.now' ?_)
      rw [if_pos h] at e2
      exact (e2 (by decide)).symm
    · refine Ev.neg h ?_
      by_cases h' : rd p i > rd q i
      · refine Ev.pos h' (Ev.now' ?_)
        rw [if_neg h, if_pos h'] at e2
        exact (e2 (by decide)).symm
      · refine Ev.neg h' ?_
        rw [if_neg h, if_neg h'] at e1
        rw [w64 (by omega) (by omega)]
        exact e1 rfl
  refine step _ _ 0 _ rfl rfl (by decide) (by decide) (fun h0 => ?_) (fun h0 => ?_)
  · refine step _ _ (0 + 1) _ rfl rfl (by decide) (by decide) (fun h1 => ?_) (fun h1 => ?_)
    · refine step _ _ (0 + 1 + 1) _ rfl rfl (by decide) (by decide) (fun h2 => ?_) (fun h2 => ?_)
      · refine Ev.succ ?_
        simp only [spec_CompareRows.l0]
        refine Ev.neg (by decide) (Ev.now' ?_)
        have h0' : ord a x = 0 := h0
        have h1' : ord b y = 0 := h1
        have h2' : ord c z = 0 := h2
        simp [cmpR, h0', h1', h2']
      · have h0' : ord a x = 0 := h0
        have h1' : ord b y = 0 := h1
        show cmpR (a, b, c) (x, y, z) = ord c z
        simp [cmpR, h0', h1']
    · have h0' : ord a x = 0 := h0
      have h1' : ord b y ≠ 0 := h1
      show cmpR (a, b, c) (x, y, z) = ord b y
      simp [cmpR, h0', h1']
  · have h0' : ord a x ≠ 0 := h0
    show cmpR (a, b, c) (x, y, z) = ord a x
    simp [cmpR, h0']
theorem ord_anti (a b : Int) : ord b a = -ord a b := by
  unfold ord
  rcases Int.lt_trichotomy a b with h | h | h
  · rw [if_neg (show ¬ b < a by omega), if_pos h, if_pos h]; rfl
  · subst h; simp
  · rw [if_pos h, if_neg (show ¬ a < b by omega), if_pos h]
theorem cmpR_anti (r q : Int × Int × Int) : cmpR q r = -cmpR r q := by
  unfold cmpR
  rw [ord_anti r.1 q.1, ord_anti r.2.1 q.2.1, ord_anti r.2.2 q.2.2]
  by_cases h1 : ord r.1 q.1 = 0
  · by_cases h2 : ord r.2.1 q.2.1 = 0
    · simp [h1, h2]
    · simp [h1, h2]
  · simp [h1]
def sortedFrom : S30 → List S30 → Bool
  | _, [] => true
  | x, y :: r => if cmpR (x.f0, x.f1, x.f2) (y.f0, y.f1, y.f2) > 0 then false else sortedFrom y r
def sortedM : List S30 → Bool
  | [] => true
  | x :: r => sortedFrom x r
theorem sorted_loop (L : Nat → List S30 → Int → Option Bool) (l : List S30) (hl : l.length ≤ 4611686018427387904)
    (h0 : ∀ (i : Nat), l.drop i = [] → Ev (fun k => L k l (i : Int)) true)
    (hS : ∀ (i : Nat) (x y : S30) (r : List S30) (b : Bool), l.drop i = x :: y :: r → (if cmpR (x.f0, x.f1, x.f2) (y.f0, y.f1, y.f2) > 0 then b = false else Ev (fun k => L k l ((i + 2 : Nat) : Int)) b) → Ev (fun k => L k l ((i + 1 : Nat) : Int)) b) :
    Ev (fun k => L k l 1) (sortedM l) := by
  have key : ∀ (r : List S30) (x : S30) (i : Nat), l.drop i = x :: r → Ev (fun k => L k l ((i + 1 : Nat) : Int)) (sortedFrom x r) := by
    intro r
    induction r with
    | nil =>
      intro x i h
      exact h0 (i + 1) (drop_split h).2.2
    | cons y r ih =>
      intro x i h
      refine hS i x y r _ h ?_
      by_cases hc : cmpR (x.f0, x.f1, x.f2) (y.f0, y.f1, y.f2) > 0
      · rw [if_pos hc]; simp only [sortedFrom, if_pos hc]
      · rw [if_neg hc]
        have := ih y (i + 1) (drop_split h).2.2
        simpa only [sortedFrom, if_neg hc] using this
  cases l with
  | nil => exact h0 1 rfl
  | cons x r => exact key r x 0 rfl
theorem rdI2 {l : List S30} {i : Nat} {x y : S30} {r : List S30} (h : l.drop i = x :: y :: r) : ((i + 1 : Nat) : Int) < (l.length : Int) ∧ rd_T30 l (i : Int) = x ∧ rd_T30 l ((i + 1 : Nat) : Int) = y :=
  ⟨(rdI (rdI h).2.2).1, (rdI h).2.1, (rdI (rdI h).2.2).2.1⟩
theorem spec_IsSorted_ev (l : List S30) (hl : l.length ≤ 4611686018427387904) : Ev (fun k => spec_IsSorted.f k l) (sortedM l) := by
  refine sorted_loop spec_IsSorted.l0 l hl ?_ ?_
  · intro i h
    refine Ev.succ ?_
    simp only [spec_IsSorted.l0]
    exact Ev.neg (drop_nil_lt h) (Ev.now _)
  · intro i x y r b h hb
    obtain ⟨h1, h2, h3⟩ := rdI2 h
    have e1 : wrap64 (((i + 1 : Nat) : Int) - 1) = (i : Int) := by rw [w64 (by omega) (by omega)]; omega
    refine Ev.succ ?_
    simp only [spec_IsSorted.l0, e1, h2, h3, nxt hl h1]
    refine Ev.pos h1 (Ev.pos (Int.natCast_nonneg _) (Ev.pos (by omega) (Ev.pos (Int.natCast_nonneg _) (Ev.bind (spec_CompareRows_ev _ _ _ _ _ _) ?_))))
    by_cases hc : cmpR (x.f0, x.f1, x.f2) (y.f0, y.f1, y.f2) > 0
    · rw [if_pos hc] at hb; exact Ev.pos hc (Ev.now' hb.symm)
    · rw [if_neg hc] at hb; exact Ev.neg hc hb
theorem impl_IsSorted_ev (l : List S30) (hl : l.length ≤ 4611686018427387904) : Ev (fun k => impl_IsSorted.f k l) (sortedM l) := by
  refine sorted_loop impl_IsSorted.l0 l hl ?_ ?_
  · intro i h
    refine Ev.succ ?_
    simp only [impl_IsSorted.l0]
    exact Ev.neg (drop_nil_lt h) (Ev.now _)
  · intro i x y r b h hb
    obtain ⟨h1, h2, h3⟩ := rdI2 h
    have e1 : wrap64 (((i + 1 : Nat) : Int) - 1) = (i : Int) := by rw [w64 (by omega) (by omega)]; omega
    have ea := cmpR_anti (x.f0, x.f1, x.f2) (y.f0, y.f1, y.f2)
    refine Ev.succ ?_
    simp only [impl_IsSorted.l0, e1, h2, h3, nxt hl h1, impl_CompareRows_f, Option.bind_some]
    refine Ev.pos h1 (Ev.pos (Int.natCast_nonneg _) (Ev.pos (Int.natCast_nonneg _) (Ev.pos (by omega) ?_)))
    by_cases hc : cmpR (x.f0, x.f1, x.f2) (y.f0, y.f1, y.f2) > 0
    · rw [if_pos hc] at hb; exact Ev.pos (by omega) (Ev.now' hb.symm)
    · rw [if_neg hc] at hb; exact Ev.neg (by omega) hb
theorem FnExactIsSorted {G : Prop} (l : List S28) (g : l.length ≤ 9223372036854775807 ∧ G) : ∃ k, laws_FnExactIsSorted.f k l = some true := by
  refine Ev.rounds ?_
  simp only [laws_FnExactIsSorted.f]
  by_cases hl : (l.length : Int) ≤ 1048576
  · have hm : (l.map cvR).length ≤ 4611686018427387904 := by rw [map_len]; omega
    have hn : (l.map cvR).length ≤ 4611686018427387904 := by rw [map_len]; omega
    simp only [szRowS_small l _ (Int.le_refl _) hl, Option.bind_some]
    refine Ev.neg (by omega) (Ev.bind (toRowS_ev l hl) (Ev.bind (spec_IsSorted_ev _ hn) (Ev.bind (toRowS_ev l hl) (Ev.bind (impl_IsSorted_ev _ hn) ?_))))
    exact Ev.neg (by simp) (Ev.bind (toRowS_ev l hl) (Ev.tl (eqRowS_ev _ hm) rfl))
  · simp only [szRowS_big l _ g.1 (by omega) (Int.le_refl _) hl, Option.bind_some]
    exact Ev.pos (by omega) (Ev.now _)

end Go.Proofs.Ytdegdgliijcjbaa.Pure
