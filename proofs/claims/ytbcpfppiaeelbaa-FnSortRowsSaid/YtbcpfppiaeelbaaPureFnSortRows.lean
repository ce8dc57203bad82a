/- SortRows sorts and permutes, is idempotent; CompareRows is antisymmetric; no further condition. -/
import Derived.Test.YtbcpfppiaeelbaaQFnSortRowsx12
import Derived.Test.YtbcpfppiaeelbaaCore
namespace Go.Proofs.Ytbcpfppiaeelbaa.Pure
open Go.RowKit Go.Proofs.Ytbcpfppiaeelbaa.PFnSortRows Go.Proofs.YtbcpfppiaeelbaaW.PrintWords Go.Proofs.YtbcpfppiaeelbaaW.PrintLast Go.Proofs.YtbcpfppiaeelbaaW.PrintMore Go.Proofs.Ytbcpfppiaeelbaa.Core
set_option linter.unusedVariables false
set_option linter.unusedSimpArgs false
theorem drop_nil_lt {α : Type} {l : List α} {i : Nat} (h : l.drop i = []) : ¬ (i : Int) < (l.length : Int) := by
 have := List.drop_eq_nil_iff.1 h
 omega
theorem rdI {l : List S36} {i : Nat} {b : S36} {r : List S36} (h : l.drop i = b :: r) : (i : Int) < (l.length : Int) ∧ rd_T36 l (i : Int) = b ∧ l.drop (i + 1) = r := by
 obtain ⟨hi, h1, h2⟩ := drop_split h
 refine ⟨by omega, ?_, h2⟩
 unfold rd_T36
 rw [Int.toNat_natCast, List.getD_eq_getElem?_getD, List.getElem?_eq_getElem hi, h1]; rfl
theorem nxt {n i : Nat} (hn : n ≤ 4611686018427387904) (h : (i : Int) < (n : Int)) : wrap64 ((i : Int) + 1) = ((i + 1 : Nat) : Int) := by
 rw [w64 (by omega) (by omega)]; omega
def ord (a b : Int) : Int := if a < b then -1 else if b < a then 1 else 0
def cmpR (r q : Int × Int × Int) : Int := if ord r.1 q.1 ≠ 0 then ord r.1 q.1 else if ord r.2.1 q.2.1 ≠ 0 then ord r.2.1 q.2.1 else ord r.2.2 q.2.2
theorem ord_anti (a b : Int) : ord b a = -ord a b := by
 unfold ord
 rcases Int.lt_trichotomy a b with h | h | h
 ·rw [if_neg (show ¬ b < a by omega), if_pos h, if_pos h]; rfl
 ·subst h; simp
 ·rw [if_pos h, if_neg (show ¬ a < b by omega), if_pos h]
theorem cmpR_anti (r q : Int × Int × Int) : cmpR q r = -cmpR r q := by
 unfold cmpR
 rw [ord_anti r.1 q.1, ord_anti r.2.1 q.2.1, ord_anti r.2.2 q.2.2]
 by_cases h1 : ord r.1 q.1 = 0
 ·by_cases h2 : ord r.2.1 q.2.1 = 0
  ·simp [h1, h2]
  ·simp [h1, h2]
 ·simp [h1]
theorem ord_zero {a b : Int} (h : ord a b = 0) : a = b := by
 unfold ord at h
 split at h
 ·cases h
 ·split at h
  ·cases h
  ·omega
theorem ord_self (a : Int) : ord a a = 0 := by simp [ord]
def cR (x y : S36) : Int := cmpR (x.f0, x.f1, x.f2) (y.f0, y.f1, y.f2)
theorem cR_zero {x y : S36} (h : cR x y = 0) : x = y := by
 unfold cR cmpR at h
 simp only at h
 split at h
 ·rename_i h1; exact absurd h h1
 ·rename_i h1
  split at h
  ·rename_i h2; exact absurd h h2
  ·rename_i h2
   have e1 := ord_zero (Decidable.not_not.1 h1)
   have e2 := ord_zero (Decidable.not_not.1 h2)
   have e3 := ord_zero h
   cases x; cases y; simp only at e1 e2 e3; subst e1; subst e2; subst e3; rfl
theorem cR_self (x : S36) : cR x x = 0 := by simp [cR, cmpR, ord_self]
theorem cR_anti (x y : S36) : cR y x = -cR x y := cmpR_anti _ _
def leR (x y : S36) : Prop := cR x y ≤ 0
theorem ord_le {a b : Int} : ord a b ≤ 0 ↔ a ≤ b := by
 unfold ord
 split
 ·omega
 ·split <;> omega
theorem leR_iff {x y : S36} : leR x y ↔ x.f0 < y.f0 ∨ (x.f0 = y.f0 ∧ (x.f1 < y.f1 ∨ (x.f1 = y.f1 ∧ x.f2 ≤ y.f2))) := by
 unfold leR cR cmpR
 simp only
 have o : ∀ a b : Int, ord a b = 0 ↔ a = b := fun a b => ⟨ord_zero, fun h => h ▸ ord_self a⟩
 have l : ∀ a b : Int, ord a b ≤ 0 ↔ a ≤ b := fun a b => ord_le
 by_cases h1 : x.f0 = y.f0
 ·rw [if_neg (by rw [h1]; exact fun hh => hh (ord_self _))]
  by_cases h2 : x.f1 = y.f1
  ·rw [if_neg (by rw [h2]; exact fun hh => hh (ord_self _)), l]; omega
  ·rw [if_pos (fun hh => h2 ((o _ _).1 hh)), l]; omega
 ·rw [if_pos (fun hh => h1 ((o _ _).1 hh)), l]; omega
theorem leR_trans {x y z : S36} (h : leR x y) (k : leR y z) : leR x z := by
 rw [leR_iff] at h k ⊢; omega
theorem leR_total (x y : S36) : leR x y ∨ leR y x := by
 rw [leR_iff, leR_iff]; omega
theorem leR_antisymm {x y : S36} (h : leR x y) (k : leR y x) : x = y := by
 have : cR x y = 0 := by unfold leR at h k; rw [cR_anti] at k; omega
 exact cR_zero this
theorem sorted_unique : ∀ (a b : List S36), List.Pairwise leR a → List.Pairwise leR b → a.Perm b → a = b
 | [], b, _, _, h => (List.Perm.nil_eq h)
 | x :: a, b, ha, hb, h => by
  cases b with
  | nil => exact absurd h.length_eq (by simp)
  | cons y b =>
   have hx : x ∈ y :: b := h.subset (by simp)
   have hy : y ∈ x :: a := h.symm.subset (by simp)
   have e : x = y := by
    rcases List.mem_cons.1 hx with h1 | h1
    ·exact h1
    ·rcases List.mem_cons.1 hy with h2 | h2
     ·exact h2.symm
     ·exact leR_antisymm ((List.pairwise_cons.1 ha).1 y h2) ((List.pairwise_cons.1 hb).1 x h1)
   subst e
   rw [sorted_unique a b (List.pairwise_cons.1 ha).2 (List.pairwise_cons.1 hb).2 (List.Perm.cons_inv h)]
/-- Insertion from the right end, as the reference does it. -/
def insR (x : S36) : List S36 → List S36
 | [] => [x]
 | y :: r => if cR y x > 0 then x :: y :: r else y :: insR x r
theorem insR_perm (x : S36) : ∀ l, (insR x l).Perm (x :: l)
 | [] => List.Perm.refl _
 | y :: r => by
  unfold insR
  split
  ·exact List.Perm.refl _
  ·exact ((insR_perm x r).cons y).trans (List.Perm.swap x y r)
theorem insR_sorted (x : S36) : ∀ l, List.Pairwise leR l → List.Pairwise leR (insR x l)
 | [], _ => by simp [insR]
 | y :: r, h => by
  have hy := List.pairwise_cons.1 h
  unfold insR
  split
  ·rename_i hc
   have hxy : leR x y := by unfold leR; rw [cR_anti]; omega
   exact List.pairwise_cons.2 ⟨fun z hz => by
    rcases List.mem_cons.1 hz with rfl | hz
    ·exact hxy
    ·exact leR_trans hxy (hy.1 z hz), h⟩
  ·rename_i hc
   refine List.pairwise_cons.2 ⟨fun z hz => ?_, insR_sorted x r hy.2⟩
   rcases List.mem_cons.1 ((insR_perm x r).subset hz) with rfl | hz
   ·unfold leR; omega
   ·exact hy.1 z hz
def isortR : List S36 → List S36 → List S36
 | [], acc => acc
 | x :: r, acc => isortR r (insR x acc)
theorem isortR_ok : ∀ (l acc : List S36), List.Pairwise leR acc → List.Pairwise leR (isortR l acc) ∧ (isortR l acc).Perm (l ++ acc)
 | [], acc, h => ⟨h, List.Perm.refl _⟩
 | x :: r, acc, h => by
  obtain ⟨h1, h2⟩ := isortR_ok r (insR x acc) (insR_sorted x acc h)
  refine ⟨h1, h2.trans (((insR_perm x acc).append_left r).trans ?_)⟩
  exact List.perm_middle
def sortM (l : List S36) : List S36 := isortR l []
theorem sortM_sorted (l : List S36) : List.Pairwise leR (sortM l) := (isortR_ok l [] List.Pairwise.nil).1
theorem sortM_perm (l : List S36) : (sortM l).Perm l := by
 have := (isortR_ok l [] List.Pairwise.nil).2
 rwa [List.append_nil] at this
theorem sortM_eq {a b : List S36} (h : a.Perm b) : sortM a = sortM b :=
 sorted_unique _ _ (sortM_sorted a) (sortM_sorted b) ((sortM_perm a).trans (h.trans (sortM_perm b).symm))
theorem sortM_len (l : List S36) : (sortM l).length = l.length := (sortM_perm l).length_eq
/-- Where a walk from the right end stops: the place of x in a sorted list. -/
theorem insR_at (x : S36) : ∀ (l : List S36) (k : Nat), k ≤ l.length → (∀ j (h : j < l.length), k ≤ j → cR l[j] x > 0) → (∀ j (h : j < l.length), j < k → ¬ cR l[j] x > 0) → insR x l = l.take k ++ x :: l.drop k
 | [], k, hk, _, _ => by
  have : k = 0 := by simpa using hk
  subst this; rfl
 | y :: r, 0, hk, h1, h2 => by
  unfold insR
  rw [if_pos (show cR y x > 0 from h1 0 (by simp) (Nat.le_refl _))]; rfl
 | y :: r, k + 1, hk, h1, h2 => by
  unfold insR
  rw [if_neg (show ¬ cR y x > 0 from h2 0 (by simp) (by omega)), insR_at x r k (by simpa using hk) (fun j h hj => (show cR r[j] x > 0 from h1 (j + 1) (by simpa using h) (by omega))) (fun j h hj => (show ¬ cR r[j] x > 0 from h2 (j + 1) (by simpa using h) (by omega)))]
  rfl
def ga (xs : List S36) (n : Nat) : S36 := rd_T36 xs (n : Int)
theorem ga_get {xs : List S36} {n : Nat} (h : n < xs.length) : ga xs n = xs[n] := by
 unfold ga rd_T36
 rw [Int.toNat_natCast, List.getD_eq_getElem?_getD, List.getElem?_eq_getElem h]; rfl
theorem ga_out {xs : List S36} {n : Nat} (h : xs.length ≤ n) : ga xs n = z36 := by
 unfold ga rd_T36
 rw [Int.toNat_natCast, List.getD_eq_getElem?_getD, List.getElem?_eq_none h]; rfl
theorem ga_ext {xs ys : List S36} (hl : ys.length = xs.length) (h : ∀ i, i < xs.length → ga ys i = ga xs i) : ys = xs := by
 apply List.ext_getElem hl
 intro i h1 h2
 have := h i h2
 rwa [ga_get h1, ga_get h2] at this
def sw (xs : List S36) (i j : Nat) : List S36 := (xs.set i (ga xs j)).set j (ga xs i)
theorem sw_len (xs : List S36) (i j : Nat) : (sw xs i j).length = xs.length := by simp [sw]
theorem sw_at {xs : List S36} {i j : Nat} (hi : i < xs.length) (hj : j < xs.length) (k : Nat) : ga (sw xs i j) k = if k = j then ga xs i else if k = i then ga xs j else ga xs k := by
 by_cases hk : k < xs.length
 ·rw [ga_get (by rw [sw_len]; exact hk)]
  unfold sw
  simp only [List.getElem_set]
  by_cases h1 : k = j
  ·subst h1; simp
  ·rw [if_neg (fun h => h1 h.symm), if_neg h1]
   by_cases h2 : k = i
   ·subst h2; simp
   ·rw [if_neg (fun h => h2 h.symm), if_neg h2, ga_get hk]
 ·have hk2 : xs.length ≤ k := by omega
  rw [ga_out (by rw [sw_len]; exact hk2), if_neg (by omega), if_neg (by omega), ga_out hk2]
theorem sw_perm {xs : List S36} {i j : Nat} (hi : i < xs.length) (hj : j < xs.length) : (sw xs i j).Perm xs := by
 unfold sw
 rw [ga_get hi, ga_get hj]
 exact List.set_set_perm hi hj
/-- What stands outside of a to b stays, and all is kept. -/
structure Sm (a b : Nat) (xs ys : List S36) : Prop where
 len : ys.length = xs.length
 lo : ∀ i, i < a → ga ys i = ga xs i
 hi : ∀ i, b ≤ i → ga ys i = ga xs i
 pm : ys.Perm xs
theorem Sm.refl (a b : Nat) (xs : List S36) : Sm a b xs xs := ⟨rfl, fun _ _ => rfl, fun _ _ => rfl, List.Perm.refl _⟩
theorem Sm.trans {a b : Nat} {xs ys zs : List S36} (h : Sm a b xs ys) (k : Sm a b ys zs) : Sm a b xs zs :=
 ⟨k.len.trans h.len, fun i hi => (k.lo i hi).trans (h.lo i hi), fun i hi => (k.hi i hi).trans (h.hi i hi), k.pm.trans h.pm⟩
theorem Sm.wide {a b a' b' : Nat} {xs ys : List S36} (h : Sm a b xs ys) (ha : a' ≤ a) (hb : b ≤ b') : Sm a' b' xs ys :=
 ⟨h.len, fun i hi => h.lo i (by omega), fun i hi => h.hi i (by omega), h.pm⟩
theorem Sm.swap {a b i j : Nat} {xs : List S36} (hi : i < xs.length) (hj : j < xs.length) (h1 : a ≤ i) (h2 : i < b) (h3 : a ≤ j) (h4 : j < b) : Sm a b xs (sw xs i j) :=
 ⟨sw_len _ _ _, fun k hk => by rw [sw_at hi hj, if_neg (by omega), if_neg (by omega)], fun k hk => by rw [sw_at hi hj, if_neg (by omega), if_neg (by omega)], sw_perm hi hj⟩
def Sg (xs : List S36) (a b : Nat) : Prop := ∀ i j, a ≤ i → i < j → j < b → leR (ga xs i) (ga xs j)
theorem Sm.keep {a b p q : Nat} {xs ys : List S36} (h : Sm a b xs ys) (hs : Sg xs p q) (hd : q ≤ a ∨ b ≤ p) : Sg ys p q := by
 intro i j h1 h2 h3
 rcases hd with hd | hd
 ·rw [h.lo i (by omega), h.lo j (by omega)]; exact hs i j h1 h2 h3
 ·rw [h.hi i (by omega), h.hi j (by omega)]; exact hs i j h1 h2 h3
theorem Sm.mem {a b : Nat} {xs ys : List S36} (h : Sm a b xs ys) (hab : a ≤ b) (hb : b ≤ xs.length) (i : Nat) (h1 : a ≤ i) (h2 : i < b) : ∃ j, a ≤ j ∧ j < b ∧ ga ys i = ga xs j := by
 have hl := h.len
 have et : ys.take a = xs.take a := by
  apply List.ext_getElem (by simp only [List.length_take]; omega)
  intro n g1 g2
  simp only [List.length_take] at g1 g2
  rw [List.getElem_take, List.getElem_take, ← ga_get, ← ga_get]; exact h.lo n (by omega)
 have ed : ys.drop b = xs.drop b := by
  apply List.ext_getElem (by simp only [List.length_drop]; omega)
  intro n g1 g2
  simp only [List.length_drop] at g1 g2
  rw [List.getElem_drop, List.getElem_drop, ← ga_get, ← ga_get]; exact h.hi (b + n) (by omega)
 have split : ∀ zs : List S36, zs = zs.take a ++ ((zs.take b).drop a ++ zs.drop b) := fun zs => by
  have e1 : (zs.take b).take a = zs.take a := by rw [List.take_take, Nat.min_eq_left hab]
  rw [← e1, ← List.append_assoc, List.take_append_drop, List.take_append_drop]
 have hp := h.pm
 rw [split ys, split xs, et, ed, List.perm_append_left_iff, List.perm_append_right_iff] at hp
 have hm : ga ys i ∈ (ys.take b).drop a := by
  rw [ga_get (by omega)]
  refine List.mem_iff_getElem.2 ⟨i - a, by simp only [List.length_drop, List.length_take]; omega, ?_⟩
  simp only [List.getElem_drop, List.getElem_take]
  congr 1; omega
 obtain ⟨n, hn, e⟩ := List.mem_iff_getElem.1 (hp.subset hm)
 simp only [List.length_drop, List.length_take] at hn
 refine ⟨a + n, by omega, by omega, ?_⟩
 rw [← e, ga_get (by omega)]
 simp only [List.getElem_drop, List.getElem_take]
theorem sorted_of_Sg {xs : List S36} (h : Sg xs 0 xs.length) : List.Pairwise leR xs := by
 rw [List.pairwise_iff_getElem]
 intro i j h1 h2 h3
 have := h i j (Nat.zero_le _) h3 h2
 rwa [ga_get h1, ga_get h2] at this
theorem cR_neg {x y : S36} (h : cR x y < 0) : leR x y := by unfold leR; omega
theorem cR_nneg {x y : S36} (h : ¬ cR x y < 0) : leR y x := by unfold leR; rw [cR_anti]; omega
theorem midw (p q : Nat) (hp : p ≤ 1073741824) (hq : q ≤ 1073741824) : wrap64 ((IntKind.u64.wrap (wrap64 ((p : Int) + (q : Int)))) / 2) = (((p + q) / 2 : Nat) : Int) := by
 have e1 : wrap64 ((p : Int) + (q : Int)) = ((p + q : Nat) : Int) := by rw [w64 (by omega) (by omega)]; omega
 have e2 : IntKind.u64.wrap ((p + q : Nat) : Int) = ((p + q : Nat) : Int) := by
  unfold IntKind.wrap
  simp [IntKind.signed, IntKind.bits]
  omega
 rw [e1, e2, w64 (by omega) (by omega)]
 omega
theorem order_f (a b : Int) : impl_order.f a b = some (ord a b) := by
 unfold impl_order.f ord
 by_cases h : a < b
 ·rw [if_pos h, if_pos h]
 ·rw [if_neg h, if_neg h]
  by_cases h2 : b < a
  ·rw [if_pos (show a > b from h2), if_pos h2]
  ·rw [if_neg (show ¬ a > b from h2), if_neg h2]
theorem impl_CompareRows_f (a b c x y z : Int) : impl_CompareRows.f a b c x y z = some (cmpR (a, b, c) (x, y, z)) := by
 simp only [impl_CompareRows.f, order_f, Option.bind_some, cmpR]
 by_cases h1 : ord a x = 0
 ·rw [if_pos h1, if_neg (show ¬ ord a x ≠ 0 from fun hh => hh h1)]
  by_cases h2 : ord b y = 0
  ·rw [if_pos h2, if_neg (show ¬ ord b y ≠ 0 from fun hh => hh h2)]
  ·rw [if_neg h2, if_pos h2]
 ·rw [if_neg h1, if_pos h1]
theorem spec_CompareRows_ev (a b c x y z : Int) : Ev (fun k => spec_CompareRows.f k a b c x y z) (cmpR (a, b, c) (x, y, z)) := by
 simp only [spec_CompareRows.f]
 have step : ∀ (p q : List Int) (i : Int) (r : Int), p.length = 3 → q.length = 3 → 0 ≤ i → i < 3 → (ord (rd p i) (rd q i) = 0 → Ev (fun k => spec_CompareRows.l0 k p q (i + 1)) r) → (ord (rd p i) (rd q i) ≠ 0 → r = ord (rd p i) (rd q i)) → Ev (fun k => spec_CompareRows.l0 k p q i) r := by
  intro p q i r hp hq h0 h1 e1 e2
  refine Ev.succ ?_
  simp only [spec_CompareRows.l0]
  refine Ev.pos h1 (Ev.pos h0 (Ev.pos (by omega) (Ev.pos (by omega) ?_)))
  unfold ord at e1 e2
  by_cases h : rd p i < rd q i
  ·refine Ev.pos h (Ev.now' ?_)
   rw [if_pos h] at e2
   exact (e2 (by decide)).symm
  ·refine Ev.neg h ?_
   by_cases h' : rd p i > rd q i
   ·refine Ev.pos h' (Ev.now' ?_)
    rw [if_neg h, if_pos h'] at e2
    exact (e2 (by decide)).symm
   ·refine Ev.neg h' ?_
    rw [if_neg h, if_neg h'] at e1
    rw [w64 (by omega) (by omega)]
    exact e1 rfl
 refine step _ _ 0 _ rfl rfl (by decide) (by decide) (fun h0 => ?_) (fun h0 => ?_)
 ·refine step _ _ (0 + 1) _ rfl rfl (by decide) (by decide) (fun h1 => ?_) (fun h1 => ?_)
  ·refine step _ _ (0 + 1 + 1) _ rfl rfl (by decide) (by decide) (fun h2 => ?_) (fun h2 => ?_)
   ·refine Ev.succ ?_
    simp only [spec_CompareRows.l0]
    refine Ev.neg (by decide) (Ev.now' ?_)
    have h0' : ord a x = 0 := h0
    have h1' : ord b y = 0 := h1
    have h2' : ord c z = 0 := h2
    simp [cmpR, h0', h1', h2']
   ·have h0' : ord a x = 0 := h0
    have h1' : ord b y = 0 := h1
    show cmpR (a, b, c) (x, y, z) = ord c z
    simp [cmpR, h0', h1']
  ·have h0' : ord a x = 0 := h0
   have h1' : ord b y ≠ 0 := h1
   show cmpR (a, b, c) (x, y, z) = ord b y
   simp [cmpR, h0', h1']
 ·have h0' : ord a x ≠ 0 := h0
  show cmpR (a, b, c) (x, y, z) = ord a x
  simp [cmpR, h0']
theorem w64s {x : Int} {n : Nat} (h : x = (n : Int)) (hn : n ≤ 4611686018427387904) : wrap64 x = (n : Int) := by rw [h]; exact w64 (by omega) (by omega)
theorem cmp_ga (xs : List S36) (p q : Nat) : impl_CompareRows.f ((rd_T36 xs (p : Int)).f0) ((rd_T36 xs (p : Int)).f1) ((rd_T36 xs (p : Int)).f2) ((rd_T36 xs (q : Int)).f0) ((rd_T36 xs (q : Int)).f1) ((rd_T36 xs (q : Int)).f2) = some (cR (ga xs p) (ga xs q)) := impl_CompareRows_f _ _ _ _ _ _
theorem sw_eq (xs : List S36) (p q : Nat) : (xs.set (p : Int).toNat (⟨(rd_T36 xs (q : Int)).f0, (rd_T36 xs (q : Int)).f1, (rd_T36 xs (q : Int)).f2⟩ : S36)).set (q : Int).toNat (⟨(rd_T36 xs (p : Int)).f0, (rd_T36 xs (p : Int)).f1, (rd_T36 xs (p : Int)).f2⟩ : S36) = sw xs p q := by
 rw [Int.toNat_natCast, Int.toNat_natCast]; rfl
/-! the insertion sort of a stretch -/
def InsI (xs : List S36) (a i j : Nat) : Prop := ∀ p q, a ≤ p → p < q → q ≤ i → q ≠ j → leR (ga xs p) (ga xs q)
theorem ins_round {xs : List S36} {a i j : Nat} (hi : i < xs.length) (haj : a < j) (hji : j ≤ i) (h : InsI xs a i j) (hc : cR (ga xs j) (ga xs (j - 1)) < 0) : InsI (sw xs j (j - 1)) a i (j - 1) := by
 intro p q h1 h2 h3 h4
 have hxy := cR_neg hc
 rw [sw_at (by omega) (by omega), sw_at (by omega) (by omega)]
 by_cases hq : q = j
 ·subst hq
  rw [if_neg (show ¬ q = q - 1 by omega), if_pos rfl]
  by_cases hp : p = q - 1
  ·rw [if_pos hp]; exact hxy
  ·rw [if_neg hp, if_neg (by omega)]
   exact h p (q - 1) h1 (by omega) (by omega) (by omega)
 ·rw [if_neg h4, if_neg hq]
  by_cases hp : p = j - 1
  ·rw [if_pos hp]
   exact h j q (by omega) (by omega) h3 hq
  ·rw [if_neg hp]
   by_cases hp2 : p = j
   ·rw [if_pos hp2]
    exact h (j - 1) q (by omega) (by omega) h3 hq
   ·rw [if_neg hp2]
    exact h p q h1 h2 h3 hq
theorem ins_done {xs : List S36} {a i j : Nat} (haj : a ≤ j) (h : InsI xs a i j) (hc : j = a ∨ leR (ga xs (j - 1)) (ga xs j)) : Sg xs a (i + 1) := by
 intro p q h1 h2 h3
 by_cases hq : q = j
 ·subst hq
  rcases hc with hc | hc
  ·omega
  ·by_cases hp : p = q - 1
   ·rw [hp]; exact hc
   ·exact leR_trans (h p (q - 1) h1 (by omega) (by omega) (by omega)) hc
 ·exact h p q h1 h2 (by omega) hq
theorem ins_ev (a b : Nat) (hb : b ≤ 1048576) : ∀ (d : Nat) (xs : List S36) (i : Nat), xs.length ≤ 1048576 → b ≤ xs.length → a < i → b - i ≤ d → Sg xs a i → ∃ ys, Ev (fun k => impl_Row_52.l0 k xs (a : Int) (b : Int) (i : Int)) ys ∧ Sm a b xs ys ∧ Sg ys a b := by
 intro d
 induction d with
 | zero =>
  intro xs i hx hbx hai hd hs
  refine ⟨xs, Ev.succ ?_, Sm.refl _ _ _, fun p q h1 h2 h3 => hs p q h1 h2 (by omega)⟩
  simp only [impl_Row_52.l0]
  exact Ev.neg (by omega) (Ev.now _)
 | succ d ih =>
  intro xs i hx hbx hai hd hs
  by_cases hib : i < b
  ·have inner : ∀ (e : Nat) (zs : List S36) (j : Nat), Sm a b xs zs → a ≤ j → j ≤ i → j - a ≤ e → InsI zs a i j → ∃ ys, Ev (fun k => impl_Row_52.l1 k zs (a : Int) (b : Int) (i : Int) (j : Int)) ys ∧ Sm a b xs ys ∧ Sg ys a b := by
    have done : ∀ (zs : List S36), Sm a b xs zs → Sg zs a (i + 1) → ∃ ys, Ev (fun k => impl_Row_52.l0 k zs (a : Int) (b : Int) ((i + 1 : Nat) : Int)) ys ∧ Sm a b xs ys ∧ Sg ys a b := by
     intro zs hz hg
     obtain ⟨ys, e1, e2, e3⟩ := ih zs (i + 1) (by rw [hz.len]; exact hx) (by rw [hz.len]; exact hbx) (by omega) (by omega) hg
     exact ⟨ys, e1, hz.trans e2, e3⟩
    have ei : wrap64 ((i : Int) + 1) = ((i + 1 : Nat) : Int) := w64s (by omega) (by omega)
    intro e
    induction e with
    | zero =>
     intro zs j hz h1 h2 h3 hI
     obtain ⟨ys, e1, e2, e3⟩ := done zs hz (ins_done h1 hI (.inl (by omega)))
     refine ⟨ys, Ev.succ ?_, e2, e3⟩
     simp only [impl_Row_52.l1, ei]
     exact Ev.neg (by omega) e1
    | succ e ihe =>
     intro zs j hz h1 h2 h3 hI
     have hzl := hz.len
     by_cases hj : a < j
     ·have ej : wrap64 ((j : Int) - 1) = ((j - 1 : Nat) : Int) := w64s (by omega) (by omega)
      by_cases hc : cR (ga zs j) (ga zs (j - 1)) < 0
      ·obtain ⟨ys, e1, e2, e3⟩ := ihe (sw zs j (j - 1)) (j - 1) (hz.trans (Sm.swap (by omega) (by omega) (by omega) (by omega) (by omega) (by omega))) (by omega) (by omega) (by omega) (ins_round (by omega) hj h2 hI hc)
       refine ⟨ys, Ev.succ ?_, e2, e3⟩
       simp only [impl_Row_52.l1, ej, cmp_ga, sw_eq, Option.bind_some]
       exact Ev.pos (by omega) (Ev.pos (by omega) (Ev.pos (by omega) (Ev.pos (by omega) (Ev.pos (by omega) (Ev.pos hc e1)))))
      ·obtain ⟨ys, e1, e2, e3⟩ := done zs hz (ins_done h1 hI (.inr (cR_nneg hc)))
       refine ⟨ys, Ev.succ ?_, e2, e3⟩
       simp only [impl_Row_52.l1, ej, ei, cmp_ga, Option.bind_some]
       exact Ev.pos (by omega) (Ev.pos (by omega) (Ev.pos (by omega) (Ev.pos (by omega) (Ev.pos (by omega) (Ev.neg hc e1)))))
     ·obtain ⟨ys, e1, e2, e3⟩ := done zs hz (ins_done h1 hI (.inl (by omega)))
      refine ⟨ys, Ev.succ ?_, e2, e3⟩
      simp only [impl_Row_52.l1, ei]
      exact Ev.neg (by omega) e1
   obtain ⟨ys, e1, e2, e3⟩ := inner (i - a) xs i (Sm.refl _ _ _) (by omega) (Nat.le_refl _) (Nat.le_refl _) (fun p q h1 h2 h3 h4 => hs p q h1 h2 (by omega))
   refine ⟨ys, Ev.succ ?_, e2, e3⟩
   simp only [impl_Row_52.l0]
   exact Ev.pos (by omega) e1
  ·refine ⟨xs, Ev.succ ?_, Sm.refl _ _ _, fun p q h1 h2 h3 => hs p q h1 h2 (by omega)⟩
   simp only [impl_Row_52.l0]
   exact Ev.neg (by omega) (Ev.now _)
theorem insertion_ev (a b : Nat) (xs : List S36) (hx : xs.length ≤ 1048576) (hbx : b ≤ xs.length) (hab : a ≤ b) : ∃ ys, Ev (fun k => impl_Row_52.f k xs (a : Int) (b : Int)) ys ∧ Sm a b xs ys ∧ Sg ys a b := by
 obtain ⟨ys, e1, e2, e3⟩ := ins_ev a b (by omega) (b - (a + 1)) xs (a + 1) hx hbx (by omega) (Nat.le_refl _) (fun p q h1 h2 h3 => by omega)
 refine ⟨ys, ?_, e2, e3⟩
 simp only [impl_Row_52.f, w64s (x := (a : Int) + 1) (n := a + 1) (by omega) (by omega)]
 exact e1
/-! two stretches changed for each other -/
theorem swapR_ev (a b n : Nat) (xs : List S36) (hx : xs.length ≤ 1048576) (hab : a + n ≤ b) (hbn : b + n ≤ xs.length) :
  ∃ ys, Ev (fun k => impl_Row_55.f k xs (a : Int) (b : Int) (n : Int)) ys ∧ Sm a (b + n) xs ys ∧ (∀ p, a ≤ p → p < a + n → ga ys p = ga xs (p - a + b)) ∧ (∀ p, b ≤ p → p < b + n → ga ys p = ga xs (p - b + a)) ∧ (∀ p, a + n ≤ p → p < b → ga ys p = ga xs p) := by
 have key : ∀ (d i : Nat) (zs : List S36), i ≤ n → n - i ≤ d → Sm a (b + n) xs zs → (∀ p, a ≤ p → p < a + i → ga zs p = ga xs (p - a + b)) → (∀ p, b ≤ p → p < b + i → ga zs p = ga xs (p - b + a)) → (∀ p, a + i ≤ p → p < b → ga zs p = ga xs p) → (∀ p, b + i ≤ p → ga zs p = ga xs p) →
   ∃ ys, Ev (fun k => impl_Row_55.l0 k zs (a : Int) (b : Int) (n : Int) (i : Int)) ys ∧ Sm a (b + n) xs ys ∧ (∀ p, a ≤ p → p < a + n → ga ys p = ga xs (p - a + b)) ∧ (∀ p, b ≤ p → p < b + n → ga ys p = ga xs (p - b + a)) ∧ (∀ p, a + n ≤ p → p < b → ga ys p = ga xs p) := by
  intro d
  induction d with
  | zero =>
   intro i zs hi hd hz h1 h2 h3 h4
   obtain rfl : i = n := by omega
   refine ⟨zs, Ev.succ ?_, hz, h1, h2, h3⟩
   simp only [impl_Row_55.l0]
   exact Ev.neg (by omega) (Ev.now _)
  | succ d ih =>
   intro i zs hi hd hz h1 h2 h3 h4
   by_cases hin : i < n
   ·have hzl := hz.len
    have hs : ∀ k, ga (sw zs (a + i) (b + i)) k = if k = b + i then ga zs (a + i) else if k = a + i then ga zs (b + i) else ga zs k := fun k => sw_at (by omega) (by omega) k
    obtain ⟨ys, e1, e2⟩ := ih (i + 1) (sw zs (a + i) (b + i)) (by omega) (by omega) (hz.trans (Sm.swap (by omega) (by omega) (by omega) (by omega) (by omega) (by omega)))
     (fun p g1 g2 => by
      rw [hs, if_neg (by omega)]
      by_cases hp : p = a + i
      ·rw [if_pos hp, h4 _ (by omega)]; congr 1; omega
      ·rw [if_neg hp]; exact h1 p g1 (by omega))
     (fun p g1 g2 => by
      rw [hs]
      by_cases hp : p = b + i
      ·rw [if_pos hp, h3 _ (by omega) (by omega)]; congr 1; omega
      ·rw [if_neg hp, if_neg (by omega)]; exact h2 p g1 (by omega))
     (fun p g1 g2 => by rw [hs, if_neg (by omega), if_neg (by omega)]; exact h3 p (by omega) g2)
     (fun p g1 => by rw [hs, if_neg (by omega), if_neg (by omega)]; exact h4 p (by omega))
    refine ⟨ys, Ev.succ ?_, e2⟩
    simp only [impl_Row_55.l0, w64s (x := (a : Int) + (i : Int)) (n := a + i) (by omega) (by omega), w64s (x := (b : Int) + (i : Int)) (n := b + i) (by omega) (by omega), w64s (x := (i : Int) + 1) (n := i + 1) (by omega) (by omega), sw_eq]
    exact Ev.pos (by omega) (Ev.pos (by omega) (Ev.pos (by omega) (Ev.pos (by omega) (Ev.pos (by omega) e1))))
   ·obtain rfl : i = n := by omega
    refine ⟨zs, Ev.succ ?_, hz, h1, h2, h3⟩
    simp only [impl_Row_55.l0]
    exact Ev.neg (by omega) (Ev.now _)
 obtain ⟨ys, e1, e2⟩ := key n 0 xs (Nat.zero_le _) (by omega) (Sm.refl _ _ _) (fun p g1 g2 => by omega) (fun p g1 g2 => by omega) (fun p _ _ => rfl) (fun p _ => rfl)
 exact ⟨ys, e1, e2⟩
/-! a rotation -/
theorem rotate_ev (a m b : Nat) (xs : List S36) (hx : xs.length ≤ 1048576) (ham : a < m) (hmb : m < b) (hb : b ≤ xs.length) :
  ∃ ys, Ev (fun k => impl_Row_54.f k xs (a : Int) (m : Int) (b : Int)) ys ∧ Sm a b xs ys ∧ (∀ p, a ≤ p → p < a + (b - m) → ga ys p = ga xs (p + (m - a))) ∧ (∀ p, a + (b - m) ≤ p → p < b → ga ys p = ga xs (p - (b - m))) := by
 have key : ∀ (d i j : Nat) (zs : List S36), 1 ≤ i → 1 ≤ j → i + j ≤ d → a + i ≤ m → m + j ≤ b → Sm a b xs zs →
   (∀ p, m ≤ p + i → p + i < m + j → (if p < a + (b - m) then ga xs (p + (m - a)) else ga xs (p - (b - m))) = ga zs (p + i)) →
   (∀ p, m + j ≤ p + i → p < m + j → (if p < a + (b - m) then ga xs (p + (m - a)) else ga xs (p - (b - m))) = ga zs (p - j)) →
   (∀ p, a ≤ p → p + i < m → (if p < a + (b - m) then ga xs (p + (m - a)) else ga xs (p - (b - m))) = ga zs p) →
   (∀ p, m + j ≤ p → p < b → (if p < a + (b - m) then ga xs (p + (m - a)) else ga xs (p - (b - m))) = ga zs p) →
   ∃ ys, Ev (fun k => impl_Row_54.l0 k zs (m : Int) (i : Int) (j : Int)) ys ∧ Sm a b xs ys ∧ (∀ p, a ≤ p → p < b → (if p < a + (b - m) then ga xs (p + (m - a)) else ga xs (p - (b - m))) = ga ys p) := by
  generalize (fun p => (if p < a + (b - m) then ga xs (p + (m - a)) else ga xs (p - (b - m)))) = T
  intro d
  induction d with
  | zero => intro i j zs h1 h2 h3; omega
  | succ d ih =>
   intro i j zs hi hj hd hai hjb hz t1 t2 t3 t4
   have hzl := hz.len
   rcases Nat.lt_trichotomy i j with hij | hij | hij
   ·
    obtain ⟨us, u1, u2, u3, u4, u5⟩ := swapR_ev (m - i) (m + j - i) i zs (by omega) (by omega) (by omega)
    obtain ⟨ys, y1, y2, y3⟩ := ih i (j - i) us hi (by omega) (by omega) hai (by omega) (hz.trans (u2.wide (by omega) (by omega)))
     (fun p g1 g2 => by
      rw [t1 p g1 (by omega)]; by_cases hp : p + i < m + j - i
      ·rw [u5 (p + i) (by omega) (by omega)]
      ·omega)
     (fun p g1 g2 => by rw [t1 p (by omega) (by omega), u3 (p - (j - i)) (by omega) (by omega)]; congr 1; omega)
     (fun p g1 g2 => by rw [t3 p g1 g2, u2.lo p (by omega)])
     (fun p g1 g2 => by
      by_cases hp : p < m + j
      ·rw [t2 p (by omega) hp, u4 p (by omega) (by omega)]; congr 1; omega
      ·rw [t4 p (by omega) g2, u2.hi p (by omega)])
    refine ⟨ys, Ev.succ ?_, y2, y3⟩
    simp only [impl_Row_54.l0, w64s (x := (m : Int) - (i : Int)) (n := m - i) (by omega) (by omega), w64s (x := (m : Int) + (j : Int)) (n := m + j) (by omega) (by omega), w64s (x := ((m + j : Nat) : Int) - (i : Int)) (n := m + j - i) (by omega) (by omega), w64s (x := (j : Int) - (i : Int)) (n := j - i) (by omega) (by omega)]
    exact Ev.neg (by omega) (Ev.neg (by omega) (Ev.bind u1 y1))
   ·
    subst hij
    obtain ⟨us, u1, u2, u3, u4, u5⟩ := swapR_ev (m - i) m i zs (by omega) (by omega) (by omega)
    refine ⟨us, Ev.succ ?_, hz.trans (u2.wide (by omega) (by omega)), fun p g1 g2 => ?_⟩
    ·simp only [impl_Row_54.l0, w64s (x := (m : Int) - (i : Int)) (n := m - i) (by omega) (by omega)]
     exact Ev.pos (by trivial) (Ev.tl u1 rfl)
    ·by_cases c1 : p + i < m
     ·rw [t3 p g1 c1, u2.lo p (by omega)]
     ·by_cases c2 : p < m
      ·rw [t1 p (by omega) (by omega), u3 p (by omega) (by omega)]; congr 1; omega
      ·by_cases c3 : p < m + i
       ·rw [t2 p (by omega) c3, u4 p (by omega) (by omega)]; congr 1; omega
       ·rw [t4 p (by omega) g2, u2.hi p (by omega)]
   ·
    obtain ⟨us, u1, u2, u3, u4, u5⟩ := swapR_ev (m - i) m j zs (by omega) (by omega) (by omega)
    obtain ⟨ys, y1, y2, y3⟩ := ih (i - j) j us (by omega) hj (by omega) (by omega) hjb (hz.trans (u2.wide (by omega) (by omega)))
     (fun p g1 g2 => by rw [t2 p (by omega) (by omega), u4 (p + (i - j)) (by omega) (by omega)]; congr 1; omega)
     (fun p g1 g2 => by
      rw [t2 p (by omega) g2]
      by_cases c : p - j < m
      ·rw [u5 (p - j) (by omega) c]
      ·omega)
     (fun p g1 g2 => by
      by_cases c : p + i < m
      ·rw [t3 p g1 c, u2.lo p (by omega)]
      ·rw [t1 p (by omega) (by omega), u3 p (by omega) (by omega)]; congr 1; omega)
     (fun p g1 g2 => by rw [t4 p g1 g2, u2.hi p (by omega)])
    refine ⟨ys, Ev.succ ?_, y2, y3⟩
    simp only [impl_Row_54.l0, w64s (x := (m : Int) - (i : Int)) (n := m - i) (by omega) (by omega), w64s (x := (i : Int) - (j : Int)) (n := i - j) (by omega) (by omega)]
    exact Ev.neg (by omega) (Ev.pos (by omega) (Ev.bind u1 y1))
 have f1 : wrap64 ((m : Int) - (a : Int)) = ((m - a : Nat) : Int) := w64s (by omega) (by omega)
 have f2 : wrap64 ((b : Int) - (m : Int)) = ((b - m : Nat) : Int) := w64s (by omega) (by omega)
 obtain ⟨ys, y1, y2, y3⟩ := key ((m - a) + (b - m)) (m - a) (b - m) xs (by omega) (by omega) (Nat.le_refl _) (by omega) (by omega) (Sm.refl _ _ _)
  (fun p g1 g2 => by rw [if_pos (by omega)])
  (fun p g1 g2 => by rw [if_neg (by omega)])
  (fun p g1 g2 => by omega)
  (fun p g1 g2 => by omega)
 refine ⟨ys, ?_, y2, fun p g1 g2 => ?_, fun p g1 g2 => ?_⟩
 ·simp only [impl_Row_54.f, f1, f2]; exact y1
 ·rw [← y3 p g1 (by omega), if_pos (by omega)]
 ·rw [← y3 p (by omega) g2, if_neg (by omega)]
theorem lt_iff {x y : S36} : cR x y < 0 ↔ ¬ leR y x := by unfold leR; rw [cR_anti x y]; omega
theorem lt_mono {x x' y y' : S36} (h : cR x y < 0) (h1 : leR x' x) (h2 : leR y y') : cR x' y' < 0 := by
 rw [lt_iff] at h ⊢
 exact fun k => h (leR_trans h2 (leR_trans k h1))
theorem nlt_mono {x x' y y' : S36} (h : ¬ cR x y < 0) (h1 : leR x x') (h2 : leR y' y) : ¬ cR x' y' < 0 := fun k => h (lt_mono k h1 h2)
theorem leR_refl (x : S36) : leR x x := by unfold leR; rw [cR_self]; exact Int.le_refl _
theorem Sg.le {xs : List S36} {a b p q : Nat} (h : Sg xs a b) (h1 : a ≤ p) (h2 : p ≤ q) (h3 : q < b) : leR (ga xs p) (ga xs q) := by
 rcases Nat.lt_or_eq_of_le h2 with h4 | h4
 ·exact h p q h1 h4 h3
 ·rw [h4]; exact leR_refl _
/-! one element into a sorted stretch: from the left -/
theorem up_ev (a i b : Nat) (xs : List S36) (hx : xs.length ≤ 1048576) (hb : b ≤ xs.length) (hai : a < i) (hib : i ≤ b) :
  ∃ ys, Ev (fun k => impl_Row_53.l1 k xs (i : Int) (a : Int)) ys ∧ Sm a b xs ys ∧ (∀ p, a ≤ p → p + 1 < i → ga ys p = ga xs (p + 1)) ∧ ga ys (i - 1) = ga xs a ∧ (∀ p, i ≤ p → ga ys p = ga xs p) := by
 have key : ∀ (d j : Nat) (zs : List S36), a ≤ j → j < i → i - j ≤ d → Sm a b xs zs → (∀ p, a ≤ p → p < j → ga zs p = ga xs (p + 1)) → ga zs j = ga xs a → (∀ p, j < p → ga zs p = ga xs p) →
   ∃ ys, Ev (fun k => impl_Row_53.l1 k zs (i : Int) (j : Int)) ys ∧ Sm a b xs ys ∧ (∀ p, a ≤ p → p + 1 < i → ga ys p = ga xs (p + 1)) ∧ ga ys (i - 1) = ga xs a ∧ (∀ p, i ≤ p → ga ys p = ga xs p) := by
  intro d
  induction d with
  | zero => intro j zs h1 h2 h3; omega
  | succ d ih =>
   intro j zs h1 h2 h3 hz g1 g2 g3
   have hzl := hz.len
   by_cases hj : j + 1 < i
   ·have hs : ∀ k, ga (sw zs j (j + 1)) k = if k = j + 1 then ga zs j else if k = j then ga zs (j + 1) else ga zs k := fun k => sw_at (by omega) (by omega) k
    obtain ⟨ys, e1, e2⟩ := ih (j + 1) (sw zs j (j + 1)) (by omega) hj (by omega) (hz.trans (Sm.swap (by omega) (by omega) (by omega) (by omega) (by omega) (by omega)))
     (fun p k1 k2 => by
      rw [hs, if_neg (by omega)]
      by_cases hp : p = j
      ·rw [if_pos hp, g3 _ (by omega), hp]
      ·rw [if_neg hp]; exact g1 p k1 (by omega))
     (by rw [hs, if_pos rfl]; exact g2)
     (fun p k1 => by rw [hs, if_neg (by omega), if_neg (by omega)]; exact g3 p (by omega))
    refine ⟨ys, Ev.succ ?_, e2⟩
    simp only [impl_Row_53.l1, w64s (x := (i : Int) - 1) (n := i - 1) (by omega) (by omega), w64s (x := (j : Int) + 1) (n := j + 1) (by omega) (by omega), sw_eq]
    exact Ev.pos (by omega) (Ev.pos (by omega) (Ev.pos (by omega) (Ev.pos (by omega) (Ev.pos (by omega) e1))))
   ·obtain rfl : i = j + 1 := by omega
    refine ⟨zs, Ev.succ ?_, hz, fun p k1 k2 => g1 p k1 (by omega), g2, fun p k1 => g3 p (by omega)⟩
    simp only [impl_Row_53.l1, w64s (x := ((j + 1 : Nat) : Int) - 1) (n := j) (by omega) (by omega)]
    exact Ev.neg (by omega) (Ev.now _)
 exact key (i - a) a xs (Nat.le_refl _) hai (Nat.le_refl _) (Sm.refl _ _ _) (fun p k1 k2 => by omega) rfl (fun p _ => rfl)
theorem left_ev (a b : Nat) (xs : List S36) (hx : xs.length ≤ 1048576) (hb : b ≤ xs.length) (hab : a + 1 ≤ b) (hs : Sg xs (a + 1) b) :
  ∀ (d i j : Nat), a + 1 ≤ i → i ≤ j → j ≤ b → j - i ≤ d → (∀ p, a + 1 ≤ p → p < i → cR (ga xs p) (ga xs a) < 0) → (∀ p, j ≤ p → p < b → ¬ cR (ga xs p) (ga xs a) < 0) →
   ∃ ys, Ev (fun k => impl_Row_53.l0 k xs (a : Int) (i : Int) (j : Int)) ys ∧ Sm a b xs ys ∧ Sg ys a b := by
 have fin : ∀ i, a + 1 ≤ i → i ≤ b → (∀ p, a + 1 ≤ p → p < i → cR (ga xs p) (ga xs a) < 0) → (∀ p, i ≤ p → p < b → ¬ cR (ga xs p) (ga xs a) < 0) → ∃ ys, Ev (fun k => impl_Row_53.l1 k xs (i : Int) (a : Int)) ys ∧ Sm a b xs ys ∧ Sg ys a b := by
  intro i h1 h2 g1 g2
  obtain ⟨ys, e1, e2, e3, e4, e5⟩ := up_ev a i b xs hx hb (by omega) h2
  refine ⟨ys, e1, e2, fun p q k1 k2 k3 => ?_⟩
  by_cases hp : p + 1 < i
  ·rw [e3 p k1 hp]
   by_cases hq : q + 1 < i
   ·rw [e3 q (by omega) hq]; exact hs (p + 1) (q + 1) (by omega) (by omega) (by omega)
   ·by_cases hq2 : q = i - 1
    ·rw [hq2, e4]; exact cR_neg (g1 (p + 1) (by omega) hp)
    ·rw [e5 q (by omega)]; exact hs (p + 1) q (by omega) (by omega) k3
  ·by_cases hp2 : p = i - 1
   ·rw [hp2, e4, e5 q (by omega)]; exact cR_nneg (g2 q (by omega) k3)
   ·rw [e5 p (by omega), e5 q (by omega)]; exact hs p q (by omega) k2 k3
 intro d
 induction d with
 | zero =>
  intro i j h1 h2 h3 h4 g1 g2
  obtain rfl : i = j := by omega
  obtain ⟨ys, e1, e2⟩ := fin i h1 h3 g1 g2
  refine ⟨ys, Ev.succ ?_, e2⟩
  simp only [impl_Row_53.l0]
  exact Ev.neg (by omega) e1
 | succ d ih =>
  intro i j h1 h2 h3 h4 g1 g2
  by_cases hij : i < j
  ·by_cases hc : cR (ga xs ((i + j) / 2)) (ga xs a) < 0
   ·obtain ⟨ys, e1, e2⟩ := ih ((i + j) / 2 + 1) j (by omega) (by omega) h3 (by omega) (fun p k1 k2 => lt_mono hc (hs.le k1 (by omega) (by omega)) (leR_refl _)) g2
    refine ⟨ys, Ev.succ ?_, e2⟩
    simp only [impl_Row_53.l0, midw i j (by omega) (by omega), cmp_ga, Option.bind_some, w64s (x := (((i + j) / 2 : Nat) : Int) + 1) (n := (i + j) / 2 + 1) (by omega) (by omega)]
    exact Ev.pos (by omega) (Ev.pos (by omega) (Ev.pos (by omega) (Ev.pos (by omega) (Ev.pos (by omega) (Ev.pos hc e1)))))
   ·obtain ⟨ys, e1, e2⟩ := ih i ((i + j) / 2) h1 (by omega) (by omega) (by omega) g1 (fun p k1 k2 => nlt_mono hc (hs.le (by omega) k1 k2) (leR_refl _))
    refine ⟨ys, Ev.succ ?_, e2⟩
    simp only [impl_Row_53.l0, midw i j (by omega) (by omega), cmp_ga, Option.bind_some]
    exact Ev.pos (by omega) (Ev.pos (by omega) (Ev.pos (by omega) (Ev.pos (by omega) (Ev.pos (by omega) (Ev.neg hc e1)))))
  ·obtain rfl : i = j := by omega
   obtain ⟨ys, e1, e2⟩ := fin i h1 h3 g1 g2
   refine ⟨ys, Ev.succ ?_, e2⟩
   simp only [impl_Row_53.l0]
   exact Ev.neg (by omega) e1
/-! and from the right -/
theorem dn_ev (a i m b : Nat) (xs : List S36) (hx : xs.length ≤ 1048576) (hb : b ≤ xs.length) (hai : a ≤ i) (him : i ≤ m) (hmb : m < b) :
  ∃ ys, Ev (fun k => impl_Row_53.l3 k xs (i : Int) (m : Int)) ys ∧ Sm a b xs ys ∧ (∀ p, i < p → p ≤ m → ga ys p = ga xs (p - 1)) ∧ ga ys i = ga xs m ∧ (∀ p, p < i → ga ys p = ga xs p) := by
 have key : ∀ (d j : Nat) (zs : List S36), i ≤ j → j ≤ m → j - i ≤ d → Sm a b xs zs → (∀ p, j < p → p ≤ m → ga zs p = ga xs (p - 1)) → ga zs j = ga xs m → (∀ p, p < j → ga zs p = ga xs p) →
   ∃ ys, Ev (fun k => impl_Row_53.l3 k zs (i : Int) (j : Int)) ys ∧ Sm a b xs ys ∧ (∀ p, i < p → p ≤ m → ga ys p = ga xs (p - 1)) ∧ ga ys i = ga xs m ∧ (∀ p, p < i → ga ys p = ga xs p) := by
  intro d
  induction d with
  | zero =>
   intro j zs h1 h2 h3 hz g1 g2 g3
   obtain rfl : i = j := by omega
   refine ⟨zs, Ev.succ ?_, hz, g1, g2, g3⟩
   simp only [impl_Row_53.l3]
   exact Ev.neg (by omega) (Ev.now _)
  | succ d ih =>
   intro j zs h1 h2 h3 hz g1 g2 g3
   have hzl := hz.len
   by_cases hj : i < j
   ·have hs : ∀ k, ga (sw zs j (j - 1)) k = if k = j - 1 then ga zs j else if k = j then ga zs (j - 1) else ga zs k := fun k => sw_at (by omega) (by omega) k
    obtain ⟨ys, e1, e2⟩ := ih (j - 1) (sw zs j (j - 1)) (by omega) (by omega) (by omega) (hz.trans (Sm.swap (by omega) (by omega) (by omega) (by omega) (by omega) (by omega)))
     (fun p k1 k2 => by
      rw [hs, if_neg (by omega)]
      by_cases hp : p = j
      ·rw [if_pos hp, g3 _ (by omega), hp]
      ·rw [if_neg hp]; exact g1 p (by omega) k2)
     (by rw [hs, if_pos rfl]; exact g2)
     (fun p k1 => by rw [hs, if_neg (by omega), if_neg (by omega)]; exact g3 p (by omega))
    refine ⟨ys, Ev.succ ?_, e2⟩
    simp only [impl_Row_53.l3, w64s (x := (j : Int) - 1) (n := j - 1) (by omega) (by omega), sw_eq]
    exact Ev.pos (by omega) (Ev.pos (by omega) (Ev.pos (by omega) (Ev.pos (by omega) (Ev.pos (by omega) e1))))
   ·obtain rfl : i = j := by omega
    refine ⟨zs, Ev.succ ?_, hz, g1, g2, g3⟩
    simp only [impl_Row_53.l3]
    exact Ev.neg (by omega) (Ev.now _)
 exact key (m - i) m xs him (Nat.le_refl _) (Nat.le_refl _) (Sm.refl _ _ _) (fun p k1 k2 => by omega) rfl (fun p _ => rfl)
theorem right_ev (a m : Nat) (xs : List S36) (hx : xs.length ≤ 1048576) (hb : m + 1 ≤ xs.length) (ham : a ≤ m) (hs : Sg xs a m) :
  ∀ (d i j : Nat), a ≤ i → i ≤ j → j ≤ m → j - i ≤ d → (∀ p, a ≤ p → p < i → ¬ cR (ga xs m) (ga xs p) < 0) → (∀ p, j ≤ p → p < m → cR (ga xs m) (ga xs p) < 0) →
   ∃ ys, Ev (fun k => impl_Row_53.l2 k xs (m : Int) (i : Int) (j : Int)) ys ∧ Sm a (m + 1) xs ys ∧ Sg ys a (m + 1) := by
 have fin : ∀ i, a ≤ i → i ≤ m → (∀ p, a ≤ p → p < i → ¬ cR (ga xs m) (ga xs p) < 0) → (∀ p, i ≤ p → p < m → cR (ga xs m) (ga xs p) < 0) → ∃ ys, Ev (fun k => impl_Row_53.l3 k xs (i : Int) (m : Int)) ys ∧ Sm a (m + 1) xs ys ∧ Sg ys a (m + 1) := by
  intro i h1 h2 g1 g2
  obtain ⟨ys, e1, e2, e3, e4, e5⟩ := dn_ev a i m (m + 1) xs hx hb h1 h2 (by omega)
  refine ⟨ys, e1, e2, fun p q k1 k2 k3 => ?_⟩
  by_cases hq : q < i
  ·rw [e5 p (by omega), e5 q hq]; exact hs p q k1 k2 (by omega)
  ·by_cases hq2 : q = i
   ·rw [hq2, e4, e5 p (by omega)]; exact cR_nneg (g1 p k1 (by omega))
   ·rw [e3 q (by omega) (by omega)]
    by_cases hp : p < i
    ·rw [e5 p hp]; exact hs p (q - 1) k1 (by omega) (by omega)
    ·by_cases hp2 : p = i
     ·rw [hp2, e4]; exact cR_neg (g2 (q - 1) (by omega) (by omega))
     ·rw [e3 p (by omega) (by omega)]; exact hs (p - 1) (q - 1) (by omega) (by omega) (by omega)
 intro d
 induction d with
 | zero =>
  intro i j h1 h2 h3 h4 g1 g2
  obtain rfl : i = j := by omega
  obtain ⟨ys, e1, e2⟩ := fin i h1 h3 g1 g2
  refine ⟨ys, Ev.succ ?_, e2⟩
  simp only [impl_Row_53.l2]
  exact Ev.neg (by omega) e1
 | succ d ih =>
  intro i j h1 h2 h3 h4 g1 g2
  by_cases hij : i < j
  ·by_cases hc : cR (ga xs m) (ga xs ((i + j) / 2)) < 0
   ·obtain ⟨ys, e1, e2⟩ := ih i ((i + j) / 2) h1 (by omega) (by omega) (by omega) g1 (fun p k1 k2 => lt_mono hc (leR_refl _) (hs.le (by omega) k1 k2))
    refine ⟨ys, Ev.succ ?_, e2⟩
    simp only [impl_Row_53.l2, midw i j (by omega) (by omega), cmp_ga, Option.bind_some]
    exact Ev.pos (by omega) (Ev.pos (by omega) (Ev.pos (by omega) (Ev.pos (by omega) (Ev.pos (by omega) (Ev.pos hc e1)))))
   ·obtain ⟨ys, e1, e2⟩ := ih ((i + j) / 2 + 1) j (by omega) (by omega) h3 (by omega) (fun p k1 k2 => nlt_mono hc (leR_refl _) (hs.le k1 (by omega) (by omega))) g2
    refine ⟨ys, Ev.succ ?_, e2⟩
    simp only [impl_Row_53.l2, midw i j (by omega) (by omega), cmp_ga, Option.bind_some, w64s (x := (((i + j) / 2 : Nat) : Int) + 1) (n := (i + j) / 2 + 1) (by omega) (by omega)]
    exact Ev.pos (by omega) (Ev.pos (by omega) (Ev.pos (by omega) (Ev.pos (by omega) (Ev.pos (by omega) (Ev.neg hc e1)))))
  ·obtain rfl : i = j := by omega
   obtain ⟨ys, e1, e2⟩ := fin i h1 h3 g1 g2
   refine ⟨ys, Ev.succ ?_, e2⟩
   simp only [impl_Row_53.l2]
   exact Ev.neg (by omega) e1
/-! the search for the point where the two halves are changed -/
theorem find_ev (a m b n lo hi : Nat) (xs : List S36) (hx : xs.length ≤ 1048576) (hb : b ≤ xs.length) (ham : a < m) (hmb : m < b) (hal : a ≤ lo) (hlh : lo ≤ hi) (him : hi ≤ m) (hn : n = (a + b) / 2 + m) (hn1 : ∀ c, lo ≤ c → c < hi → m + c + 1 ≤ n ∧ n ≤ b + c)
  (hs1 : Sg xs a m) (hs2 : Sg xs m b) (R : List S36 → Prop)
  (cont : ∀ s, lo ≤ s → s ≤ hi → (lo < s → ¬ cR (ga xs (n - s)) (ga xs (s - 1)) < 0) → (s < hi → cR (ga xs (n - 1 - s)) (ga xs s) < 0) → ∃ ys, Ev (fun k => if (s : Int) < (m : Int) then impl_Row_53.j6 k xs (a : Int) (m : Int) (b : Int) (((a + b) / 2 : Nat) : Int) (s : Int) (wrap64 ((n : Int) - (s : Int))) (decide ((m : Int) < (wrap64 ((n : Int) - (s : Int))))) else impl_Row_53.j6 k xs (a : Int) (m : Int) (b : Int) (((a + b) / 2 : Nat) : Int) (s : Int) (wrap64 ((n : Int) - (s : Int))) false) ys ∧ R ys) :
  ∀ (d s r : Nat), lo ≤ s → s ≤ r → r ≤ hi → r - s ≤ d → (lo < s → ¬ cR (ga xs (n - s)) (ga xs (s - 1)) < 0) → (r < hi → cR (ga xs (n - 1 - r)) (ga xs r) < 0) →
   ∃ ys, Ev (fun k => impl_Row_53.l4 k xs (a : Int) (m : Int) (b : Int) (((a + b) / 2 : Nat) : Int) (n : Int) (s : Int) (r : Int) ((n - 1 : Nat) : Int)) ys ∧ R ys := by
 intro d
 induction d with
 | zero =>
  intro s r h1 h2 h3 h4 g1 g2
  obtain rfl : s = r := by omega
  obtain ⟨ys, e1, e2⟩ := cont s h1 h3 g1 g2
  refine ⟨ys, Ev.succ ?_, e2⟩
  simp only [impl_Row_53.l4]
  exact Ev.neg (by omega) e1
 | succ d ih =>
  intro s r h1 h2 h3 h4 g1 g2
  by_cases hsr : s < r
  ·have hc1 := hn1 ((s + r) / 2) (by omega) (by omega)
   have e1 : wrap64 (((n - 1 : Nat) : Int) - (((s + r) / 2 : Nat) : Int)) = ((n - 1 - (s + r) / 2 : Nat) : Int) := w64s (by omega) (by omega)
   by_cases hc : cR (ga xs (n - 1 - (s + r) / 2)) (ga xs ((s + r) / 2)) < 0
   ·obtain ⟨ys, y1, y2⟩ := ih s ((s + r) / 2) h1 (by omega) (by omega) (by omega) g1 (fun _ => hc)
    refine ⟨ys, Ev.succ ?_, y2⟩
    simp only [impl_Row_53.l4, midw s r (by omega) (by omega), e1, cmp_ga, Option.bind_some]
    clear e1
    exact Ev.pos (by omega) (Ev.pos (by omega) (Ev.pos (by omega) (Ev.pos (by omega) (Ev.pos (by omega) (Ev.pos hc y1)))))
   ·have e2 : n - ((s + r) / 2 + 1) = n - 1 - (s + r) / 2 := by omega
    have e3 : (s + r) / 2 + 1 - 1 = (s + r) / 2 := by omega
    obtain ⟨ys, y1, y2⟩ := ih ((s + r) / 2 + 1) r (by omega) (by omega) h3 (by omega) (fun _ => by rw [e2, e3]; exact hc) g2
    refine ⟨ys, Ev.succ ?_, y2⟩
    simp only [impl_Row_53.l4, midw s r (by omega) (by omega), e1, cmp_ga, Option.bind_some, w64s (x := (((s + r) / 2 : Nat) : Int) + 1) (n := (s + r) / 2 + 1) (by omega) (by omega)]
    clear e1 e2 e3
    exact Ev.pos (by omega) (Ev.pos (by omega) (Ev.pos (by omega) (Ev.pos (by omega) (Ev.pos (by omega) (Ev.neg hc y1)))))
  ·obtain rfl : s = r := by omega
   obtain ⟨ys, e1, e2⟩ := cont s h1 h3 g1 g2
   refine ⟨ys, Ev.succ ?_, e2⟩
   simp only [impl_Row_53.l4]
   exact Ev.neg (by omega) e1
/-- Two sorted halves, the one below the other. -/
theorem Sg.two {xs : List S36} {a m b : Nat} (h1 : Sg xs a m) (h2 : Sg xs m b) (hc : ∀ p q, a ≤ p → p < m → m ≤ q → q < b → leR (ga xs p) (ga xs q)) : Sg xs a b := by
 intro p q g1 g2 g3
 by_cases hq : q < m
 ·exact h1 p q g1 g2 hq
 ·by_cases hp : p < m
  ·exact hc p q g1 hp (by omega) g3
  ·exact h2 p q (by omega) g2 g3
theorem sym_ev : ∀ (d : Nat) (xs : List S36) (a m b : Nat), xs.length ≤ 1048576 → b ≤ xs.length → a < m → m < b → b - a ≤ d → Sg xs a m → Sg xs m b → ∃ ys, Ev (fun k => impl_Row_53.f k xs (a : Int) (m : Int) (b : Int)) ys ∧ Sm a b xs ys ∧ Sg ys a b := by
 intro d
 induction d with
 | zero => intro xs a m b h1 h2 h3 h4 h5; omega
 | succ d ih =>
  intro xs a m b hx hb ham hmb hd hs1 hs2
  by_cases c1 : m = a + 1
  ·subst c1
   obtain ⟨ys, y1, y2⟩ := left_ev a b xs hx hb (by omega) hs2 (b - (a + 1)) (a + 1) b (Nat.le_refl _) (by omega) (Nat.le_refl _) (Nat.le_refl _) (fun p k1 k2 => by omega) (fun p k1 k2 => by omega)
   refine ⟨ys, Ev.succ ?_, y2⟩
   simp only [impl_Row_53.f]
   exact Ev.pos (by rw [w64s (n := 1) (by omega) (by omega)]; rfl) y1
  ·by_cases c2 : b = m + 1
   ·subst c2
    obtain ⟨ys, y1, y2⟩ := right_ev a m xs hx hb (by omega) hs1 (m - a) a m (Nat.le_refl _) (by omega) (Nat.le_refl _) (Nat.le_refl _) (fun p k1 k2 => by omega) (fun p k1 k2 => by omega)
    refine ⟨ys, Ev.succ ?_, y2⟩
    simp only [impl_Row_53.f]
    exact Ev.neg (by rw [w64s (n := m - a) (by omega) (by omega)]; omega) (Ev.pos (by rw [w64s (n := 1) (by omega) (by omega)]; rfl) y1)
   ·have hmd1 : a < (a + b) / 2 := by omega
    have hmd2 : (a + b) / 2 < b := by omega
    generalize hmid : (a + b) / 2 = mid at hmd1 hmd2
    have cont : ∀ lo hi s : Nat, a ≤ lo → lo ≤ s → s ≤ hi → hi ≤ m → hi ≤ mid → mid ≤ b + lo - m → (lo = a ∨ mid + m - lo = b) → (hi = mid ∨ hi = m) → m ≤ mid + m - s → mid + m - s ≤ b →
      (lo < s → ¬ cR (ga xs (mid + m - s)) (ga xs (s - 1)) < 0) → (s < hi → cR (ga xs (mid + m - 1 - s)) (ga xs s) < 0) →
      ∃ ys, Ev (fun k => if (s : Int) < (m : Int) then impl_Row_53.j6 k xs (a : Int) (m : Int) (b : Int) (mid : Int) (s : Int) (wrap64 (((mid + m : Nat) : Int) - (s : Int))) (decide ((m : Int) < (wrap64 (((mid + m : Nat) : Int) - (s : Int))))) else impl_Row_53.j6 k xs (a : Int) (m : Int) (b : Int) (mid : Int) (s : Int) (wrap64 (((mid + m : Nat) : Int) - (s : Int))) false) ys ∧ (Sm a b xs ys ∧ Sg ys a b) := by
     intro lo hi s g1 g2 g3 g4 g5 g6 g7 g8 g9 g10 k1 k2
     have hd1 : mid - a ≤ d := by omega
     have hd2 : b - mid ≤ d := by omega
     clear hmid hd
     obtain ⟨en, hen⟩ : ∃ en, en = mid + m - s := ⟨_, rfl⟩
     rw [← hen] at g9 g10 k1
     have j7 : ∀ zs, Sm a b xs zs → (∀ p, p < s → ga zs p = ga xs p) → (∀ p, s ≤ p → p < mid → ga zs p = ga xs (p + (m - s))) → (∀ p, mid ≤ p → p < en → ga zs p = ga xs (p - (mid - s))) → (∀ p, en ≤ p → ga zs p = ga xs p) →
       ∃ ys, Ev (fun k => impl_Row_53.j7 k zs (a : Int) (b : Int) (mid : Int) (s : Int) (en : Int)) ys ∧ (Sm a b xs ys ∧ Sg ys a b) := by
      intro zs hz z1 z2 z3 z4
      have hzl := hz.len
      have r1 : Sg zs a s := fun p q u1 u2 u3 => by rw [z1 p (by omega), z1 q u3]; exact hs1 p q u1 u2 (by omega)
      have r2 : Sg zs s mid := fun p q u1 u2 u3 => by rw [z2 p u1 (by omega), z2 q (by omega) u3]; exact hs2 _ _ (by omega) (by omega) (by omega)
      have r3 : Sg zs mid en := fun p q u1 u2 u3 => by rw [z3 p u1 (by omega), z3 q (by omega) u3]; exact hs1 _ _ (by omega) (by omega) (by omega)
      have r4 : Sg zs en b := fun p q u1 u2 u3 => by rw [z4 p u1, z4 q (by omega)]; exact hs2 p q (by omega) u2 u3
      have cross : ∀ p q, a ≤ p → p < mid → mid ≤ q → q < b → leR (ga zs p) (ga zs q) := by
       intro p q u1 u2 u3 u4
       by_cases hp : p < s
       ·rw [z1 p hp]
        by_cases hq : q < en
        ·rw [z3 q u3 hq]; exact hs1.le u1 (by omega) (by omega)
        ·rw [z4 q (by omega)]
         have v1 := cR_nneg (k1 (by omega))
         exact leR_trans (hs1.le u1 (show p ≤ s - 1 by omega) (by omega)) (leR_trans v1 (hs2.le (by omega) (show en ≤ q by omega) u4))
       ·rw [z2 p (by omega) u2]
        by_cases hq : q < en
        ·rw [z3 q u3 hq]
         have v1 := cR_neg (k2 (by omega))
         exact leR_trans (hs2.le (by omega) (show p + (m - s) ≤ mid + m - 1 - s by omega) (by omega)) (leR_trans v1 (hs1.le (by omega) (show s ≤ q - (mid - s) by omega) (by omega)))
        ·rw [z4 q (by omega)]; exact hs2.le (by omega) (by omega) u4
      obtain ⟨us, u1, u2⟩ : ∃ us, (Sm a mid zs us ∧ Sg us a mid) ∧ ∀ (ys : List S36), Ev (fun k => if (mid : Int) < (en : Int) then (if (en : Int) < (b : Int) then ((impl_Row_53.f k us (mid : Int) (en : Int) (b : Int)).bind fun t => (some t)) else (some us)) else (some us)) ys → Ev (fun k => impl_Row_53.j7 k zs (a : Int) (b : Int) (mid : Int) (s : Int) (en : Int)) ys := by
       by_cases h1 : a < s
       ·by_cases h2 : s < mid
        ·obtain ⟨us, w1, w2, w3⟩ := ih zs a s mid (by omega) (by omega) h1 h2 hd1 r1 r2
         refine ⟨us, ⟨w2, w3⟩, fun ys hy => Ev.succ ?_⟩
         simp only [impl_Row_53.j7]
         refine Ev.pos (by omega) (Ev.succ ?_)
         simp only [impl_Row_53.j8]
         exact Ev.pos (decide_eq_true (by omega)) (Ev.bind w1 hy)
        ·refine ⟨zs, ⟨Sm.refl _ _ _, fun p q v1 v2 v3 => r1 p q v1 v2 (by omega)⟩, fun ys hy => Ev.succ ?_⟩
         simp only [impl_Row_53.j7]
         refine Ev.pos (by omega) (Ev.succ ?_)
         simp only [impl_Row_53.j8]
         exact Ev.neg (by rw [decide_eq_true_eq]; omega) hy
       ·refine ⟨zs, ⟨Sm.refl _ _ _, fun p q v1 v2 v3 => r2 p q (by omega) v2 v3⟩, fun ys hy => Ev.succ ?_⟩
        simp only [impl_Row_53.j7]
        refine Ev.neg (by omega) (Ev.succ ?_)
        simp only [impl_Row_53.j8]
        exact Ev.neg (by decide) hy
      have hul := u1.1.len
      have s3 : Sg us mid en := u1.1.keep r3 (.inr (Nat.le_refl _))
      have s4 : Sg us en b := u1.1.keep r4 (.inr (by omega))
      obtain ⟨vs, v1, v2⟩ : ∃ vs, (Sm mid b us vs ∧ Sg vs mid b) ∧ Ev (fun k => if (mid : Int) < (en : Int) then (if (en : Int) < (b : Int) then ((impl_Row_53.f k us (mid : Int) (en : Int) (b : Int)).bind fun t => (some t)) else (some us)) else (some us)) vs := by
       by_cases h1 : mid < en
       ·by_cases h2 : en < b
        ·obtain ⟨vs, w1, w2, w3⟩ := ih us mid en b (by omega) (by omega) h1 h2 hd2 s3 s4
         exact ⟨vs, ⟨w2, w3⟩, Ev.pos (by omega) (Ev.pos (by omega) (Ev.tl w1 rfl))⟩
        ·exact ⟨us, ⟨Sm.refl _ _ _, fun p q e1 e2 e3 => s3 p q e1 e2 (by omega)⟩, Ev.pos (by omega) (Ev.neg (by omega) (Ev.now _))⟩
       ·exact ⟨us, ⟨Sm.refl _ _ _, fun p q e1 e2 e3 => s4 p q (by omega) e2 e3⟩, Ev.neg (by omega) (Ev.now _)⟩
      refine ⟨vs, u2 vs v2, hz.trans ((u1.1.wide (Nat.le_refl _) (by omega)).trans (v1.1.wide (by omega) (Nat.le_refl _))), Sg.two (v1.1.keep u1.2 (.inl (Nat.le_refl _))) v1.2 ?_⟩
      intro p q e1 e2 e3 e4
      rw [v1.1.lo p e2]
      obtain ⟨p', f1, f2, f3⟩ := u1.1.mem (by omega) (by omega) p e1 e2
      obtain ⟨q', f4, f5, f6⟩ := v1.1.mem (by omega) (by omega) q e3 e4
      rw [f3, f6, u1.1.hi q' f4]
      exact cross p' q' f1 f2 f4 f5
     have ee : wrap64 (((mid + m : Nat) : Int) - (s : Int)) = (en : Int) := w64s (by omega) (by omega)
     rw [ee]
     clear ee
     by_cases h1 : s < m
     ·by_cases h2 : m < en
      ·obtain ⟨zs, y1, y2, y3, y4⟩ := rotate_ev s m en xs hx h1 h2 (by omega)
       obtain ⟨ys, y5, y6⟩ := j7 zs (y2.wide (by omega) g10) (fun p e => y2.lo p e) (fun p e1 e2 => y3 p e1 (by omega)) (fun p e1 e2 => by rw [y4 p (by omega) e2]; congr 1; omega) (fun p e => y2.hi p e)
       refine ⟨ys, Ev.pos (by omega) (Ev.succ ?_), y6⟩
       simp only [impl_Row_53.j6]
       exact Ev.pos (decide_eq_true (by omega)) (Ev.bind y1 y5)
      ·obtain ⟨ys, y5, y6⟩ := j7 xs (Sm.refl _ _ _) (fun p e => rfl) (fun p e1 e2 => by omega) (fun p e1 e2 => by congr 1; omega) (fun p e => rfl)
       refine ⟨ys, Ev.pos (by omega) (Ev.succ ?_), y6⟩
       simp only [impl_Row_53.j6]
       exact Ev.neg (by rw [decide_eq_true_eq]; omega) y5
     ·obtain ⟨ys, y5, y6⟩ := j7 xs (Sm.refl _ _ _) (fun p e => rfl) (fun p e1 e2 => by congr 1; omega) (fun p e1 e2 => by omega) (fun p e => rfl)
      refine ⟨ys, Ev.neg (by omega) (Ev.succ ?_), y6⟩
      simp only [impl_Row_53.j6]
      exact Ev.neg (by decide) y5
    have q1 : ¬ wrap64 ((m : Int) - (a : Int)) = 1 := by rw [w64s (n := m - a) (by omega) (by omega)]; omega
    have q2 : ¬ wrap64 ((b : Int) - (m : Int)) = 1 := by rw [w64s (n := b - m) (by omega) (by omega)]; omega
    by_cases c3 : mid < m
    ·obtain ⟨ys, y1, y2⟩ := find_ev a m b (mid + m) (mid + m - b) mid xs hx hb ham hmb (by omega) (by omega) (by omega) (by omega) (fun c e1 e2 => by omega) hs1 hs2 (fun ys => Sm a b xs ys ∧ Sg ys a b)
      (fun s e1 e2 e3 e4 => by rw [hmid]; exact cont (mid + m - b) mid s (by omega) e1 e2 (by omega) (Nat.le_refl _) (by omega) (.inr (by omega)) (.inl rfl) (by omega) (by omega) e3 e4)
      (b - (mid + m - b)) (mid + m - b) mid (Nat.le_refl _) (by omega) (Nat.le_refl _) (by omega) (fun e => absurd e (Nat.lt_irrefl _)) (fun e => absurd e (Nat.lt_irrefl _))
     rw [hmid] at y1
     refine ⟨ys, Ev.succ ?_, y2⟩
     simp only [impl_Row_53.f, midw a b (by omega) (by omega), hmid]
     refine Ev.neg q1 (Ev.neg q2 (Ev.pos (by omega) (Ev.succ ?_)))
     simp only [impl_Row_53.j4, w64s (x := (mid : Int) + (m : Int)) (n := mid + m) (by omega) (by omega), w64s (x := ((mid + m : Nat) : Int) - (b : Int)) (n := mid + m - b) (by omega) (by omega), w64s (x := ((mid + m : Nat) : Int) - 1) (n := mid + m - 1) (by omega) (by omega)]
     exact y1
    ·obtain ⟨ys, y1, y2⟩ := find_ev a m b (mid + m) a m xs hx hb ham hmb (Nat.le_refl _) (by omega) (Nat.le_refl _) (by omega) (fun c e1 e2 => by omega) hs1 hs2 (fun ys => Sm a b xs ys ∧ Sg ys a b)
      (fun s e1 e2 e3 e4 => by rw [hmid]; exact cont a m s (Nat.le_refl _) e1 e2 (Nat.le_refl _) (by omega) (by omega) (.inl rfl) (.inr rfl) (by omega) (by omega) e3 e4)
      (m - a) a m (Nat.le_refl _) (by omega) (Nat.le_refl _) (Nat.le_refl _) (fun e => absurd e (Nat.lt_irrefl _)) (fun e => absurd e (Nat.lt_irrefl _))
     rw [hmid] at y1
     refine ⟨ys, Ev.succ ?_, y2⟩
     simp only [impl_Row_53.f, midw a b (by omega) (by omega), hmid]
     refine Ev.neg q1 (Ev.neg q2 (Ev.neg (by omega) (Ev.succ ?_)))
     simp only [impl_Row_53.j4, w64s (x := (mid : Int) + (m : Int)) (n := mid + m) (by omega) (by omega), w64s (x := ((mid + m : Nat) : Int) - 1) (n := mid + m - 1) (by omega) (by omega)]
     exact y1
theorem spec_SortRows_ev (l : List S36) (hl : l.length ≤ 1048576) : Ev (fun k => spec_SortRows.f k l) (sortM l) := by
 have inner : ∀ (acc : List S36) (x : S36) (i : Nat) (r : List S36) (R : List S36), l.drop i = x :: r → acc.length ≤ 1048576 → List.Pairwise leR acc → Ev (fun k => spec_SortRows.l0 k l (insR x acc) ((i + 1 : Nat) : Int)) R →
   ∀ (k : Nat), k ≤ acc.length → (∀ j (h : j < acc.length), k ≤ j → cR acc[j] x > 0) → Ev (fun m => spec_SortRows.l1 m l acc (i : Int) (k : Int)) R := by
  intro acc x i r R hd ha hs hR k
  obtain ⟨h1, h2, h3⟩ := rdI hd
  have e1 : wrap64 ((i : Int) + 1) = ((i + 1 : Nat) : Int) := nxt (show l.length ≤ 4611686018427387904 by omega) h1
  have fin : ∀ k : Nat, k ≤ acc.length → insR x acc = acc.take k ++ x :: acc.drop k → Ev (fun m => (some (([(⟨x.f0, x.f1, x.f2⟩ : S36)] : List (S36)) : List (S36))).bind fun y282 => (if 0 ≤ (k : Int) then (if (k : Int) ≤ (acc.length : Int) then ((some (acc.drop ((k : Int) : Int).toNat : List (S36))).bind fun y285 => (if y282.length + y285.length < 5864062014805 then ((some (y282 ++ y285 : List (S36))).bind fun y289 => ((some (([] : List (S36)) : List (S36))).bind fun y292 => ((some (acc.take ((k : Int) : Int).toNat : List (S36))).bind fun y295 => (if y292.length + y295.length < 5864062014805 then ((some (y292 ++ y295 : List (S36))).bind fun y299 => (if y299.length + y289.length < 5864062014805 then (spec_SortRows.l0 m l (y299 ++ y289) ((i + 1 : Nat) : Int)) else (none))) else (none))))) else (none))) else (none)) else (none))) R := by
   intro k hk he
   simp only [Option.bind_some, Int.toNat_natCast]
   refine Ev.pos (Int.natCast_nonneg _) (Ev.pos (by omega) (Ev.pos ?_ (Ev.pos ?_ (Ev.pos ?_ ?_))))
   ·simp only [List.length_cons, List.length_nil, List.length_drop]; omega
   ·simp only [List.length_nil, List.length_take]; omega
   ·simp only [List.length_cons, List.length_nil, List.length_drop, List.length_take, List.length_append]; omega
   ·rw [he] at hR
    exact hR
  induction k with
  | zero =>
   intro hk hc
   refine Ev.succ ?_
   simp only [spec_SortRows.l1, h2, e1]
   refine Ev.neg (by omega) (Ev.pos (Int.natCast_nonneg _) (Ev.pos h1 ?_))
   exact fin 0 (Nat.zero_le _) (insR_at x acc 0 (Nat.zero_le _) hc (fun j h hj => by omega))
  | succ k ih =>
   intro hk hc
   have e2 : wrap64 (((k + 1 : Nat) : Int) - 1) = (k : Int) := by rw [w64 (by omega) (by omega)]; omega
   have hkl : k < acc.length := by omega
   have e3 : rd_T36 acc (k : Int) = acc[k] := (rdI (List.drop_eq_getElem_cons hkl)).2.1
   refine Ev.succ ?_
   simp only [spec_SortRows.l1, h2, e1, e2, e3]
   refine Ev.pos (by omega) (Ev.pos (Int.natCast_nonneg _) (Ev.pos (by omega) (Ev.pos (Int.natCast_nonneg _) (Ev.pos h1 (Ev.bind (spec_CompareRows_ev _ _ _ _ _ _) ?_)))))
   by_cases hcmp : cR acc[k] x > 0
   ·refine Ev.pos hcmp (ih (by omega) (fun j h hj => ?_))
    by_cases hjk : j = k
    ·subst hjk; exact hcmp
    ·exact hc j h (by omega)
   ·refine Ev.neg hcmp ?_
    refine fin (k + 1) hk (insR_at x acc (k + 1) hk hc (fun j h hj => ?_))
    by_cases hjk : j = k
    ·subst hjk; exact hcmp
    ·have hp : leR acc[j] acc[k] := (List.pairwise_iff_getElem.1 hs) j k h hkl (by omega)
     have hle : leR acc[k] x := by unfold leR; omega
     have := leR_trans hp hle
     unfold leR at this
     omega
 have key : ∀ (r : List S36) (i : Nat) (acc : List S36), l.drop i = r → acc.length + r.length ≤ 1048576 → List.Pairwise leR acc → Ev (fun k => spec_SortRows.l0 k l acc (i : Int)) (isortR r acc) := by
  intro r
  induction r with
  | nil =>
   intro i acc h ha hs
   refine Ev.succ ?_
   simp only [spec_SortRows.l0]
   exact Ev.neg (drop_nil_lt h) (Ev.now _)
  | cons x r ih =>
   intro i acc h ha hs
   obtain ⟨h1, h2, h3⟩ := rdI h
   simp only [List.length_cons] at ha
   refine Ev.succ ?_
   simp only [spec_SortRows.l0]
   refine Ev.pos h1 (inner acc x i r _ h (by omega) hs ?_ acc.length (Nat.le_refl _) (fun j h hj => by omega))
   exact ih (i + 1) (insR x acc) h3 (by rw [(insR_perm x acc).length_eq]; simp only [List.length_cons]; omega) (insR_sorted x acc hs)
 exact key l 0 [] rfl (by simpa using hl) List.Pairwise.nil
/-- Divides, hidden from linear arithmetic. -/
def Dv (d a : Nat) : Prop := d ∣ a
theorem dvd_step {bs a a' : Nat} (h : Dv bs a) (h' : Dv bs a') (hl : a' < a) : a' + bs ≤ a := by
 have := Nat.le_of_dvd (by clear h h'; omega) (Nat.dvd_sub h h')
 clear h h'
 omega
theorem Dv.half {bs a : Nat} (h : Dv (bs * 2) a) : Dv bs a := Nat.dvd_trans (Nat.dvd_mul_right bs 2) h
theorem Dv.add {bs a : Nat} (h : Dv bs a) : Dv bs (a + bs) := Nat.dvd_add h (Nat.dvd_refl _)
theorem Dv.zero (bs : Nat) : Dv bs 0 := Nat.dvd_zero _
def AllB (xs : List S36) (bs n : Nat) : Prop := ∀ a, Dv bs a → a < n → Sg xs a (min (a + bs) n)
theorem Sg.short {xs : List S36} {a b b' : Nat} (h : Sg xs a b) (hb : b' ≤ b) : Sg xs a b' := fun p q h1 h2 h3 => h p q h1 h2 (by omega)
theorem merge_ev (n : Nat) (hn : n ≤ 1048576) : ∀ (d bs : Nat) (xs : List S36), n - bs ≤ d → 20 ≤ bs → bs ≤ 2097152 → xs.length = n → AllB xs bs n → ∃ ys, Ev (fun k => impl_Row_47.l1 k xs (n : Int) (bs : Int)) ys ∧ Sm 0 n xs ys ∧ Sg ys 0 n := by
 intro d
 induction d with
 | zero =>
  intro bs xs hd h20 hbs hx hA
  refine ⟨xs, Ev.succ ?_, Sm.refl _ _ _, fun p q h1 h2 h3 => hA 0 (Dv.zero _) (by omega) p q h1 h2 (by omega)⟩
  simp only [impl_Row_47.l1]
  exact Ev.neg (by omega) (Ev.now _)
 | succ d ih =>
  intro bs xs hd h20 hbs hx hA
  by_cases hlt : bs < n
  ·have next : ∀ zs, Sm 0 n xs zs → AllB zs (bs * 2) n → ∃ ys, Ev (fun k => impl_Row_47.l1 k zs (n : Int) ((bs * 2 : Nat) : Int)) ys ∧ Sm 0 n xs ys ∧ Sg ys 0 n := by
    intro zs hz hB
    obtain ⟨ys, e1, e2, e3⟩ := ih (bs * 2) zs (by omega) (by omega) (by omega) (by rw [hz.len, hx]) hB
    exact ⟨ys, e1, hz.trans e2, e3⟩
   have inner : ∀ (e a : Nat) (zs : List S36), n + 1 - a ≤ e → Dv (bs * 2) a → a ≤ n → Sm 0 n xs zs → (∀ a', Dv (bs * 2) a' → a' < a → Sg zs a' (a' + bs * 2)) → (∀ a', Dv bs a' → a ≤ a' → a' < n → Sg zs a' (min (a' + bs) n)) →
     ∃ ys, Ev (fun k => impl_Row_47.l2 k zs (n : Int) (bs : Int) (a : Int) ((a + bs * 2 : Nat) : Int)) ys ∧ Sm 0 n xs ys ∧ Sg ys 0 n := by
    intro e
    induction e with
    | zero => intro a zs h1 h2 h3; omega
    | succ e ihe =>
     intro a zs h1 h2 h3 hz g1 g2
     have hzl := hz.len
     have hba : Dv bs a := h2.half
     have hba2 : Dv bs (a + bs) := hba.add
     have w1 : wrap64 ((a : Int) + (bs : Int)) = ((a + bs : Nat) : Int) := w64s (by omega) (by omega)
     have w2 : wrap64 (2 * (bs : Int)) = ((bs * 2 : Nat) : Int) := w64s (by omega) (by omega)
     have w3 : wrap64 (((a + bs * 2 : Nat) : Int) + ((bs * 2 : Nat) : Int)) = ((a + bs * 2 + bs * 2 : Nat) : Int) := w64s (by omega) (by omega)
     have w4 : wrap64 ((bs : Int) * 2) = ((bs * 2 : Nat) : Int) := w64s (by omega) (by omega)
     have W1 := Aside0.mk w1
     have W2 := Aside0.mk w2
     have W3 := Aside0.mk w3
     have W4 := Aside0.mk w4
     clear w1 w2 w3 w4
     by_cases hb : a + bs * 2 ≤ n
     ·have s1 := g2 a hba (Nat.le_refl _) (by omega)
      have s2 := g2 (a + bs) hba2 (by omega) (by omega)
      obtain ⟨us, u1, u2, u3⟩ := sym_ev (bs * 2) zs a (a + bs) (a + bs * 2) (by omega) (by omega) (by omega) (by omega) (by omega) (s1.short (by omega)) (s2.short (by omega))
      obtain ⟨ys, y1, y2⟩ := ihe (a + bs * 2) us (by omega) h2.add hb (hz.trans (u2.wide (by omega) hb))
       (fun a' k1 k2 => by
        by_cases hk : a' < a
        ·exact u2.keep (g1 a' k1 hk) (.inl (dvd_step h2 k1 hk))
        ·by_cases hk2 : a' = a
         ·subst hk2; exact u3
         ·have := dvd_step k1 h2 (by omega); omega)
       (fun a' k1 k2 k3 => u2.keep (g2 a' k1 (by omega) k3) (.inr k2))
      refine ⟨ys, Ev.succ ?_, y2⟩
      simp only [impl_Row_47.l2, W1.out, W2.out, W3.out]
      exact Ev.pos (by omega) (Ev.bind u1 y1)
     ·have fin : ∀ us, Sm a n zs us → Sg us a n → AllB us (bs * 2) n := by
       intro us u2 u3 a' k1 k2
       by_cases hk : a' < a
       ·have := dvd_step h2 k1 hk
        exact (u2.keep (g1 a' k1 hk) (.inl this)).short (by omega)
       ·by_cases hk2 : a' = a
        ·subst hk2; exact u3.short (by omega)
        ·have := dvd_step k1 h2 (by omega); omega
      by_cases hm : a + bs < n
      ·have s1 := g2 a hba (Nat.le_refl _) (by omega)
       have s2 := g2 (a + bs) hba2 (by omega) hm
       obtain ⟨us, u1, u2, u3⟩ := sym_ev (n - a) zs a (a + bs) n (by omega) (by omega) (by omega) (by omega) (by omega) (s1.short (by omega)) (s2.short (by omega))
       obtain ⟨ys, y1, y2⟩ := next us (hz.trans (u2.wide (by omega) (Nat.le_refl _))) (fin us u2 u3)
       refine ⟨ys, Ev.succ ?_, y2⟩
       simp only [impl_Row_47.l2, W1.out, W4.out]
       exact Ev.neg (by omega) (Ev.pos (by omega) (Ev.bind u1 y1))
      ·obtain ⟨ys, y1, y2⟩ := next zs hz (fin zs (Sm.refl _ _ _) (fun p q k1 k2 k3 => g2 a hba (Nat.le_refl _) (by omega) p q k1 k2 (by omega)))
       refine ⟨ys, Ev.succ ?_, y2⟩
       simp only [impl_Row_47.l2, W1.out, W4.out]
       exact Ev.neg (by omega) (Ev.neg (by omega) y1)
   obtain ⟨ys, y1, y2⟩ := inner (n + 1) 0 xs (by omega) (Dv.zero _) (Nat.zero_le _) (Sm.refl _ _ _) (fun a' k1 k2 => by omega) (fun a' k1 k2 k3 => hA a' k1 k3)
   refine ⟨ys, Ev.succ ?_, y2⟩
   simp only [impl_Row_47.l1, w64s (x := 2 * (bs : Int)) (n := 0 + bs * 2) (by omega) (by omega)]
   exact Ev.pos (by omega) y1
  ·refine ⟨xs, Ev.succ ?_, Sm.refl _ _ _, fun p q h1 h2 h3 => hA 0 (Dv.zero _) (by omega) p q h1 h2 (by omega)⟩
   simp only [impl_Row_47.l1]
   exact Ev.neg (by omega) (Ev.now _)
theorem stable_ev (xs : List S36) (hx : xs.length ≤ 1048576) : ∃ ys, Ev (fun k => impl_Row_47.f k xs (xs.length : Int)) ys ∧ Sm 0 xs.length xs ys ∧ Sg ys 0 xs.length := by
 have key : ∀ (d a : Nat) (zs : List S36), xs.length + 1 - a ≤ d → 20 ∣ a → a ≤ xs.length → Sm 0 xs.length xs zs → (∀ a', 20 ∣ a' → a' < a → Sg zs a' (a' + 20)) → ∃ ys, Ev (fun k => impl_Row_47.l0 k zs (xs.length : Int) 20 (a : Int) ((a + 20 : Nat) : Int)) ys ∧ Sm 0 xs.length xs ys ∧ Sg ys 0 xs.length := by
  intro d
  induction d with
  | zero => intro a zs h1 h2 h3; omega
  | succ d ih =>
   intro a zs h1 h2 h3 hz g1
   have hzl := hz.len
   by_cases hb : a + 20 ≤ xs.length
   ·obtain ⟨us, u1, u2, u3⟩ := insertion_ev a (a + 20) zs (by omega) (by omega) (by omega)
    obtain ⟨ys, y1, y2⟩ := ih (a + 20) us (by omega) (by omega) hb (hz.trans (u2.wide (by omega) hb)) (fun a' k1 k2 => by
     by_cases hk : a' < a
     ·exact u2.keep (g1 a' k1 hk) (.inl (by omega))
     ·have : a' = a := by omega
      subst this; exact u3)
    refine ⟨ys, Ev.succ ?_, y2⟩
    simp only [impl_Row_47.l0, w64s (x := ((a + 20 : Nat) : Int) + 20) (n := a + 20 + 20) (by omega) (by omega)]
    exact Ev.pos (by omega) (Ev.bind u1 y1)
   ·obtain ⟨us, u1, u2, u3⟩ := insertion_ev a xs.length zs (by omega) (by omega) h3
    have hA : AllB us 20 xs.length := fun a' k1_ k2 => by
     have k1 : 20 ∣ a' := k1_
     clear k1_
     by_cases hk : a' < a
     ·have : a' + 20 ≤ a := by omega
      exact (u2.keep (g1 a' k1 hk) (.inl this)).short (by omega)
     ·have : a' = a := by omega
      subst this; exact u3.short (by omega)
    obtain ⟨ys, y1, y2, y3⟩ := merge_ev xs.length hx xs.length 20 us (by omega) (Nat.le_refl _) (by omega) (by rw [u2.len, hzl]) hA
    refine ⟨ys, Ev.succ ?_, hz.trans ((u2.wide (by omega) (Nat.le_refl _)).trans y2), y3⟩
    simp only [impl_Row_47.l0]
    exact Ev.neg (by omega) (Ev.bind u1 y1)
 obtain ⟨ys, y1, y2⟩ := key (xs.length + 1) 0 xs (by omega) (Nat.dvd_zero _) (Nat.zero_le _) (Sm.refl _ _ _) (fun a' k1 k2 => by omega)
 exact ⟨ys, y1, y2⟩
theorem impl_SortRows_ev (l : List S36) (hl : l.length ≤ 1048576) : Ev (fun k => impl_SortRows.f k l) (sortM l) := by
 obtain ⟨ys, y1, y2, y3⟩ := stable_ev l hl
 have e : ys = sortM l := sorted_unique _ _ (sorted_of_Sg (by rw [y2.len]; exact y3)) (sortM_sorted l) (y2.pm.trans (sortM_perm l).symm)
 subst e
 simp only [impl_SortRows.f, impl_clone.f, impl_Row_38.f]
 rw [if_pos (by omega)]
 simp only [Option.bind_some]
 exact Ev.tl (Ev.tl y1 rfl) rfl
def neR (x y : S36) : Bool := !(x.f0 == y.f0) || (!(x.f1 == y.f1) || (!(x.f2 == y.f2)))
def rowsE : List S36 → List S36 → Bool
 | [], [] => true
 | x :: r, y :: s => if neR x y = true then false else rowsE r s
 | _, _ => false
def rowsEq (a b : List S36) : Bool := if a.length = b.length then rowsE a b else false
theorem rowsE_refl : ∀ a, rowsE a a = true
 | [] => rfl
 | x :: r => by simp [rowsE, neR, rowsE_refl r]
def bagE (a b : List S36) : Bool := rowsEq (sortM a) (sortM b)
theorem impl_equal_ev (a b : List S36) (ha : a.length ≤ 1048576) : Ev (fun k => impl_equal.f k a b) (rowsEq a b) := by
 have key : ∀ (r s : List S36) (i : Nat), a.drop i = r → b.drop i = s → r.length = s.length → Ev (fun k => impl_equal.l0 k a b (a.length : Int) (i : Int)) (rowsE r s) := by
  intro r
  induction r with
  | nil =>
   intro s i h hs hl
   obtain rfl : s = [] := List.eq_nil_of_length_eq_zero (by simpa using hl.symm)
   refine Ev.succ ?_
   simp only [impl_equal.l0]
   exact Ev.neg (drop_nil_lt h) (Ev.now _)
  | cons x r ih =>
   intro s i h hs hl
   cases s with
   | nil => simp at hl
   | cons y s =>
    obtain ⟨h1, h2, h3⟩ := rdI h
    obtain ⟨g1, g2, g3⟩ := rdI hs
    refine Ev.succ ?_
    simp only [impl_equal.l0, h2, g2, nxt (show a.length ≤ 4611686018427387904 by omega) h1, rowsE]
    refine Ev.pos h1 (Ev.pos (Int.natCast_nonneg _) (Ev.pos h1 (Ev.pos g1 ?_)))
    by_cases hn : neR x y = true
    ·rw [if_pos hn]; exact Ev.pos hn (Ev.now _)
    ·rw [if_neg hn]; exact Ev.neg hn (ih s (i + 1) h3 g3 (by simpa using hl))
 unfold rowsEq
 simp only [impl_equal.f]
 by_cases h : a.length = b.length
 ·rw [if_pos h]; exact Ev.pos (by omega) (key _ _ 0 rfl rfl h)
 ·rw [if_neg h]; exact Ev.neg (by omega) (Ev.now _)
theorem impl_EqualBags_ev (a b : List S36) (ha : a.length ≤ 1048576) (hb : b.length ≤ 1048576) : Ev (fun k => impl_EqualBags.f k a b) (bagE a b) := by
 simp only [impl_EqualBags.f]
 by_cases h : a.length = b.length
 ·exact Ev.pos (by omega) (Ev.bind (impl_SortRows_ev a ha) (Ev.bind (impl_SortRows_ev b hb) (Ev.tl (impl_equal_ev _ _ (by rw [sortM_len]; exact ha)) rfl)))
 ·have e : bagE a b = false := by unfold bagE rowsEq; rw [if_neg (by rw [sortM_len, sortM_len]; exact h)]
  rw [e]
  exact Ev.neg (by omega) (Ev.now _)
def sortedFrom : S36 → List S36 → Bool
 | _, [] => true
 | x, y :: r => if cmpR (x.f0, x.f1, x.f2) (y.f0, y.f1, y.f2) > 0 then false else sortedFrom y r
def sortedM : List S36 → Bool
 | [] => true
 | x :: r => sortedFrom x r
theorem sorted_loop (L : Nat → List S36 → Int → Option Bool) (l : List S36) (hl : l.length ≤ 4611686018427387904)
  (h0 : ∀ (i : Nat), l.drop i = [] → Ev (fun k => L k l (i : Int)) true)
  (hS : ∀ (i : Nat) (x y : S36) (r : List S36) (b : Bool), l.drop i = x :: y :: r → (if cmpR (x.f0, x.f1, x.f2) (y.f0, y.f1, y.f2) > 0 then b = false else Ev (fun k => L k l ((i + 2 : Nat) : Int)) b) → Ev (fun k => L k l ((i + 1 : Nat) : Int)) b) :
  Ev (fun k => L k l 1) (sortedM l) := by
 have key : ∀ (r : List S36) (x : S36) (i : Nat), l.drop i = x :: r → Ev (fun k => L k l ((i + 1 : Nat) : Int)) (sortedFrom x r) := by
  intro r
  induction r with
  | nil =>
   intro x i h
   exact h0 (i + 1) (drop_split h).2.2
  | cons y r ih =>
   intro x i h
   refine hS i x y r _ h ?_
   by_cases hc : cmpR (x.f0, x.f1, x.f2) (y.f0, y.f1, y.f2) > 0
   ·rw [if_pos hc]; simp only [sortedFrom, if_pos hc]
   ·rw [if_neg hc]
    have := ih y (i + 1) (drop_split h).2.2
    simpa only [sortedFrom, if_neg hc] using this
 cases l with
 | nil => exact h0 1 rfl
 | cons x r => exact key r x 0 rfl
theorem rdI2 {l : List S36} {i : Nat} {x y : S36} {r : List S36} (h : l.drop i = x :: y :: r) : ((i + 1 : Nat) : Int) < (l.length : Int) ∧ rd_T36 l (i : Int) = x ∧ rd_T36 l ((i + 1 : Nat) : Int) = y :=
 ⟨(rdI (rdI h).2.2).1, (rdI h).2.1, (rdI (rdI h).2.2).2.1⟩
theorem spec_IsSorted_ev (l : List S36) (hl : l.length ≤ 4611686018427387904) : Ev (fun k => spec_IsSorted.f k l) (sortedM l) := by
 refine sorted_loop spec_IsSorted.l0 l hl ?_ ?_
 ·intro i h
  refine Ev.succ ?_
  simp only [spec_IsSorted.l0]
  exact Ev.neg (drop_nil_lt h) (Ev.now _)
 ·intro i x y r b h hb
  obtain ⟨h1, h2, h3⟩ := rdI2 h
  have e1 : wrap64 (((i + 1 : Nat) : Int) - 1) = (i : Int) := by rw [w64 (by omega) (by omega)]; omega
  refine Ev.succ ?_
  simp only [spec_IsSorted.l0, e1, h2, h3, nxt hl h1]
  refine Ev.pos h1 (Ev.pos (Int.natCast_nonneg _) (Ev.pos (by omega) (Ev.pos (Int.natCast_nonneg _) (Ev.bind (spec_CompareRows_ev _ _ _ _ _ _) ?_))))
  by_cases hc : cmpR (x.f0, x.f1, x.f2) (y.f0, y.f1, y.f2) > 0
  ·rw [if_pos hc] at hb; exact Ev.pos hc (Ev.now' hb.symm)
  ·rw [if_neg hc] at hb; exact Ev.neg hc hb
theorem impl_IsSorted_ev (l : List S36) (hl : l.length ≤ 4611686018427387904) : Ev (fun k => impl_IsSorted.f k l) (sortedM l) := by
 refine sorted_loop impl_IsSorted.l0 l hl ?_ ?_
 ·intro i h
  refine Ev.succ ?_
  simp only [impl_IsSorted.l0]
  exact Ev.neg (drop_nil_lt h) (Ev.now _)
 ·intro i x y r b h hb
  obtain ⟨h1, h2, h3⟩ := rdI2 h
  have e1 : wrap64 (((i + 1 : Nat) : Int) - 1) = (i : Int) := by rw [w64 (by omega) (by omega)]; omega
  have ea := cmpR_anti (x.f0, x.f1, x.f2) (y.f0, y.f1, y.f2)
  refine Ev.succ ?_
  simp only [impl_IsSorted.l0, e1, h2, h3, nxt hl h1, impl_CompareRows_f, Option.bind_some]
  refine Ev.pos h1 (Ev.pos (Int.natCast_nonneg _) (Ev.pos (Int.natCast_nonneg _) (Ev.pos (by omega) ?_)))
  by_cases hc : cmpR (x.f0, x.f1, x.f2) (y.f0, y.f1, y.f2) > 0
  ·rw [if_pos hc] at hb; exact Ev.pos (by omega) (Ev.now' hb.symm)
  ·rw [if_neg hc] at hb; exact Ev.neg (by omega) hb
theorem sameRows_ev (a : List S36) (ha : a.length ≤ 4611686018427387904) : Ev (fun k => laws_sameRows.f k a a) true := by
 have key : ∀ (r : List S36) (i : Nat), a.drop i = r → Ev (fun k => laws_sameRows.l0 k a a (i : Int)) true := by
  intro r
  induction r with
  | nil =>
   intro i h
   refine Ev.succ ?_
   simp only [laws_sameRows.l0]
   exact Ev.neg (drop_nil_lt h) (Ev.now _)
  | cons x r ih =>
   intro i h
   obtain ⟨h1, h2, h3⟩ := rdI h
   refine Ev.succ ?_
   simp only [laws_sameRows.l0, h2, nxt ha h1]
   exact Ev.pos h1 (Ev.pos (Int.natCast_nonneg _) (Ev.pos h1 (Ev.neg (by simp) (ih (i + 1) h3))))
 simp only [laws_sameRows.f]
 exact Ev.pos (by trivial) (key a 0 rfl)
theorem bits_and_le (y : Int) (m : Nat) (hm : m < 1000) : 0 ≤ Go.bits .and .i64 y (m : Int) ∧ Go.bits .and .i64 y (m : Int) ≤ m := by
 have h : (BitVec.ofInt 64 y &&& BitVec.ofInt 64 (m : Int)).toNat ≤ m := by
  rw [BitVec.toNat_and]
  refine Nat.le_trans Nat.and_le_right ?_
  rw [BitVec.ofInt_natCast, BitVec.toNat_ofNat]
  exact Nat.mod_le _ _
 have e : Go.bits .and .i64 y (m : Int) = IntKind.i64.wrap (((BitVec.ofInt 64 y &&& BitVec.ofInt 64 (m : Int)).toNat : Nat) : Int) := rfl
 rw [e, IntKind.wrap_i64]
 omega
theorem l1Byte_some (b : List Int) (i h : Int) (hb : b.length ≤ 140737488351232) (hi : 0 ≤ i) : ∃ x i' h', spec_l1Byte.f b i h = some (x, i', h') ∧ (0 ≤ x ∧ x ≤ 255) ∧ 0 ≤ i' := by
 unfold spec_l1Byte.f
 by_cases h1 : i < (b.length : Int)
 ·rw [if_pos h1, if_pos hi]
  refine ⟨_, _, _, rfl, bits_and_le _ 255 (by decide), ?_⟩
  rw [w64 (by omega) (by omega)]; omega
 ·rw [if_neg h1]
  exact ⟨_, _, _, rfl, bits_and_le _ 255 (by decide), hi⟩
theorem tmod_bd (x n : Int) (h0 : 0 ≤ x) (hn : 0 < n) : 0 ≤ Int.tmod x n ∧ Int.tmod x n < n := by
 rw [Int.tmod_eq_emod_of_nonneg h0]
 exact ⟨Int.emod_nonneg _ (by omega), Int.emod_lt_of_pos _ hn⟩
theorem l1Below_some (b : List Int) (i h n : Int) (hb : b.length ≤ 140737488351232) (hi : 0 ≤ i) : ∃ x i' h', spec_l1Below.f b i h n = some (x, i', h') ∧ 0 ≤ x ∧ (0 < n → x < n) ∧ (n ≤ 0 → x = 0) ∧ 0 ≤ i' := by
 unfold spec_l1Below.f
 by_cases h1 : n ≤ 0
 ·rw [if_pos h1]
  exact ⟨_, _, _, rfl, by omega, by omega, by omega, hi⟩
 ·rw [if_neg h1]
  by_cases h2 : n ≤ 256
  ·rw [if_pos h2]
   obtain ⟨x, i', h', e, hx, hi'⟩ := l1Byte_some b i h hb hi
   rw [e]
   simp only [Option.bind_some]
   rw [if_neg (by omega)]
   have := tmod_bd x n hx.1 (by omega)
   exact ⟨_, _, _, rfl, this.1, fun _ => this.2, by omega, hi'⟩
  ·rw [if_neg h2]
   obtain ⟨x, i1, h1', e1, hx, hi1⟩ := l1Byte_some b i h hb hi
   obtain ⟨y, i2, h2', e2, hy, hi2⟩ := l1Byte_some b i1 h1' hb hi1
   obtain ⟨z, i3, h3', e3, hz, hi3⟩ := l1Byte_some b i2 h2' hb hi2
   obtain ⟨u, i4, h4', e4, hu, hi4⟩ := l1Byte_some b i3 h3' hb hi3
   simp only [e1, e2, e3, e4, Option.bind_some]
   rw [if_neg (by omega), w64 (x := x * 16777216) (by omega) (by omega), w64 (x := y * 65536) (by omega) (by omega), w64 (x := z * 256) (by omega) (by omega), w64 (x := x * 16777216 + y * 65536) (by omega) (by omega), w64 (x := x * 16777216 + y * 65536 + z * 256) (by omega) (by omega), w64 (by omega) (by omega)]
   have := tmod_bd (x * 16777216 + y * 65536 + z * 256 + u) n (by omega) (by omega)
   exact ⟨_, _, _, rfl, this.1, fun _ => this.2, by omega, hi4⟩
theorem l1Once_some (b : List Int) (i h n : Int) (hb : b.length ≤ 140737488351232) (hi : 0 ≤ i) : ∃ x i' h', spec_l1Once.f b i h n = some (x, i', h') ∧ 0 ≤ i' := by
 obtain ⟨x, i', h', e, _, _, _, hi'⟩ := l1Below_some b i h n hb hi
 unfold spec_l1Once.f
 rw [e]
 exact ⟨_, _, _, rfl, hi'⟩
theorem l1PickInt_some (b : List Int) (i h : Int) (l : List Int) (hb : b.length ≤ 140737488351232) (hi : 0 ≤ i) (hl : 0 < l.length) : ∃ x i' h', spec_l1PickInt.f b i h l = some (x, i', h') ∧ x ∈ l ∧ 0 ≤ i' := by
 obtain ⟨x, i', h', e, h0, h1, _, hi'⟩ := l1Below_some b i h (l.length : Int) hb hi
 have hx := h1 (by omega)
 unfold spec_l1PickInt.f
 rw [e]
 simp only [Option.bind_some]
 rw [if_pos h0, if_pos hx]
 refine ⟨_, _, _, rfl, ?_, hi'⟩
 unfold rd
 have hlt : x.toNat < l.length := by omega
 rw [List.getD_eq_getElem?_getD, List.getElem?_eq_getElem hlt]
 exact List.getElem_mem hlt
theorem l2Row_some (b : List Int) (i h keys : Int) (hb : b.length ≤ 140737488351232) (hi : 0 ≤ i) (hk : 0 < keys) :
  ∃ x y z i' h', spec_l2Row.f b i h keys = some (x, y, z, i', h') ∧ (0 ≤ x ∧ x < keys) ∧ (0 ≤ y ∧ y < 100) ∧ (0 ≤ z ∧ z ≤ 3) ∧ 0 ≤ i' := by
 obtain ⟨x, i1, h1, e1, x0, x1, _, j1⟩ := l1Below_some b i h keys hb hi
 obtain ⟨y, i2, h2, e2, y0, y1, _, j2⟩ := l1Below_some b i1 h1 100 hb j1
 obtain ⟨z, i3, h3, e3, z0, j3⟩ := l1PickInt_some b i2 h2 [0, 0, 1, 2, 3] hb j2 (by simp)
 unfold spec_l2Row.f
 simp only [e1, e2, e3, Option.bind_some]
 refine ⟨_, _, _, _, _, rfl, ⟨x0, x1 hk⟩, ⟨y0, y1 (by decide)⟩, ?_, j3⟩
 simp only [List.mem_cons, List.not_mem_nil, or_false] at z0
 omega
theorem l2Any_some (b : List Int) (i h : Int) (hb : b.length ≤ 140737488351232) (hi : 0 ≤ i) :
  ∃ x y z i' h', spec_l2Any.f b i h = some (x, y, z, i', h') ∧ 0 ≤ i' := by
 obtain ⟨x, y, z, i1, h1, e1, _, _, _, j1⟩ := l2Row_some b i h 10 hb hi (by decide)
 obtain ⟨t, i2, h2, e2, _, _, _, j2⟩ := l1Below_some b i1 h1 8 hb j1
 unfold spec_l2Any.f
 simp only [e1, e2, Option.bind_some]
 by_cases t0 : t = 0
 ·rw [if_pos t0]
  obtain ⟨u, i3, h3, e3, _, j3⟩ := l1PickInt_some b i2 h2 [-1, 10] hb j2 (by simp)
  simp only [e3, Option.bind_some]
  exact ⟨_, _, _, _, _, rfl, j3⟩
 ·rw [if_neg t0]
  by_cases t1 : t = 1
  ·rw [if_pos t1]
   obtain ⟨u, i3, h3, e3, _, j3⟩ := l1PickInt_some b i2 h2 [-1, 100, 99] hb j2 (by simp)
   simp only [e3, Option.bind_some]
   exact ⟨_, _, _, _, _, rfl, j3⟩
  ·rw [if_neg t1]
   by_cases t2 : t = 2
   ·rw [if_pos t2]
    obtain ⟨u, i3, h3, e3, _, j3⟩ := l1PickInt_some b i2 h2 [-1, 4] hb j2 (by simp)
    simp only [e3, Option.bind_some]
    exact ⟨_, _, _, _, _, rfl, j3⟩
   ·rw [if_neg t2]
    exact ⟨_, _, _, _, _, rfl, j2⟩
theorem l2Rows_ev (b : List Int) (i h a : Int) (hb : b.length ≤ 140737488351232) (hi : 0 ≤ i) (ha0 : 0 ≤ a) (ha : a ≤ 1000) :
  ∃ l i' h', Ev (fun k => spec_l2Rows.f k b i h a) (l, i', h') ∧ (l.length : Int) ≤ a ∧ 0 ≤ i' := by
 have key : ∀ (d : Nat) (acc : List S36) (keys i h : Int), 0 < keys → 0 ≤ i → acc.length + d ≤ 2000 → d ≤ 1000 → ∃ l i' h', Ev (fun k => spec_l2Rows.l0 k acc keys (d : Int) b i h) (l, i', h') ∧ l.length ≤ acc.length + d ∧ 0 ≤ i' := by
  intro d
  induction d with
  | zero =>
   intro acc keys i h hk hi hd hd2
   refine ⟨acc, i, h, Ev.succ ?_, by omega, hi⟩
   simp only [spec_l2Rows.l0]
   exact Ev.neg (by omega) (Ev.now _)
  | succ d ih =>
   intro acc keys i h hk hi hd hd2
   obtain ⟨x, y, z, i1, h1, e1, _, _, _, j1⟩ := l2Row_some b i h keys hb hi hk
   obtain ⟨l, i', h', e, hl, hi'⟩ := ih (acc ++ [⟨x, y, z⟩]) keys i1 h1 hk j1 (by simp only [List.length_append, List.length_cons, List.length_nil]; omega) (by omega)
   refine ⟨l, i', h', Ev.succ ?_, by simp only [List.length_append, List.length_cons, List.length_nil] at hl; omega, hi'⟩
   have ed : wrap64 (((d + 1 : Nat) : Int) - 1) = (d : Int) := by rw [w64 (by omega) (by omega)]; omega
   simp only [spec_l2Rows.l0, e1, Option.bind_some, ed]
   exact Ev.pos (by omega) (Ev.pos (by omega) e)
 obtain ⟨q, i1, h1, e1, q0, j1⟩ := l1PickInt_some b i h [1, 2, 4, 10] hb hi (by simp)
 have ea : wrap64 (a + 1) = a + 1 := w64 (by omega) (by omega)
 obtain ⟨m, i2, h2, e2, m0, m1, _, j2⟩ := l1Below_some b i1 h1 (a + 1) hb j1
 have hm := m1 (by omega)
 obtain ⟨m, rfl⟩ := Int.eq_ofNat_of_zero_le m0
 have hq : 0 < q := by simp only [List.mem_cons, List.not_mem_nil, or_false] at q0; omega
 obtain ⟨l, i', h', e, hl, hi'⟩ := key m [] q i2 h2 hq j2 (by simp only [List.length_nil]; omega) (by omega)
 refine ⟨l, i', h', ?_, by simp only [List.length_nil] at hl; omega, hi'⟩
 simp only [spec_l2Rows.f, e1, ea, e2, Option.bind_some]
 exact e
theorem l2Bent_ev (b : List Int) (i h a : Int) (hb : b.length ≤ 140737488351232) (hi : 0 ≤ i) (ha0 : 0 ≤ a) (ha : a ≤ 1000) :
  ∃ l i' h', Ev (fun k => spec_l2Bent.f k b i h a) (l, i', h') ∧ (l.length : Int) ≤ a + 1 ∧ 0 ≤ i' := by
 obtain ⟨l, i1, h1, e1, hl, j1⟩ := l2Rows_ev b i h a hb hi ha0 ha
 obtain ⟨o, i2, h2, e2, j2⟩ := l1Once_some b i1 h1 14 hb j1
 obtain ⟨x, y, z, i3, h3, e3, j3⟩ := l2Any_some b i2 h2 hb j2
 cases o with
 | true =>
  refine ⟨l ++ [⟨x, y, z⟩], i3, h3, ?_, by simp only [List.length_append, List.length_cons, List.length_nil]; omega, j3⟩
  simp only [spec_l2Bent.f]
  refine Ev.bind e1 ?_
  simp only [e2, e3, Option.bind_some]
  exact Ev.pos (by trivial) (Ev.pos (by omega) (Ev.now _))
 | false =>
  refine ⟨l, i2, h2, ?_, by omega, j2⟩
  simp only [spec_l2Bent.f]
  refine Ev.bind e1 ?_
  simp only [e2, Option.bind_some]
  exact Ev.neg (by decide) (Ev.now _)
theorem l1New_ev (l : List Int) (hl : l.length ≤ 140737488351232) : ∃ h, Ev (fun k => spec_l1New.f k l) (l, 0, h) := by
 have key : ∀ (d i : Nat) (x : Int), i + d = 4000 → ∃ h, Ev (fun k => spec_l1New.l0 k l x (i : Int)) (l, 0, h) := by
  intro d
  induction d with
  | zero =>
   intro i x hi
   refine ⟨x, Ev.succ ?_⟩
   simp only [spec_l1New.l0]
   by_cases h1 : (i : Int) < (l.length : Int)
   ·exact Ev.pos h1 (Ev.neg (by omega) (Ev.now _))
   ·exact Ev.neg h1 (Ev.now _)
  | succ d ih =>
   intro i x hi
   by_cases h1 : (i : Int) < (l.length : Int)
   ·have e1 : wrap64 ((i : Int) + 1) = ((i + 1 : Nat) : Int) := by rw [w64 (by omega) (by omega)]; omega
    obtain ⟨h, e⟩ := ih (i + 1) (Go.bits .and .i64 (wrap64 ((wrap64 ((wrap64 (x * 131)) + (wrap64 (rd l (i : Int))))) + 7)) 1073741823) (by omega)
    refine ⟨h, Ev.succ ?_⟩
    simp only [spec_l1New.l0, e1]
    exact Ev.pos h1 (Ev.pos (by omega) (Ev.pos (Int.natCast_nonneg _) e))
   ·refine ⟨x, Ev.succ ?_⟩
    simp only [spec_l1New.l0]
    exact Ev.neg h1 (Ev.now _)
 exact key 4000 0 _ rfl
theorem big_f (l : List Int) : laws_big.f l = some (decide ((l.length : Int) > 1048576)) := rfl
theorem sortedM_of : ∀ l : List S36, List.Pairwise leR l → sortedM l = true := by
 have key : ∀ (r : List S36) (x : S36), List.Pairwise leR (x :: r) → sortedFrom x r = true := by
  intro r
  induction r with
  | nil => intro x _; rfl
  | cons y r ih =>
   intro x h
   have h1 := List.pairwise_cons.1 h
   have h2 : leR x y := h1.1 y (by simp)
   unfold leR cR at h2
   simp only [sortedFrom, if_neg (show ¬ cmpR (x.f0, x.f1, x.f2) (y.f0, y.f1, y.f2) > 0 by omega)]
   exact ih y h1.2
 intro l h
 cases l with
 | nil => rfl
 | cons x r => exact key r x h
theorem ord_bd (a b : Int) : -1 ≤ ord a b ∧ ord a b ≤ 1 := by
 unfold ord
 split
 ·omega
 ·split <;> omega
theorem cmpR_bd (r q : Int × Int × Int) : -1 ≤ cmpR r q ∧ cmpR r q ≤ 1 := by
 unfold cmpR
 split
 ·exact ord_bd _ _
 ·split <;> exact ord_bd _ _
theorem cmp_eq (x0 x1 x2 y0 y1 y2 : Int) : (cmpR (x0, x1, x2) (y0, y1, y2) == 0) = (x0 == y0 && (x1 == y1 && (x2 == y2))) := by
 rw [Bool.eq_iff_iff, beq_iff_eq, Bool.and_eq_true, Bool.and_eq_true, beq_iff_eq, beq_iff_eq, beq_iff_eq]
 constructor
 ·intro h
  have e : (⟨x0, x1, x2⟩ : S36) = ⟨y0, y1, y2⟩ := cR_zero (x := ⟨x0, x1, x2⟩) (y := ⟨y0, y1, y2⟩) h
  injection e with e1 e2 e3
  exact ⟨e1, e2, e3⟩
 ·rintro ⟨rfl, rfl, rfl⟩
  exact cR_self ⟨x0, x1, x2⟩
theorem cmp_four (x0 x1 x2 y0 y1 y2 : Int) : ((cmpR (x0, x1, x2) (y0, y1, y2) == 0) = true ∧ (x0 == y0) = true ∧ (x1 == y1) = true ∧ (x2 == y2) = true) ∨ ((cmpR (x0, x1, x2) (y0, y1, y2) == 0) = false ∧ (x0 == y0) = false) ∨ ((cmpR (x0, x1, x2) (y0, y1, y2) == 0) = false ∧ (x0 == y0) = true ∧ (x1 == y1) = false) ∨ ((cmpR (x0, x1, x2) (y0, y1, y2) == 0) = false ∧ (x0 == y0) = true ∧ (x1 == y1) = true ∧ (x2 == y2) = false) := by
 rw [cmp_eq x0 x1 x2 y0 y1 y2]
 generalize (x0 == y0) = b1
 generalize (x1 == y1) = b2
 generalize (x2 == y2) = b3
 cases b1 <;> cases b2 <;> cases b3 <;> simp
theorem FnSortRows : laws_FnSortRows.Pure := by
 intro code hmax hsz hwf
 by_cases hbig : (code.length : Int) > 1048576
 ·exact ⟨0, .inl (by rw [big_f]; exact congrArg some (decide_eq_true hbig))⟩
 ·have hb0 : laws_big.f code = some false := by rw [big_f]; exact congrArg some (decide_eq_false hbig)
  have hc : code.length ≤ 140737488351232 := by omega
  obtain ⟨h, en⟩ := l1New_ev code hc
  obtain ⟨l, i1, h1, e1, hl, j1⟩ := l2Bent_ev code 0 h 10 hc (by omega) (by omega) (by omega)
  have eD : Ev (fun k => spec_DrawSortRows.f k code) l := by
   simp only [spec_DrawSortRows.f]
   exact Ev.bind en (Ev.tl e1 rfl)
  obtain ⟨m0, i2, h2, e2, hm, j2⟩ := l2Bent_ev code 0 h 6 hc (by omega) (by omega) (by omega)
  obtain ⟨o, i3, h3, e3, j3⟩ := l1Once_some code i2 h2 2 hc j2
  obtain ⟨m, eM, hm5⟩ : ∃ m, Ev (fun k => spec_DrawIsSorted.f k code) m ∧ m.length ≤ 1048576 := by
   by_cases ho : o = true
   ·refine ⟨sortM m0, ?_, by rw [sortM_len]; omega⟩
    simp only [spec_DrawIsSorted.f]
    refine Ev.bind en (Ev.bind e2 ?_)
    simp only [e3, Option.bind_some]
    exact Ev.pos ho (Ev.tl (spec_SortRows_ev m0 (by omega)) rfl)
   ·refine ⟨m0, ?_, by omega⟩
    simp only [spec_DrawIsSorted.f]
    refine Ev.bind en (Ev.bind e2 ?_)
    simp only [e3, Option.bind_some]
    exact Ev.neg ho (Ev.now _)
  obtain ⟨x0, x1, x2, y0, y1, y2, eC⟩ : ∃ x0 x1 x2 y0 y1 y2, Ev (fun k => spec_DrawCompareRows.f k code) (x0, x1, x2, y0, y1, y2) := by
   obtain ⟨x0, x1, x2, p1, q1, f1, _, _, _, r1⟩ := l2Row_some code 0 h 2 hc (by omega) (by decide)
   obtain ⟨t, p2, q2, f2, _, _, _, r2⟩ := l1Below_some code p1 q1 4 hc r1
   obtain ⟨y0, y1, y2, p3, q3, f3, _⟩ := l2Row_some code p2 q2 2 hc r2 (by decide)
   by_cases t0 : t = 0
   ·refine ⟨x0, x1, x2, y0, y1, y2, ?_⟩
    simp only [spec_DrawCompareRows.f]
    refine Ev.bind en ?_
    simp only [f1, f2, f3, Option.bind_some]
    exact Ev.pos t0 (Ev.now _)
   ·by_cases t1 : t = 1
    ·refine ⟨x0, x1, x2, x0, wrap64 (x1 + 1), x2, ?_⟩
     simp only [spec_DrawCompareRows.f]
     refine Ev.bind en ?_
     simp only [f1, f2, Option.bind_some]
     exact Ev.neg t0 (Ev.pos t1 (Ev.now _))
    ·by_cases t2 : t = 2
     ·refine ⟨x0, x1, x2, x0, x1, wrap64 (3 - x2), ?_⟩
      simp only [spec_DrawCompareRows.f]
      refine Ev.bind en ?_
      simp only [f1, f2, Option.bind_some]
      exact Ev.neg t0 (Ev.neg t1 (Ev.pos t2 (Ev.now _)))
     ·refine ⟨x0, x1, x2, x0, x1, x2, ?_⟩
      simp only [spec_DrawCompareRows.f]
      refine Ev.bind en ?_
      simp only [f1, f2, Option.bind_some]
      exact Ev.neg t0 (Ev.neg t1 (Ev.neg t2 (Ev.now _)))
  have hl9 : l.length ≤ 1048576 := by omega
  have hs9 : (sortM l).length ≤ 1048576 := by rw [sortM_len]; exact hl9
  have hss : sortM (sortM l) = sortM l := sortM_eq (sortM_perm l)
  have eI2 := impl_SortRows_ev (sortM l) hs9
  rw [hss] at eI2
  have eS := impl_IsSorted_ev (sortM l) (by omega)
  rw [sortedM_of _ (sortM_sorted l)] at eS
  have eB := impl_EqualBags_ev (sortM l) l hs9 hl9
  have hbag : bagE (sortM l) l = true := by
   unfold bagE rowsEq
   rw [hss, if_pos rfl]
   exact rowsE_refl _
  rw [hbag] at eB
  have hanti := cmpR_anti (x0, x1, x2) (y0, y1, y2)
  have hbd := cmpR_bd (x0, x1, x2) (y0, y1, y2)
  have hneg : cmpR (x0, x1, x2) (y0, y1, y2) = wrap64 (-(cmpR (y0, y1, y2) (x0, x1, x2))) := by
   rw [hanti, w64 (by omega) (by omega)]; omega
  obtain ⟨K1, eD⟩ := eD
  obtain ⟨K2, g2⟩ := impl_SortRows_ev l hl9
  obtain ⟨K3, eC⟩ := eC
  obtain ⟨K4, eM⟩ := eM
  obtain ⟨K5, g5⟩ := spec_SortRows_ev l hl9
  obtain ⟨K6, g6⟩ := sameRows_ev (sortM l) (by omega)
  obtain ⟨K7, eS⟩ := eS
  obtain ⟨K8, eB⟩ := eB
  obtain ⟨K9, eI2⟩ := eI2
  obtain ⟨K10, g10⟩ := spec_CompareRows_ev x0 x1 x2 y0 y1 y2
  obtain ⟨K11, g11⟩ := impl_IsSorted_ev m (by omega)
  obtain ⟨K12, g12⟩ := spec_IsSorted_ev m (by omega)
  exact ⟨K1 + K2 + K3 + K4 + K5 + K6 + K7 + K8 + K9 + K10 + K11 + K12, .inr ⟨l, sortM l, m, x0, x1, x2, y0, y1, y2, _, _, sortedM m, hb0, eD _ (by omega), g2 _ (by omega), eC _ (by omega), impl_CompareRows_f _ _ _ _ _ _, eM _ (by omega), g5 _ (by omega), g6 _ (by omega), eS _ (by omega), eB _ (by omega), eI2 _ (by omega), g10 _ (by omega), impl_CompareRows_f _ _ _ _ _ _, hneg, cmp_four _ _ _ _ _ _, g11 _ (by omega), g12 _ (by omega)⟩⟩
end Go.Proofs.Ytbcpfppiaeelbaa.Pure
