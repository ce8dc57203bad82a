/- The program's PackPages answers as the reference's does, for all arguments that the statement lets in; no further condition. -/
import Derived.Test.YtljpfogplcdcjaaQFnExactPackPagesx8
import Derived.Test.YtljpfogplcdcjaaCore
namespace Go.Proofs.Ytljpfogplcdcjaa.Pure
open Go.RowKit Go.Proofs.Ytljpfogplcdcjaa.PFnExactPackPages Go.Proofs.YtljpfogplcdcjaaW.PrintWords Go.Proofs.YtljpfogplcdcjaaW.PrintLast Go.Proofs.YtljpfogplcdcjaaW.PrintMore Go.Proofs.Ytljpfogplcdcjaa.Core
set_option linter.unusedVariables false
set_option linter.unusedSimpArgs false

theorem toRow_f (a b c : Int) : laws_toRow.f a b c = some (a, b, c) := rfl
theorem drop_nil_lt {α : Type} {l : List α} {i : Nat} (h : l.drop i = []) : ¬ (i : Int) < (l.length : Int) := by
  have := List.drop_eq_nil_iff.1 h
  omega
theorem rdI {l : List S42} {i : Nat} {b : S42} {r : List S42} (h : l.drop i = b :: r) : (i : Int) < (l.length : Int) ∧ rd_T42 l (i : Int) = b ∧ l.drop (i + 1) = r := by
  obtain ⟨hi, h1, h2⟩ := drop_split h
  refine ⟨by omega, ?_, h2⟩
  unfold rd_T42
  rw [Int.toNat_natCast, List.getD_eq_getElem?_getD, List.getElem?_eq_getElem hi, h1]; rfl
theorem nxt {n i : Nat} (hn : n ≤ 4611686018427387904) (h : (i : Int) < (n : Int)) : wrap64 ((i : Int) + 1) = ((i + 1 : Nat) : Int) := by
  rw [w64 (by omega) (by omega)]; omega
def cvR (x : S65) : S42 := ⟨x.f0, x.f1, x.f2⟩
def tup (x : S42) : Int × Int × Int := (x.f0, x.f1, x.f2)
theorem rdL {l : List S65} {i : Nat} {b : S65} {r : List S65} (h : l.drop i = b :: r) : (i : Int) < (l.length : Int) ∧ rd_T65 l (i : Int) = b ∧ l.drop (i + 1) = r := by
  obtain ⟨hi, h1, h2⟩ := drop_split h
  refine ⟨by omega, ?_, h2⟩
  unfold rd_T65
  rw [Int.toNat_natCast, List.getD_eq_getElem?_getD, List.getElem?_eq_getElem hi, h1]; rfl
theorem szRowS_small (l : List S65) (a : Int) (ha : a ≤ 1048576) (h : (l.length : Int) ≤ a) : laws_szRowS.f l a = some (a - l.length) := by
  unfold laws_szRowS.f
  rw [w64 (by omega) (by omega), if_neg (by omega)]
theorem szRowS_big (l : List S65) (a : Int) (hl : l.length ≤ 9223372036854775807) (h0 : 0 ≤ a) (ha : a ≤ 1048576) (h : ¬ (l.length : Int) ≤ a) : laws_szRowS.f l a = some (-1) := by
  unfold laws_szRowS.f
  rw [w64 (by omega) (by omega), if_pos (by omega)]
theorem toRowS_ev (l : List S65) (hl : (l.length : Int) ≤ 1048576) : Ev (fun k => laws_toRowS.f k l) (l.map cvR) := by
  have key : ∀ (r : List S65) (d : List S42), l.drop d.length = r → Ev (fun k => laws_toRowS.l0 k l (d ++ List.replicate r.length z42) (d.length : Int)) (d ++ r.map cvR) := by
    intro r
    induction r with
    | nil =>
      intro d h
      refine Ev.succ ?_
      simp only [laws_toRowS.l0, List.length_nil, List.replicate_zero, List.append_nil, List.map_nil]
      exact Ev.neg (drop_nil_lt h) (Ev.now _)
    | cons b r ih =>
      intro d h
      obtain ⟨h1, h2, h3⟩ := rdL h
      refine Ev.succ ?_
      simp only [laws_toRowS.l0, h2, toRow_f, Option.bind_some, nxt (show l.length ≤ 4611686018427387904 by omega) h1]
      refine Ev.pos h1 (Ev.pos (Int.natCast_nonneg _) (Ev.pos ?_ ?_))
      · simp only [List.length_append, List.length_replicate, List.length_cons]; omega
      · have e : (d ++ List.replicate (b :: r).length z42).set (d.length : Int).toNat ⟨b.f0, b.f1, b.f2⟩ = (d ++ [cvR b]) ++ List.replicate r.length z42 := by
          rw [Int.toNat_natCast, List.set_append_right _ _ (Nat.le_refl _), Nat.sub_self, List.length_cons, List.replicate_succ, List.set_cons_zero, List.append_assoc]
          rfl
        rw [e]
        have := ih (d ++ [cvR b]) (by simpa using h3)
        simpa using this
  have := key l [] rfl
  simp only [laws_toRowS.f]
  refine Ev.pos (by omega) (Ev.pos (by omega) ?_)
  simpa using this
theorem eqRow_f (a b c : Int) : laws_eqRow.f a b c a b c = some true := by simp [laws_eqRow.f]
theorem eqRowS_ev (l : List S42) (hl : l.length ≤ 4611686018427387904) : Ev (fun k => laws_eqRowS.f k l l) true := by
  have key : ∀ (r : List S42) (i : Nat), l.drop i = r → Ev (fun k => laws_eqRowS.l0 k l l (i : Int)) true := by
    intro r
    induction r with
    | nil =>
      intro i h
      refine Ev.succ ?_
      simp only [laws_eqRowS.l0]
      exact Ev.neg (drop_nil_lt h) (Ev.now _)
    | cons b r ih =>
      intro i h
      obtain ⟨h1, h2, h3⟩ := rdI h
      refine Ev.succ ?_
      simp only [laws_eqRowS.l0, eqRow_f, Option.bind_some, if_true, nxt hl h1]
      exact Ev.pos h1 (Ev.pos (Int.natCast_nonneg _) (Ev.pos h1 (ih (i + 1) h3)))
  simp only [laws_eqRowS.f, if_true]
  exact key l 0 rfl
theorem map_len (l : List S65) : (l.map cvR).length = l.length := List.length_map ..
def mkRow (n : Int) : S42 := ⟨n, n + 1, n + 2⟩
/-- n rows numbered from k on. -/
def mkRows : Nat → Int → List S42
  | 0, _ => []
  | n + 1, k => mkRow k :: mkRows n (k + 3)
theorem mkRows_len : ∀ (n : Nat) (k : Int), (mkRows n k).length = n
  | 0, _ => rfl
  | n + 1, k => by simp [mkRows, mkRows_len n]
theorem rd_at (d : List S42) (x : S42) (r : List S42) : rd_T42 (d ++ x :: r) (d.length : Int) = x := by
  unfold rd_T42
  rw [Int.toNat_natCast, List.getD_eq_getElem?_getD, List.getElem?_append_right (Nat.le_refl _), Nat.sub_self]; rfl
theorem set_at (d : List S42) (x y : S42) (r : List S42) : (d ++ x :: r).set (d.length : Int).toNat y = d ++ y :: r := by
  rw [Int.toNat_natCast, List.set_append_right _ _ (Nat.le_refl _), Nat.sub_self, List.set_cons_zero]
theorem markRowS_ev (l : List S42) (hl : l.length ≤ 1048576) (k0 : Int) (h0 : 0 ≤ k0) (h1 : k0 ≤ 4611686018427387904) : Ev (fun k => laws_markRowS.f k l k0) (k0 + 3 * l.length, mkRows l.length k0) := by
  have key : ∀ (r d : List S42) (n : Int), d.length + r.length ≤ 1048576 → 0 ≤ n → n ≤ 4611686018427387904 + 3 * d.length → Ev (fun k => laws_markRowS.l0 k (d ++ r) n (d.length : Int)) (n + 3 * r.length, d ++ mkRows r.length n) := by
    intro r
    induction r with
    | nil =>
      intro d n hd hn hn2
      refine Ev.succ ?_
      simp only [laws_markRowS.l0]
      exact Ev.neg (by simp) (Ev.now' (by simp [mkRows]))
    | cons x r ih =>
      intro d n hd hn hn2
      simp only [List.length_cons] at hd
      refine Ev.succ ?_
      have e1 : wrap64 (n + 1) = n + 1 := w64 (by omega) (by omega)
      have e2 : wrap64 (n + 1 + 1) = n + 1 + 1 := w64 (by omega) (by omega)
      have e3 : wrap64 (n + 1 + 1 + 1) = n + 1 + 1 + 1 := w64 (by omega) (by omega)
      have e4 : wrap64 ((d.length : Int) + 1) = ((d.length + 1 : Nat) : Int) := by rw [w64 (by omega) (by omega)]; omega
      simp only [laws_markRowS.l0, e1, e2, e3, e4, rd_at, set_at, Option.bind_some]
      refine Ev.pos (by simp only [List.length_append, List.length_cons]; omega) (Ev.pos (Int.natCast_nonneg _) ?_)
      have := ih (d ++ [⟨n, n + 1, n + 1 + 1⟩]) (n + 1 + 1 + 1) (by simp only [List.length_append, List.length_cons, List.length_nil]; omega) (by omega) (by simp only [List.length_append, List.length_cons, List.length_nil]; omega)
      have e5 : n + 1 + 1 + 1 + 3 * (r.length : Int) = n + 3 * ((x :: r).length : Int) := by simp only [List.length_cons]; omega
      have e6 : (d ++ [⟨n, n + 1, n + 1 + 1⟩]) ++ mkRows r.length (n + 1 + 1 + 1) = d ++ mkRows (x :: r).length n := by
        simp only [List.length_cons, mkRows, mkRow, List.append_assoc, List.cons_append, List.nil_append, Int.add_assoc]; rfl
      rw [e5, e6] at this
      simpa using this
  have := key l [] k0 (by simpa using hl) h0 (by simp; omega)
  exact this
theorem heldRowS_ev (m : Nat) (hm : m ≤ 1048576) (k0 : Int) (h0 : 0 ≤ k0) (h1 : k0 ≤ 4611686018427387904) : Ev (fun k => laws_heldRowS.f k (mkRows m k0) k0) (k0 + 3 * m) := by
  have key : ∀ (r : Nat) (d : List S42) (n : Int), d.length + r ≤ 1048576 → 0 ≤ n → n ≤ 4611686018427387904 + 3 * d.length → Ev (fun k => laws_heldRowS.l0 k (d ++ mkRows r n) n (d.length : Int)) (n + 3 * r) := by
    intro r
    induction r with
    | zero =>
      intro d n hd hn hn2
      refine Ev.succ ?_
      simp only [laws_heldRowS.l0]
      exact Ev.neg (by simp [mkRows]) (Ev.now' (by omega))
    | succ r ih =>
      intro d n hd hn hn2
      refine Ev.succ ?_
      have e1 : wrap64 (n + 1) = n + 1 := w64 (by omega) (by omega)
      have e2 : wrap64 (n + 1 + 1) = n + 1 + 1 := w64 (by omega) (by omega)
      have e3 : wrap64 (n + 1 + 1 + 1) = n + 1 + 1 + 1 := w64 (by omega) (by omega)
      have e4 : wrap64 ((d.length : Int) + 1) = ((d.length + 1 : Nat) : Int) := by rw [w64 (by omega) (by omega)]; omega
      simp only [laws_heldRowS.l0, e1, e2, e3, e4, mkRows, mkRow, rd_at]
      refine Ev.pos (by simp only [List.length_append, List.length_cons]; omega) (Ev.pos (Int.natCast_nonneg _) ?_)
      refine Ev.pos (by trivial) (Ev.pos (by trivial) (Ev.pos (by omega) ?_))
      have := ih (d ++ [⟨n, n + 1, n + 2⟩]) (n + 1 + 1 + 1) (by simp only [List.length_append, List.length_cons, List.length_nil]; omega) (by omega) (by simp only [List.length_append, List.length_cons, List.length_nil]; omega)
      have e5 : n + 1 + 1 + 1 + 3 * (r : Int) = n + 3 * ((r + 1 : Nat) : Int) := by omega
      have e6 : n + 1 + 1 + 1 = n + 3 := by omega
      rw [e5] at this
      rw [e6] at this ⊢
      simpa using this
  exact key m [] k0 (by simpa using hm) h0 (by simp; omega)
theorem eqPage_ev (l : List S42) (hl : l.length ≤ 4611686018427387904) : Ev (fun k => laws_eqPage.f k l l) true := by
  simp only [laws_eqPage.f]
  exact Ev.tl (eqRowS_ev l hl) rfl
theorem rdT39 {l : List S39} {i : Nat} {b : S39} {r : List S39} (h : l.drop i = b :: r) : (i : Int) < (l.length : Int) ∧ rd_T39 l (i : Int) = b ∧ l.drop (i + 1) = r := by
  obtain ⟨hi, h1, h2⟩ := drop_split h
  refine ⟨by omega, ?_, h2⟩
  unfold rd_T39
  rw [Int.toNat_natCast, List.getD_eq_getElem?_getD, List.getElem?_eq_getElem hi, h1]; rfl
theorem eqPageS_ev (l : List S39) (hl : l.length ≤ 4611686018427387904) (hp : ∀ x ∈ l, x.f0.length ≤ 4611686018427387904) : Ev (fun k => laws_eqPageS.f k l l) true := by
  have key : ∀ (r : List S39) (i : Nat), l.drop i = r → (∀ x ∈ r, x.f0.length ≤ 4611686018427387904) → Ev (fun k => laws_eqPageS.l0 k l l (i : Int)) true := by
    intro r
    induction r with
    | nil =>
      intro i h hr
      refine Ev.succ ?_
      simp only [laws_eqPageS.l0]
      exact Ev.neg (drop_nil_lt h) (Ev.now _)
    | cons b r ih =>
      intro i h hr
      obtain ⟨h1, h2, h3⟩ := rdT39 h
      refine Ev.succ ?_
      simp only [laws_eqPageS.l0, h2, nxt hl h1]
      refine Ev.pos h1 (Ev.pos (Int.natCast_nonneg _) (Ev.pos h1 (Ev.bind (eqPage_ev b.f0 (hr b (by simp))) ?_)))
      exact Ev.pos (by trivial) (ih (i + 1) h3 (fun y hy => hr y (by simp [hy])))
  simp only [laws_eqPageS.f, if_true]
  exact key l 0 rfl hp
def tot : List S39 → Nat
  | [] => 0
  | x :: r => x.f0.length + tot r
def mkPages : List S39 → Int → List S39
  | [], _ => []
  | x :: r, k => ⟨mkRows x.f0.length k⟩ :: mkPages r (k + 3 * x.f0.length)
theorem mkPages_len : ∀ (l : List S39) (k : Int), (mkPages l k).length = l.length
  | [], _ => rfl
  | x :: r, k => by simp [mkPages, mkPages_len r]
theorem rd_atP (d : List S39) (x : S39) (r : List S39) : rd_T39 (d ++ x :: r) (d.length : Int) = x := by
  unfold rd_T39
  rw [Int.toNat_natCast, List.getD_eq_getElem?_getD, List.getElem?_append_right (Nat.le_refl _), Nat.sub_self]; rfl
theorem set_atP (d : List S39) (x y : S39) (r : List S39) : (d ++ x :: r).set (d.length : Int).toNat y = d ++ y :: r := by
  rw [Int.toNat_natCast, List.set_append_right _ _ (Nat.le_refl _), Nat.sub_self, List.set_cons_zero]
theorem markPageS_ev2 (l : List S39) (hl : l.length ≤ 1048577) (ht : tot l ≤ 1152921504606846976) (hx : ∀ x ∈ l, x.f0.length ≤ 1048576) (k0 : Int) (h0 : 0 ≤ k0) (h1 : k0 ≤ 1048576) : Ev (fun k => laws_markPageS.f k l k0) (k0 + 3 * tot l, mkPages l k0) := by
  have key : ∀ (r d : List S39) (n : Int), d.length + r.length ≤ 1048577 → tot r ≤ 1152921504606846976 → (∀ x ∈ r, x.f0.length ≤ 1048576) → 0 ≤ n → n + 3 * tot r ≤ 4611686018427387904 → Ev (fun k => laws_markPageS.l0 k (d ++ r) n (d.length : Int)) (n + 3 * tot r, d ++ mkPages r n) := by
    intro r
    induction r with
    | nil =>
      intro d n hd ht hx hn hn2
      refine Ev.succ ?_
      simp only [laws_markPageS.l0]
      exact Ev.neg (by simp) (Ev.now' (by simp [mkPages, tot]))
    | cons x r ih =>
      intro d n hd ht hx hn hn2
      simp only [List.length_cons] at hd
      simp only [tot] at ht hn2
      refine Ev.succ ?_
      have e4 : wrap64 ((d.length : Int) + 1) = ((d.length + 1 : Nat) : Int) := by rw [w64 (by omega) (by omega)]; omega
      simp only [laws_markPageS.l0, e4, rd_atP, set_atP]
      refine Ev.pos (by simp only [List.length_append, List.length_cons]; omega) (Ev.pos (Int.natCast_nonneg _) (Ev.bind (markRowS_ev x.f0 (hx x (by simp)) n hn (by omega)) ?_))
      have := ih (d ++ [⟨mkRows x.f0.length n⟩]) (n + 3 * x.f0.length) (by simp only [List.length_append, List.length_cons, List.length_nil]; omega) (by omega) (fun y hy => hx y (by simp [hy])) (by omega) (by omega)
      have e5 : n + 3 * (x.f0.length : Int) + 3 * (tot r : Int) = n + 3 * (tot (x :: r) : Int) := by simp only [tot]; omega
      have e6 : (d ++ [⟨mkRows x.f0.length n⟩]) ++ mkPages r (n + 3 * x.f0.length) = d ++ mkPages (x :: r) n := by
        simp only [mkPages, List.append_assoc, List.cons_append, List.nil_append]
      rw [e5, e6] at this
      simpa using this
  have := key l [] k0 (by simpa using hl) ht hx h0 (by omega)
  exact this
theorem tot_le : ∀ (l : List S39) (m : Nat), (∀ x ∈ l, x.f0.length ≤ m) → tot l ≤ m * l.length
  | [], _, _ => by simp [tot]
  | x :: r, m, h => by
    have h1 := h x (by simp)
    have h2 := tot_le r m (fun y hy => h y (by simp [hy]))
    simp only [tot, List.length_cons, Nat.mul_add, Nat.mul_one]
    omega
theorem heldPageS_ev (l : List S39) (hl : l.length ≤ 1048577) (ht : tot l ≤ 1152921504606846976) (hx : ∀ x ∈ l, x.f0.length ≤ 1048576) (k0 : Int) (h0 : 0 ≤ k0) (h1 : k0 ≤ 1048576) : Ev (fun k => laws_heldPageS.f k (mkPages l k0) k0) (k0 + 3 * tot l) := by
  have key : ∀ (r d : List S39) (n : Int), d.length + r.length ≤ 1048577 → tot r ≤ 1152921504606846976 → (∀ x ∈ r, x.f0.length ≤ 1048576) → 0 ≤ n → n + 3 * tot r ≤ 4611686018427387904 → Ev (fun k => laws_heldPageS.l0 k (d ++ mkPages r n) n (d.length : Int)) (n + 3 * tot r) := by
    intro r
    induction r with
    | nil =>
      intro d n hd ht hx hn hn2
      refine Ev.succ ?_
      simp only [laws_heldPageS.l0]
      exact Ev.neg (by simp [mkPages]) (Ev.now' (by simp [tot]))
    | cons x r ih =>
      intro d n hd ht hx hn hn2
      simp only [List.length_cons] at hd
      simp only [tot] at ht hn2
      refine Ev.succ ?_
      have e4 : wrap64 ((d.length : Int) + 1) = ((d.length + 1 : Nat) : Int) := by rw [w64 (by omega) (by omega)]; omega
      simp only [laws_heldPageS.l0, e4, mkPages, rd_atP]
      refine Ev.pos (by simp only [List.length_append, List.length_cons]; omega) (Ev.pos (Int.natCast_nonneg _) (Ev.bind (heldRowS_ev x.f0.length (hx x (by simp)) n hn (by omega)) (Ev.neg (by omega) ?_)))
      have := ih (d ++ [⟨mkRows x.f0.length n⟩]) (n + 3 * x.f0.length) (by simp only [List.length_append, List.length_cons, List.length_nil]; omega) (by omega) (fun y hy => hx y (by simp [hy])) (by omega) (by omega)
      have e5 : n + 3 * (x.f0.length : Int) + 3 * (tot r : Int) = n + 3 * (tot (x :: r) : Int) := by simp only [tot]; omega
      rw [e5] at this
      simpa using this
  have := key l [] k0 (by simpa using hl) ht hx h0 (by omega)
  exact this
def vrow (r : Int × Int × Int) : Bool := (decide (0 ≤ r.1) && decide (r.1 ≤ 9)) && ((decide (0 ≤ r.2.1) && decide (r.2.1 ≤ 99)) && (decide (0 ≤ r.2.2) && decide (r.2.2 ≤ 3)))
theorem vrow_iff {a b c : Int} : vrow (a, b, c) = true ↔ (0 ≤ a ∧ a ≤ 9) ∧ (0 ≤ b ∧ b ≤ 99) ∧ 0 ≤ c ∧ c ≤ 3 := by simp [vrow]
theorem l1In_f (a b c : Int) : spec_l1In.f a b c = some (decide (b ≤ a) && decide (a ≤ c)) := by
  by_cases h : b ≤ a <;> simp [spec_l1In.f, h]
theorem spec_IsValidRow_f (a b c : Int) : spec_IsValidRow.f a b c = some (vrow (a, b, c)) := by
  simp only [spec_IsValidRow.f, l1In_f, Option.bind_some, vrow]
  cases (decide (0 ≤ a) && decide (a ≤ 9)) <;> cases (decide (0 ≤ b) && decide (b ≤ 99)) <;> simp
theorem within_f (a b c : Int) : impl_within.f a b c = some (decide (b ≤ a) && decide (a ≤ c)) := by
  by_cases h : b ≤ a <;> simp [impl_within.f, h]
theorem impl_IsValidRow_f (a b c : Int) : impl_IsValidRow.f a b c = some (vrow (a, b, c)) := by
  simp only [impl_IsValidRow.f, within_f, Option.bind_some, vrow]
  cases (decide (0 ≤ a) && decide (a ≤ 9)) <;> cases (decide (0 ≤ b) && decide (b ≤ 99)) <;> simp
def cost (r : Int × Int × Int) : Int := if vrow r = true then 1 + r.2.2 else 0
theorem impl_RowCost_f (a b c : Int) : impl_RowCost.f a b c = some (cost (a, b, c)) := by
  simp only [impl_RowCost.f, impl_IsValidRow_f, Option.bind_some, cost]
  by_cases h : vrow (a, b, c) = true
  · have := vrow_iff.1 h
    rw [if_pos h, if_pos h, w64 (by omega) (by omega)]
  · rw [if_neg h, if_neg h]
theorem spec_RowCost_f (a b c : Int) : spec_RowCost.f a b c = some (cost (a, b, c)) := by
  simp only [spec_RowCost.f, spec_IsValidRow_f, Option.bind_some, cost]
  by_cases h : vrow (a, b, c) = true
  · have := vrow_iff.1 h
    rw [if_pos h, if_pos h, w64 (by omega) (by omega)]
  · rw [if_neg h, if_neg h]
theorem cost_bd (r : Int × Int × Int) : 0 ≤ cost r ∧ cost r ≤ 4 := by
  obtain ⟨a, b, c⟩ := r
  unfold cost
  by_cases h : vrow (a, b, c) = true
  · have := vrow_iff.1 h
    rw [if_pos h]; simp only; omega
  · rw [if_neg h]; omega
def tcM : List S42 → Int → Int
  | [], n => n
  | x :: r, n => tcM r (n + cost (x.f0, x.f1, x.f2))
theorem spec_TotalCost_ev (l : List S42) (hl : l.length ≤ 1152921504606846976) : Ev (fun k => spec_TotalCost.f k l) (tcM l 0) := by
  have key : ∀ (r : List S42) (i : Nat) (n : Int), l.drop i = r → 0 ≤ n → n ≤ 4 * i → Ev (fun k => spec_TotalCost.l0 k l n (i : Int)) (tcM r n) := by
    intro r
    induction r with
    | nil =>
      intro i n h h0 hn
      refine Ev.succ ?_
      simp only [spec_TotalCost.l0]
      exact Ev.neg (drop_nil_lt h) (Ev.now _)
    | cons x r ih =>
      intro i n h h0 hn
      obtain ⟨h1, h2, h3⟩ := rdI h
      have hc := cost_bd (x.f0, x.f1, x.f2)
      refine Ev.succ ?_
      simp only [spec_TotalCost.l0, h2, nxt (show l.length ≤ 4611686018427387904 by omega) h1, spec_RowCost_f, Option.bind_some, w64 (x := n + cost (x.f0, x.f1, x.f2)) (by omega) (by omega)]
      exact Ev.pos h1 (Ev.pos (Int.natCast_nonneg _) (ih (i + 1) _ h3 (by omega) (by omega)))
  exact key l 0 0 rfl (by omega) (by omega)
theorem impl_TotalCost_ev (l : List S42) (hl : l.length ≤ 1152921504606846976) : Ev (fun k => impl_TotalCost.f k l) (tcM l 0) := by
  have key : ∀ (r : List S42) (i : Nat) (n : Int), l.drop i = r → 0 ≤ n → n ≤ 4 * i → Ev (fun k => impl_TotalCost.l0 k n l (l.length : Int) (i : Int)) (tcM r n) := by
    intro r
    induction r with
    | nil =>
      intro i n h h0 hn
      refine Ev.succ ?_
      simp only [impl_TotalCost.l0]
      exact Ev.neg (drop_nil_lt h) (Ev.now _)
    | cons x r ih =>
      intro i n h h0 hn
      obtain ⟨h1, h2, h3⟩ := rdI h
      have hc := cost_bd (x.f0, x.f1, x.f2)
      refine Ev.succ ?_
      simp only [impl_TotalCost.l0, h2, nxt (show l.length ≤ 4611686018427387904 by omega) h1, impl_RowCost_f, Option.bind_some, w64 (x := n + cost (x.f0, x.f1, x.f2)) (by omega) (by omega)]
      exact Ev.pos h1 (Ev.pos (Int.natCast_nonneg _) (Ev.pos h1 (ih (i + 1) _ h3 (by omega) (by omega))))
  exact key l 0 0 rfl (by omega) (by omega)
theorem tcM_bd : ∀ (l : List S42) (n : Int), n ≤ tcM l n ∧ tcM l n ≤ n + 4 * l.length
  | [], n => by simp [tcM]
  | x :: r, n => by
    have hc := cost_bd (x.f0, x.f1, x.f2)
    have := tcM_bd r (n + cost (x.f0, x.f1, x.f2))
    simp only [tcM, List.length_cons]
    omega
theorem spec_WouldOverflow_ev (l : List S42) (hl : l.length ≤ 1152921504606846976) (a b c : Int) : Ev (fun k => spec_WouldOverflow.f k l a b c) (decide (tcM l 0 + cost (a, b, c) > 8)) := by
  simp only [spec_WouldOverflow.f, spec_RowCost_f, Option.bind_some]
  have h1 := tcM_bd l 0
  have h2 := cost_bd (a, b, c)
  refine Ev.tl (spec_TotalCost_ev l hl) ?_
  rw [w64 (by omega) (by omega)]
theorem impl_WouldOverflow_ev (l : List S42) (hl : l.length ≤ 1152921504606846976) (a b c : Int) : Ev (fun k => impl_WouldOverflow.f k l a b c) (decide (tcM l 0 + cost (a, b, c) > 8)) := by
  simp only [impl_WouldOverflow.f, impl_RowCost_f, Option.bind_some]
  have h1 := tcM_bd l 0
  have h2 := cost_bd (a, b, c)
  refine Ev.tl (impl_TotalCost_ev l hl) ?_
  rw [w64 (by omega) (by omega)]
def allV (l : List S42) : Bool := l.all fun x => vrow (x.f0, x.f1, x.f2)
def avM (l : List S42) : Bool := allV l && decide ((l.length : Int) ≤ 24)
def packM : List S42 → List S39 → List S42 → List S39
  | [], acc, p => if p.length > 0 then acc ++ [⟨p⟩] else acc
  | x :: r, acc, p => if tcM p 0 + cost (x.f0, x.f1, x.f2) > 8 then packM r (acc ++ [⟨p⟩]) [x] else packM r acc (p ++ [x])
theorem packM_len : ∀ (r : List S42) (acc : List S39) (p : List S42), (packM r acc p).length ≤ acc.length + r.length + 1
  | [], acc, p => by simp only [packM]; split <;> simp
  | x :: r, acc, p => by
    simp only [packM]
    split
    · have := packM_len r (acc ++ [⟨p⟩]) [x]; simp only [List.length_append, List.length_cons, List.length_nil] at this ⊢; omega
    · have := packM_len r acc (p ++ [x]); simp only [List.length_cons] at this ⊢; omega
theorem packM_small (m : Nat) : ∀ (r : List S42) (acc : List S39) (p : List S42), p.length + r.length ≤ m → (∀ x ∈ acc, x.f0.length ≤ m) → ∀ x ∈ packM r acc p, x.f0.length ≤ m
  | [], acc, p, hp, ha => by
    simp only [packM]
    intro x hx
    split at hx
    · rcases List.mem_append.1 hx with h | h
      · exact ha x h
      · rw [List.mem_singleton.1 h]; simp only [List.length_nil] at hp; exact hp
    · exact ha x hx
  | y :: r, acc, p, hp, ha => by
    simp only [packM]
    simp only [List.length_cons] at hp
    split
    · refine packM_small m r _ [y] (by simp only [List.length_cons, List.length_nil]; omega) (fun x hx => ?_)
      rcases List.mem_append.1 hx with h | h
      · exact ha x h
      · rw [List.mem_singleton.1 h]; show p.length ≤ m; omega
    · exact packM_small m r acc (p ++ [y]) (by simp only [List.length_append, List.length_cons, List.length_nil]; omega) ha
def packs (l : List S42) : List S39 := if avM l = true then packM l [] [] else []
theorem avM_len {l : List S42} (h : avM l = true) : l.length ≤ 24 := by unfold avM at h; simp at h; omega
theorem spec_AreValidRows_ev (l : List S42) (hl : l.length ≤ 4611686018427387904) : Ev (fun k => spec_AreValidRows.f k l) (avM l) := by
  have key : ∀ (r : List S42) (i : Nat), l.drop i = r → Ev (fun k => spec_AreValidRows.l0 k l (i : Int)) (allV r && decide ((l.length : Int) ≤ 24)) := by
    intro r
    induction r with
    | nil =>
      intro i h
      refine Ev.succ ?_
      simp only [spec_AreValidRows.l0]
      exact Ev.neg (drop_nil_lt h) (Ev.now' (by simp [allV]))
    | cons x r ih =>
      intro i h
      obtain ⟨h1, h2, h3⟩ := rdI h
      refine Ev.succ ?_
      simp only [spec_AreValidRows.l0, h2, nxt hl h1, spec_IsValidRow_f, Option.bind_some]
      refine Ev.pos h1 (Ev.pos (Int.natCast_nonneg _) ?_)
      by_cases hv : vrow (x.f0, x.f1, x.f2) = true
      · refine Ev.pos hv ?_
        have e : allV (x :: r) = allV r := by simp [allV, hv]
        rw [e]; exact ih (i + 1) h3
      · exact Ev.neg hv (Ev.now' (by simp [allV, hv]))
  exact key l 0 rfl
theorem spec_PackPages_ev (l : List S42) (hl : l.length ≤ 1048576) : Ev (fun k => spec_PackPages.f k l) (packs l) := by
  have key : l.length ≤ 24 → ∀ (r : List S42) (i : Nat) (acc : List S39) (p : List S42), l.drop i = r → acc.length ≤ i → p.length ≤ i → i ≤ l.length → Ev (fun k => spec_PackPages.l0 k l acc (i : Int) p) (packM r acc p) := by
    intro hs r
    induction r with
    | nil =>
      intro i acc p h ha hp hil
      have hi := List.drop_eq_nil_iff.1 h
      refine Ev.succ ?_
      simp only [spec_PackPages.l0, packM]
      refine Ev.neg (drop_nil_lt h) ?_
      by_cases hz : p.length > 0
      · rw [if_pos hz]
        refine Ev.pos (by omega) ?_
        exact Ev.pos (by omega) (Ev.now _)
      · rw [if_neg hz]
        exact Ev.neg (by omega) (Ev.now _)
    | cons x r ih =>
      intro i acc p h ha hp hil
      obtain ⟨h1, h2, h3⟩ := rdI h
      refine Ev.succ ?_
      simp only [spec_PackPages.l0, h2, nxt (show l.length ≤ 4611686018427387904 by omega) h1]
      refine Ev.pos h1 (Ev.pos (Int.natCast_nonneg _) (Ev.bind (spec_WouldOverflow_ev p (by omega) _ _ _) ?_))
      simp only [packM]
      by_cases hz : tcM p 0 + cost (x.f0, x.f1, x.f2) > 8
      · rw [if_pos hz]
        refine Ev.pos (by simpa using hz) (Ev.pos (by omega) (Ev.pos (by simp) ?_))
        exact ih (i + 1) _ _ h3 (by simp only [List.length_append, List.length_cons, List.length_nil]; omega) (by simp) (by omega)
      · rw [if_neg hz]
        refine Ev.neg (by simpa using hz) (Ev.pos (by omega) ?_)
        exact ih (i + 1) _ _ h3 (by omega) (by simp only [List.length_append, List.length_cons, List.length_nil]; omega) (by omega)
  simp only [spec_PackPages.f, Option.bind_some]
  refine Ev.bind (spec_AreValidRows_ev l (by omega)) ?_
  unfold packs
  by_cases hv : avM l = true
  · rw [if_pos hv]
    exact Ev.pos hv (key (avM_len hv) l 0 [] [] rfl (Nat.le_refl _) (Nat.le_refl _) (Nat.zero_le _))
  · rw [if_neg hv]
    exact Ev.neg hv (Ev.now _)
theorem impl_allValid_ev (l : List S42) (hl : l.length ≤ 4611686018427387904) : Ev (fun k => impl_allValid.f k l) (allV l) := by
  have key : ∀ (r : List S42) (i : Nat), l.drop i = r → Ev (fun k => impl_allValid.l0 k l (l.length : Int) (i : Int)) (allV r) := by
    intro r
    induction r with
    | nil =>
      intro i h
      refine Ev.succ ?_
      simp only [impl_allValid.l0]
      exact Ev.neg (drop_nil_lt h) (Ev.now' (by simp [allV]))
    | cons x r ih =>
      intro i h
      obtain ⟨h1, h2, h3⟩ := rdI h
      refine Ev.succ ?_
      simp only [impl_allValid.l0, h2, nxt hl h1, impl_IsValidRow_f, Option.bind_some]
      refine Ev.pos h1 (Ev.pos (Int.natCast_nonneg _) (Ev.pos h1 ?_))
      by_cases hv : vrow (x.f0, x.f1, x.f2) = true
      · refine Ev.pos hv ?_
        have e : allV (x :: r) = allV r := by simp [allV, hv]
        rw [e]; exact ih (i + 1) h3
      · exact Ev.neg hv (Ev.now' (by simp [allV, hv]))
  exact key l 0 rfl
theorem impl_AreValidRows_ev (l : List S42) (hl : l.length ≤ 4611686018427387904) : Ev (fun k => impl_AreValidRows.f k l) (avM l) := by
  simp only [impl_AreValidRows.f]
  unfold avM
  by_cases h : (l.length : Int) ≤ 24
  · refine Ev.pos h (Ev.tl (impl_allValid_ev l hl) ?_)
    simp [h]
  · exact Ev.neg h (Ev.now' (by simp [h]))
theorem last_len {α : Type} (a : List α) (p : α) : wrap64 (((a ++ [p]).length : Int) - 1) = wrap64 ((a.length : Nat) : Int) := by
  rw [List.length_append, List.length_singleton]; congr 1; omega
theorem impl_PackPages_ev (l : List S42) (hl : l.length ≤ 1048576) : Ev (fun k => impl_PackPages.f k l) (packs l) := by
  have key : l.length ≤ 24 → ∀ (r : List S42) (i : Nat) (acc : List S39) (p : List S42), l.drop i = r → acc.length ≤ i → p.length ≤ i → i ≤ l.length → p ≠ [] → Ev (fun k => impl_PackPages.l0 k (acc ++ [⟨p⟩]) l (l.length : Int) (i : Int)) (packM r acc p) := by
    intro hs r
    induction r with
    | nil =>
      intro i acc p h ha hp hil hne
      refine Ev.succ ?_
      simp only [impl_PackPages.l0, packM]
      rw [if_pos (List.length_pos_iff.2 hne)]
      exact Ev.neg (drop_nil_lt h) (Ev.now _)
    | cons x r ih =>
      intro i acc p h ha hp hil hne
      obtain ⟨h1, h2, h3⟩ := rdI h
      have e : wrap64 (((acc ++ [(⟨p⟩ : S39)]).length : Int) - 1) = (acc.length : Int) := by rw [last_len, w64 (by omega) (by omega)]
      refine Ev.succ ?_
      simp only [impl_PackPages.l0, h2, nxt (show l.length ≤ 4611686018427387904 by omega) h1]
      refine Ev.pos h1 (Ev.pos (Int.natCast_nonneg _) (Ev.pos h1 (Ev.neg (by simp only [List.length_append, List.length_cons, List.length_nil]; omega) ?_)))
      have hw := impl_WouldOverflow_ev p (by omega) x.f0 x.f1 x.f2
      refine Ev.pos (by rw [e]; exact Int.natCast_nonneg _) (Ev.pos (by rw [e]; simp only [List.length_append, List.length_cons, List.length_nil]; omega) (Ev.bind (a := decide (tcM p 0 + cost (x.f0, x.f1, x.f2) > 8)) (by simp only [e, rd_atP]; exact hw) ?_))
      simp only [packM]
      by_cases hz : tcM p 0 + cost (x.f0, x.f1, x.f2) > 8
      · rw [if_pos hz]
        refine Ev.pos (by simpa using hz) (Ev.pos (by simp only [List.length_append, List.length_cons, List.length_nil]; omega) ?_)
        simp only [Option.bind_some]
        have e2 : wrap64 (((acc ++ [(⟨p⟩ : S39)] ++ [(⟨[]⟩ : S39)]).length : Int) - 1) = ((acc ++ [(⟨p⟩ : S39)]).length : Int) := by rw [last_len]; exact w64 (by omega) (by simp only [List.length_append, List.length_cons, List.length_nil]; omega)
        simp only [e2, rd_atP, set_atP]
        refine Ev.pos (Int.natCast_nonneg _) (Ev.pos (by simp only [List.length_append, List.length_cons, List.length_nil]; omega) (Ev.pos (by simp) ?_))
        exact ih (i + 1) (acc ++ [⟨p⟩]) [x] h3 (by simp only [List.length_append, List.length_cons, List.length_nil]; omega) (by simp) (by omega) (by simp)
      · rw [if_neg hz]
        refine Ev.neg (by simpa using hz) ?_
        simp only [e, rd_atP, set_atP]
        refine Ev.pos (by omega) ?_
        exact ih (i + 1) acc (p ++ [x]) h3 (by omega) (by simp only [List.length_append, List.length_cons, List.length_nil]; omega) (by omega) (by simp)
  simp only [impl_PackPages.f]
  refine Ev.bind (impl_AreValidRows_ev l (by omega)) ?_
  unfold packs
  by_cases hv : avM l = true
  · rw [if_pos hv]
    refine Ev.pos hv ?_
    have hs := avM_len hv
    cases l with
    | nil =>
      refine Ev.succ ?_
      simp only [impl_PackPages.l0, packM]
      exact Ev.neg (by simp) (Ev.now' (by simp))
    | cons x r =>
      obtain ⟨h1, h2, h3⟩ := rdI (show (x :: r).drop 0 = x :: r from rfl)
      have h2' : rd_T42 (x :: r) 0 = x := h2
      have hc := cost_bd (x.f0, x.f1, x.f2)
      refine Ev.succ ?_
      simp only [impl_PackPages.l0, h2', show wrap64 (0 + 1) = ((0 + 1 : Nat) : Int) from by rw [w64 (by omega) (by omega)]; rfl]
      simp only [packM]
      rw [if_neg (by simp only [tcM]; omega)]
      refine Ev.pos h1 (Ev.pos (Int.le_refl _) (Ev.pos h1 (Ev.pos (by simp) (Ev.pos (by simp) ?_))))
      simp only [Option.bind_some]
      have e2 : wrap64 ((([] ++ [(⟨[]⟩ : S39)] : List S39).length : Int) - 1) = (([] : List S39).length : Int) := by rw [last_len]; exact w64 (by omega) (by simp)
      have e3 : rd_T39 ([] ++ [(⟨[]⟩ : S39)]) (([] : List S39).length : Int) = ⟨[]⟩ := rfl
      simp only [e2, e3]
      refine Ev.pos (Int.natCast_nonneg _) (Ev.pos (by simp) (Ev.pos (by simp) ?_))
      exact key hs r 1 [] [x] rfl (by simp) (by simp) (by simp) (by simp)
  · rw [if_neg hv]
    exact Ev.neg hv (Ev.now _)
theorem FnExactPackPages {G : Prop} (l : List S65) (g : l.length ≤ 9223372036854775807 ∧ G) : ∃ k, laws_FnExactPackPages.OK k l := by
  by_cases hl : (l.length : Int) ≤ 1048576
  · have hn : (l.map cvR).length ≤ 1048576 := by rw [map_len]; omega
    obtain ⟨K1, e1⟩ := toRowS_ev l hl
    obtain ⟨K2, e2⟩ := spec_PackPages_ev _ hn
    obtain ⟨K3, e3⟩ := impl_PackPages_ev _ hn
    have hp : (packs (l.map cvR)).length ≤ 1048577 ∧ ∀ x ∈ packs (l.map cvR), x.f0.length ≤ 1048576 := by
      unfold packs
      split
      · have h1 := packM_len (l.map cvR) [] []
        simp only [List.length_nil] at h1
        exact ⟨by omega, packM_small 1048576 _ [] [] (by simp only [List.length_nil]; omega) (by simp)⟩
      · exact ⟨by simp, by simp⟩
    generalize packs (l.map cvR) = p at e2 e3 hp
    have ht := tot_le p 1048576 hp.2
    have ht2 : 1048576 * p.length ≤ 1048576 * 1048577 := Nat.mul_le_mul_left _ hp.1
    obtain ⟨K4, e4⟩ := eqPageS_ev p (by omega) (fun x hx => by have := hp.2 x hx; omega)
    obtain ⟨K5, e5⟩ := eqRowS_ev (l.map cvR) (by omega)
    obtain ⟨K6, e6⟩ := markRowS_ev (l.map cvR) hn 1 (by omega) (by omega)
    obtain ⟨K7, e7⟩ := markPageS_ev2 p hp.1 (by omega) hp.2 1 (by omega) (by omega)
    obtain ⟨K8, e8⟩ := heldPageS_ev p hp.1 (by omega) hp.2 1 (by omega) (by omega)
    exact ⟨K1 + K2 + K3 + K4 + K5 + K6 + K7 + K8, .inr ⟨_, _, _, _, _, _, _, _, szRowS_small l _ (Int.le_refl _) hl, e1 _ (by omega), e2 _ (by omega), e3 _ (by omega), e4 _ (by omega), e5 _ (by omega), e6 _ (by omega), e7 _ (by omega), e8 _ (by omega), by omega, by omega, by omega⟩⟩
  · exact ⟨0, .inl ⟨_, szRowS_big l _ g.1 (by omega) (Int.le_refl _) hl, by omega⟩⟩

end Go.Proofs.Ytljpfogplcdcjaa.Pure
