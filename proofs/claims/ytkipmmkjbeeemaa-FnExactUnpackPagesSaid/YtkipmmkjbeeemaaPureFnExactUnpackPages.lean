/- The program's UnpackPages answers as the reference's does, for all arguments that the statement lets in; no further condition. -/
import Derived.Test.YtkipmmkjbeeemaaQFnExactUnpackPagesx5
import Derived.Test.YtkipmmkjbeeemaaCore
namespace Go.Proofs.Ytkipmmkjbeeemaa.Pure
open Go.RowKit Go.Proofs.Ytkipmmkjbeeemaa.PFnExactUnpackPages Go.Proofs.YtkipmmkjbeeemaaW.PrintWords Go.Proofs.YtkipmmkjbeeemaaW.PrintLast Go.Proofs.YtkipmmkjbeeemaaW.PrintMore Go.Proofs.Ytkipmmkjbeeemaa.Core
set_option linter.unusedVariables false
set_option linter.unusedSimpArgs false

theorem drop_nil_lt {α : Type} {l : List α} {i : Nat} (h : l.drop i = []) : ¬ (i : Int) < (l.length : Int) := by
  have := List.drop_eq_nil_iff.1 h
  omega
theorem rdI {l : List S33} {i : Nat} {b : S33} {r : List S33} (h : l.drop i = b :: r) : (i : Int) < (l.length : Int) ∧ rd_T33 l (i : Int) = b ∧ l.drop (i + 1) = r := by
  obtain ⟨hi, h1, h2⟩ := drop_split h
  refine ⟨by omega, ?_, h2⟩
  unfold rd_T33
  rw [Int.toNat_natCast, List.getD_eq_getElem?_getD, List.getElem?_eq_getElem hi, h1]; rfl
theorem nxt {n i : Nat} (hn : n ≤ 4611686018427387904) (h : (i : Int) < (n : Int)) : wrap64 ((i : Int) + 1) = ((i + 1 : Nat) : Int) := by
  rw [w64 (by omega) (by omega)]; omega
theorem eqRow_f (a b c : Int) : laws_eqRow.f a b c a b c = some true := by simp [laws_eqRow.f]
theorem eqRowS_ev (l : List S33) (hl : l.length ≤ 4611686018427387904) : Ev (fun k => laws_eqRowS.f k l l) true := by
  have key : ∀ (r : List S33) (i : Nat), l.drop i = r → Ev (fun k => laws_eqRowS.l0 k l l (i : Int)) true := by
    intro r
    induction r with
    | nil =>
      intro i h
      refine Ev.succ ?_
      simp only [laws_eqRowS.l0]
      exact Ev.neg (drop_nil_lt h) (Ev.now _)
    | cons b r ih =>
      intro i h
      obtain ⟨h1, h2, h3⟩ := rdI h
      refine Ev.succ ?_
      simp only [laws_eqRowS.l0, eqRow_f, Option.bind_some, if_true, nxt hl h1]
      exact Ev.pos h1 (Ev.pos (Int.natCast_nonneg _) (Ev.pos h1 (ih (i + 1) h3)))
  simp only [laws_eqRowS.f, if_true]
  exact key l 0 rfl
theorem eqPage_ev (l : List S33) (hl : l.length ≤ 4611686018427387904) : Ev (fun k => laws_eqPage.f k l l) true := by
  simp only [laws_eqPage.f]
  exact Ev.tl (eqRowS_ev l hl) rfl
theorem rdT31 {l : List S31} {i : Nat} {b : S31} {r : List S31} (h : l.drop i = b :: r) : (i : Int) < (l.length : Int) ∧ rd_T31 l (i : Int) = b ∧ l.drop (i + 1) = r := by
  obtain ⟨hi, h1, h2⟩ := drop_split h
  refine ⟨by omega, ?_, h2⟩
  unfold rd_T31
  rw [Int.toNat_natCast, List.getD_eq_getElem?_getD, List.getElem?_eq_getElem hi, h1]; rfl
theorem eqPageS_ev (l : List S31) (hl : l.length ≤ 4611686018427387904) (hp : ∀ x ∈ l, x.f0.length ≤ 4611686018427387904) : Ev (fun k => laws_eqPageS.f k l l) true := by
  have key : ∀ (r : List S31) (i : Nat), l.drop i = r → (∀ x ∈ r, x.f0.length ≤ 4611686018427387904) → Ev (fun k => laws_eqPageS.l0 k l l (i : Int)) true := by
    intro r
    induction r with
    | nil =>
      intro i h hr
      refine Ev.succ ?_
      simp only [laws_eqPageS.l0]
      exact Ev.neg (drop_nil_lt h) (Ev.now _)
    | cons b r ih =>
      intro i h hr
      obtain ⟨h1, h2, h3⟩ := rdT31 h
      refine Ev.succ ?_
      simp only [laws_eqPageS.l0, h2, nxt hl h1]
      refine Ev.pos h1 (Ev.pos (Int.natCast_nonneg _) (Ev.pos h1 (Ev.bind (eqPage_ev b.f0 (hr b (by simp))) ?_)))
      exact Ev.pos (by trivial) (ih (i + 1) h3 (fun y hy => hr y (by simp [hy])))
  simp only [laws_eqPageS.f, if_true]
  exact key l 0 rfl hp
def mkRow (n : Int) : S33 := ⟨n, n + 1, n + 2⟩
/-- n rows numbered from k on. -/
def mkRows : Nat → Int → List S33
  | 0, _ => []
  | n + 1, k => mkRow k :: mkRows n (k + 3)
theorem mkRows_len : ∀ (n : Nat) (k : Int), (mkRows n k).length = n
  | 0, _ => rfl
  | n + 1, k => by simp [mkRows, mkRows_len n]
theorem rd_at (d : List S33) (x : S33) (r : List S33) : rd_T33 (d ++ x :: r) (d.length : Int) = x := by
  unfold rd_T33
  rw [Int.toNat_natCast, List.getD_eq_getElem?_getD, List.getElem?_append_right (Nat.le_refl _), Nat.sub_self]; rfl
theorem set_at (d : List S33) (x y : S33) (r : List S33) : (d ++ x :: r).set (d.length : Int).toNat y = d ++ y :: r := by
  rw [Int.toNat_natCast, List.set_append_right _ _ (Nat.le_refl _), Nat.sub_self, List.set_cons_zero]
theorem markRowS_ev (l : List S33) (hl : l.length ≤ 1048576) (k0 : Int) (h0 : 0 ≤ k0) (h1 : k0 ≤ 4611686018427387904) : Ev (fun k => laws_markRowS.f k l k0) (k0 + 3 * l.length, mkRows l.length k0) := by
  have key : ∀ (r d : List S33) (n : Int), d.length + r.length ≤ 1048576 → 0 ≤ n → n ≤ 4611686018427387904 + 3 * d.length → Ev (fun k => laws_markRowS.l0 k (d ++ r) n (d.length : Int)) (n + 3 * r.length, d ++ mkRows r.length n) := by
    intro r
    induction r with
    | nil =>
      intro d n hd hn hn2
      refine Ev.succ ?_
      simp only [laws_markRowS.l0]
      exact Ev.neg (by simp) (Ev.now' (by simp [mkRows]))
    | cons x r ih =>
      intro d n hd hn hn2
      simp only [List.length_cons] at hd
      refine Ev.succ ?_
      have e1 : wrap64 (n + 1) = n + 1 := w64 (by omega) (by omega)
      have e2 : wrap64 (n + 1 + 1) = n + 1 + 1 := w64 (by omega) (by omega)
      have e3 : wrap64 (n + 1 + 1 + 1) = n + 1 + 1 + 1 := w64 (by omega) (by omega)
      have e4 : wrap64 ((d.length : Int) + 1) = ((d.length + 1 : Nat) : Int) := by rw [w64 (by omega) (by omega)]; omega
      simp only [laws_markRowS.l0, e1, e2, e3, e4, rd_at, set_at, Option.bind_some]
      refine Ev.pos (by simp only [List.length_append, List.length_cons]; omega) (Ev.pos (Int.natCast_nonneg _) ?_)
      have := ih (d ++ [⟨n, n + 1, n + 1 + 1⟩]) (n + 1 + 1 + 1) (by simp only [List.length_append, List.length_cons, List.length_nil]; omega) (by omega) (by simp only [List.length_append, List.length_cons, List.length_nil]; omega)
      have e5 : n + 1 + 1 + 1 + 3 * (r.length : Int) = n + 3 * ((x :: r).length : Int) := by simp only [List.length_cons]; omega
      have e6 : (d ++ [⟨n, n + 1, n + 1 + 1⟩]) ++ mkRows r.length (n + 1 + 1 + 1) = d ++ mkRows (x :: r).length n := by
        simp only [List.length_cons, mkRows, mkRow, List.append_assoc, List.cons_append, List.nil_append, Int.add_assoc]; rfl
      rw [e5, e6] at this
      simpa using this
  have := key l [] k0 (by simpa using hl) h0 (by simp; omega)
  exact this
theorem heldRowS_ev (m : Nat) (hm : m ≤ 1048576) (k0 : Int) (h0 : 0 ≤ k0) (h1 : k0 ≤ 4611686018427387904) : Ev (fun k => laws_heldRowS.f k (mkRows m k0) k0) (k0 + 3 * m) := by
  have key : ∀ (r : Nat) (d : List S33) (n : Int), d.length + r ≤ 1048576 → 0 ≤ n → n ≤ 4611686018427387904 + 3 * d.length → Ev (fun k => laws_heldRowS.l0 k (d ++ mkRows r n) n (d.length : Int)) (n + 3 * r) := by
    intro r
    induction r with
    | zero =>
      intro d n hd hn hn2
      refine Ev.succ ?_
      simp only [laws_heldRowS.l0]
      exact Ev.neg (by simp [mkRows]) (Ev.now' (by omega))
    | succ r ih =>
      intro d n hd hn hn2
      refine Ev.succ ?_
      have e1 : wrap64 (n + 1) = n + 1 := w64 (by omega) (by omega)
      have e2 : wrap64 (n + 1 + 1) = n + 1 + 1 := w64 (by omega) (by omega)
      have e3 : wrap64 (n + 1 + 1 + 1) = n + 1 + 1 + 1 := w64 (by omega) (by omega)
      have e4 : wrap64 ((d.length : Int) + 1) = ((d.length + 1 : Nat) : Int) := by rw [w64 (by omega) (by omega)]; omega
      simp only [laws_heldRowS.l0, e1, e2, e3, e4, mkRows, mkRow, rd_at]
      refine Ev.pos (by simp only [List.length_append, List.length_cons]; omega) (Ev.pos (Int.natCast_nonneg _) ?_)
      refine Ev.pos (by trivial) (Ev.pos (by trivial) (Ev.pos (by omega) ?_))
      have := ih (d ++ [⟨n, n + 1, n + 2⟩]) (n + 1 + 1 + 1) (by simp only [List.length_append, List.length_cons, List.length_nil]; omega) (by omega) (by simp only [List.length_append, List.length_cons, List.length_nil]; omega)
      have e5 : n + 1 + 1 + 1 + 3 * (r : Int) = n + 3 * ((r + 1 : Nat) : Int) := by omega
      have e6 : n + 1 + 1 + 1 = n + 3 := by omega
      rw [e5] at this
      rw [e6] at this ⊢
      simpa using this
  exact key m [] k0 (by simpa using hm) h0 (by simp; omega)
theorem toRow_f (a b c : Int) : laws_toRow.f a b c = some (a, b, c) := rfl
def cvR (x : S26) : S33 := ⟨x.f0, x.f1, x.f2⟩
def tup (x : S33) : Int × Int × Int := (x.f0, x.f1, x.f2)
theorem rdL {l : List S26} {i : Nat} {b : S26} {r : List S26} (h : l.drop i = b :: r) : (i : Int) < (l.length : Int) ∧ rd_T26 l (i : Int) = b ∧ l.drop (i + 1) = r := by
  obtain ⟨hi, h1, h2⟩ := drop_split h
  refine ⟨by omega, ?_, h2⟩
  unfold rd_T26
  rw [Int.toNat_natCast, List.getD_eq_getElem?_getD, List.getElem?_eq_getElem hi, h1]; rfl
theorem szRowS_small (l : List S26) (a : Int) (ha : a ≤ 1048576) (h : (l.length : Int) ≤ a) : laws_szRowS.f l a = some (a - l.length) := by
  unfold laws_szRowS.f
  rw [w64 (by omega) (by omega), if_neg (by omega)]
theorem szRowS_big (l : List S26) (a : Int) (hl : l.length ≤ 9223372036854775807) (h0 : 0 ≤ a) (ha : a ≤ 1048576) (h : ¬ (l.length : Int) ≤ a) : laws_szRowS.f l a = some (-1) := by
  unfold laws_szRowS.f
  rw [w64 (by omega) (by omega), if_pos (by omega)]
theorem toRowS_ev (l : List S26) (hl : (l.length : Int) ≤ 1048576) : Ev (fun k => laws_toRowS.f k l) (l.map cvR) := by
  have key : ∀ (r : List S26) (d : List S33), l.drop d.length = r → Ev (fun k => laws_toRowS.l0 k l (d ++ List.replicate r.length z33) (d.length : Int)) (d ++ r.map cvR) := by
    intro r
    induction r with
    | nil =>
      intro d h
      refine Ev.succ ?_
      simp only [laws_toRowS.l0, List.length_nil, List.replicate_zero, List.append_nil, List.map_nil]
      exact Ev.neg (drop_nil_lt h) (Ev.now _)
    | cons b r ih =>
      intro d h
      obtain ⟨h1, h2, h3⟩ := rdL h
      refine Ev.succ ?_
      simp only [laws_toRowS.l0, h2, toRow_f, Option.bind_some, nxt (show l.length ≤ 4611686018427387904 by omega) h1]
      refine Ev.pos h1 (Ev.pos (Int.natCast_nonneg _) (Ev.pos ?_ ?_))
      · simp only [List.length_append, List.length_replicate, List.length_cons]; omega
      · have e : (d ++ List.replicate (b :: r).length z33).set (d.length : Int).toNat ⟨b.f0, b.f1, b.f2⟩ = (d ++ [cvR b]) ++ List.replicate r.length z33 := by
          rw [Int.toNat_natCast, List.set_append_right _ _ (Nat.le_refl _), Nat.sub_self, List.length_cons, List.replicate_succ, List.set_cons_zero, List.append_assoc]
          rfl
        rw [e]
        have := ih (d ++ [cvR b]) (by simpa using h3)
        simpa using this
  have := key l [] rfl
  simp only [laws_toRowS.f]
  refine Ev.pos (by omega) (Ev.pos (by omega) ?_)
  simpa using this
theorem map_len (l : List S26) : (l.map cvR).length = l.length := List.length_map ..
theorem szPage_small (l : List S26) (a : Int) (ha : a ≤ 1048576) (h : (l.length : Int) ≤ a) : laws_szPage.f l a = some (a - l.length) := by
  simp only [laws_szPage.f, szRowS_small l a ha h, Option.bind_some]
  rw [if_neg (by omega)]
theorem szPage_big (l : List S26) (a : Int) (hl : l.length ≤ 9223372036854775807) (h0 : 0 ≤ a) (ha : a ≤ 1048576) (h : ¬ (l.length : Int) ≤ a) : laws_szPage.f l a = some (-1) := by
  simp only [laws_szPage.f, szRowS_big l a hl h0 ha h, Option.bind_some]
  rw [if_pos (by omega)]
theorem toPage_ev (l : List S26) (hl : (l.length : Int) ≤ 1048576) : Ev (fun k => laws_toPage.f k l) (l.map cvR) := by
  simp only [laws_toPage.f]
  exact Ev.tl (toRowS_ev l hl) rfl
theorem rdT24 {l : List S24} {i : Nat} {b : S24} {r : List S24} (h : l.drop i = b :: r) : (i : Int) < (l.length : Int) ∧ rd_T24 l (i : Int) = b ∧ l.drop (i + 1) = r := by
  obtain ⟨hi, h1, h2⟩ := drop_split h
  refine ⟨by omega, ?_, h2⟩
  unfold rd_T24
  rw [Int.toNat_natCast, List.getD_eq_getElem?_getD, List.getElem?_eq_getElem hi, h1]; rfl
def cvP (x : S24) : S31 := ⟨x.f0.map cvR⟩
def SmP (l : List S24) : Prop := (l.length : Int) ≤ 1048576 ∧ ∀ x ∈ l, (x.f0.length : Int) ≤ 1048576
theorem szPageS_ev (l : List S24) (h0 : l.length ≤ 9223372036854775807) (h : ∀ x ∈ l, x.f0.length ≤ 9223372036854775807) (a : Int) (ha0 : 0 ≤ a) (ha : a ≤ 1048576) :
    ∃ t, Ev (fun k => laws_szPageS.f k l a) t ∧ t ≤ a ∧ (0 ≤ t → SmP l) := by
  have key : ∀ (r : List S24) (i : Nat) (a : Int), l.length ≤ 1048576 → l.drop i = r → (∀ x ∈ r, x.f0.length ≤ 9223372036854775807) → 0 ≤ a → a ≤ 1048576 →
      ∃ t, Ev (fun k => laws_szPageS.l0 k l a (i : Int)) t ∧ t ≤ a ∧ (0 ≤ t → ∀ x ∈ r, (x.f0.length : Int) ≤ 1048576) := by
    intro r
    induction r with
    | nil =>
      intro i a hl hd hr ha0 ha
      refine ⟨a, Ev.succ ?_, Int.le_refl _, fun _ x hx => by simp at hx⟩
      simp only [laws_szPageS.l0]
      exact Ev.neg (drop_nil_lt hd) (Ev.now _)
    | cons x r ih =>
      intro i a hl hd hr ha0 ha
      obtain ⟨h1, h2, h3⟩ := rdT24 hd
      by_cases hx : (x.f0.length : Int) ≤ a
      · obtain ⟨t, e, ht, hs⟩ := ih (i + 1) (a - x.f0.length) hl h3 (fun y hy => hr y (by simp [hy])) (by omega) (by omega)
        refine ⟨t, Ev.succ ?_, by omega, fun h0 y hy => ?_⟩
        · simp only [laws_szPageS.l0, h2, szPage_small x.f0 a ha hx, Option.bind_some, nxt (show l.length ≤ 4611686018427387904 by omega) h1]
          exact Ev.pos h1 (Ev.pos (Int.natCast_nonneg _) (Ev.neg (by omega) e))
        · rcases List.mem_cons.1 hy with rfl | hy
          · omega
          · exact hs h0 y hy
      · refine ⟨-1, Ev.succ ?_, by omega, fun h0 => by omega⟩
        simp only [laws_szPageS.l0, h2, szPage_big x.f0 a (hr x (by simp)) ha0 ha hx, Option.bind_some]
        exact Ev.pos h1 (Ev.pos (Int.natCast_nonneg _) (Ev.pos (by omega) (Ev.now _)))
  by_cases hl : (l.length : Int) ≤ a
  · obtain ⟨t, e, ht, hs⟩ := key l 0 (a - l.length) (by omega) rfl h (by omega) (by omega)
    refine ⟨t, ?_, by omega, fun h0 => ⟨by omega, hs h0⟩⟩
    simp only [laws_szPageS.f, w64 (x := a - (l.length : Int)) (by omega) (by omega)]
    exact Ev.neg (by omega) e
  · refine ⟨-1, ?_, by omega, fun h0 => by omega⟩
    simp only [laws_szPageS.f, w64 (x := a - (l.length : Int)) (by omega) (by omega)]
    exact Ev.pos (by omega) (Ev.now _)
theorem toPageS_ev (l : List S24) (hs : SmP l) : Ev (fun k => laws_toPageS.f k l) (l.map cvP) := by
  have hl := hs.1
  have key : ∀ (r : List S24) (d : List S31), l.drop d.length = r → (∀ x ∈ r, (x.f0.length : Int) ≤ 1048576) → Ev (fun k => laws_toPageS.l0 k l (d ++ List.replicate r.length z31) (d.length : Int)) (d ++ r.map cvP) := by
    intro r
    induction r with
    | nil =>
      intro d h hr
      refine Ev.succ ?_
      simp only [laws_toPageS.l0, List.length_nil, List.replicate_zero, List.append_nil, List.map_nil]
      exact Ev.neg (drop_nil_lt h) (Ev.now _)
    | cons b r ih =>
      intro d h hr
      obtain ⟨h1, h2, h3⟩ := rdT24 h
      refine Ev.succ ?_
      simp only [laws_toPageS.l0, h2, nxt (show l.length ≤ 4611686018427387904 by omega) h1]
      refine Ev.pos h1 (Ev.pos (Int.natCast_nonneg _) (Ev.bind (toPage_ev b.f0 (hr b (by simp))) (Ev.pos ?_ ?_)))
      · simp only [List.length_append, List.length_replicate, List.length_cons]; omega
      · have e : (d ++ List.replicate (b :: r).length z31).set (d.length : Int).toNat ⟨b.f0.map cvR⟩ = (d ++ [cvP b]) ++ List.replicate r.length z31 := by
          rw [Int.toNat_natCast, List.set_append_right _ _ (Nat.le_refl _), Nat.sub_self, List.length_cons, List.replicate_succ, List.set_cons_zero, List.append_assoc]
          rfl
        rw [e]
        have := ih (d ++ [cvP b]) (by simpa using h3) (fun y hy => hr y (by simp [hy]))
        simpa using this
  have := key l [] rfl hs.2
  simp only [laws_toPageS.f]
  refine Ev.pos (by omega) (Ev.pos (by omega) ?_)
  simpa using this
def tot : List S31 → Nat
  | [] => 0
  | x :: r => x.f0.length + tot r
def mkPages : List S31 → Int → List S31
  | [], _ => []
  | x :: r, k => ⟨mkRows x.f0.length k⟩ :: mkPages r (k + 3 * x.f0.length)
theorem mkPages_len : ∀ (l : List S31) (k : Int), (mkPages l k).length = l.length
  | [], _ => rfl
  | x :: r, k => by simp [mkPages, mkPages_len r]
theorem rd_atP (d : List S31) (x : S31) (r : List S31) : rd_T31 (d ++ x :: r) (d.length : Int) = x := by
  unfold rd_T31
  rw [Int.toNat_natCast, List.getD_eq_getElem?_getD, List.getElem?_append_right (Nat.le_refl _), Nat.sub_self]; rfl
theorem set_atP (d : List S31) (x y : S31) (r : List S31) : (d ++ x :: r).set (d.length : Int).toNat y = d ++ y :: r := by
  rw [Int.toNat_natCast, List.set_append_right _ _ (Nat.le_refl _), Nat.sub_self, List.set_cons_zero]
theorem markPageS_ev (l : List S31) (hl : l.length ≤ 1048576) (ht : tot l ≤ 1048576) (k0 : Int) (h0 : 0 ≤ k0) (h1 : k0 ≤ 2305843009213693952) : Ev (fun k => laws_markPageS.f k l k0) (k0 + 3 * tot l, mkPages l k0) := by
  have key : ∀ (r d : List S31) (n : Int), d.length + r.length ≤ 1048576 → tot r ≤ 1048576 → 0 ≤ n → n + 3 * tot r ≤ 4611686018427387904 → Ev (fun k => laws_markPageS.l0 k (d ++ r) n (d.length : Int)) (n + 3 * tot r, d ++ mkPages r n) := by
    intro r
    induction r with
    | nil =>
      intro d n hd ht hn hn2
      refine Ev.succ ?_
      simp only [laws_markPageS.l0]
      exact Ev.neg (by simp) (Ev.now' (by simp [mkPages, tot]))
    | cons x r ih =>
      intro d n hd ht hn hn2
      simp only [List.length_cons] at hd
      simp only [tot] at ht hn2
      refine Ev.succ ?_
      have e4 : wrap64 ((d.length : Int) + 1) = ((d.length + 1 : Nat) : Int) := by rw [w64 (by omega) (by omega)]; omega
      simp only [laws_markPageS.l0, e4, rd_atP, set_atP]
      refine Ev.pos (by simp only [List.length_append, List.length_cons]; omega) (Ev.pos (Int.natCast_nonneg _) (Ev.bind (markRowS_ev x.f0 (by omega) n hn (by omega)) ?_))
      have := ih (d ++ [⟨mkRows x.f0.length n⟩]) (n + 3 * x.f0.length) (by simp only [List.length_append, List.length_cons, List.length_nil]; omega) (by omega) (by omega) (by omega)
      have e5 : n + 3 * (x.f0.length : Int) + 3 * (tot r : Int) = n + 3 * (tot (x :: r) : Int) := by simp only [tot]; omega
      have e6 : (d ++ [⟨mkRows x.f0.length n⟩]) ++ mkPages r (n + 3 * x.f0.length) = d ++ mkPages (x :: r) n := by
        simp only [mkPages, List.append_assoc, List.cons_append, List.nil_append]
      rw [e5, e6] at this
      simpa using this
  have := key l [] k0 (by simpa using hl) ht h0 (by omega)
  exact this
def flat : List S31 → List S33
  | [] => []
  | x :: r => x.f0 ++ flat r
theorem flat_len : ∀ l : List S31, (flat l).length = tot l
  | [] => rfl
  | x :: r => by simp [flat, tot, flat_len r]
theorem spec_Unpack_ev (l : List S31) (hl : l.length ≤ 1048576) (ht : tot l ≤ 1048576) : Ev (fun k => spec_UnpackPages.f k l) (flat l) := by
  have key : ∀ (r : List S31) (i : Nat) (d : List S33), l.drop i = r → d.length + tot r ≤ 1048576 → Ev (fun k => spec_UnpackPages.l0 k l d (i : Int)) (d ++ flat r) := by
    intro r
    induction r with
    | nil =>
      intro i d h hd
      refine Ev.succ ?_
      simp only [spec_UnpackPages.l0]
      exact Ev.neg (drop_nil_lt h) (Ev.now' (by simp [flat]))
    | cons b r ih =>
      intro i d h hd
      obtain ⟨h1, h2, h3⟩ := rdT31 h
      simp only [tot] at hd
      refine Ev.succ ?_
      simp only [spec_UnpackPages.l0, h2, nxt (show l.length ≤ 4611686018427387904 by omega) h1]
      refine Ev.pos h1 (Ev.pos (Int.natCast_nonneg _) (Ev.pos (by omega) ?_))
      have := ih (i + 1) (d ++ b.f0) h3 (by simp only [List.length_append]; omega)
      rw [flat, ← List.append_assoc]
      exact this
  have := key l 0 [] rfl (by simpa using ht)
  simpa [spec_UnpackPages.f] using this
theorem impl_Unpack_ev (l : List S31) (hl : l.length ≤ 1048576) (ht : tot l ≤ 1048576) : Ev (fun k => impl_UnpackPages.f k l) (flat l) := by
  have key : ∀ (r : List S31) (i : Nat) (d : List S33), l.drop i = r → d.length + tot r ≤ 1048576 → Ev (fun k => impl_UnpackPages.l0 k d l (l.length : Int) (i : Int)) (d ++ flat r) := by
    intro r
    induction r with
    | nil =>
      intro i d h hd
      refine Ev.succ ?_
      simp only [impl_UnpackPages.l0]
      exact Ev.neg (drop_nil_lt h) (Ev.now' (by simp [flat]))
    | cons b r ih =>
      intro i d h hd
      obtain ⟨h1, h2, h3⟩ := rdT31 h
      simp only [tot] at hd
      refine Ev.succ ?_
      simp only [impl_UnpackPages.l0, h2, nxt (show l.length ≤ 4611686018427387904 by omega) h1]
      refine Ev.pos h1 (Ev.pos (Int.natCast_nonneg _) (Ev.pos h1 (Ev.pos (by omega) ?_)))
      have := ih (i + 1) (d ++ b.f0) h3 (by simp only [List.length_append]; omega)
      rw [flat, ← List.append_assoc]
      exact this
  have := key l 0 [] rfl (by simpa using ht)
  simpa [impl_UnpackPages.f] using this
def totL : List S24 → Nat
  | [] => 0
  | x :: r => x.f0.length + totL r
theorem tot_map : ∀ l : List S24, tot (l.map cvP) = totL l
  | [] => rfl
  | x :: r => by simp [tot, totL, cvP, tot_map r]
theorem szPageS_tot (l : List S24) (h0 : l.length ≤ 9223372036854775807) (h : ∀ x ∈ l, x.f0.length ≤ 9223372036854775807) (a : Int) (ha0 : 0 ≤ a) (ha : a ≤ 1048576) :
    ∃ t, Ev (fun k => laws_szPageS.f k l a) t ∧ t ≤ a ∧ (0 ≤ t → SmP l ∧ (l.length : Int) + totL l + t = a) := by
  have key : ∀ (r : List S24) (i : Nat) (a : Int), l.length ≤ 1048576 → l.drop i = r → (∀ x ∈ r, x.f0.length ≤ 9223372036854775807) → 0 ≤ a → a ≤ 1048576 →
      ∃ t, Ev (fun k => laws_szPageS.l0 k l a (i : Int)) t ∧ t ≤ a ∧ (0 ≤ t → (∀ x ∈ r, (x.f0.length : Int) ≤ 1048576) ∧ (totL r : Int) + t = a) := by
    intro r
    induction r with
    | nil =>
      intro i a hl hd hr ha0 ha
      refine ⟨a, Ev.succ ?_, Int.le_refl _, fun _ => ⟨fun x hx => by simp at hx, by simp [totL]⟩⟩
      simp only [laws_szPageS.l0]
      exact Ev.neg (drop_nil_lt hd) (Ev.now _)
    | cons x r ih =>
      intro i a hl hd hr ha0 ha
      obtain ⟨h1, h2, h3⟩ := rdT24 hd
      by_cases hx : (x.f0.length : Int) ≤ a
      · obtain ⟨t, e, ht, hs⟩ := ih (i + 1) (a - x.f0.length) hl h3 (fun y hy => hr y (by simp [hy])) (by omega) (by omega)
        refine ⟨t, Ev.succ ?_, by omega, fun h0 => ⟨fun y hy => ?_, ?_⟩⟩
        · simp only [laws_szPageS.l0, h2, szPage_small x.f0 a ha hx, Option.bind_some, nxt (show l.length ≤ 4611686018427387904 by omega) h1]
          exact Ev.pos h1 (Ev.pos (Int.natCast_nonneg _) (Ev.neg (by omega) e))
        · rcases List.mem_cons.1 hy with rfl | hy
          · omega
          · exact (hs h0).1 y hy
        · have := (hs h0).2
          simp only [totL]; omega
      · refine ⟨-1, Ev.succ ?_, by omega, fun h0 => by omega⟩
        simp only [laws_szPageS.l0, h2, szPage_big x.f0 a (hr x (by simp)) ha0 ha hx, Option.bind_some]
        exact Ev.pos h1 (Ev.pos (Int.natCast_nonneg _) (Ev.pos (by omega) (Ev.now _)))
  by_cases hl : (l.length : Int) ≤ a
  · obtain ⟨t, e, ht, hs⟩ := key l 0 (a - l.length) (by omega) rfl h (by omega) (by omega)
    refine ⟨t, ?_, by omega, fun h0 => ⟨⟨by omega, (hs h0).1⟩, by have := (hs h0).2; omega⟩⟩
    simp only [laws_szPageS.f, w64 (x := a - (l.length : Int)) (by omega) (by omega)]
    exact Ev.neg (by omega) e
  · refine ⟨-1, ?_, by omega, fun h0 => by omega⟩
    simp only [laws_szPageS.f, w64 (x := a - (l.length : Int)) (by omega) (by omega)]
    exact Ev.pos (by omega) (Ev.now _)
theorem FnExactUnpackPages {G : S26 → Prop} (l : List S24) (g : l.length ≤ 9223372036854775807 ∧ ∀ x ∈ l, x.f0.length ≤ 9223372036854775807 ∧ ∀ y ∈ x.f0, G y) : ∃ k, laws_FnExactUnpackPages.OK k l := by
  obtain ⟨t, ⟨K1, e1⟩, ht, hs⟩ := szPageS_tot l g.1 (fun x hx => (g.2 x hx).1) 1048576 (by omega) (by omega)
  by_cases h0 : 0 ≤ t
  · obtain ⟨sm, hsum⟩ := hs h0
    have hx : (l.map cvP).length ≤ 1048576 := by rw [List.length_map]; omega
    have hxt : tot (l.map cvP) ≤ 1048576 := by rw [tot_map]; omega
    have hpl : ∀ x ∈ l.map cvP, x.f0.length ≤ 4611686018427387904 := by
      intro x hx
      obtain ⟨y, hy, rfl⟩ := List.mem_map.1 hx
      have := sm.2 y hy
      simp only [cvP, List.length_map]; omega
    have hfl : (flat (l.map cvP)).length ≤ 1048576 := by rw [flat_len]; exact hxt
    obtain ⟨K2, e2⟩ := toPageS_ev l sm
    obtain ⟨K3, e3⟩ := spec_Unpack_ev (l.map cvP) hx hxt
    obtain ⟨K4, e4⟩ := impl_Unpack_ev (l.map cvP) hx hxt
    obtain ⟨K5, e5⟩ := eqRowS_ev (flat (l.map cvP)) (by omega)
    obtain ⟨K6, e6⟩ := eqPageS_ev (l.map cvP) (by omega) hpl
    obtain ⟨K7, e7⟩ := markPageS_ev (l.map cvP) hx hxt 1 (by omega) (by omega)
    obtain ⟨K8, e8⟩ := markRowS_ev (flat (l.map cvP)) hfl 1 (by omega) (by omega)
    obtain ⟨K9, e9⟩ := heldRowS_ev (flat (l.map cvP)).length hfl 1 (by omega) (by omega)
    refine ⟨K1 + K2 + K3 + K4 + K5 + K6 + K7 + K8 + K9, t, e1 _ (by omega), .inr ⟨_, _, _, _, _, _, _, by omega, e2 _ (by omega), e3 _ (by omega), e4 _ (by omega), e5 _ (by omega), e6 _ (by omega), e7 _ (by omega), by omega, e8 _ (by omega), e9 _ (by omega), by omega⟩⟩
  · exact ⟨K1, t, e1 _ (Nat.le_refl _), .inl (by omega)⟩

end Go.Proofs.Ytkipmmkjbeeemaa.Pure
