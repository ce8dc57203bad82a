/- The program's SplitByHashBit answers as the reference's does, for all arguments that the statement lets in; no further condition. -/
import Derived.Test.YtkipmmkjbeeemaaPFnExactSplitByHashBitx3
import Derived.Test.YtkipmmkjbeeemaaCore
namespace Go.Proofs.Ytkipmmkjbeeemaa.Pure
open Go.RowKit Go.Proofs.Ytkipmmkjbeeemaa.PFnExactSplitByHashBit Go.Proofs.YtkipmmkjbeeemaaW.PrintWords Go.Proofs.YtkipmmkjbeeemaaW.PrintLast Go.Proofs.YtkipmmkjbeeemaaW.PrintMore Go.Proofs.Ytkipmmkjbeeemaa.Core
set_option linter.unusedVariables false
set_option linter.unusedSimpArgs false

theorem toRow_f (a b c : Int) : laws_toRow.f a b c = some (a, b, c) := rfl
def cvR (x : S26) : S33 := ⟨x.f0, x.f1, x.f2⟩
def tup (x : S33) : Int × Int × Int := (x.f0, x.f1, x.f2)
theorem drop_nil_lt {α : Type} {l : List α} {i : Nat} (h : l.drop i = []) : ¬ (i : Int) < (l.length : Int) := by
  have := List.drop_eq_nil_iff.1 h
  omega
theorem rdL {l : List S26} {i : Nat} {b : S26} {r : List S26} (h : l.drop i = b :: r) : (i : Int) < (l.length : Int) ∧ rd_T26 l (i : Int) = b ∧ l.drop (i + 1) = r := by
  obtain ⟨hi, h1, h2⟩ := drop_split h
  refine ⟨by omega, ?_, h2⟩
  unfold rd_T26
  rw [Int.toNat_natCast, List.getD_eq_getElem?_getD, List.getElem?_eq_getElem hi, h1]; rfl
theorem rdI {l : List S33} {i : Nat} {b : S33} {r : List S33} (h : l.drop i = b :: r) : (i : Int) < (l.length : Int) ∧ rd_T33 l (i : Int) = b ∧ l.drop (i + 1) = r := by
  obtain ⟨hi, h1, h2⟩ := drop_split h
  refine ⟨by omega, ?_, h2⟩
  unfold rd_T33
  rw [Int.toNat_natCast, List.getD_eq_getElem?_getD, List.getElem?_eq_getElem hi, h1]; rfl
theorem nxt {n i : Nat} (hn : n ≤ 4611686018427387904) (h : (i : Int) < (n : Int)) : wrap64 ((i : Int) + 1) = ((i + 1 : Nat) : Int) := by
  rw [w64 (by omega) (by omega)]; omega
theorem szRowS_small (l : List S26) (a : Int) (ha : a ≤ 1048576) (h : (l.length : Int) ≤ a) : laws_szRowS.f l a = some (a - l.length) := by
  unfold laws_szRowS.f
  rw [w64 (by omega) (by omega), if_neg (by omega)]
theorem szRowS_big (l : List S26) (a : Int) (hl : l.length ≤ 9223372036854775807) (h0 : 0 ≤ a) (ha : a ≤ 1048576) (h : ¬ (l.length : Int) ≤ a) : laws_szRowS.f l a = some (-1) := by
  unfold laws_szRowS.f
  rw [w64 (by omega) (by omega), if_pos (by omega)]
theorem toRowS_ev (l : List S26) (hl : (l.length : Int) ≤ 1048576) : Ev (fun k => laws_toRowS.f k l) (l.map cvR) := by
  have key : ∀ (r : List S26) (d : List S33), l.drop d.length = r → Ev (fun k => laws_toRowS.l0 k l (d ++ List.replicate r.length z33) (d.length : Int)) (d ++ r.map cvR) := by
    intro r
    induction r with
    | nil =>
      intro d h
      refine Ev.succ ?_
      simp only [laws_toRowS.l0, List.length_nil, List.replicate_zero, List.append_nil, List.map_nil]
      exact Ev.neg (drop_nil_lt h) (Ev.now _)
    | cons b r ih =>
      intro d h
      obtain ⟨h1, h2, h3⟩ := rdL h
      refine Ev.succ ?_
      simp only [laws_toRowS.l0, h2, toRow_f, Option.bind_some, nxt (show l.length ≤ 4611686018427387904 by omega) h1]
      refine Ev.pos h1 (Ev.pos (Int.natCast_nonneg _) (Ev.pos ?_ ?_))
      · simp only [List.length_append, List.length_replicate, List.length_cons]; omega
      · have e : (d ++ List.replicate (b :: r).length z33).set (d.length : Int).toNat ⟨b.f0, b.f1, b.f2⟩ = (d ++ [cvR b]) ++ List.replicate r.length z33 := by
          rw [Int.toNat_natCast, List.set_append_right _ _ (Nat.le_refl _), Nat.sub_self, List.length_cons, List.replicate_succ, List.set_cons_zero, List.append_assoc]
          rfl
        rw [e]
        have := ih (d ++ [cvR b]) (by simpa using h3)
        simpa using this
  have := key l [] rfl
  simp only [laws_toRowS.f]
  refine Ev.pos (by omega) (Ev.pos (by omega) ?_)
  simpa using this
theorem eqRow_f (a b c : Int) : laws_eqRow.f a b c a b c = some true := by simp [laws_eqRow.f]
theorem eqRowS_ev (l : List S33) (hl : l.length ≤ 4611686018427387904) : Ev (fun k => laws_eqRowS.f k l l) true := by
  have key : ∀ (r : List S33) (i : Nat), l.drop i = r → Ev (fun k => laws_eqRowS.l0 k l l (i : Int)) true := by
    intro r
    induction r with
    | nil =>
      intro i h
      refine Ev.succ ?_
      simp only [laws_eqRowS.l0]
      exact Ev.neg (drop_nil_lt h) (Ev.now _)
    | cons b r ih =>
      intro i h
      obtain ⟨h1, h2, h3⟩ := rdI h
      refine Ev.succ ?_
      simp only [laws_eqRowS.l0, eqRow_f, Option.bind_some, if_true, nxt hl h1]
      exact Ev.pos h1 (Ev.pos (Int.natCast_nonneg _) (Ev.pos h1 (ih (i + 1) h3)))
  simp only [laws_eqRowS.f, if_true]
  exact key l 0 rfl
theorem map_len (l : List S26) : (l.map cvR).length = l.length := List.length_map ..
def mkRow (n : Int) : S33 := ⟨n, n + 1, n + 2⟩
/-- n rows numbered from k on. -/
def mkRows : Nat → Int → List S33
  | 0, _ => []
  | n + 1, k => mkRow k :: mkRows n (k + 3)
theorem mkRows_len : ∀ (n : Nat) (k : Int), (mkRows n k).length = n
  | 0, _ => rfl
  | n + 1, k => by simp [mkRows, mkRows_len n]
theorem rd_at (d : List S33) (x : S33) (r : List S33) : rd_T33 (d ++ x :: r) (d.length : Int) = x := by
  unfold rd_T33
  rw [Int.toNat_natCast, List.getD_eq_getElem?_getD, List.getElem?_append_right (Nat.le_refl _), Nat.sub_self]; rfl
theorem set_at (d : List S33) (x y : S33) (r : List S33) : (d ++ x :: r).set (d.length : Int).toNat y = d ++ y :: r := by
  rw [Int.toNat_natCast, List.set_append_right _ _ (Nat.le_refl _), Nat.sub_self, List.set_cons_zero]
theorem markRowS_ev (l : List S33) (hl : l.length ≤ 1048576) (k0 : Int) (h0 : 0 ≤ k0) (h1 : k0 ≤ 4611686018427387904) : Ev (fun k => laws_markRowS.f k l k0) (k0 + 3 * l.length, mkRows l.length k0) := by
  have key : ∀ (r d : List S33) (n : Int), d.length + r.length ≤ 1048576 → 0 ≤ n → n ≤ 4611686018427387904 + 3 * d.length → Ev (fun k => laws_markRowS.l0 k (d ++ r) n (d.length : Int)) (n + 3 * r.length, d ++ mkRows r.length n) := by
    intro r
    induction r with
    | nil =>
      intro d n hd hn hn2
      refine Ev.succ ?_
      simp only [laws_markRowS.l0]
      exact Ev.neg (by simp) (Ev.now' (by simp [mkRows]))
    | cons x r ih =>
      intro d n hd hn hn2
      simp only [List.length_cons] at hd
      refine Ev.succ ?_
      have e1 : wrap64 (n + 1) = n + 1 := w64 (by omega) (by omega)
      have e2 : wrap64 (n + 1 + 1) = n + 1 + 1 := w64 (by omega) (by omega)
      have e3 : wrap64 (n + 1 + 1 + 1) = n + 1 + 1 + 1 := w64 (by omega) (by omega)
      have e4 : wrap64 ((d.length : Int) + 1) = ((d.length + 1 : Nat) : Int) := by rw [w64 (by omega) (by omega)]; omega
      simp only [laws_markRowS.l0, e1, e2, e3, e4, rd_at, set_at, Option.bind_some]
      refine Ev.pos (by simp only [List.length_append, List.length_cons]; omega) (Ev.pos (Int.natCast_nonneg _) ?_)
      have := ih (d ++ [⟨n, n + 1, n + 1 + 1⟩]) (n + 1 + 1 + 1) (by simp only [List.length_append, List.length_cons, List.length_nil]; omega) (by omega) (by simp only [List.length_append, List.length_cons, List.length_nil]; omega)
      have e5 : n + 1 + 1 + 1 + 3 * (r.length : Int) = n + 3 * ((x :: r).length : Int) := by simp only [List.length_cons]; omega
      have e6 : (d ++ [⟨n, n + 1, n + 1 + 1⟩]) ++ mkRows r.length (n + 1 + 1 + 1) = d ++ mkRows (x :: r).length n := by
        simp only [List.length_cons, mkRows, mkRow, List.append_assoc, List.cons_append, List.nil_append, Int.add_assoc]; rfl
      rw [e5, e6] at this
      simpa using this
  have := key l [] k0 (by simpa using hl) h0 (by simp; omega)
  exact this
theorem heldRowS_ev (m : Nat) (hm : m ≤ 1048576) (k0 : Int) (h0 : 0 ≤ k0) (h1 : k0 ≤ 4611686018427387904) : Ev (fun k => laws_heldRowS.f k (mkRows m k0) k0) (k0 + 3 * m) := by
  have key : ∀ (r : Nat) (d : List S33) (n : Int), d.length + r ≤ 1048576 → 0 ≤ n → n ≤ 4611686018427387904 + 3 * d.length → Ev (fun k => laws_heldRowS.l0 k (d ++ mkRows r n) n (d.length : Int)) (n + 3 * r) := by
    intro r
    induction r with
    | zero =>
      intro d n hd hn hn2
      refine Ev.succ ?_
      simp only [laws_heldRowS.l0]
      exact Ev.neg (by simp [mkRows]) (Ev.now' (by omega))
    | succ r ih =>
      intro d n hd hn hn2
      refine Ev.succ ?_
      have e1 : wrap64 (n + 1) = n + 1 := w64 (by omega) (by omega)
      have e2 : wrap64 (n + 1 + 1) = n + 1 + 1 := w64 (by omega) (by omega)
      have e3 : wrap64 (n + 1 + 1 + 1) = n + 1 + 1 + 1 := w64 (by omega) (by omega)
      have e4 : wrap64 ((d.length : Int) + 1) = ((d.length + 1 : Nat) : Int) := by rw [w64 (by omega) (by omega)]; omega
      simp only [laws_heldRowS.l0, e1, e2, e3, e4, mkRows, mkRow, rd_at]
      refine Ev.pos (by simp only [List.length_append, List.length_cons]; omega) (Ev.pos (Int.natCast_nonneg _) ?_)
      refine Ev.pos (by trivial) (Ev.pos (by trivial) (Ev.pos (by omega) ?_))
      have := ih (d ++ [⟨n, n + 1, n + 2⟩]) (n + 1 + 1 + 1) (by simp only [List.length_append, List.length_cons, List.length_nil]; omega) (by omega) (by simp only [List.length_append, List.length_cons, List.length_nil]; omega)
      have e5 : n + 1 + 1 + 1 + 3 * (r : Int) = n + 3 * ((r + 1 : Nat) : Int) := by omega
      have e6 : n + 1 + 1 + 1 = n + 3 := by omega
      rw [e5] at this
      rw [e6] at this ⊢
      simpa using this
  exact key m [] k0 (by simpa using hm) h0 (by simp; omega)
theorem within_f (a b c : Int) : impl_within.f a b c = some (decide (b ≤ a) && decide (a ≤ c)) := by
  by_cases h : b ≤ a <;> simp [impl_within.f, h]
theorem l1In_f (a b c : Int) : spec_l1In.f a b c = some (decide (b ≤ a) && decide (a ≤ c)) := by
  by_cases h : b ≤ a <;> simp [spec_l1In.f, h]
theorem hashbit_eq (a b : Int) : impl_HashBit.f a b = spec_HashBit.f a b := by
  unfold impl_HashBit.f spec_HashBit.f
  simp only [within_f, l1In_f, Int.mul_comm 7 a]
theorem hashbit_some (a b : Int) : ∃ r, spec_HashBit.f a b = some r := by
  unfold spec_HashBit.f
  rw [l1In_f, l1In_f]
  simp only [Option.bind_some]
  split
  · rename_i h
    split
    · rw [if_pos (by simp at h; omega)]; exact ⟨_, rfl⟩
    · exact ⟨_, rfl⟩
  · exact ⟨_, rfl⟩
def hbV (a b : Int) : Int := (spec_HashBit.f a b).getD 0
theorem spec_HashBit_v (a b : Int) : spec_HashBit.f a b = some (hbV a b) := by
  obtain ⟨r, hr⟩ := hashbit_some a b
  unfold hbV; rw [hr]; rfl
theorem impl_HashBit_v (a b : Int) : impl_HashBit.f a b = some (hbV a b) := by rw [hashbit_eq]; exact spec_HashBit_v a b
def cp (x : S33) : S33 := ⟨x.f0, x.f1, x.f2⟩
def spl (b : Int) : List S33 → List S33 → List S33 → List S33 × List S33
  | [], p, q => (p, q)
  | x :: r, p, q => if hbV x.f0 b = 0 then spl b r (p ++ [x]) q else spl b r p (q ++ [x])
theorem spec_Split_ev (l : List S33) (hl : l.length ≤ 1048576) (b : Int) : Ev (fun k => spec_SplitByHashBit.f k l b) (spl b l [] []) := by
  have key : ∀ (r : List S33) (i : Nat) (p q : List S33), l.drop i = r → p.length ≤ i → q.length ≤ i → Ev (fun k => spec_SplitByHashBit.l0 k l b p q (i : Int)) (spl b r p q) := by
    intro r
    induction r with
    | nil =>
      intro i p q h hp hq
      refine Ev.succ ?_
      simp only [spec_SplitByHashBit.l0]
      exact Ev.neg (drop_nil_lt h) (Ev.now _)
    | cons x r ih =>
      intro i p q h hp hq
      obtain ⟨h1, h2, h3⟩ := rdI h
      refine Ev.succ ?_
      simp only [spec_SplitByHashBit.l0, h2, nxt (show l.length ≤ 4611686018427387904 by omega) h1, spec_HashBit_v, Option.bind_some]
      refine Ev.pos h1 (Ev.pos (Int.natCast_nonneg _) ?_)
      simp only [spl]
      by_cases hz : hbV x.f0 b = 0
      · rw [if_pos hz]
        exact Ev.pos hz (Ev.pos (by omega) (ih (i + 1) _ _ h3 (by simp only [List.length_append, List.length_cons, List.length_nil]; omega) (by omega)))
      · rw [if_neg hz]
        exact Ev.neg hz (Ev.pos (by omega) (ih (i + 1) _ _ h3 (by omega) (by simp only [List.length_append, List.length_cons, List.length_nil]; omega)))
  exact key l 0 [] [] rfl (Nat.le_refl _) (Nat.le_refl _)
theorem impl_Split_ev (l : List S33) (hl : l.length ≤ 1048576) (b : Int) : Ev (fun k => impl_SplitByHashBit.f k l b) (spl b l [] []) := by
  have key : ∀ (r : List S33) (i : Nat) (p q : List S33), l.drop i = r → p.length ≤ i → q.length ≤ i → Ev (fun k => impl_SplitByHashBit.l0 k b p q l (l.length : Int) (i : Int)) (spl b r p q) := by
    intro r
    induction r with
    | nil =>
      intro i p q h hp hq
      refine Ev.succ ?_
      simp only [impl_SplitByHashBit.l0]
      exact Ev.neg (drop_nil_lt h) (Ev.now _)
    | cons x r ih =>
      intro i p q h hp hq
      obtain ⟨h1, h2, h3⟩ := rdI h
      refine Ev.succ ?_
      simp only [impl_SplitByHashBit.l0, h2, nxt (show l.length ≤ 4611686018427387904 by omega) h1, impl_HashBit_v, Option.bind_some]
      refine Ev.pos h1 (Ev.pos (Int.natCast_nonneg _) (Ev.pos h1 ?_))
      simp only [spl]
      by_cases hz : hbV x.f0 b = 0
      · rw [if_pos hz]
        exact Ev.pos hz (Ev.pos (by omega) (ih (i + 1) _ _ h3 (by simp only [List.length_append, List.length_cons, List.length_nil]; omega) (by omega)))
      · rw [if_neg hz]
        exact Ev.neg hz (Ev.pos (by omega) (ih (i + 1) _ _ h3 (by omega) (by simp only [List.length_append, List.length_cons, List.length_nil]; omega)))
  exact key l 0 [] [] rfl (Nat.le_refl _) (Nat.le_refl _)
theorem spl_len (b : Int) : ∀ (l p q : List S33), (spl b l p q).1.length ≤ p.length + l.length ∧ (spl b l p q).2.length ≤ q.length + l.length
  | [], p, q => by simp [spl]
  | x :: r, p, q => by
    simp only [spl]
    split
    · have := spl_len b r (p ++ [x]) q
      simp only [List.length_append, List.length_cons, List.length_nil] at this ⊢
      omega
    · have := spl_len b r p (q ++ [x])
      simp only [List.length_append, List.length_cons, List.length_nil] at this ⊢
      omega
theorem FnExactSplitByHashBit {G G1 : Prop} (l : List S26) (b : Int) (g : l.length ≤ 9223372036854775807 ∧ G) (g1 : G1) : ∃ k, laws_FnExactSplitByHashBit.f k l b = some true := by
  refine Ev.rounds ?_
  simp only [laws_FnExactSplitByHashBit.f]
  by_cases hl : (l.length : Int) ≤ 1048576
  · have hn : (l.map cvR).length ≤ 1048576 := by rw [map_len]; omega
    have hm : (l.map cvR).length ≤ 4611686018427387904 := by omega
    have hs := spl_len b (l.map cvR) [] []
    simp only [List.length_nil, Nat.zero_add] at hs
    generalize hsp : spl b (l.map cvR) [] [] = sp at hs
    have HS := Aside0.mk hsp
    clear hsp
    obtain ⟨p, q⟩ := sp
    simp only at hs
    have hS : Ev (fun k => spec_SplitByHashBit.f k (l.map cvR) b) (p, q) := HS.out ▸ spec_Split_ev _ hn b
    have hI : Ev (fun k => impl_SplitByHashBit.f k (l.map cvR) b) (p, q) := HS.out ▸ impl_Split_ev _ hn b
    have hp : p.length ≤ 1048576 := by omega
    have hq : q.length ≤ 1048576 := by omega
    have ep := eqRowS_ev p (by omega)
    have eq := eqRowS_ev q (by omega)
    have k1 := markRowS_ev p hp 1 (by omega) (by omega)
    have k2 := markRowS_ev q hq (1 + 3 * p.length) (by omega) (by omega)
    have d1 := heldRowS_ev p.length hp 1 (by omega) (by omega)
    have d2 := heldRowS_ev q.length hq (1 + 3 * p.length) (by omega) (by omega)
    simp only [szRowS_small l _ (Int.le_refl _) hl, Option.bind_some]
    refine Ev.neg (by omega) (Ev.bind (toRowS_ev l hl) (Ev.bind hS (Ev.bind (toRowS_ev l hl) (Ev.bind hI (Ev.bind ep ?_)))))
    refine Ev.pos (by trivial) (Ev.bind eq (Ev.succ ?_))
    simp only [laws_FnExactSplitByHashBit.j0]
    refine Ev.neg (by decide) (Ev.bind (toRowS_ev l hl) (Ev.bind (eqRowS_ev _ hm) (Ev.pos (by trivial) (Ev.bind (markRowS_ev _ hn 1 (by omega) (by omega)) ?_))))
    refine Ev.neg (by omega) (Ev.bind ep (Ev.pos (by trivial) (Ev.bind eq (Ev.succ ?_))))
    simp only [laws_FnExactSplitByHashBit.j1]
    refine Ev.neg (by decide) (Ev.bind k1 (Ev.bind k2 (Ev.bind d1 (Ev.neg (by omega) (Ev.bind d2 (Ev.neg (by omega) (Ev.pos rfl ?_)))))))
    refine Ev.bind (toRowS_ev l hl) (Ev.bind hI (Ev.bind ep (Ev.pos (by trivial) (Ev.bind eq (Ev.succ ?_)))))
    simp only [laws_FnExactSplitByHashBit.j2]
    exact Ev.neg (by decide) (Ev.bind d1 (Ev.neg (by omega) (Ev.bind d2 (Ev.neg (by omega) (Ev.pos rfl (Ev.now _))))))
  · simp only [szRowS_big l _ g.1 (by omega) (Int.le_refl _) hl, Option.bind_some]
    exact Ev.pos (by omega) (Ev.now _)

end Go.Proofs.Ytkipmmkjbeeemaa.Pure
