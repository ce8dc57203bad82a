/- The program's FirstSplittingLevel answers as the reference's does, for all arguments that the statement lets in; no further condition. -/
import Derived.Test.YtdegdgliijcjbaaPFnExactFirstSplittingLevelx2
import Derived.Test.YtdegdgliijcjbaaCore
namespace Go.Proofs.Ytdegdgliijcjbaa.Pure
open Go.RowKit Go.Proofs.Ytdegdgliijcjbaa.PFnExactFirstSplittingLevel Go.Proofs.YtdegdgliijcjbaaW.PrintWords Go.Proofs.YtdegdgliijcjbaaW.PrintLast Go.Proofs.YtdegdgliijcjbaaW.PrintMore Go.Proofs.Ytdegdgliijcjbaa.Core
set_option linter.unusedVariables false
set_option linter.unusedSimpArgs false

theorem toRow_f (a b c : Int) : laws_toRow.f a b c = some (a, b, c) := rfl
def cvR (x : S28) : S30 := ⟨x.f0, x.f1, x.f2⟩
def tup (x : S30) : Int × Int × Int := (x.f0, x.f1, x.f2)
theorem drop_nil_lt {α : Type} {l : List α} {i : Nat} (h : l.drop i = []) : ¬ (i : Int) < (l.length : Int) := by
  have := List.drop_eq_nil_iff.1 h
  omega
theorem rdL {l : List S28} {i : Nat} {b : S28} {r : List S28} (h : l.drop i = b :: r) : (i : Int) < (l.length : Int) ∧ rd_T28 l (i : Int) = b ∧ l.drop (i + 1) = r := by
  obtain ⟨hi, h1, h2⟩ := drop_split h
  refine ⟨by omega, ?_, h2⟩
  unfold rd_T28
  rw [Int.toNat_natCast, List.getD_eq_getElem?_getD, List.getElem?_eq_getElem hi, h1]; rfl
theorem rdI {l : List S30} {i : Nat} {b : S30} {r : List S30} (h : l.drop i = b :: r) : (i : Int) < (l.length : Int) ∧ rd_T30 l (i : Int) = b ∧ l.drop (i + 1) = r := by
  obtain ⟨hi, h1, h2⟩ := drop_split h
  refine ⟨by omega, ?_, h2⟩
  unfold rd_T30
  rw [Int.toNat_natCast, List.getD_eq_getElem?_getD, List.getElem?_eq_getElem hi, h1]; rfl
theorem nxt {n i : Nat} (hn : n ≤ 4611686018427387904) (h : (i : Int) < (n : Int)) : wrap64 ((i : Int) + 1) = ((i + 1 : Nat) : Int) := by
  rw [w64 (by omega) (by omega)]; omega
theorem szRowS_small (l : List S28) (a : Int) (ha : a ≤ 1048576) (h : (l.length : Int) ≤ a) : laws_szRowS.f l a = some (a - l.length) := by
  unfold laws_szRowS.f
  rw [w64 (by omega) (by omega), if_neg (by omega)]
theorem szRowS_big (l : List S28) (a : Int) (hl : l.length ≤ 9223372036854775807) (h0 : 0 ≤ a) (ha : a ≤ 1048576) (h : ¬ (l.length : Int) ≤ a) : laws_szRowS.f l a = some (-1) := by
  unfold laws_szRowS.f
  rw [w64 (by omega) (by omega), if_pos (by omega)]
theorem toRowS_ev (l : List S28) (hl : (l.length : Int) ≤ 1048576) : Ev (fun k => laws_toRowS.f k l) (l.map cvR) := by
  have key : ∀ (r : List S28) (d : List S30), l.drop d.length = r → Ev (fun k => laws_toRowS.l0 k l (d ++ List.replicate r.length z30) (d.length : Int)) (d ++ r.map cvR) := by
    intro r
    induction r with
    | nil =>
      intro d h
      refine Ev.succ ?_
      simp only [laws_toRowS.l0, List.length_nil, List.replicate_zero, List.append_nil, List.map_nil]
      exact Ev.neg (drop_nil_lt h) (Ev.now _)
    | cons b r ih =>
      intro d h
      obtain ⟨h1, h2, h3⟩ := rdL h
      refine Ev.succ ?_
      simp only [laws_toRowS.l0, h2, toRow_f, Option.bind_some, nxt (show l.length ≤ 4611686018427387904 by omega) h1]
      refine Ev.pos h1 (Ev.pos (Int.natCast_nonneg _) (Ev.pos ?_ ?_))
      · simp only [List.length_append, List.length_replicate, List.length_cons]; omega
      · have e : (d ++ List.replicate (b :: r).length z30).set (d.length : Int).toNat ⟨b.f0, b.f1, b.f2⟩ = (d ++ [cvR b]) ++ List.replicate r.length z30 := by
          rw [Int.toNat_natCast, List.set_append_right _ _ (Nat.le_refl _), Nat.sub_self, List.length_cons, List.replicate_succ, List.set_cons_zero, List.append_assoc]
          rfl
        rw [e]
        have := ih (d ++ [cvR b]) (by simpa using h3)
        simpa using this
  have := key l [] rfl
  simp only [laws_toRowS.f]
  refine Ev.pos (by omega) (Ev.pos (by omega) ?_)
  simpa using this
theorem eqRow_f (a b c : Int) : laws_eqRow.f a b c a b c = some true := by simp [laws_eqRow.f]
theorem eqRowS_ev (l : List S30) (hl : l.length ≤ 4611686018427387904) : Ev (fun k => laws_eqRowS.f k l l) true := by
  have key : ∀ (r : List S30) (i : Nat), l.drop i = r → Ev (fun k => laws_eqRowS.l0 k l l (i : Int)) true := by
    intro r
    induction r with
    | nil =>
      intro i h
      refine Ev.succ ?_
      simp only [laws_eqRowS.l0]
      exact Ev.neg (drop_nil_lt h) (Ev.now _)
    | cons b r ih =>
      intro i h
      obtain ⟨h1, h2, h3⟩ := rdI h
      refine Ev.succ ?_
      simp only [laws_eqRowS.l0, eqRow_f, Option.bind_some, if_true, nxt hl h1]
      exact Ev.pos h1 (Ev.pos (Int.natCast_nonneg _) (Ev.pos h1 (ih (i + 1) h3)))
  simp only [laws_eqRowS.f, if_true]
  exact key l 0 rfl
theorem map_len (l : List S28) : (l.map cvR).length = l.length := List.length_map ..
theorem within_f (a b c : Int) : impl_within.f a b c = some (decide (b ≤ a) && decide (a ≤ c)) := by
  by_cases h : b ≤ a <;> simp [impl_within.f, h]
theorem l1In_f (a b c : Int) : spec_l1In.f a b c = some (decide (b ≤ a) && decide (a ≤ c)) := by
  by_cases h : b ≤ a <;> simp [spec_l1In.f, h]
theorem hashbit_eq (a b : Int) : impl_HashBit.f a b = spec_HashBit.f a b := by
  unfold impl_HashBit.f spec_HashBit.f
  simp only [within_f, l1In_f, Int.mul_comm 7 a]
theorem hashbit_some (a b : Int) : ∃ r, spec_HashBit.f a b = some r := by
  unfold spec_HashBit.f
  rw [l1In_f, l1In_f]
  simp only [Option.bind_some]
  split
  · rename_i h
    split
    · rw [if_pos (by simp at h; omega)]; exact ⟨_, rfl⟩
    · exact ⟨_, rfl⟩
  · exact ⟨_, rfl⟩
def hbV (a b : Int) : Int := (spec_HashBit.f a b).getD 0
theorem spec_HashBit_v (a b : Int) : spec_HashBit.f a b = some (hbV a b) := by
  obtain ⟨r, hr⟩ := hashbit_some a b
  unfold hbV; rw [hr]; rfl
theorem impl_HashBit_v (a b : Int) : impl_HashBit.f a b = some (hbV a b) := by rw [hashbit_eq]; exact spec_HashBit_v a b
def cp (x : S30) : S30 := ⟨x.f0, x.f1, x.f2⟩
def spl (b : Int) : List S30 → List S30 → List S30 → List S30 × List S30
  | [], p, q => (p, q)
  | x :: r, p, q => if hbV x.f0 b = 0 then spl b r (p ++ [x]) q else spl b r p (q ++ [x])
theorem spec_Split_ev (l : List S30) (hl : l.length ≤ 1048576) (b : Int) : Ev (fun k => spec_SplitByHashBit.f k l b) (spl b l [] []) := by
  have key : ∀ (r : List S30) (i : Nat) (p q : List S30), l.drop i = r → p.length ≤ i → q.length ≤ i → Ev (fun k => spec_SplitByHashBit.l0 k l b p q (i : Int)) (spl b r p q) := by
    intro r
    induction r with
    | nil =>
      intro i p q h hp hq
      refine Ev.succ ?_
      simp only [spec_SplitByHashBit.l0]
      exact Ev.neg (drop_nil_lt h) (Ev.now _)
    | cons x r ih =>
      intro i p q h hp hq
      obtain ⟨h1, h2, h3⟩ := rdI h
      refine Ev.succ ?_
      simp only [spec_SplitByHashBit.l0, h2, nxt (show l.length ≤ 4611686018427387904 by omega) h1, spec_HashBit_v, Option.bind_some]
      refine Ev.pos h1 (Ev.pos (Int.natCast_nonneg _) ?_)
      simp only [spl]
      by_cases hz : hbV x.f0 b = 0
      · rw [if_pos hz]
        exact Ev.pos hz (Ev.pos (by omega) (ih (i + 1) _ _ h3 (by simp only [List.length_append, List.length_cons, List.length_nil]; omega) (by omega)))
      · rw [if_neg hz]
        exact Ev.neg hz (Ev.pos (by omega) (ih (i + 1) _ _ h3 (by omega) (by simp only [List.length_append, List.length_cons, List.length_nil]; omega)))
  exact key l 0 [] [] rfl (Nat.le_refl _) (Nat.le_refl _)
theorem impl_Split_ev (l : List S30) (hl : l.length ≤ 1048576) (b : Int) : Ev (fun k => impl_SplitByHashBit.f k l b) (spl b l [] []) := by
  have key : ∀ (r : List S30) (i : Nat) (p q : List S30), l.drop i = r → p.length ≤ i → q.length ≤ i → Ev (fun k => impl_SplitByHashBit.l0 k b p q l (l.length : Int) (i : Int)) (spl b r p q) := by
    intro r
    induction r with
    | nil =>
      intro i p q h hp hq
      refine Ev.succ ?_
      simp only [impl_SplitByHashBit.l0]
      exact Ev.neg (drop_nil_lt h) (Ev.now _)
    | cons x r ih =>
      intro i p q h hp hq
      obtain ⟨h1, h2, h3⟩ := rdI h
      refine Ev.succ ?_
      simp only [impl_SplitByHashBit.l0, h2, nxt (show l.length ≤ 4611686018427387904 by omega) h1, impl_HashBit_v, Option.bind_some]
      refine Ev.pos h1 (Ev.pos (Int.natCast_nonneg _) (Ev.pos h1 ?_))
      simp only [spl]
      by_cases hz : hbV x.f0 b = 0
      · rw [if_pos hz]
        exact Ev.pos hz (Ev.pos (by omega) (ih (i + 1) _ _ h3 (by simp only [List.length_append, List.length_cons, List.length_nil]; omega) (by omega)))
      · rw [if_neg hz]
        exact Ev.neg hz (Ev.pos (by omega) (ih (i + 1) _ _ h3 (by omega) (by simp only [List.length_append, List.length_cons, List.length_nil]; omega)))
  exact key l 0 [] [] rfl (Nat.le_refl _) (Nat.le_refl _)
def fsl (l : List S30) : Nat → Int → Int
  | 0, _ => 4
  | d + 1, n => if (spl n l [] []).1.length > 0 ∧ (spl n l [] []).2.length > 0 then n else fsl l d (n + 1)
theorem spec_First_ev (l : List S30) (hl : l.length ≤ 1048576) : Ev (fun k => spec_FirstSplittingLevel.f k l) (fsl l 4 0) := by
  have key : ∀ (d : Nat) (n : Int), 0 ≤ n → n + d = 4 → Ev (fun k => spec_FirstSplittingLevel.l0 k l n) (fsl l d n) := by
    intro d
    induction d with
    | zero =>
      intro n h0 hd
      refine Ev.succ ?_
      simp only [spec_FirstSplittingLevel.l0, fsl]
      exact Ev.neg (by omega) (Ev.now _)
    | succ d ih =>
      intro n h0 hd
      refine Ev.succ ?_
      simp only [spec_FirstSplittingLevel.l0, fsl, w64 (x := n + 1) (by omega) (by omega)]
      refine Ev.pos (by omega) (Ev.bind (spec_Split_ev l hl n) ?_)
      by_cases h1 : (spl n l [] []).1.length > 0
      · refine Ev.pos (by omega) ?_
        by_cases h2 : (spl n l [] []).2.length > 0
        · rw [if_pos ⟨h1, h2⟩]; exact Ev.pos (by omega) (Ev.now _)
        · rw [if_neg (fun hh => h2 hh.2)]; exact Ev.neg (by omega) (ih (n + 1) (by omega) (by omega))
      · rw [if_neg (fun hh => h1 hh.1)]
        exact Ev.neg (by omega) (ih (n + 1) (by omega) (by omega))
  exact key 4 0 (by omega) (by omega)
theorem impl_First_ev (l : List S30) (hl : l.length ≤ 1048576) : Ev (fun k => impl_FirstSplittingLevel.f k l) (fsl l 4 0) := by
  have key : ∀ (d : Nat) (n : Int), 0 ≤ n → n + d = 4 → Ev (fun k => impl_FirstSplittingLevel.l0 k l n) (fsl l d n) := by
    intro d
    induction d with
    | zero =>
      intro n h0 hd
      refine Ev.succ ?_
      simp only [impl_FirstSplittingLevel.l0, fsl]
      exact Ev.neg (by omega) (Ev.now _)
    | succ d ih =>
      intro n h0 hd
      refine Ev.succ ?_
      simp only [impl_FirstSplittingLevel.l0, fsl, w64 (x := n + 1) (by omega) (by omega)]
      refine Ev.pos (by omega) (Ev.bind (impl_Split_ev l hl n) ?_)
      by_cases h1 : (spl n l [] []).1.length > 0
      · refine Ev.pos (by omega) ?_
        by_cases h2 : (spl n l [] []).2.length > 0
        · rw [if_pos ⟨h1, h2⟩]; exact Ev.pos (by omega) (Ev.now _)
        · rw [if_neg (fun hh => h2 hh.2)]; exact Ev.neg (by omega) (ih (n + 1) (by omega) (by omega))
      · rw [if_neg (fun hh => h1 hh.1)]
        exact Ev.neg (by omega) (ih (n + 1) (by omega) (by omega))
  exact key 4 0 (by omega) (by omega)
theorem FnExactFirstSplittingLevel {G : Prop} (l : List S28) (g : l.length ≤ 9223372036854775807 ∧ G) : ∃ k, laws_FnExactFirstSplittingLevel.f k l = some true := by
  refine Ev.rounds ?_
  simp only [laws_FnExactFirstSplittingLevel.f]
  by_cases hl : (l.length : Int) ≤ 1048576
  · have hm : (l.map cvR).length ≤ 4611686018427387904 := by rw [map_len]; omega
    have hn : (l.map cvR).length ≤ 1048576 := by rw [map_len]; omega
    simp only [szRowS_small l _ (Int.le_refl _) hl, Option.bind_some]
    refine Ev.neg (by omega) (Ev.bind (toRowS_ev l hl) (Ev.bind (spec_First_ev _ hn) (Ev.bind (toRowS_ev l hl) (Ev.bind (impl_First_ev _ hn) ?_))))
    exact Ev.pos rfl (Ev.bind (toRowS_ev l hl) (Ev.tl (eqRowS_ev _ hm) rfl))
  · simp only [szRowS_big l _ g.1 (by omega) (Int.le_refl _) hl, Option.bind_some]
    exact Ev.pos (by omega) (Ev.now _)

end Go.Proofs.Ytdegdgliijcjbaa.Pure
