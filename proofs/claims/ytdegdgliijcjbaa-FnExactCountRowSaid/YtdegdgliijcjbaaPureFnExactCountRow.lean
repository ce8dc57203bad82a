/- The program's CountRow answers as the reference's does, for all arguments that the statement lets in; no further condition. -/
import Derived.Test.YtdegdgliijcjbaaPFnExactCountRowx3
import Derived.Test.YtdegdgliijcjbaaCore
namespace Go.Proofs.Ytdegdgliijcjbaa.Pure
open Go.RowKit Go.Proofs.Ytdegdgliijcjbaa.PFnExactCountRow Go.Proofs.YtdegdgliijcjbaaW.PrintWords Go.Proofs.YtdegdgliijcjbaaW.PrintLast Go.Proofs.YtdegdgliijcjbaaW.PrintMore Go.Proofs.Ytdegdgliijcjbaa.Core
set_option linter.unusedVariables false
set_option linter.unusedSimpArgs false

theorem toRow_f (a b c : Int) : laws_toRow.f a b c = some (a, b, c) := rfl
def cvR (x : S28) : S30 := ⟨x.f0, x.f1, x.f2⟩
def tup (x : S30) : Int × Int × Int := (x.f0, x.f1, x.f2)
theorem drop_nil_lt {α : Type} {l : List α} {i : Nat} (h : l.drop i = []) : ¬ (i : Int) < (l.length : Int) := by
  have := List.drop_eq_nil_iff.1 h
  omega
theorem rdL {l : List S28} {i : Nat} {b : S28} {r : List S28} (h : l.drop i = b :: r) : (i : Int) < (l.length : Int) ∧ rd_T28 l (i : Int) = b ∧ l.drop (i + 1) = r := by
  obtain ⟨hi, h1, h2⟩ := drop_split h
  refine ⟨by omega, ?_, h2⟩
  unfold rd_T28
  rw [Int.toNat_natCast, List.getD_eq_getElem?_getD, List.getElem?_eq_getElem hi, h1]; rfl
theorem rdI {l : List S30} {i : Nat} {b : S30} {r : List S30} (h : l.drop i = b :: r) : (i : Int) < (l.length : Int) ∧ rd_T30 l (i : Int) = b ∧ l.drop (i + 1) = r := by
  obtain ⟨hi, h1, h2⟩ := drop_split h
  refine ⟨by omega, ?_, h2⟩
  unfold rd_T30
  rw [Int.toNat_natCast, List.getD_eq_getElem?_getD, List.getElem?_eq_getElem hi, h1]; rfl
theorem nxt {n i : Nat} (hn : n ≤ 4611686018427387904) (h : (i : Int) < (n : Int)) : wrap64 ((i : Int) + 1) = ((i + 1 : Nat) : Int) := by
  rw [w64 (by omega) (by omega)]; omega
theorem szRowS_small (l : List S28) (a : Int) (ha : a ≤ 1048576) (h : (l.length : Int) ≤ a) : laws_szRowS.f l a = some (a - l.length) := by
  unfold laws_szRowS.f
  rw [w64 (by omega) (by omega), if_neg (by omega)]
theorem szRowS_big (l : List S28) (a : Int) (hl : l.length ≤ 9223372036854775807) (h0 : 0 ≤ a) (ha : a ≤ 1048576) (h : ¬ (l.length : Int) ≤ a) : laws_szRowS.f l a = some (-1) := by
  unfold laws_szRowS.f
  rw [w64 (by omega) (by omega), if_pos (by omega)]
theorem toRowS_ev (l : List S28) (hl : (l.length : Int) ≤ 1048576) : Ev (fun k => laws_toRowS.f k l) (l.map cvR) := by
  have key : ∀ (r : List S28) (d : List S30), l.drop d.length = r → Ev (fun k => laws_toRowS.l0 k l (d ++ List.replicate r.length z30) (d.length : Int)) (d ++ r.map cvR) := by
    intro r
    induction r with
    | nil =>
      intro d h
      refine Ev.succ ?_
      simp only [laws_toRowS.l0, List.length_nil, List.replicate_zero, List.append_nil, List.map_nil]
      exact Ev.neg (drop_nil_lt h) (Ev.now _)
    | cons b r ih =>
      intro d h
      obtain ⟨h1, h2, h3⟩ := rdL h
      refine Ev.succ ?_
      simp only [laws_toRowS.l0, h2, toRow_f, Option.bind_some, nxt (show l.length ≤ 4611686018427387904 by omega) h1]
      refine Ev.pos h1 (Ev.pos (Int.natCast_nonneg _) (Ev.pos ?_ ?_))
      · simp only [List.length_append, List.length_replicate, List.length_cons]; omega
      · have e : (d ++ List.replicate (b :: r).length z30).set (d.length : Int).toNat ⟨b.f0, b.f1, b.f2⟩ = (d ++ [cvR b]) ++ List.replicate r.length z30 := by
          rw [Int.toNat_natCast, List.set_append_right _ _ (Nat.le_refl _), Nat.sub_self, List.length_cons, List.replicate_succ, List.set_cons_zero, List.append_assoc]
          rfl
        rw [e]
        have := ih (d ++ [cvR b]) (by simpa using h3)
        simpa using this
  have := key l [] rfl
  simp only [laws_toRowS.f]
  refine Ev.pos (by omega) (Ev.pos (by omega) ?_)
  simpa using this
theorem eqRow_f (a b c : Int) : laws_eqRow.f a b c a b c = some true := by simp [laws_eqRow.f]
theorem eqRowS_ev (l : List S30) (hl : l.length ≤ 4611686018427387904) : Ev (fun k => laws_eqRowS.f k l l) true := by
  have key : ∀ (r : List S30) (i : Nat), l.drop i = r → Ev (fun k => laws_eqRowS.l0 k l l (i : Int)) true := by
    intro r
    induction r with
    | nil =>
      intro i h
      refine Ev.succ ?_
      simp only [laws_eqRowS.l0]
      exact Ev.neg (drop_nil_lt h) (Ev.now _)
    | cons b r ih =>
      intro i h
      obtain ⟨h1, h2, h3⟩ := rdI h
      refine Ev.succ ?_
      simp only [laws_eqRowS.l0, eqRow_f, Option.bind_some, if_true, nxt hl h1]
      exact Ev.pos h1 (Ev.pos (Int.natCast_nonneg _) (Ev.pos h1 (ih (i + 1) h3)))
  simp only [laws_eqRowS.f, if_true]
  exact key l 0 rfl
theorem map_len (l : List S28) : (l.map cvR).length = l.length := List.length_map ..
def cntI (p : S30 → Bool) : List S30 → Int → Int
  | [], n => n
  | x :: r, n => cntI p r (if p x = true then n + 1 else n)
theorem spec_CountRow_ev (l : List S30) (hl : l.length ≤ 4611686018427387904) (a b c : Int) : Ev (fun k => spec_CountRow.f k l a b c) (cntI (fun x => x.f0 == a && (x.f1 == b && x.f2 == c)) l 0) := by
  have key : ∀ (r : List S30) (i : Nat) (n : Int), l.drop i = r → 0 ≤ n → n ≤ i → Ev (fun k => spec_CountRow.l0 k l n (i : Int) a b c) (cntI (fun x => x.f0 == a && (x.f1 == b && x.f2 == c)) r n) := by
    intro r
    induction r with
    | nil =>
      intro i n h h0 hn
      refine Ev.succ ?_
      simp only [spec_CountRow.l0]
      exact Ev.neg (drop_nil_lt h) (Ev.now _)
    | cons x r ih =>
      intro i n h h0 hn
      obtain ⟨h1, h2, h3⟩ := rdI h
      refine Ev.succ ?_
      simp only [spec_CountRow.l0, h2, nxt hl h1, w64 (x := n + 1) (by omega) (by omega)]
      refine Ev.pos h1 (Ev.pos (Int.natCast_nonneg _) ?_)
      simp only [cntI]
      by_cases hb : (x.f0 == a && (x.f1 == b && x.f2 == c)) = true
      · rw [if_pos hb]; exact Ev.pos hb (ih (i + 1) _ h3 (by omega) (by omega))
      · rw [if_neg hb]; exact Ev.neg hb (ih (i + 1) _ h3 (by omega) (by omega))
  exact key l 0 0 rfl (by omega) (by omega)
theorem impl_CountRow_ev (l : List S30) (hl : l.length ≤ 4611686018427387904) (a b c : Int) : Ev (fun k => impl_CountRow.f k l a b c) (cntI (fun x => x.f0 == a && (x.f1 == b && x.f2 == c)) l 0) := by
  have key : ∀ (r : List S30) (i : Nat) (n : Int), l.drop i = r → 0 ≤ n → n ≤ i → Ev (fun k => impl_CountRow.l0 k n l (l.length : Int) (i : Int) a b c) (cntI (fun x => x.f0 == a && (x.f1 == b && x.f2 == c)) r n) := by
    intro r
    induction r with
    | nil =>
      intro i n h h0 hn
      refine Ev.succ ?_
      simp only [impl_CountRow.l0]
      exact Ev.neg (drop_nil_lt h) (Ev.now _)
    | cons x r ih =>
      intro i n h h0 hn
      obtain ⟨h1, h2, h3⟩ := rdI h
      refine Ev.succ ?_
      simp only [impl_CountRow.l0, h2, nxt hl h1, w64 (x := n + 1) (by omega) (by omega)]
      refine Ev.pos h1 (Ev.pos (Int.natCast_nonneg _) (Ev.pos h1 ?_))
      simp only [cntI]
      by_cases hb : (x.f0 == a && (x.f1 == b && x.f2 == c)) = true
      · rw [if_pos hb]; exact Ev.pos hb (ih (i + 1) _ h3 (by omega) (by omega))
      · rw [if_neg hb]; exact Ev.neg hb (ih (i + 1) _ h3 (by omega) (by omega))
  exact key l 0 0 rfl (by omega) (by omega)
theorem FnExactCountRow {G0 G : Prop} (l : List S28) (a b c : Int) (g : l.length ≤ 9223372036854775807 ∧ G) (g0 : G0) : ∃ k, laws_FnExactCountRow.f k l a b c = some true := by
  refine Ev.rounds ?_
  simp only [laws_FnExactCountRow.f]
  by_cases hl : (l.length : Int) ≤ 1048576
  · have hm : (l.map cvR).length ≤ 4611686018427387904 := by rw [map_len]; omega
    simp only [szRowS_small l _ (Int.le_refl _) hl, toRow_f, Option.bind_some]
    refine Ev.neg (by omega) (Ev.bind (toRowS_ev l hl) (Ev.bind (spec_CountRow_ev _ hm _ _ _) (Ev.bind (toRowS_ev l hl) (Ev.bind (impl_CountRow_ev _ hm _ _ _) ?_))))
    exact Ev.pos rfl (Ev.bind (toRowS_ev l hl) (Ev.tl (eqRowS_ev _ hm) rfl))
  · simp only [szRowS_big l _ g.1 (by omega) (Int.le_refl _) hl, Option.bind_some]
    exact Ev.pos (by omega) (Ev.now _)

end Go.Proofs.Ytdegdgliijcjbaa.Pure
