/- The program's AppendPage answers as the reference's does, for all arguments that the statement lets in; no further condition. -/
import Derived.Test.YtinniedbgfgclaaVQFnExactAppendPagex22
import Derived.Test.YtinniedbgfgclaaVCore
namespace Go.Proofs.Ytinniedbgfgclaa.Pure
open Go.RowKit Go.Proofs.Ytinniedbgfgclaa.PFnExactAppendPage Go.Proofs.YtinniedbgfgclaaW.PrintWords Go.Proofs.YtinniedbgfgclaaW.PrintLast Go.Proofs.YtinniedbgfgclaaW.PrintMore Go.Proofs.Ytinniedbgfgclaa.Core
set_option linter.unusedVariables false
set_option linter.unusedSimpArgs false
theorem toRow_f (a b c : Int) : laws_toRow.f a b c = some (a, b, c) := rfl
theorem drop_nil_lt {α : Type} {l : List α} {i : Nat} (h : l.drop i = []) : ¬ (i : Int) < (l.length : Int) := by
 have := List.drop_eq_nil_iff.1 h
 omega
theorem rdI {l : List S95} {i : Nat} {b : S95} {r : List S95} (h : l.drop i = b :: r) : (i : Int) < (l.length : Int) ∧ rd_T95 l (i : Int) = b ∧ l.drop (i + 1) = r := by
 obtain ⟨hi, h1, h2⟩ := drop_split h
 refine ⟨by omega, ?_, h2⟩
 unfold rd_T95
 rw [Int.toNat_natCast, List.getD_eq_getElem?_getD, List.getElem?_eq_getElem hi, h1]; rfl
theorem nxt {n i : Nat} (hn : n ≤ 4611686018427387904) (h : (i : Int) < (n : Int)) : wrap64 ((i : Int) + 1) = ((i + 1 : Nat) : Int) := by
 rw [w64 (by omega) (by omega)]; omega
def cvR (x : S120) : S95 := ⟨x.f0, x.f1, x.f2⟩
theorem rdL {l : List S120} {i : Nat} {b : S120} {r : List S120} (h : l.drop i = b :: r) : (i : Int) < (l.length : Int) ∧ rd_T120 l (i : Int) = b ∧ l.drop (i + 1) = r := by
 obtain ⟨hi, h1, h2⟩ := drop_split h
 refine ⟨by omega, ?_, h2⟩
 unfold rd_T120
 rw [Int.toNat_natCast, List.getD_eq_getElem?_getD, List.getElem?_eq_getElem hi, h1]; rfl
theorem szRowS_small (l : List S120) (a : Int) (ha : a ≤ 1048576) (h : (l.length : Int) ≤ a) : laws_szRowS.f l a = some (a - l.length) := by
 unfold laws_szRowS.f
 rw [w64 (by omega) (by omega), if_neg (by omega)]
theorem szRowS_big (l : List S120) (a : Int) (hl : l.length ≤ 9223372036854775807) (h0 : 0 ≤ a) (ha : a ≤ 1048576) (h : ¬ (l.length : Int) ≤ a) : laws_szRowS.f l a = some (-1) := by
 unfold laws_szRowS.f
 rw [w64 (by omega) (by omega), if_pos (by omega)]
theorem toRowS_ev (l : List S120) (hl : (l.length : Int) ≤ 1048576) : Ev (fun k => laws_toRowS.f k l) (l.map cvR) := by
 have key : ∀ (r : List S120) (d : List S95), l.drop d.length = r → Ev (fun k => laws_toRowS.l0 k l (d ++ List.replicate r.length z95) (d.length : Int)) (d ++ r.map cvR) := by
  intro r
  induction r with
  | nil =>
   intro d h
   refine Ev.succ ?_
   simp only [laws_toRowS.l0, List.length_nil, List.replicate_zero, List.append_nil, List.map_nil]
   exact Ev.neg (drop_nil_lt h) (Ev.now _)
  | cons b r ih =>
   intro d h
   obtain ⟨h1, h2, h3⟩ := rdL h
   refine Ev.succ ?_
   simp only [laws_toRowS.l0, h2, toRow_f, Option.bind_some, nxt (show l.length ≤ 4611686018427387904 by omega) h1]
   refine Ev.pos h1 (Ev.pos (Int.natCast_nonneg _) (Ev.pos ?_ ?_))
   ·simp only [List.length_append, List.length_replicate, List.length_cons]; omega
   ·have e : (d ++ List.replicate (b :: r).length z95).set (d.length : Int).toNat ⟨b.f0, b.f1, b.f2⟩ = (d ++ [cvR b]) ++ List.replicate r.length z95 := by
     rw [Int.toNat_natCast, List.set_append_right _ _ (Nat.le_refl _), Nat.sub_self, List.length_cons, List.replicate_succ, List.set_cons_zero, List.append_assoc]
     rfl
    rw [e]
    have := ih (d ++ [cvR b]) (by simpa using h3)
    simpa using this
 have := key l [] rfl
 simp only [laws_toRowS.f]
 refine Ev.pos (by omega) (Ev.pos (by omega) ?_)
 simpa using this
theorem eqRow_f (a b c : Int) : laws_eqRow.f a b c a b c = some true := by simp [laws_eqRow.f]
theorem eqRowS_ev (l : List S95) (hl : l.length ≤ 4611686018427387904) : Ev (fun k => laws_eqRowS.f k l l) true := by
 have key : ∀ (r : List S95) (i : Nat), l.drop i = r → Ev (fun k => laws_eqRowS.l0 k l l (i : Int)) true := by
  intro r
  induction r with
  | nil =>
   intro i h
   refine Ev.succ ?_
   simp only [laws_eqRowS.l0]
   exact Ev.neg (drop_nil_lt h) (Ev.now _)
  | cons b r ih =>
   intro i h
   obtain ⟨h1, h2, h3⟩ := rdI h
   refine Ev.succ ?_
   simp only [laws_eqRowS.l0, eqRow_f, Option.bind_some, if_true, nxt hl h1]
   exact Ev.pos h1 (Ev.pos (Int.natCast_nonneg _) (Ev.pos h1 (ih (i + 1) h3)))
 simp only [laws_eqRowS.f, if_true]
 exact key l 0 rfl
theorem map_len (l : List S120) : (l.map cvR).length = l.length := List.length_map ..
theorem szPage_small (l : List S120) (a : Int) (ha : a ≤ 1048576) (h : (l.length : Int) ≤ a) : laws_szPage.f l a = some (a - l.length) := by
 simp only [laws_szPage.f, szRowS_small l a ha h, Option.bind_some]
 rw [if_neg (by omega)]
theorem szPage_big (l : List S120) (a : Int) (hl : l.length ≤ 9223372036854775807) (h0 : 0 ≤ a) (ha : a ≤ 1048576) (h : ¬ (l.length : Int) ≤ a) : laws_szPage.f l a = some (-1) := by
 simp only [laws_szPage.f, szRowS_big l a hl h0 ha h, Option.bind_some]
 rw [if_pos (by omega)]
theorem toPage_ev (l : List S120) (hl : (l.length : Int) ≤ 1048576) : Ev (fun k => laws_toPage.f k l) (l.map cvR) := by
 simp only [laws_toPage.f]
 exact Ev.tl (toRowS_ev l hl) rfl
theorem rdT67 {l : List S67} {i : Nat} {b : S67} {r : List S67} (h : l.drop i = b :: r) : (i : Int) < (l.length : Int) ∧ rd_T67 l (i : Int) = b ∧ l.drop (i + 1) = r := by
 obtain ⟨hi, h1, h2⟩ := drop_split h
 refine ⟨by omega, ?_, h2⟩
 unfold rd_T67
 rw [Int.toNat_natCast, List.getD_eq_getElem?_getD, List.getElem?_eq_getElem hi, h1]; rfl
theorem rdT39 {l : List S39} {i : Nat} {b : S39} {r : List S39} (h : l.drop i = b :: r) : (i : Int) < (l.length : Int) ∧ rd_T39 l (i : Int) = b ∧ l.drop (i + 1) = r := by
 obtain ⟨hi, h1, h2⟩ := drop_split h
 refine ⟨by omega, ?_, h2⟩
 unfold rd_T39
 rw [Int.toNat_natCast, List.getD_eq_getElem?_getD, List.getElem?_eq_getElem hi, h1]; rfl
def cvP (x : S67) : S39 := ⟨x.f0.map cvR⟩
def SmP (l : List S67) : Prop := (l.length : Int) ≤ 1048576 ∧ ∀ x ∈ l, (x.f0.length : Int) ≤ 1048576
theorem szPageS_ev (l : List S67) (h0 : l.length ≤ 9223372036854775807) (h : ∀ x ∈ l, x.f0.length ≤ 9223372036854775807) (a : Int) (ha0 : 0 ≤ a) (ha : a ≤ 1048576) :
  ∃ t, Ev (fun k => laws_szPageS.f k l a) t ∧ t ≤ a ∧ (0 ≤ t → SmP l) := by
 have key : ∀ (r : List S67) (i : Nat) (a : Int), l.length ≤ 1048576 → l.drop i = r → (∀ x ∈ r, x.f0.length ≤ 9223372036854775807) → 0 ≤ a → a ≤ 1048576 →
   ∃ t, Ev (fun k => laws_szPageS.l0 k l a (i : Int)) t ∧ t ≤ a ∧ (0 ≤ t → ∀ x ∈ r, (x.f0.length : Int) ≤ 1048576) := by
  intro r
  induction r with
  | nil =>
   intro i a hl hd hr ha0 ha
   refine ⟨a, Ev.succ ?_, Int.le_refl _, fun _ x hx => by simp at hx⟩
   simp only [laws_szPageS.l0]
   exact Ev.neg (drop_nil_lt hd) (Ev.now _)
  | cons x r ih =>
   intro i a hl hd hr ha0 ha
   obtain ⟨h1, h2, h3⟩ := rdT67 hd
   by_cases hx : (x.f0.length : Int) ≤ a
   ·obtain ⟨t, e, ht, hs⟩ := ih (i + 1) (a - x.f0.length) hl h3 (fun y hy => hr y (by simp [hy])) (by omega) (by omega)
    refine ⟨t, Ev.succ ?_, by omega, fun h0 y hy => ?_⟩
    ·simp only [laws_szPageS.l0, h2, szPage_small x.f0 a ha hx, Option.bind_some, nxt (show l.length ≤ 4611686018427387904 by omega) h1]
     exact Ev.pos h1 (Ev.pos (Int.natCast_nonneg _) (Ev.neg (by omega) e))
    ·rcases List.mem_cons.1 hy with rfl | hy
     ·omega
     ·exact hs h0 y hy
   ·refine ⟨-1, Ev.succ ?_, by omega, fun h0 => by omega⟩
    simp only [laws_szPageS.l0, h2, szPage_big x.f0 a (hr x (by simp)) ha0 ha hx, Option.bind_some]
    exact Ev.pos h1 (Ev.pos (Int.natCast_nonneg _) (Ev.pos (by omega) (Ev.now _)))
 by_cases hl : (l.length : Int) ≤ a
 ·obtain ⟨t, e, ht, hs⟩ := key l 0 (a - l.length) (by omega) rfl h (by omega) (by omega)
  refine ⟨t, ?_, by omega, fun h0 => ⟨by omega, hs h0⟩⟩
  simp only [laws_szPageS.f, w64 (x := a - (l.length : Int)) (by omega) (by omega)]
  exact Ev.neg (by omega) e
 ·refine ⟨-1, ?_, by omega, fun h0 => by omega⟩
  simp only [laws_szPageS.f, w64 (x := a - (l.length : Int)) (by omega) (by omega)]
  exact Ev.pos (by omega) (Ev.now _)
theorem toPageS_ev (l : List S67) (hs : SmP l) : Ev (fun k => laws_toPageS.f k l) (l.map cvP) := by
 have hl := hs.1
 have key : ∀ (r : List S67) (d : List S39), l.drop d.length = r → (∀ x ∈ r, (x.f0.length : Int) ≤ 1048576) → Ev (fun k => laws_toPageS.l0 k l (d ++ List.replicate r.length z39) (d.length : Int)) (d ++ r.map cvP) := by
  intro r
  induction r with
  | nil =>
   intro d h hr
   refine Ev.succ ?_
   simp only [laws_toPageS.l0, List.length_nil, List.replicate_zero, List.append_nil, List.map_nil]
   exact Ev.neg (drop_nil_lt h) (Ev.now _)
  | cons b r ih =>
   intro d h hr
   obtain ⟨h1, h2, h3⟩ := rdT67 h
   refine Ev.succ ?_
   simp only [laws_toPageS.l0, h2, nxt (show l.length ≤ 4611686018427387904 by omega) h1]
   refine Ev.pos h1 (Ev.pos (Int.natCast_nonneg _) (Ev.bind (toPage_ev b.f0 (hr b (by simp))) (Ev.pos ?_ ?_)))
   ·simp only [List.length_append, List.length_replicate, List.length_cons]; omega
   ·have e : (d ++ List.replicate (b :: r).length z39).set (d.length : Int).toNat ⟨b.f0.map cvR⟩ = (d ++ [cvP b]) ++ List.replicate r.length z39 := by
     rw [Int.toNat_natCast, List.set_append_right _ _ (Nat.le_refl _), Nat.sub_self, List.length_cons, List.replicate_succ, List.set_cons_zero, List.append_assoc]
     rfl
    rw [e]
    have := ih (d ++ [cvP b]) (by simpa using h3) (fun y hy => hr y (by simp [hy]))
    simpa using this
 have := key l [] rfl hs.2
 simp only [laws_toPageS.f]
 refine Ev.pos (by omega) (Ev.pos (by omega) ?_)
 simpa using this
theorem eqPage_ev (l : List S95) (hl : l.length ≤ 4611686018427387904) : Ev (fun k => laws_eqPage.f k l l) true := by
 simp only [laws_eqPage.f]
 exact Ev.tl (eqRowS_ev l hl) rfl
theorem eqPageS_ev (l : List S39) (hl : l.length ≤ 4611686018427387904) (hp : ∀ x ∈ l, x.f0.length ≤ 4611686018427387904) : Ev (fun k => laws_eqPageS.f k l l) true := by
 have key : ∀ (r : List S39) (i : Nat), l.drop i = r → (∀ x ∈ r, x.f0.length ≤ 4611686018427387904) → Ev (fun k => laws_eqPageS.l0 k l l (i : Int)) true := by
  intro r
  induction r with
  | nil =>
   intro i h hr
   refine Ev.succ ?_
   simp only [laws_eqPageS.l0]
   exact Ev.neg (drop_nil_lt h) (Ev.now _)
  | cons b r ih =>
   intro i h hr
   obtain ⟨h1, h2, h3⟩ := rdT39 h
   refine Ev.succ ?_
   simp only [laws_eqPageS.l0, h2, nxt hl h1]
   refine Ev.pos h1 (Ev.pos (Int.natCast_nonneg _) (Ev.pos h1 (Ev.bind (eqPage_ev b.f0 (hr b (by simp))) ?_)))
   exact Ev.pos (by trivial) (ih (i + 1) h3 (fun y hy => hr y (by simp [hy])))
 simp only [laws_eqPageS.f, if_true]
 exact key l 0 rfl hp
theorem rdT107 {l : List S107} {i : Nat} {b : S107} {r : List S107} (h : l.drop i = b :: r) : (i : Int) < (l.length : Int) ∧ rd_T107 l (i : Int) = b ∧ l.drop (i + 1) = r := by
 obtain ⟨hi, h1, h2⟩ := drop_split h
 refine ⟨by omega, ?_, h2⟩
 unfold rd_T107
 rw [Int.toNat_natCast, List.getD_eq_getElem?_getD, List.getElem?_eq_getElem hi, h1]; rfl
theorem rdT80 {l : List S80} {i : Nat} {b : S80} {r : List S80} (h : l.drop i = b :: r) : (i : Int) < (l.length : Int) ∧ rd_T80 l (i : Int) = b ∧ l.drop (i + 1) = r := by
 obtain ⟨hi, h1, h2⟩ := drop_split h
 refine ⟨by omega, ?_, h2⟩
 unfold rd_T80
 rw [Int.toNat_natCast, List.getD_eq_getElem?_getD, List.getElem?_eq_getElem hi, h1]; rfl
def cvF (x : S107) : S80 := ⟨x.f0, x.f1.map cvP, x.f2, x.f3⟩
def SmF (l : List S107) : Prop := (l.length : Int) ≤ 1048576 ∧ ∀ x ∈ l, SmP x.f1
def GoodF (x : S107) : Prop := (Lit.int .i64 x.f0).wf = true ∧ (x.f1.length ≤ 9223372036854775807 ∧ ∀ p ∈ x.f1, p.f0.length ≤ 9223372036854775807 ∧ ∀ y ∈ p.f0, (Lit.int .i64 y.f0).wf = true ∧ (Lit.int .i64 y.f1).wf = true ∧ (Lit.int .i64 y.f2).wf = true) ∧ (Lit.int .i64 x.f2).wf = true ∧ True
theorem szFile_ev (x : S107) (h : GoodF x) (a : Int) (ha0 : 0 ≤ a) (ha : a ≤ 1048576) :
  ∃ t, Ev (fun k => laws_szFile.f k x.f0 x.f1 x.f2 x.f3 a) t ∧ t ≤ a ∧ (0 ≤ t → SmP x.f1) := by
 obtain ⟨t, e, ht, hs⟩ := szPageS_ev x.f1 h.2.1.1 (fun p hp => (h.2.1.2 p hp).1) a ha0 ha
 by_cases h0 : t < 0
 ·refine ⟨-1, ?_, by omega, fun h => by omega⟩
  simp only [laws_szFile.f]
  exact Ev.bind e (Ev.pos h0 (Ev.now _))
 ·refine ⟨t, ?_, ht, hs⟩
  simp only [laws_szFile.f]
  exact Ev.bind e (Ev.neg h0 (Ev.now _))
theorem szFileS_ev (l : List S107) (h0 : l.length ≤ 9223372036854775807) (h : ∀ x ∈ l, GoodF x) (a : Int) (ha0 : 0 ≤ a) (ha : a ≤ 1048576) :
  ∃ t, Ev (fun k => laws_szFileS.f k l a) t ∧ t ≤ a ∧ (0 ≤ t → SmF l) := by
 have key : ∀ (r : List S107) (i : Nat) (a : Int), l.length ≤ 1048576 → l.drop i = r → (∀ x ∈ r, GoodF x) → 0 ≤ a → a ≤ 1048576 →
   ∃ t, Ev (fun k => laws_szFileS.l0 k l a (i : Int)) t ∧ t ≤ a ∧ (0 ≤ t → ∀ x ∈ r, SmP x.f1) := by
  intro r
  induction r with
  | nil =>
   intro i a hl hd hr ha0 ha
   refine ⟨a, Ev.succ ?_, Int.le_refl _, fun _ x hx => by simp at hx⟩
   simp only [laws_szFileS.l0]
   exact Ev.neg (drop_nil_lt hd) (Ev.now _)
  | cons x r ih =>
   intro i a hl hd hr ha0 ha
   obtain ⟨h1, h2, h3⟩ := rdT107 hd
   obtain ⟨t, e, ht, hs⟩ := szFile_ev x (hr x (by simp)) a ha0 ha
   by_cases ht0 : t < 0
   ·refine ⟨-1, Ev.succ ?_, by omega, fun h0 => by omega⟩
    simp only [laws_szFileS.l0, h2]
    exact Ev.pos h1 (Ev.pos (Int.natCast_nonneg _) (Ev.bind e (Ev.pos ht0 (Ev.now _))))
   ·obtain ⟨t', e', ht', hs'⟩ := ih (i + 1) t hl h3 (fun y hy => hr y (by simp [hy])) (by omega) (by omega)
    refine ⟨t', Ev.succ ?_, by omega, fun h0 y hy => ?_⟩
    ·simp only [laws_szFileS.l0, h2, nxt (show l.length ≤ 4611686018427387904 by omega) h1]
     exact Ev.pos h1 (Ev.pos (Int.natCast_nonneg _) (Ev.bind e (Ev.neg ht0 e')))
    ·rcases List.mem_cons.1 hy with rfl | hy
     ·exact hs (by omega)
     ·exact hs' h0 y hy
 by_cases hl : (l.length : Int) ≤ a
 ·obtain ⟨t, e, ht, hs⟩ := key l 0 (a - l.length) (by omega) rfl h (by omega) (by omega)
  refine ⟨t, ?_, by omega, fun h0 => ⟨by omega, hs h0⟩⟩
  simp only [laws_szFileS.f, w64 (x := a - (l.length : Int)) (by omega) (by omega)]
  exact Ev.neg (by omega) e
 ·refine ⟨-1, ?_, by omega, fun h0 => by omega⟩
  simp only [laws_szFileS.f, w64 (x := a - (l.length : Int)) (by omega) (by omega)]
  exact Ev.pos (by omega) (Ev.now _)
theorem szDisk_ev (l : List S107) (n : Int) (h0 : l.length ≤ 9223372036854775807) (h : ∀ x ∈ l, GoodF x) (a : Int) (ha0 : 0 ≤ a) (ha : a ≤ 1048576) :
  ∃ t, Ev (fun k => laws_szDisk.f k l n a) t ∧ t ≤ a ∧ (0 ≤ t → SmF l) := by
 obtain ⟨t, e, ht, hs⟩ := szFileS_ev l h0 h a ha0 ha
 by_cases ht0 : t < 0
 ·refine ⟨-1, ?_, by omega, fun h => by omega⟩
  simp only [laws_szDisk.f]
  exact Ev.bind e (Ev.pos ht0 (Ev.now _))
 ·refine ⟨t, ?_, ht, hs⟩
  simp only [laws_szDisk.f]
  exact Ev.bind e (Ev.neg ht0 (Ev.now _))
theorem toFile_ev (x : S107) (h : SmP x.f1) : Ev (fun k => laws_toFile.f k x.f0 x.f1 x.f2 x.f3) (x.f0, x.f1.map cvP, x.f2, x.f3) := by
 simp only [laws_toFile.f]
 exact Ev.tl (toPageS_ev x.f1 h) rfl
theorem toFileS_ev (l : List S107) (hs : SmF l) : Ev (fun k => laws_toFileS.f k l) (l.map cvF) := by
 have hl := hs.1
 have key : ∀ (r : List S107) (d : List S80), l.drop d.length = r → (∀ x ∈ r, SmP x.f1) → Ev (fun k => laws_toFileS.l0 k l (d ++ List.replicate r.length z80) (d.length : Int)) (d ++ r.map cvF) := by
  intro r
  induction r with
  | nil =>
   intro d h hr
   refine Ev.succ ?_
   simp only [laws_toFileS.l0, List.length_nil, List.replicate_zero, List.append_nil, List.map_nil]
   exact Ev.neg (drop_nil_lt h) (Ev.now _)
  | cons b r ih =>
   intro d h hr
   obtain ⟨h1, h2, h3⟩ := rdT107 h
   refine Ev.succ ?_
   simp only [laws_toFileS.l0, h2, nxt (show l.length ≤ 4611686018427387904 by omega) h1]
   refine Ev.pos h1 (Ev.pos (Int.natCast_nonneg _) (Ev.bind (toFile_ev b (hr b (by simp))) (Ev.pos ?_ ?_)))
   ·simp only [List.length_append, List.length_replicate, List.length_cons]; omega
   ·have e : (d ++ List.replicate (b :: r).length z80).set (d.length : Int).toNat ⟨b.f0, b.f1.map cvP, b.f2, b.f3⟩ = (d ++ [cvF b]) ++ List.replicate r.length z80 := by
     rw [Int.toNat_natCast, List.set_append_right _ _ (Nat.le_refl _), Nat.sub_self, List.length_cons, List.replicate_succ, List.set_cons_zero, List.append_assoc]
     rfl
    rw [e]
    have := ih (d ++ [cvF b]) (by simpa using h3) (fun y hy => hr y (by simp [hy]))
    simpa using this
 have := key l [] rfl hs.2
 simp only [laws_toFileS.f]
 refine Ev.pos (by omega) (Ev.pos (by omega) ?_)
 simpa using this
theorem toDisk_ev (l : List S107) (n : Int) (hs : SmF l) : Ev (fun k => laws_toDisk.f k l n) (l.map cvF, n) := by
 simp only [laws_toDisk.f]
 exact Ev.tl (toFileS_ev l hs) rfl
def OkP (l : List S39) : Prop := l.length ≤ 1048576 ∧ ∀ x ∈ l, x.f0.length ≤ 1048576
def OkF (l : List S80) : Prop := l.length ≤ 1048576 ∧ ∀ x ∈ l, OkP x.f1
theorem OkF_cv {l : List S107} (h : SmF l) : OkF (l.map cvF) := by
 refine ⟨by rw [List.length_map]; have := h.1; omega, fun x hx => ?_⟩
 obtain ⟨y, hy, rfl⟩ := List.mem_map.1 hx
 have hp := h.2 y hy
 refine ⟨by show (y.f1.map cvP).length ≤ _; rw [List.length_map]; have := hp.1; omega, fun q hq => ?_⟩
 obtain ⟨z, hz, rfl⟩ := List.mem_map.1 hq
 show (z.f0.map cvR).length ≤ _
 rw [List.length_map]
 have := hp.2 z hz
 omega
def vrow (r : Int × Int × Int) : Bool := (decide (0 ≤ r.1) && decide (r.1 ≤ 9)) && ((decide (0 ≤ r.2.1) && decide (r.2.1 ≤ 99)) && (decide (0 ≤ r.2.2) && decide (r.2.2 ≤ 3)))
theorem vrow_iff {a b c : Int} : vrow (a, b, c) = true ↔ (0 ≤ a ∧ a ≤ 9) ∧ (0 ≤ b ∧ b ≤ 99) ∧ 0 ≤ c ∧ c ≤ 3 := by simp [vrow]
def allV (l : List S95) : Bool := l.all fun x => vrow (x.f0, x.f1, x.f2)
def avM (l : List S95) : Bool := allV l && decide ((l.length : Int) ≤ 24)
theorem l1In_f (a b c : Int) : spec_l1In.f a b c = some (decide (b ≤ a) && decide (a ≤ c)) := by
 by_cases h : b ≤ a <;> simp [spec_l1In.f, h]
theorem spec_IsValidRow_f (a b c : Int) : spec_IsValidRow.f a b c = some (vrow (a, b, c)) := by
 simp only [spec_IsValidRow.f, l1In_f, Option.bind_some, vrow]
 cases (decide (0 ≤ a) && decide (a ≤ 9)) <;> cases (decide (0 ≤ b) && decide (b ≤ 99)) <;> simp
theorem spec_AreValidRows_ev (l : List S95) (hl : l.length ≤ 4611686018427387904) : Ev (fun k => spec_AreValidRows.f k l) (avM l) := by
 have key : ∀ (r : List S95) (i : Nat), l.drop i = r → Ev (fun k => spec_AreValidRows.l0 k l (i : Int)) (allV r && decide ((l.length : Int) ≤ 24)) := by
  intro r
  induction r with
  | nil =>
   intro i h
   refine Ev.succ ?_
   simp only [spec_AreValidRows.l0]
   exact Ev.neg (drop_nil_lt h) (Ev.now' (by simp [allV]))
  | cons x r ih =>
   intro i h
   obtain ⟨h1, h2, h3⟩ := rdI h
   refine Ev.succ ?_
   simp only [spec_AreValidRows.l0, h2, nxt hl h1, spec_IsValidRow_f, Option.bind_some]
   refine Ev.pos h1 (Ev.pos (Int.natCast_nonneg _) ?_)
   by_cases hv : vrow (x.f0, x.f1, x.f2) = true
   ·refine Ev.pos hv ?_
    have e : allV (x :: r) = allV r := by simp [allV, hv]
    rw [e]; exact ih (i + 1) h3
   ·exact Ev.neg hv (Ev.now' (by simp [allV, hv]))
 exact key l 0 rfl
theorem within_f (a b c : Int) : impl_within.f a b c = some (decide (b ≤ a) && decide (a ≤ c)) := by
 by_cases h : b ≤ a <;> simp [impl_within.f, h]
theorem impl_IsValidRow_f (a b c : Int) : impl_IsValidRow.f a b c = some (vrow (a, b, c)) := by
 simp only [impl_IsValidRow.f, within_f, Option.bind_some, vrow]
 cases (decide (0 ≤ a) && decide (a ≤ 9)) <;> cases (decide (0 ≤ b) && decide (b ≤ 99)) <;> simp
theorem impl_allValid_ev (l : List S95) (hl : l.length ≤ 4611686018427387904) : Ev (fun k => impl_allValid.f k l) (allV l) := by
 have key : ∀ (r : List S95) (i : Nat), l.drop i = r → Ev (fun k => impl_allValid.l0 k l (l.length : Int) (i : Int)) (allV r) := by
  intro r
  induction r with
  | nil =>
   intro i h
   refine Ev.succ ?_
   simp only [impl_allValid.l0]
   exact Ev.neg (drop_nil_lt h) (Ev.now' (by simp [allV]))
  | cons x r ih =>
   intro i h
   obtain ⟨h1, h2, h3⟩ := rdI h
   refine Ev.succ ?_
   simp only [impl_allValid.l0, h2, nxt hl h1, impl_IsValidRow_f, Option.bind_some]
   refine Ev.pos h1 (Ev.pos (Int.natCast_nonneg _) (Ev.pos h1 ?_))
   by_cases hv : vrow (x.f0, x.f1, x.f2) = true
   ·refine Ev.pos hv ?_
    have e : allV (x :: r) = allV r := by simp [allV, hv]
    rw [e]; exact ih (i + 1) h3
   ·exact Ev.neg hv (Ev.now' (by simp [allV, hv]))
 exact key l 0 rfl
theorem impl_AreValidRows_ev (l : List S95) (hl : l.length ≤ 4611686018427387904) : Ev (fun k => impl_AreValidRows.f k l) (avM l) := by
 simp only [impl_AreValidRows.f]
 unfold avM
 by_cases h : (l.length : Int) ≤ 24
 ·refine Ev.pos h (Ev.tl (impl_allValid_ev l hl) ?_)
  simp [h]
 ·exact Ev.neg h (Ev.now' (by simp [h]))
def cost (r : Int × Int × Int) : Int := if vrow r = true then 1 + r.2.2 else 0
theorem impl_RowCost_f (a b c : Int) : impl_RowCost.f a b c = some (cost (a, b, c)) := by
 simp only [impl_RowCost.f, impl_IsValidRow_f, Option.bind_some, cost]
 by_cases h : vrow (a, b, c) = true
 ·have := vrow_iff.1 h
  rw [if_pos h, if_pos h, w64 (by omega) (by omega)]
 ·rw [if_neg h, if_neg h]
theorem spec_RowCost_f (a b c : Int) : spec_RowCost.f a b c = some (cost (a, b, c)) := by
 simp only [spec_RowCost.f, spec_IsValidRow_f, Option.bind_some, cost]
 by_cases h : vrow (a, b, c) = true
 ·have := vrow_iff.1 h
  rw [if_pos h, if_pos h, w64 (by omega) (by omega)]
 ·rw [if_neg h, if_neg h]
theorem cost_bd (r : Int × Int × Int) : 0 ≤ cost r ∧ cost r ≤ 4 := by
 obtain ⟨a, b, c⟩ := r
 unfold cost
 by_cases h : vrow (a, b, c) = true
 ·have := vrow_iff.1 h
  rw [if_pos h]; simp only; omega
 ·rw [if_neg h]; omega
def tcM : List S95 → Int → Int
 | [], n => n
 | x :: r, n => tcM r (n + cost (x.f0, x.f1, x.f2))
theorem spec_TotalCost_ev (l : List S95) (hl : l.length ≤ 1152921504606846976) : Ev (fun k => spec_TotalCost.f k l) (tcM l 0) := by
 have key : ∀ (r : List S95) (i : Nat) (n : Int), l.drop i = r → 0 ≤ n → n ≤ 4 * i → Ev (fun k => spec_TotalCost.l0 k l n (i : Int)) (tcM r n) := by
  intro r
  induction r with
  | nil =>
   intro i n h h0 hn
   refine Ev.succ ?_
   simp only [spec_TotalCost.l0]
   exact Ev.neg (drop_nil_lt h) (Ev.now _)
  | cons x r ih =>
   intro i n h h0 hn
   obtain ⟨h1, h2, h3⟩ := rdI h
   have hc := cost_bd (x.f0, x.f1, x.f2)
   refine Ev.succ ?_
   simp only [spec_TotalCost.l0, h2, nxt (show l.length ≤ 4611686018427387904 by omega) h1, spec_RowCost_f, Option.bind_some, w64 (x := n + cost (x.f0, x.f1, x.f2)) (by omega) (by omega)]
   exact Ev.pos h1 (Ev.pos (Int.natCast_nonneg _) (ih (i + 1) _ h3 (by omega) (by omega)))
 exact key l 0 0 rfl (by omega) (by omega)
theorem impl_TotalCost_ev (l : List S95) (hl : l.length ≤ 1152921504606846976) : Ev (fun k => impl_TotalCost.f k l) (tcM l 0) := by
 have key : ∀ (r : List S95) (i : Nat) (n : Int), l.drop i = r → 0 ≤ n → n ≤ 4 * i → Ev (fun k => impl_TotalCost.l0 k n l (l.length : Int) (i : Int)) (tcM r n) := by
  intro r
  induction r with
  | nil =>
   intro i n h h0 hn
   refine Ev.succ ?_
   simp only [impl_TotalCost.l0]
   exact Ev.neg (drop_nil_lt h) (Ev.now _)
  | cons x r ih =>
   intro i n h h0 hn
   obtain ⟨h1, h2, h3⟩ := rdI h
   have hc := cost_bd (x.f0, x.f1, x.f2)
   refine Ev.succ ?_
   simp only [impl_TotalCost.l0, h2, nxt (show l.length ≤ 4611686018427387904 by omega) h1, impl_RowCost_f, Option.bind_some, w64 (x := n + cost (x.f0, x.f1, x.f2)) (by omega) (by omega)]
   exact Ev.pos h1 (Ev.pos (Int.natCast_nonneg _) (Ev.pos h1 (ih (i + 1) _ h3 (by omega) (by omega))))
 exact key l 0 0 rfl (by omega) (by omega)
def vpM (l : List S95) : Bool := avM l && (decide (1 ≤ tcM l 0) && decide (tcM l 0 ≤ 8))
theorem spec_IsValidPage_ev (l : List S95) (hl : l.length ≤ 1152921504606846976) : Ev (fun k => spec_IsValidPage.f k l) (vpM l) := by
 simp only [spec_IsValidPage.f, l1In_f, Option.bind_some]
 unfold vpM
 refine Ev.bind (spec_AreValidRows_ev l (by omega)) ?_
 by_cases h : avM l = true
 ·refine Ev.pos h (Ev.tl (spec_TotalCost_ev l hl) ?_)
  rw [h]; rfl
 ·exact Ev.neg h (Ev.now' (by simp [h]))
theorem impl_IsValidPage_ev (l : List S95) (hl : l.length ≤ 1152921504606846976) : Ev (fun k => impl_IsValidPage.f k l) (vpM l) := by
 simp only [impl_IsValidPage.f, within_f, Option.bind_some]
 unfold vpM
 refine Ev.bind (impl_AreValidRows_ev l (by omega)) ?_
 by_cases h : avM l = true
 ·refine Ev.pos h (Ev.tl (impl_TotalCost_ev l hl) ?_)
  rw [h]; rfl
 ·exact Ev.neg h (Ev.now' (by simp [h]))
def vpsM (l : List S39) : Bool := l.all fun x => vpM x.f0
theorem spec_l4Pages_ev (l : List S39) (hl : l.length ≤ 1048576) (hp : ∀ x ∈ l, x.f0.length ≤ 1048576) : Ev (fun k => spec_l4Pages.f k l) (vpsM l) := by
 have key : ∀ (r : List S39) (i : Nat), l.drop i = r → (∀ x ∈ r, x.f0.length ≤ 1048576) → Ev (fun k => spec_l4Pages.l0 k l (i : Int)) (vpsM r) := by
  intro r
  induction r with
  | nil =>
   intro i h hr
   refine Ev.succ ?_
   simp only [spec_l4Pages.l0]
   exact Ev.neg (drop_nil_lt h) (Ev.now _)
  | cons x r ih =>
   intro i h hr
   obtain ⟨h1, h2, h3⟩ := rdT39 h
   have hx := hr x (by simp)
   refine Ev.succ ?_
   simp only [spec_l4Pages.l0, h2, nxt (show l.length ≤ 4611686018427387904 by omega) h1]
   refine Ev.pos h1 (Ev.pos (Int.natCast_nonneg _) (Ev.bind (spec_IsValidPage_ev x.f0 (by omega)) ?_))
   by_cases hv : vpM x.f0 = true
   ·have e : vpsM (x :: r) = vpsM r := by simp [vpsM, hv]
    rw [e]
    exact Ev.pos hv (ih (i + 1) h3 (fun y hy => hr y (by simp [hy])))
   ·exact Ev.neg hv (Ev.now' (by simp [vpsM, hv]))
 exact key l 0 rfl hp
theorem impl_validPages_ev (l : List S39) (hl : l.length ≤ 1048576) (hp : ∀ x ∈ l, x.f0.length ≤ 1048576) : Ev (fun k => impl_validPages.f k l) (vpsM l) := by
 have key : ∀ (r : List S39) (i : Nat), l.drop i = r → (∀ x ∈ r, x.f0.length ≤ 1048576) → Ev (fun k => impl_validPages.l0 k l (l.length : Int) (i : Int)) (vpsM r) := by
  intro r
  induction r with
  | nil =>
   intro i h hr
   refine Ev.succ ?_
   simp only [impl_validPages.l0]
   exact Ev.neg (drop_nil_lt h) (Ev.now _)
  | cons x r ih =>
   intro i h hr
   obtain ⟨h1, h2, h3⟩ := rdT39 h
   have hx := hr x (by simp)
   refine Ev.succ ?_
   simp only [impl_validPages.l0, h2, nxt (show l.length ≤ 4611686018427387904 by omega) h1]
   refine Ev.pos h1 (Ev.pos (Int.natCast_nonneg _) (Ev.pos h1 (Ev.bind (impl_IsValidPage_ev x.f0 (by omega)) ?_)))
   by_cases hv : vpM x.f0 = true
   ·have e : vpsM (x :: r) = vpsM r := by simp [vpsM, hv]
    rw [e]
    exact Ev.pos hv (ih (i + 1) h3 (fun y hy => hr y (by simp [hy])))
   ·exact Ev.neg hv (Ev.now' (by simp [vpsM, hv]))
 exact key l 0 rfl hp
def cpM : List S80 → Int → Int
 | [], n => n
 | x :: r, n => cpM r (n + x.f1.length)
theorem spec_CountPages_ev (l : List S80) (m : Int) (hl : l.length ≤ 1048576) (hp : ∀ x ∈ l, x.f1.length ≤ 1048576) : Ev (fun k => spec_CountPages.f k l m) (cpM l 0) := by
 have key : ∀ (r : List S80) (i : Nat) (n : Int), l.drop i = r → (∀ x ∈ r, x.f1.length ≤ 1048576) → 0 ≤ n → n ≤ 1048576 * i → Ev (fun k => spec_CountPages.l0 k n (i : Int) l m) (cpM r n) := by
  intro r
  induction r with
  | nil =>
   intro i n h hr h0 hn
   refine Ev.succ ?_
   simp only [spec_CountPages.l0]
   exact Ev.neg (drop_nil_lt h) (Ev.now _)
  | cons x r ih =>
   intro i n h hr h0 hn
   obtain ⟨h1, h2, h3⟩ := rdT80 h
   have hx := hr x (by simp)
   refine Ev.succ ?_
   simp only [spec_CountPages.l0, h2, nxt (show l.length ≤ 4611686018427387904 by omega) h1, w64 (x := n + (x.f1.length : Int)) (by omega) (by omega)]
   exact Ev.pos h1 (Ev.pos (Int.natCast_nonneg _) (ih (i + 1) _ h3 (fun y hy => hr y (by simp [hy])) (by omega) (by omega)))
 exact key l 0 0 rfl hp (by omega) (by omega)
theorem impl_CountPages_ev (l : List S80) (m : Int) (hl : l.length ≤ 1048576) (hp : ∀ x ∈ l, x.f1.length ≤ 1048576) : Ev (fun k => impl_CountPages.f k l m) (cpM l 0) := by
 have key : ∀ (r : List S80) (i : Nat) (n : Int), l.drop i = r → (∀ x ∈ r, x.f1.length ≤ 1048576) → 0 ≤ n → n ≤ 1048576 * i → Ev (fun k => impl_CountPages.l0 k n l (l.length : Int) (i : Int)) (cpM r n) := by
  intro r
  induction r with
  | nil =>
   intro i n h hr h0 hn
   refine Ev.succ ?_
   simp only [impl_CountPages.l0]
   exact Ev.neg (drop_nil_lt h) (Ev.now _)
  | cons x r ih =>
   intro i n h hr h0 hn
   obtain ⟨h1, h2, h3⟩ := rdT80 h
   have hx := hr x (by simp)
   refine Ev.succ ?_
   simp only [impl_CountPages.l0, h2, nxt (show l.length ≤ 4611686018427387904 by omega) h1, w64 (x := n + (x.f1.length : Int)) (by omega) (by omega)]
   exact Ev.pos h1 (Ev.pos (Int.natCast_nonneg _) (Ev.pos h1 (ih (i + 1) _ h3 (fun y hy => hr y (by simp [hy])) (by omega) (by omega))))
 exact key l 0 0 rfl hp (by omega) (by omega)
def dM (n : Int) : Option Int → List S80 → Bool
 | _, [] => true
 | p, x :: r => (decide (0 ≤ x.f0) && decide (x.f0 ≤ wrap64 (n - 1))) && ((match p with | none => true | some q => !decide (x.f0 ≤ q)) && (vpsM x.f1 && ((x.f3 || decide (x.f2 = 0)) && dM n (some x.f0) r)))
def idM (l : List S80) (n : Int) : Bool := dM n none l && ((decide (0 ≤ n) && decide (n ≤ 1000)) && decide (cpM l 0 ≤ 40))
theorem spec_IsValidDisk_ev (l : List S80) (n : Int) (hl : l.length ≤ 1048576) (hp0 : ∀ x ∈ l, x.f1.length ≤ 1048576 ∧ ∀ q ∈ x.f1, q.f0.length ≤ 1048576) : Ev (fun k => spec_IsValidDisk.f k l n) (idM l n) := by
 obtain ⟨T, hT⟩ : ∃ T, T = ((decide (0 ≤ n) && decide (n ≤ 1000)) && decide (cpM l 0 ≤ 40)) := ⟨_, rfl⟩
 have key : ∀ (r : List S80) (i : Nat) (p : Option Int), l.drop i = r → ((i = 0 ∧ p = none) ∨ ∃ j y, i = j + 1 ∧ l.drop j = y :: r ∧ p = some y.f0) → (∀ x ∈ r, x.f1.length ≤ 1048576 ∧ ∀ q ∈ x.f1, q.f0.length ≤ 1048576) → Ev (fun k => spec_IsValidDisk.l0 k (i : Int) l n) (dM n p r && T) := by
  intro r
  induction r with
  | nil =>
   intro i p h hp hr
   refine Ev.succ ?_
   simp only [spec_IsValidDisk.l0, l1In_f, Option.bind_some]
   refine Ev.neg (drop_nil_lt h) ?_
   by_cases hn : (decide (0 ≤ n) && decide (n ≤ 1000)) = true
   ·exact Ev.pos hn (Ev.tl (spec_CountPages_ev l n hl (fun x hx => (hp0 x hx).1)) (by rw [hT]; simp only [dM, hn, Bool.true_and]))
   ·exact Ev.neg hn (Ev.now' (by rw [hT]; simp only [Bool.not_eq_true] at hn; simp only [dM, hn, Bool.false_and, Bool.and_false]))
  | cons x r ih =>
   intro i p h hp hr
   obtain ⟨h1, h2, h3⟩ := rdT80 h
   have hx := hr x (by simp)
   have hr' := ih (i + 1) (some x.f0) h3 (Or.inr ⟨i, x, rfl, h, rfl⟩) (fun y hy => hr y (by simp [hy]))
   have rest : Ev (fun k => (spec_l4Pages.f k x.f1).bind fun t => if t = true then (if x.f3 = true then spec_IsValidDisk.l0 k (((i + 1 : Nat) : Int)) l n else if x.f2 = 0 then spec_IsValidDisk.l0 k (((i + 1 : Nat) : Int)) l n else some false) else some false) (vpsM x.f1 && ((x.f3 || decide (x.f2 = 0)) && (dM n (some x.f0) r && T))) := by
    refine Ev.bind (spec_l4Pages_ev x.f1 hx.1 hx.2) ?_
    by_cases hv : vpsM x.f1 = true
    ·rw [hv, Bool.true_and]
     by_cases hs : x.f3 = true
     ·have e : ((x.f3 || decide (x.f2 = 0)) && (dM n (some x.f0) r && T)) = (dM n (some x.f0) r && T) := by rw [hs, Bool.true_or, Bool.true_and]
      rw [e]
      exact Ev.pos (by trivial) (Ev.pos hs hr')
     ·by_cases hc : x.f2 = 0
      ·have e : ((x.f3 || decide (x.f2 = 0)) && (dM n (some x.f0) r && T)) = (dM n (some x.f0) r && T) := by rw [decide_eq_true hc, Bool.or_true, Bool.true_and]
       rw [e]
       exact Ev.pos (by trivial) (Ev.neg hs (Ev.pos hc hr'))
      ·exact Ev.pos (by trivial) (Ev.neg hs (Ev.neg hc (Ev.now' (by simp [hs, hc]))))
    ·exact Ev.neg hv (Ev.now' (by simp [hv]))
   refine Ev.succ ?_
   simp only [spec_IsValidDisk.l0, h2, l1In_f, Option.bind_some, nxt (show l.length ≤ 4611686018427387904 by omega) h1]
   refine Ev.pos h1 (Ev.pos (Int.natCast_nonneg _) ?_)
   by_cases ha : (decide (0 ≤ x.f0) && decide (x.f0 ≤ wrap64 (n - 1))) = true
   ·refine Ev.pos ha ?_
    rcases hp with ⟨hi, hp⟩ | ⟨j, y, hj, hy, hp⟩
    ·have e : (dM n p (x :: r) && T) = (vpsM x.f1 && ((x.f3 || decide (x.f2 = 0)) && (dM n (some x.f0) r && T))) := by
      subst hp
      simp only [dM, ha, Bool.true_and, Bool.and_assoc]
     rw [e]
     exact Ev.neg (by omega) rest
    ·obtain ⟨j1, j2, _⟩ := rdT80 hy
     have ew : wrap64 ((i : Int) - 1) = (j : Int) := by rw [w64 (by omega) (by omega)]; omega
     simp only [ew, j2]
     refine Ev.pos (by omega) (Ev.pos (Int.natCast_nonneg _) (Ev.pos j1 ?_))
     by_cases ho : x.f0 ≤ y.f0
     ·exact Ev.pos ho (Ev.now' (by subst hp; simp [dM, ho]))
     ·have e : (dM n p (x :: r) && T) = (vpsM x.f1 && ((x.f3 || decide (x.f2 = 0)) && (dM n (some x.f0) r && T))) := by
       subst hp
       simp only [dM, ha, decide_eq_false ho, Bool.not_false, Bool.true_and, Bool.and_assoc]
      rw [e]
      exact Ev.neg ho rest
   ·exact Ev.neg ha (Ev.now' (by simp only [Bool.not_eq_true] at ha; simp only [dM, ha, Bool.false_and]))
 have := key l 0 none rfl (Or.inl ⟨rfl, rfl⟩) hp0
 unfold idM
 rw [← hT]
 exact this
theorem impl_IsValidDisk_ev (l : List S80) (n : Int) (hl : l.length ≤ 1048576) (hp0 : ∀ x ∈ l, x.f1.length ≤ 1048576 ∧ ∀ q ∈ x.f1, q.f0.length ≤ 1048576) : Ev (fun k => impl_IsValidDisk.f k l n) (idM l n) := by
 have key : ∀ (r : List S80) (i : Nat) (p : Option Int), l.drop i = r → ((i = 0 ∧ p = none) ∨ ∃ j y, i = j + 1 ∧ l.drop j = y :: r ∧ p = some y.f0) → (∀ x ∈ r, x.f1.length ≤ 1048576 ∧ ∀ q ∈ x.f1, q.f0.length ≤ 1048576) → Ev (fun k => impl_IsValidDisk.l0 k l (l.length : Int) (i : Int) l n) (dM n p r) := by
  intro r
  induction r with
  | nil =>
   intro i p h hp hr
   refine Ev.succ ?_
   simp only [impl_IsValidDisk.l0]
   exact Ev.neg (drop_nil_lt h) (Ev.now' rfl)
  | cons x r ih =>
   intro i p h hp hr
   obtain ⟨h1, h2, h3⟩ := rdT80 h
   have hx := hr x (by simp)
   have hr' := ih (i + 1) (some x.f0) h3 (Or.inr ⟨i, x, rfl, h, rfl⟩) (fun y hy => hr y (by simp [hy]))
   have rest : Ev (fun k => (impl_validPages.f k x.f1).bind fun t => if t = true then (if x.f3 = true then impl_IsValidDisk.l0 k l (l.length : Int) (((i + 1 : Nat) : Int)) l n else if x.f2 = 0 then impl_IsValidDisk.l0 k l (l.length : Int) (((i + 1 : Nat) : Int)) l n else some false) else some false) (vpsM x.f1 && ((x.f3 || decide (x.f2 = 0)) && (dM n (some x.f0) r))) := by
    refine Ev.bind (impl_validPages_ev x.f1 hx.1 hx.2) ?_
    by_cases hv : vpsM x.f1 = true
    ·rw [hv, Bool.true_and]
     by_cases hs : x.f3 = true
     ·have e : ((x.f3 || decide (x.f2 = 0)) && (dM n (some x.f0) r)) = (dM n (some x.f0) r) := by rw [hs, Bool.true_or, Bool.true_and]
      rw [e]
      exact Ev.pos (by trivial) (Ev.pos hs hr')
     ·by_cases hc : x.f2 = 0
      ·have e : ((x.f3 || decide (x.f2 = 0)) && (dM n (some x.f0) r)) = (dM n (some x.f0) r) := by rw [decide_eq_true hc, Bool.or_true, Bool.true_and]
       rw [e]
       exact Ev.pos (by trivial) (Ev.neg hs (Ev.pos hc hr'))
      ·exact Ev.pos (by trivial) (Ev.neg hs (Ev.neg hc (Ev.now' (by simp [hs, hc]))))
    ·exact Ev.neg hv (Ev.now' (by simp [hv]))
   refine Ev.succ ?_
   simp only [impl_IsValidDisk.l0, h2, within_f, Option.bind_some, nxt (show l.length ≤ 4611686018427387904 by omega) h1]
   refine Ev.pos h1 (Ev.pos (Int.natCast_nonneg _) (Ev.pos h1 ?_))
   by_cases ha : (decide (0 ≤ x.f0) && decide (x.f0 ≤ wrap64 (n - 1))) = true
   ·refine Ev.pos ha ?_
    rcases hp with ⟨hi, hp⟩ | ⟨j, y, hj, hy, hp⟩
    ·have e : (dM n p (x :: r)) = (vpsM x.f1 && ((x.f3 || decide (x.f2 = 0)) && (dM n (some x.f0) r))) := by
      subst hp
      simp only [dM, ha, Bool.true_and, Bool.and_assoc]
     rw [e]
     exact Ev.neg (by omega) rest
    ·obtain ⟨j1, j2, _⟩ := rdT80 hy
     have ew : wrap64 ((i : Int) - 1) = (j : Int) := by rw [w64 (by omega) (by omega)]; omega
     simp only [ew, j2]
     refine Ev.pos (by omega) (Ev.pos (Int.natCast_nonneg _) (Ev.pos j1 ?_))
     by_cases ho : x.f0 ≤ y.f0
     ·exact Ev.pos ho (Ev.now' (by subst hp; simp [dM, ho]))
     ·have e : (dM n p (x :: r)) = (vpsM x.f1 && ((x.f3 || decide (x.f2 = 0)) && (dM n (some x.f0) r))) := by
       subst hp
       simp only [dM, ha, decide_eq_false ho, Bool.not_false, Bool.true_and, Bool.and_assoc]
      rw [e]
      exact Ev.neg ho rest
   ·exact Ev.neg ha (Ev.now' (by simp only [Bool.not_eq_true] at ha; simp only [dM, ha, Bool.false_and]))
 have hj : ∀ b, Ev (fun k => impl_IsValidDisk.j0 k b l n) (!b && dM n none l) := by
  intro b
  refine Ev.succ ?_
  simp only [impl_IsValidDisk.j0]
  cases b with
  | false => exact Ev.neg (by decide) (by simpa using key l 0 none rfl (Or.inl ⟨rfl, rfl⟩) hp0)
  | true => exact Ev.pos (by trivial) (Ev.now' rfl)
 simp only [impl_IsValidDisk.f, within_f, Option.bind_some]
 by_cases hn : (decide (0 ≤ n) && decide (n ≤ 1000)) = true
 ·refine Ev.pos hn (Ev.bind (impl_CountPages_ev l n hl (fun x hx => (hp0 x hx).1)) ?_)
  have e : idM l n = (!(decide (cpM l 0 > 40)) && dM n none l) := by
   unfold idM
   rw [hn, Bool.true_and]
   by_cases hc : cpM l 0 ≤ 40
   ·rw [decide_eq_true hc, decide_eq_false (by omega)]; simp
   ·rw [decide_eq_false hc, decide_eq_true (by omega)]; simp
  rw [e]
  exact hj _
 ·refine Ev.neg hn ?_
  have e : idM l n = (!true && dM n none l) := by
   simp only [Bool.not_eq_true] at hn
   unfold idM
   rw [hn]; simp
  rw [e]
  exact hj _
theorem cpM_le : ∀ (l : List S80) (n : Int), n ≤ cpM l n
 | [], n => Int.le_refl _
 | x :: r, n => by simp only [cpM]; have := cpM_le r (n + x.f1.length); omega
theorem cpM_mem : ∀ (l : List S80) (n : Int), ∀ x ∈ l, n + x.f1.length ≤ cpM l n
 | [], n => by simp
 | y :: r, n => by
  intro x hx
  simp only [cpM]
  rcases List.mem_cons.1 hx with rfl | hx
  ·exact cpM_le r _
  ·have := cpM_mem r (n + y.f1.length) x hx; omega
theorem dM_vps (n : Int) : ∀ (l : List S80) (p : Option Int), dM n p l = true → ∀ x ∈ l, vpsM x.f1 = true
 | [], p, _ => by simp
 | y :: r, p, h => by
  intro x hx
  simp only [dM, Bool.and_eq_true] at h
  rcases List.mem_cons.1 hx with rfl | hx
  ·exact h.2.2.1
  ·exact dM_vps n r _ h.2.2.2.2 x hx
theorem vps_mem {l : List S39} (h : vpsM l = true) : ∀ x ∈ l, vpM x.f0 = true := by
 intro x hx
 induction l with
 | nil => simp at hx
 | cons y r ih =>
  have h2 : vpM y.f0 = true ∧ vpsM r = true := by simpa [vpsM] using h
  rcases List.mem_cons.1 hx with rfl | hx
  ·exact h2.1
  ·exact ih h2.2 hx
theorem vpM_len {l : List S95} (h : vpM l = true) : l.length ≤ 24 := by
 unfold vpM avM at h; simp at h; omega
theorem idM_small {l : List S80} {n : Int} (h : idM l n = true) : ∀ x ∈ l, x.f1.length ≤ 40 ∧ ∀ p ∈ x.f1, p.f0.length ≤ 24 := by
 intro x hx
 simp only [idM, Bool.and_eq_true, decide_eq_true_eq] at h
 have h1 := cpM_mem l 0 x hx
 exact ⟨by omega, fun p hp => vpM_len (vps_mem (dM_vps n l none h.1 x hx) p hp)⟩
def faM (a : Int) : Nat → List S80 → Int
 | _, [] => -1
 | i, x :: r => if x.f0 = a then (i : Int) else faM a (i + 1) r
theorem faM_cases (a : Int) : ∀ (l : List S80) (i : Nat), faM a i l = -1 ∨ ∃ (j : Nat) (x : S80), l[j]? = some x ∧ x.f0 = a ∧ faM a i l = ((i + j : Nat) : Int)
 | [], i => .inl rfl
 | x :: r, i => by
  simp only [faM]
  by_cases h : x.f0 = a
  ·rw [if_pos h]; exact .inr ⟨0, x, rfl, h, rfl⟩
  ·rw [if_neg h]
   rcases faM_cases a r (i + 1) with h1 | ⟨j, y, h1, h2, h3⟩
   ·exact .inl h1
   ·exact .inr ⟨j + 1, y, by simpa using h1, h2, by rw [h3]; congr 1; omega⟩
theorem faM_at {l : List S80} {a : Int} (h : ¬ faM a 0 l < 0) : 0 ≤ faM a 0 l ∧ faM a 0 l < (l.length : Int) ∧ rd_T80 l (faM a 0 l) ∈ l := by
 rcases faM_cases a l 0 with h1 | ⟨j, x, h1, h2, h3⟩
 ·omega
 ·obtain ⟨hj, hx⟩ := List.getElem?_eq_some_iff.1 h1
  rw [h3, Nat.zero_add]
  refine ⟨by omega, by omega, ?_⟩
  unfold rd_T80
  rw [Int.toNat_natCast, List.getD_eq_getElem?_getD, h1, ← hx]
  exact List.getElem_mem hj
def apL (l : List S80) (j : Nat) (q : List S95) : List S80 := l.set j ⟨(rd_T80 l j).f0, (rd_T80 l j).f1 ++ [⟨q⟩], (rd_T80 l j).f2, false⟩
def apM (l : List S80) (n a : Int) (q : List S95) : List S80 × Int × Bool :=
 if idM l n = true then (if faM a 0 l < 0 then (l, n, false) else (if (rd_T80 l (faM a 0 l)).f3 = true then (l, n, false) else (if vpM q = true then (if cpM l 0 ≥ 40 then (l, n, false) else (apL l (faM a 0 l).toNat q, n, true)) else (l, n, false)))) else (l, n, false)
theorem idM_cp {l : List S80} {n : Int} (h : idM l n = true) : cpM l 0 ≤ 40 := by
 simp only [idM, Bool.and_eq_true, decide_eq_true_eq] at h
 exact h.2.2
theorem spec_l6Copy_ev (l : List S80) (n : Int) (hl : l.length ≤ 1048576) (hp0 : ∀ x ∈ l, x.f1.length ≤ 1048576 ∧ ∀ q ∈ x.f1, q.f0.length ≤ 1048576) : Ev (fun k => spec_l6Copy.f k l n) (l, n) := by
 have inner : ∀ (x : S80) (rr : List S80) (i : Nat) (acc : List S80) (R : List S80 × Int), l.drop i = x :: rr → acc.length ≤ 1048576 → Ev (fun k => spec_l6Copy.l0 k ((i + 1 : Nat) : Int) l n (acc ++ [x]) n) R → (x.f1.length ≤ 1048576 ∧ ∀ q ∈ x.f1, q.f0.length ≤ 1048576) →
   ∀ (r pd : List S39) (j : Nat), x.f1.drop j = r → pd ++ r = x.f1 → Ev (fun k => spec_l6Copy.l1 k (i : Int) (j : Int) l n acc n x.f0 pd x.f2 x.f3) R := by
  intro x rr i acc R h ha hR hx r
  obtain ⟨h1, h2, h3⟩ := rdT80 h
  induction r with
  | nil =>
   intro pd j hd he
   rw [List.append_nil] at he
   subst he
   refine Ev.succ ?_
   simp only [spec_l6Copy.l1, h2, nxt (show l.length ≤ 4611686018427387904 by omega) h1]
   exact Ev.pos (Int.natCast_nonneg _) (Ev.pos h1 (Ev.neg (drop_nil_lt hd) (Ev.pos (by omega) hR)))
  | cons p r ih =>
   intro pd j hd he
   obtain ⟨g1, g2, g3⟩ := rdT39 hd
   have hq := hx.2 p (by rw [← he]; simp)
   have hpl : pd.length ≤ 1048576 := by have := congrArg List.length he; rw [List.length_append] at this; omega
   refine Ev.succ ?_
   simp only [spec_l6Copy.l1, h2, g2, nxt (show x.f1.length ≤ 4611686018427387904 by omega) g1, Option.bind_some, List.nil_append]
   refine Ev.pos (Int.natCast_nonneg _) (Ev.pos h1 (Ev.pos g1 (Ev.pos (Int.natCast_nonneg _) (Ev.pos (by simp only [List.length_nil]; omega) (Ev.pos (by omega) ?_)))))
   exact ih (pd ++ [p]) (j + 1) g3 (by rw [List.append_assoc]; exact he)
 have key : ∀ (r : List S80) (i : Nat) (acc : List S80), l.drop i = r → acc ++ r = l → Ev (fun k => spec_l6Copy.l0 k (i : Int) l n acc n) (l, n) := by
  intro r
  induction r with
  | nil =>
   intro i acc h he
   rw [List.append_nil] at he
   subst he
   refine Ev.succ ?_
   simp only [spec_l6Copy.l0]
   exact Ev.neg (drop_nil_lt h) (Ev.now _)
  | cons x r ih =>
   intro i acc h he
   obtain ⟨h1, h2, h3⟩ := rdT80 h
   have hal : acc.length ≤ 1048576 := by have := congrArg List.length he; rw [List.length_append] at this; omega
   refine Ev.succ ?_
   simp only [spec_l6Copy.l0, h2]
   refine Ev.pos h1 (Ev.pos (Int.natCast_nonneg _) ?_)
   exact inner x r i acc (l, n) h hal (ih (i + 1) (acc ++ [x]) h3 (by rw [List.append_assoc]; exact he)) (hp0 x (by rw [← he]; simp)) x.f1 [] 0 rfl rfl
 exact key l 0 [] rfl rfl
theorem spec_l6At_ev (l : List S80) (n a : Int) (hl : l.length ≤ 1048576) : Ev (fun k => spec_l6At.f k l n a) (faM a 0 l) := by
 have key : ∀ (r : List S80) (i : Nat), l.drop i = r → Ev (fun k => spec_l6At.l0 k a (i : Int) l n) (faM a i r) := by
  intro r
  induction r with
  | nil =>
   intro i h
   refine Ev.succ ?_
   simp only [spec_l6At.l0, faM]
   exact Ev.neg (drop_nil_lt h) (Ev.now _)
  | cons x r ih =>
   intro i h
   obtain ⟨h1, h2, h3⟩ := rdT80 h
   refine Ev.succ ?_
   simp only [spec_l6At.l0, faM, h2, nxt (show l.length ≤ 4611686018427387904 by omega) h1]
   refine Ev.pos h1 (Ev.pos (Int.natCast_nonneg _) ?_)
   by_cases hz : x.f0 = a
   ·rw [if_pos hz]; exact Ev.pos hz (Ev.now _)
   ·rw [if_neg hz]; exact Ev.neg hz (ih (i + 1) h3)
 exact key l 0 rfl
theorem spec_AppendPage_ev (l : List S80) (n a : Int) (q : List S95) (hl : l.length ≤ 1048576) (hp0 : ∀ x ∈ l, x.f1.length ≤ 1048576 ∧ ∀ q ∈ x.f1, q.f0.length ≤ 1048576) (hq : q.length ≤ 1048576) : Ev (fun k => spec_AppendPage.f k l n a q) (apM l n a q) := by
 simp only [spec_AppendPage.f]
 refine Ev.bind (spec_l6Copy_ev l n hl hp0) (Ev.bind (spec_l6At_ev l n a hl) (Ev.bind (spec_IsValidDisk_ev l n hl hp0) ?_))
 dsimp only
 unfold apM
 by_cases hv : idM l n = true
 ·rw [if_pos hv]; refine Ev.pos hv ?_
  have hcp := idM_cp hv
  by_cases hf : faM a 0 l < 0
  ·rw [if_pos hf]; exact Ev.pos hf (Ev.now _)
  ·rw [if_neg hf]
   obtain ⟨h1, h2, h3⟩ := faM_at hf
   obtain ⟨j, hj⟩ := Int.eq_ofNat_of_zero_le h1
   rw [hj] at hf h1 h2 h3 ⊢
   have hx := hp0 _ h3
   refine Ev.neg hf (Ev.pos h1 (Ev.pos h2 ?_))
   simp only [Int.toNat_natCast]
   by_cases hz : (rd_T80 l j).f3 = true
   ·rw [if_pos hz]; exact Ev.pos hz (Ev.now _)
   ·rw [if_neg hz]
    refine Ev.neg hz (Ev.bind (spec_IsValidPage_ev q (by omega)) ?_)
    by_cases hvp : vpM q = true
    ·rw [if_pos hvp]
     refine Ev.pos hvp (Ev.bind (spec_CountPages_ev l n hl (fun x hx => (hp0 x hx).1)) ?_)
     by_cases hc : cpM l 0 ≥ 40
     ·rw [if_pos hc]; exact Ev.pos (by omega) (Ev.now _)
     ·rw [if_neg hc]
      refine Ev.neg (by omega) (Ev.pos h2 (Ev.pos (by omega) (Ev.pos (by omega) (Ev.now' ?_))))
      unfold apL
      simp only [Bool.not_eq_true] at hz
      rw [hz]
    ·rw [if_neg hvp]; exact Ev.neg hvp (Ev.now _)
 ·rw [if_neg hv]; exact Ev.neg hv (Ev.now _)
theorem impl_clonePages_ev (l : List S39) (hl : l.length ≤ 1048576) (hp : ∀ q ∈ l, q.f0.length ≤ 1048576) : Ev (fun k => impl_clonePages.f k l) l := by
 have key : ∀ (r : List S39) (i : Nat) (acc : List S39), l.drop i = r → acc ++ r = l → Ev (fun k => impl_clonePages.l0 k acc l (l.length : Int) (i : Int)) l := by
  intro r
  induction r with
  | nil =>
   intro i acc h he
   rw [List.append_nil] at he
   subst he
   refine Ev.succ ?_
   simp only [impl_clonePages.l0]
   exact Ev.neg (drop_nil_lt h) (Ev.now _)
  | cons x r ih =>
   intro i acc h he
   obtain ⟨h1, h2, h3⟩ := rdT39 h
   have hal : acc.length ≤ 1048576 := by have := congrArg List.length he; rw [List.length_append] at this; omega
   have hx := hp x (by rw [← he]; simp)
   have hc : impl_clone.f x.f0 = some x.f0 := by unfold impl_clone.f; rw [if_pos (by omega)]
   refine Ev.succ ?_
   simp only [impl_clonePages.l0, h2, nxt (show l.length ≤ 4611686018427387904 by omega) h1, hc, Option.bind_some]
   refine Ev.pos h1 (Ev.pos (Int.natCast_nonneg _) (Ev.pos h1 (Ev.pos (by omega) ?_)))
   exact ih (i + 1) (acc ++ [x]) h3 (by rw [List.append_assoc]; exact he)
 exact key l 0 [] rfl rfl
theorem impl_cloneDisk_ev (l : List S80) (n : Int) (hl : l.length ≤ 1048576) (hp0 : ∀ x ∈ l, x.f1.length ≤ 1048576 ∧ ∀ q ∈ x.f1, q.f0.length ≤ 1048576) : Ev (fun k => impl_cloneDisk.f k l n) (l, n) := by
 have key : ∀ (r : List S80) (i : Nat) (acc : List S80), l.drop i = r → acc ++ r = l → Ev (fun k => impl_cloneDisk.l0 k l (l.length : Int) (i : Int) acc n) (l, n) := by
  intro r
  induction r with
  | nil =>
   intro i acc h he
   rw [List.append_nil] at he
   subst he
   refine Ev.succ ?_
   simp only [impl_cloneDisk.l0]
   exact Ev.neg (drop_nil_lt h) (Ev.now _)
  | cons x r ih =>
   intro i acc h he
   obtain ⟨h1, h2, h3⟩ := rdT80 h
   have hal : acc.length ≤ 1048576 := by have := congrArg List.length he; rw [List.length_append] at this; omega
   have hx := hp0 x (by rw [← he]; simp)
   refine Ev.succ ?_
   simp only [impl_cloneDisk.l0, h2, nxt (show l.length ≤ 4611686018427387904 by omega) h1]
   refine Ev.pos h1 (Ev.pos (Int.natCast_nonneg _) (Ev.pos h1 (Ev.bind (impl_clonePages_ev x.f1 hx.1 hx.2) (Ev.pos (by omega) ?_))))
   exact ih (i + 1) (acc ++ [x]) h3 (by rw [List.append_assoc]; exact he)
 exact key l 0 [] rfl rfl
theorem impl_fileAt_ev (l : List S80) (n a : Int) (hl : l.length ≤ 1048576) : Ev (fun k => impl_fileAt.f k l n a) (faM a 0 l) := by
 have key : ∀ (r : List S80) (i : Nat), l.drop i = r → Ev (fun k => impl_fileAt.l0 k a l (l.length : Int) (i : Int)) (faM a i r) := by
  intro r
  induction r with
  | nil =>
   intro i h
   refine Ev.succ ?_
   simp only [impl_fileAt.l0, faM]
   exact Ev.neg (drop_nil_lt h) (Ev.now _)
  | cons x r ih =>
   intro i h
   obtain ⟨h1, h2, h3⟩ := rdT80 h
   refine Ev.succ ?_
   simp only [impl_fileAt.l0, faM, h2, nxt (show l.length ≤ 4611686018427387904 by omega) h1]
   refine Ev.pos h1 (Ev.pos (Int.natCast_nonneg _) (Ev.pos h1 ?_))
   by_cases hz : x.f0 = a
   ·rw [if_pos hz]; exact Ev.pos hz (Ev.now _)
   ·rw [if_neg hz]; exact Ev.neg hz (ih (i + 1) h3)
 exact key l 0 rfl
theorem impl_AppendPage_ev (l : List S80) (n a : Int) (q : List S95) (hl : l.length ≤ 1048576) (hp0 : ∀ x ∈ l, x.f1.length ≤ 1048576 ∧ ∀ q ∈ x.f1, q.f0.length ≤ 1048576) (hq : q.length ≤ 1048576) : Ev (fun k => impl_AppendPage.f k l n a q) (apM l n a q) := by
 simp only [impl_AppendPage.f]
 refine Ev.bind (impl_cloneDisk_ev l n hl hp0) (Ev.bind (impl_fileAt_ev l n a hl) (Ev.bind (impl_IsValidDisk_ev l n hl hp0) ?_))
 dsimp only
 unfold apM
 by_cases hv : idM l n = true
 ·rw [if_pos hv]; refine Ev.pos hv ?_
  by_cases hf : faM a 0 l < 0
  ·rw [if_pos hf]; exact Ev.pos hf (Ev.now _)
  ·rw [if_neg hf]
   obtain ⟨h1, h2, h3⟩ := faM_at hf
   obtain ⟨j, hj⟩ := Int.eq_ofNat_of_zero_le h1
   rw [hj] at hf h1 h2 h3 ⊢
   have hx := hp0 _ h3
   refine Ev.neg hf (Ev.pos h1 (Ev.pos h2 ?_))
   simp only [Int.toNat_natCast]
   by_cases hz : (rd_T80 l j).f3 = true
   ·rw [if_pos hz]; exact Ev.pos hz (Ev.now _)
   ·rw [if_neg hz]
    refine Ev.neg hz (Ev.bind (impl_IsValidPage_ev q (by omega)) ?_)
    by_cases hvp : vpM q = true
    ·rw [if_pos hvp]
     refine Ev.pos hvp (Ev.bind (impl_CountPages_ev l n hl (fun x hx => (hp0 x hx).1)) ?_)
     by_cases hc : cpM l 0 ≥ 40
     ·refine Ev.pos hc ?_
      rw [if_pos hc]; exact Ev.now _
     ·refine Ev.neg hc ?_
      rw [if_neg hc]
      exact Ev.pos (by omega) (Ev.pos (by omega) (Ev.now _))
    ·rw [if_neg hvp]; exact Ev.neg hvp (Ev.now _)
 ·rw [if_neg hv]; exact Ev.neg hv (Ev.now _)
def mkRow (n : Int) : S95 := ⟨n, n + 1, n + 2⟩
def mkRows : Nat → Int → List S95
 | 0, _ => []
 | n + 1, k => mkRow k :: mkRows n (k + 3)
theorem rd_at (d : List S95) (x : S95) (r : List S95) : rd_T95 (d ++ x :: r) (d.length : Int) = x := by
 unfold rd_T95
 rw [Int.toNat_natCast, List.getD_eq_getElem?_getD, List.getElem?_append_right (Nat.le_refl _), Nat.sub_self]; rfl
theorem set_at (d : List S95) (x y : S95) (r : List S95) : (d ++ x :: r).set (d.length : Int).toNat y = d ++ y :: r := by
 rw [Int.toNat_natCast, List.set_append_right _ _ (Nat.le_refl _), Nat.sub_self, List.set_cons_zero]
theorem markRowS_ev (l : List S95) (hl : l.length ≤ 1048576) (k0 : Int) (h0 : 0 ≤ k0) (h1 : k0 ≤ 4611686018427387904) : Ev (fun k => laws_markRowS.f k l k0) (k0 + 3 * l.length, mkRows l.length k0) := by
 have key : ∀ (r d : List S95) (n : Int), d.length + r.length ≤ 1048576 → 0 ≤ n → n ≤ 4611686018427387904 + 3 * d.length → Ev (fun k => laws_markRowS.l0 k (d ++ r) n (d.length : Int)) (n + 3 * r.length, d ++ mkRows r.length n) := by
  intro r
  induction r with
  | nil =>
   intro d n hd hn hn2
   refine Ev.succ ?_
   simp only [laws_markRowS.l0]
   exact Ev.neg (by simp) (Ev.now' (by simp [mkRows]))
  | cons x r ih =>
   intro d n hd hn hn2
   simp only [List.length_cons] at hd
   refine Ev.succ ?_
   have e1 : wrap64 (n + 1) = n + 1 := w64 (by omega) (by omega)
   have e2 : wrap64 (n + 1 + 1) = n + 1 + 1 := w64 (by omega) (by omega)
   have e3 : wrap64 (n + 1 + 1 + 1) = n + 1 + 1 + 1 := w64 (by omega) (by omega)
   have e4 : wrap64 ((d.length : Int) + 1) = ((d.length + 1 : Nat) : Int) := by rw [w64 (by omega) (by omega)]; omega
   simp only [laws_markRowS.l0, e1, e2, e3, e4, rd_at, set_at, Option.bind_some]
   refine Ev.pos (by simp only [List.length_append, List.length_cons]; omega) (Ev.pos (Int.natCast_nonneg _) ?_)
   have := ih (d ++ [⟨n, n + 1, n + 1 + 1⟩]) (n + 1 + 1 + 1) (by simp only [List.length_append, List.length_cons, List.length_nil]; omega) (by omega) (by simp only [List.length_append, List.length_cons, List.length_nil]; omega)
   have e5 : n + 1 + 1 + 1 + 3 * (r.length : Int) = n + 3 * ((x :: r).length : Int) := by simp only [List.length_cons]; omega
   have e6 : (d ++ [⟨n, n + 1, n + 1 + 1⟩]) ++ mkRows r.length (n + 1 + 1 + 1) = d ++ mkRows (x :: r).length n := by
    simp only [List.length_cons, mkRows, mkRow, List.append_assoc, List.cons_append, List.nil_append, Int.add_assoc]; rfl
   rw [e5, e6] at this
   simpa using this
 have := key l [] k0 (by simpa using hl) h0 (by simp; omega)
 exact this
theorem heldRowS_ev (m : Nat) (hm : m ≤ 1048576) (k0 : Int) (h0 : 0 ≤ k0) (h1 : k0 ≤ 4611686018427387904) : Ev (fun k => laws_heldRowS.f k (mkRows m k0) k0) (k0 + 3 * m) := by
 have key : ∀ (r : Nat) (d : List S95) (n : Int), d.length + r ≤ 1048576 → 0 ≤ n → n ≤ 4611686018427387904 + 3 * d.length → Ev (fun k => laws_heldRowS.l0 k (d ++ mkRows r n) n (d.length : Int)) (n + 3 * r) := by
  intro r
  induction r with
  | zero =>
   intro d n hd hn hn2
   refine Ev.succ ?_
   simp only [laws_heldRowS.l0]
   exact Ev.neg (by simp [mkRows]) (Ev.now' (by omega))
  | succ r ih =>
   intro d n hd hn hn2
   refine Ev.succ ?_
   have e1 : wrap64 (n + 1) = n + 1 := w64 (by omega) (by omega)
   have e2 : wrap64 (n + 1 + 1) = n + 1 + 1 := w64 (by omega) (by omega)
   have e3 : wrap64 (n + 1 + 1 + 1) = n + 1 + 1 + 1 := w64 (by omega) (by omega)
   have e4 : wrap64 ((d.length : Int) + 1) = ((d.length + 1 : Nat) : Int) := by rw [w64 (by omega) (by omega)]; omega
   simp only [laws_heldRowS.l0, e1, e2, e3, e4, mkRows, mkRow, rd_at]
   refine Ev.pos (by simp only [List.length_append, List.length_cons]; omega) (Ev.pos (Int.natCast_nonneg _) ?_)
   refine Ev.pos (by trivial) (Ev.pos (by trivial) (Ev.pos (by omega) ?_))
   have := ih (d ++ [⟨n, n + 1, n + 2⟩]) (n + 1 + 1 + 1) (by simp only [List.length_append, List.length_cons, List.length_nil]; omega) (by omega) (by simp only [List.length_append, List.length_cons, List.length_nil]; omega)
   have e5 : n + 1 + 1 + 1 + 3 * (r : Int) = n + 3 * ((r + 1 : Nat) : Int) := by omega
   have e6 : n + 1 + 1 + 1 = n + 3 := by omega
   rw [e5] at this
   rw [e6] at this ⊢
   simpa using this
 exact key m [] k0 (by simpa using hm) h0 (by simp; omega)
def tot : List S39 → Nat
 | [] => 0
 | x :: r => x.f0.length + tot r
def mkPages : List S39 → Int → List S39
 | [], _ => []
 | x :: r, k => ⟨mkRows x.f0.length k⟩ :: mkPages r (k + 3 * x.f0.length)
theorem rd_atP (d : List S39) (x : S39) (r : List S39) : rd_T39 (d ++ x :: r) (d.length : Int) = x := by
 unfold rd_T39
 rw [Int.toNat_natCast, List.getD_eq_getElem?_getD, List.getElem?_append_right (Nat.le_refl _), Nat.sub_self]; rfl
theorem set_atP (d : List S39) (x y : S39) (r : List S39) : (d ++ x :: r).set (d.length : Int).toNat y = d ++ y :: r := by
 rw [Int.toNat_natCast, List.set_append_right _ _ (Nat.le_refl _), Nat.sub_self, List.set_cons_zero]
theorem markPageS_ev3 (l : List S39) (hl : l.length ≤ 1048577) (ht : tot l ≤ 1152921504606846976) (hx : ∀ x ∈ l, x.f0.length ≤ 1048576) (k0 : Int) (h0 : 0 ≤ k0) (h1 : k0 + 3 * tot l ≤ 4611686018427387904) : Ev (fun k => laws_markPageS.f k l k0) (k0 + 3 * tot l, mkPages l k0) := by
 have key : ∀ (r d : List S39) (n : Int), d.length + r.length ≤ 1048577 → tot r ≤ 1152921504606846976 → (∀ x ∈ r, x.f0.length ≤ 1048576) → 0 ≤ n → n + 3 * tot r ≤ 4611686018427387904 → Ev (fun k => laws_markPageS.l0 k (d ++ r) n (d.length : Int)) (n + 3 * tot r, d ++ mkPages r n) := by
  intro r
  induction r with
  | nil =>
   intro d n hd ht hx hn hn2
   refine Ev.succ ?_
   simp only [laws_markPageS.l0]
   exact Ev.neg (by simp) (Ev.now' (by simp [mkPages, tot]))
  | cons x r ih =>
   intro d n hd ht hx hn hn2
   simp only [List.length_cons] at hd
   simp only [tot] at ht hn2
   refine Ev.succ ?_
   have e4 : wrap64 ((d.length : Int) + 1) = ((d.length + 1 : Nat) : Int) := by rw [w64 (by omega) (by omega)]; omega
   simp only [laws_markPageS.l0, e4, rd_atP, set_atP]
   refine Ev.pos (by simp only [List.length_append, List.length_cons]; omega) (Ev.pos (Int.natCast_nonneg _) (Ev.bind (markRowS_ev x.f0 (hx x (by simp)) n hn (by omega)) ?_))
   have := ih (d ++ [⟨mkRows x.f0.length n⟩]) (n + 3 * x.f0.length) (by simp only [List.length_append, List.length_cons, List.length_nil]; omega) (by omega) (fun y hy => hx y (by simp [hy])) (by omega) (by omega)
   have e5 : n + 3 * (x.f0.length : Int) + 3 * (tot r : Int) = n + 3 * (tot (x :: r) : Int) := by simp only [tot]; omega
   have e6 : (d ++ [⟨mkRows x.f0.length n⟩]) ++ mkPages r (n + 3 * x.f0.length) = d ++ mkPages (x :: r) n := by
    simp only [mkPages, List.append_assoc, List.cons_append, List.nil_append]
   rw [e5, e6] at this
   simpa using this
 have := key l [] k0 (by simpa using hl) ht hx h0 (by omega)
 exact this
theorem tot_le : ∀ (l : List S39) (m : Nat), (∀ x ∈ l, x.f0.length ≤ m) → tot l ≤ m * l.length
 | [], _, _ => by simp [tot]
 | x :: r, m, h => by
  have h1 := h x (by simp)
  have h2 := tot_le r m (fun y hy => h y (by simp [hy]))
  simp only [tot, List.length_cons, Nat.mul_add, Nat.mul_one]
  omega
def mkFiles : List S80 → Int → List S80
 | [], _ => []
 | x :: r, k => ⟨k, mkPages x.f1 (k + 1), k + 1 + 3 * tot x.f1, (Int.tmod (k + 1 + 3 * tot x.f1 + 1) 3) == 0⟩ :: mkFiles r (k + 1 + 3 * tot x.f1 + 1 + 1)
def totF : List S80 → Nat
 | [] => 0
 | x :: r => tot x.f1 + totF r
theorem rd_atF (d : List S80) (x : S80) (r : List S80) : rd_T80 (d ++ x :: r) (d.length : Int) = x := by
 unfold rd_T80; rw [Int.toNat_natCast, List.getD_eq_getElem?_getD]; simp
theorem set_atF (d : List S80) (x y : S80) (r : List S80) : (d ++ x :: r).set (d.length : Int).toNat y = d ++ y :: r := by
 rw [Int.toNat_natCast]; simp
def SmD (l : List S80) : Prop := l.length ≤ 1048577 ∧ totF l ≤ 1152921504606846976 ∧ ∀ x ∈ l, x.f1.length ≤ 1048577 ∧ ∀ p ∈ x.f1, p.f0.length ≤ 1048576
theorem markFileS_ev (l : List S80) (h : SmD l) : Ev (fun k => laws_markFileS.f k l 1) (1 + 3 * totF l + 3 * l.length, mkFiles l 1) := by
 have key : ∀ (r d : List S80) (n : Int), d.length + r.length ≤ 1048577 → totF r ≤ 1152921504606846976 → (∀ x ∈ r, x.f1.length ≤ 1048577 ∧ ∀ p ∈ x.f1, p.f0.length ≤ 1048576) → 0 ≤ n → n + 3 * totF r + 3 * r.length ≤ 3458764513823686660 → Ev (fun k => laws_markFileS.l0 k (d ++ r) n (d.length : Int)) (n + 3 * totF r + 3 * r.length, d ++ mkFiles r n) := by
  intro r
  induction r with
  | nil =>
   intro d n hd ht hx hn hn2
   refine Ev.succ ?_
   simp only [laws_markFileS.l0]
   exact Ev.neg (by simp) (Ev.now' (by simp [mkFiles, totF]))
  | cons x r ih =>
   intro d n hd ht hx hn hn2
   simp only [List.length_cons] at hd hn2
   simp only [totF] at ht hn2
   have hx0 := hx x (by simp)
   have e4 : wrap64 ((d.length : Int) + 1) = ((d.length + 1 : Nat) : Int) := by rw [w64 (by omega) (by omega)]; omega
   have e5 : wrap64 (n + 1) = n + 1 := w64 (by omega) (by omega)
   have e6 : wrap64 (n + 1 + 3 * (tot x.f1 : Int) + 1) = n + 1 + 3 * (tot x.f1 : Int) + 1 := w64 (by omega) (by omega)
   have e7 : wrap64 (n + 1 + 3 * (tot x.f1 : Int) + 1 + 1) = n + 1 + 3 * (tot x.f1 : Int) + 1 + 1 := w64 (by omega) (by omega)
   refine Ev.succ ?_
   simp only [laws_markFileS.l0, e4, e5, rd_atF, set_atF]
   refine Ev.pos (by simp only [List.length_append, List.length_cons]; omega) (Ev.pos (Int.natCast_nonneg _) (Ev.bind (markPageS_ev3 x.f1 hx0.1 (by omega) hx0.2 (n + 1) (by omega) (by omega)) ?_))
   simp only [e6, e7]
   have := ih (d ++ [⟨n, mkPages x.f1 (n + 1), n + 1 + 3 * tot x.f1, (Int.tmod (n + 1 + 3 * tot x.f1 + 1) 3) == 0⟩]) (n + 1 + 3 * tot x.f1 + 1 + 1) (by simp only [List.length_append, List.length_cons, List.length_nil]; omega) (by omega) (fun y hy => hx y (by simp [hy])) (by omega) (by omega)
   have e8 : n + 1 + 3 * (tot x.f1 : Int) + 1 + 1 + 3 * (totF r : Int) + 3 * (r.length : Int) = n + 3 * (totF (x :: r) : Int) + 3 * ((x :: r).length : Int) := by simp only [totF, List.length_cons]; omega
   simp only [List.append_assoc, List.singleton_append, e8, List.length_append, List.length_singleton] at this
   exact this
 have := key l [] 1 (by simpa using h.1) h.2.1 h.2.2 (by omega) (by have := h.1; have := h.2.1; omega)
 exact this
theorem totF_le : ∀ (l : List S80), (∀ x ∈ l, x.f1.length ≤ 1048576 ∧ ∀ p ∈ x.f1, p.f0.length ≤ 1048576) → totF l ≤ 1099511627776 * l.length
 | [], _ => by simp [totF]
 | x :: r, h => by
  have h1 := totF_le r (fun y hy => h y (by simp [hy]))
  have h2 := tot_le x.f1 1048576 (h x (by simp)).2
  have h3 : 1048576 * x.f1.length ≤ 1048576 * 1048576 := Nat.mul_le_mul_left _ (h x (by simp)).1
  simp only [totF, List.length_cons, Nat.mul_add, Nat.mul_one]
  omega
theorem SmD_of {l : List S80} (hl : l.length ≤ 1048576) (h : ∀ x ∈ l, x.f1.length ≤ 1048576 ∧ ∀ p ∈ x.f1, p.f0.length ≤ 1048576) : SmD l := by
 have h1 := totF_le l h
 have h2 : 1099511627776 * l.length ≤ 1099511627776 * 1048576 := Nat.mul_le_mul_left _ hl
 exact ⟨by omega, by omega, fun x hx => ⟨by have := (h x hx).1; omega, (h x hx).2⟩⟩
theorem heldPageS_ev3 (l : List S39) (hl : l.length ≤ 1048577) (ht : tot l ≤ 1152921504606846976) (hx : ∀ x ∈ l, x.f0.length ≤ 1048576) (k0 : Int) (h0 : 0 ≤ k0) (h1 : k0 + 3 * tot l ≤ 4611686018427387904) : Ev (fun k => laws_heldPageS.f k (mkPages l k0) k0) (k0 + 3 * tot l) := by
 have key : ∀ (r d : List S39) (n : Int), d.length + r.length ≤ 1048577 → tot r ≤ 1152921504606846976 → (∀ x ∈ r, x.f0.length ≤ 1048576) → 0 ≤ n → n + 3 * tot r ≤ 4611686018427387904 → Ev (fun k => laws_heldPageS.l0 k (d ++ mkPages r n) n (d.length : Int)) (n + 3 * tot r) := by
  intro r
  induction r with
  | nil =>
   intro d n hd ht hx hn hn2
   refine Ev.succ ?_
   simp only [laws_heldPageS.l0]
   exact Ev.neg (by simp [mkPages]) (Ev.now' (by simp [tot]))
  | cons x r ih =>
   intro d n hd ht hx hn hn2
   simp only [List.length_cons] at hd
   simp only [tot] at ht hn2
   refine Ev.succ ?_
   have e4 : wrap64 ((d.length : Int) + 1) = ((d.length + 1 : Nat) : Int) := by rw [w64 (by omega) (by omega)]; omega
   simp only [laws_heldPageS.l0, e4, mkPages, rd_atP]
   refine Ev.pos (by simp only [List.length_append, List.length_cons]; omega) (Ev.pos (Int.natCast_nonneg _) (Ev.bind (heldRowS_ev x.f0.length (hx x (by simp)) n hn (by omega)) (Ev.neg (by omega) ?_)))
   have := ih (d ++ [⟨mkRows x.f0.length n⟩]) (n + 3 * x.f0.length) (by simp only [List.length_append, List.length_cons, List.length_nil]; omega) (by omega) (fun y hy => hx y (by simp [hy])) (by omega) (by omega)
   have e5 : n + 3 * (x.f0.length : Int) + 3 * (tot r : Int) = n + 3 * (tot (x :: r) : Int) := by simp only [tot]; omega
   rw [e5] at this
   simpa using this
 have := key l [] k0 (by simpa using hl) ht hx h0 (by omega)
 exact this
theorem heldDisk_ev (l : List S80) (n : Int) (h : SmD l) : Ev (fun k => laws_heldDisk.f k (mkFiles l 1) n 1) (1 + 3 * totF l + 3 * l.length) := by
 have key : ∀ (r d : List S80) (n : Int), d.length + r.length ≤ 1048577 → totF r ≤ 1152921504606846976 → (∀ x ∈ r, x.f1.length ≤ 1048577 ∧ ∀ p ∈ x.f1, p.f0.length ≤ 1048576) → 0 ≤ n → n + 3 * totF r + 3 * r.length ≤ 3458764513823686660 → Ev (fun k => laws_heldFileS.l0 k (d ++ mkFiles r n) n (d.length : Int)) (n + 3 * totF r + 3 * r.length) := by
  intro r
  induction r with
  | nil =>
   intro d n hd ht hx hn hn2
   refine Ev.succ ?_
   simp only [laws_heldFileS.l0]
   exact Ev.neg (by simp [mkFiles]) (Ev.now' (by simp [totF]))
  | cons x r ih =>
   intro d n hd ht hx hn hn2
   simp only [List.length_cons] at hd hn2
   simp only [totF] at ht hn2
   have hx0 := hx x (by simp)
   have e4 : wrap64 ((d.length : Int) + 1) = ((d.length + 1 : Nat) : Int) := by rw [w64 (by omega) (by omega)]; omega
   have e5 : wrap64 (n + 1) = n + 1 := w64 (by omega) (by omega)
   have e6 : wrap64 (n + 1 + 3 * (tot x.f1 : Int) + 1) = n + 1 + 3 * (tot x.f1 : Int) + 1 := w64 (by omega) (by omega)
   have e7 : wrap64 (n + 1 + 3 * (tot x.f1 : Int) + 1 + 1) = n + 1 + 3 * (tot x.f1 : Int) + 1 + 1 := w64 (by omega) (by omega)
   refine Ev.succ ?_
   simp only [laws_heldFileS.l0, mkFiles, e4, e5, rd_atF]
   refine Ev.pos (by simp only [List.length_append, List.length_cons]; omega) (Ev.pos (Int.natCast_nonneg _) (Ev.pos (by trivial) (Ev.bind (heldPageS_ev3 x.f1 hx0.1 (by omega) hx0.2 (n + 1) (by omega) (by omega)) ?_)))
   simp only [e6, e7]
   refine Ev.neg (by omega) (Ev.pos (by trivial) (Ev.neg (by simp) ?_))
   have := ih (d ++ [⟨n, mkPages x.f1 (n + 1), n + 1 + 3 * tot x.f1, (Int.tmod (n + 1 + 3 * tot x.f1 + 1) 3) == 0⟩]) (n + 1 + 3 * tot x.f1 + 1 + 1) (by simp only [List.length_append, List.length_cons, List.length_nil]; omega) (by omega) (fun y hy => hx y (by simp [hy])) (by omega) (by omega)
   have e8 : n + 1 + 3 * (tot x.f1 : Int) + 1 + 1 + 3 * (totF r : Int) + 3 * (r.length : Int) = n + 3 * (totF (x :: r) : Int) + 3 * ((x :: r).length : Int) := by simp only [totF, List.length_cons]; omega
   simp only [List.append_assoc, List.singleton_append, e8, List.length_append, List.length_singleton] at this
   exact this
 have := key l [] 1 (by simpa using h.1) h.2.1 h.2.2 (by omega) (by have := h.1; have := h.2.1; omega)
 simp only [laws_heldDisk.f, laws_heldFileS.f]
 refine Ev.bind this (Ev.neg (by omega) (Ev.now _))
theorem eqFile_ev2 (x : S80) (h : x.f1.length ≤ 1048577 ∧ ∀ p ∈ x.f1, p.f0.length ≤ 1048576) : Ev (fun k => laws_eqFile.f k x.f0 x.f1 x.f2 x.f3 x.f0 x.f1 x.f2 x.f3) true := by
 simp only [laws_eqFile.f]
 refine Ev.pos (by trivial) (Ev.bind (eqPageS_ev x.f1 (by have := h.1; omega) (fun p hp => by have := h.2 p hp; omega)) ?_)
 exact Ev.pos (by trivial) (Ev.pos (by trivial) (Ev.neg (by simp) (Ev.now _)))
theorem eqDisk_ev2 (l : List S80) (n : Int) (h : SmD l) : Ev (fun k => laws_eqDisk.f k l n l n) true := by
 have hl := h.1
 have key : ∀ (r : List S80) (i : Nat), l.drop i = r → (∀ x ∈ r, x.f1.length ≤ 1048577 ∧ ∀ p ∈ x.f1, p.f0.length ≤ 1048576) → Ev (fun k => laws_eqFileS.l0 k l l (i : Int)) true := by
  intro r
  induction r with
  | nil =>
   intro i h hr
   refine Ev.succ ?_
   simp only [laws_eqFileS.l0]
   exact Ev.neg (drop_nil_lt h) (Ev.now _)
  | cons b r ih =>
   intro i h hr
   obtain ⟨h1, h2, h3⟩ := rdT80 h
   refine Ev.succ ?_
   simp only [laws_eqFileS.l0, h2, nxt (show l.length ≤ 4611686018427387904 by omega) h1]
   refine Ev.pos h1 (Ev.pos (Int.natCast_nonneg _) (Ev.pos h1 (Ev.bind (eqFile_ev2 b (hr b (by simp))) ?_)))
   exact Ev.pos (by trivial) (ih (i + 1) h3 (fun y hy => hr y (by simp [hy])))
 simp only [laws_eqDisk.f]
 refine Ev.bind (a := true) ?_ (Ev.pos (by trivial) (Ev.pos (by trivial) (Ev.now _)))
 simp only [laws_eqFileS.f, if_true]
 exact key l 0 rfl h.2.2
theorem apM_small {l : List S80} (n a : Int) (q : List S95) (hl : l.length ≤ 1048576) (hp : ∀ x ∈ l, x.f1.length ≤ 1048576 ∧ ∀ q ∈ x.f1, q.f0.length ≤ 1048576) (hq : q.length ≤ 1048576) : SmD (apM l n a q).1 := by
 have h0 := SmD_of hl hp
 unfold apM
 split
 ·rename_i hv
  split
  ·exact h0
  ·rename_i hf
   split
   ·exact h0
   ·split
    ·rename_i hvp
     split
     ·exact h0
     ·refine SmD_of (by simp only [apL, List.length_set]; exact hl) (fun x hx => ?_)
      rcases List.mem_or_eq_of_mem_set hx with h | h
      ·exact hp x h
      ·obtain ⟨h1, h2, h3⟩ := faM_at hf
       obtain ⟨j, hj⟩ := Int.eq_ofNat_of_zero_le h1
       rw [hj] at h3
       rw [hj, Int.toNat_natCast] at h
       have hm := idM_small hv _ h3
       rw [h]
       refine ⟨by simp only [List.length_append, List.length_cons, List.length_nil]; omega, fun p hp2 => ?_⟩
       rcases List.mem_append.1 hp2 with h4 | h4
       ·have := hm.2 p h4; omega
       ·rw [List.mem_singleton.1 h4]; exact hq
    ·exact h0
 ·exact h0
theorem FnExactAppendPage {G : Prop} (l : List S107) (n a : Int) (m : List S120) (g : (l.length ≤ 9223372036854775807 ∧ ∀ y ∈ l, GoodF y) ∧ G) {G1 G2 : Prop} (g1 : G1) (g2 : m.length ≤ 9223372036854775807 ∧ G2) : ∃ k, laws_FnExactAppendPage.OK k l n a m := by
 obtain ⟨t, ⟨K1, e1⟩, ht, hs⟩ := szDisk_ev l n g.1.1 g.1.2 1048576 (by omega) (Int.le_refl _)
 by_cases h0 : t < 0
 ·exact ⟨K1, .inl ⟨t, e1 _ (Nat.le_refl _), h0⟩⟩
 ·by_cases hm : (m.length : Int) ≤ t
  ·have hS := hs (by omega)
   have hO := OkF_cv hS
   have hp : ∀ x ∈ l.map cvF, x.f1.length ≤ 1048576 ∧ ∀ q ∈ x.f1, q.f0.length ≤ 1048576 := hO.2
   have hq : (m.map cvR).length ≤ 1048576 := by rw [map_len]; omega
   obtain ⟨K2, e2⟩ := toDisk_ev l n hS
   obtain ⟨K2b, e2b⟩ := toPage_ev m (by omega)
   obtain ⟨K3, e3⟩ := spec_AppendPage_ev _ n a _ hO.1 hp hq
   obtain ⟨K4, e4⟩ := impl_AppendPage_ev _ n a _ hO.1 hp hq
   have hD0 := SmD_of hO.1 hp
   have hD := apM_small n a _ hO.1 hp hq
   generalize apM (l.map cvF) n a (m.map cvR) = r at e3 e4 hD
   obtain ⟨p, s0, b⟩ := r
   obtain ⟨K5, e5⟩ := eqDisk_ev2 p s0 hD
   obtain ⟨K6, e6⟩ := eqDisk_ev2 (l.map cvF) n hD0
   obtain ⟨K6b, e6b⟩ := eqPage_ev (m.map cvR) (by omega)
   obtain ⟨K7, e7⟩ := markFileS_ev _ hD0
   obtain ⟨K7b, e7b⟩ := markRowS_ev (m.map cvR) hq (1 + 3 * totF (l.map cvF) + 3 * (l.map cvF).length) (by omega) (by have := hD0.1; have := hD0.2.1; omega)
   have e7c : ∀ k, K7b ≤ k → laws_markPage.f k (m.map cvR) (1 + 3 * totF (l.map cvF) + 3 * (l.map cvF).length) = some _ := fun k hk => by
    have h7 : laws_markRowS.f k (m.map cvR) (1 + 3 * totF (l.map cvF) + 3 * (l.map cvF).length) = some _ := e7b k hk
    unfold laws_markPage.f
    rw [h7]; rfl
   obtain ⟨K8, e8⟩ := markFileS_ev p hD
   obtain ⟨K9, e9⟩ := heldDisk_ev p s0 hD
   exact ⟨K1 + K2 + K2b + K3 + K4 + K5 + K6 + K6b + K7 + K7b + K8 + K9, .inr (.inr ⟨_, _, _, _, _, _, _, _, _, _, _, _, _, b, e1 _ (by omega), szPage_small m t ht hm, e2 _ (by omega), e2b _ (by omega), e3 _ (by omega), e4 _ (by omega), e5 _ (by omega), e6 _ (by omega), e6b _ (by omega), e7 _ (by omega), e7c _ (by omega), e8 _ (by omega), e9 _ (by omega), h0, by omega, by omega, by omega⟩)⟩
  ·exact ⟨K1, .inr (.inl ⟨t, _, e1 _ (Nat.le_refl _), szPage_big m t g2.1 (by omega) ht hm, h0, by omega⟩)⟩
end Go.Proofs.Ytinniedbgfgclaa.Pure
