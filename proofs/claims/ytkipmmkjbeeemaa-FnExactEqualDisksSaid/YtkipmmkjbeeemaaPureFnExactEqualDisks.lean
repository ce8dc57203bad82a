/- The program's EqualDisks answers as the reference's does, for all arguments that the statement lets in; no further condition. -/
import Derived.Test.YtkipmmkjbeeemaaQFnExactEqualDisksx9
import Derived.Test.YtkipmmkjbeeemaaCore
namespace Go.Proofs.Ytkipmmkjbeeemaa.Pure
open Go.RowKit Go.Proofs.Ytkipmmkjbeeemaa.PFnExactEqualDisks Go.Proofs.YtkipmmkjbeeemaaW.PrintWords Go.Proofs.YtkipmmkjbeeemaaW.PrintLast Go.Proofs.YtkipmmkjbeeemaaW.PrintMore Go.Proofs.Ytkipmmkjbeeemaa.Core
set_option linter.unusedVariables false
set_option linter.unusedSimpArgs false

theorem toRow_f (a b c : Int) : laws_toRow.f a b c = some (a, b, c) := rfl
theorem drop_nil_lt {α : Type} {l : List α} {i : Nat} (h : l.drop i = []) : ¬ (i : Int) < (l.length : Int) := by
  have := List.drop_eq_nil_iff.1 h
  omega
theorem rdI {l : List S33} {i : Nat} {b : S33} {r : List S33} (h : l.drop i = b :: r) : (i : Int) < (l.length : Int) ∧ rd_T33 l (i : Int) = b ∧ l.drop (i + 1) = r := by
  obtain ⟨hi, h1, h2⟩ := drop_split h
  refine ⟨by omega, ?_, h2⟩
  unfold rd_T33
  rw [Int.toNat_natCast, List.getD_eq_getElem?_getD, List.getElem?_eq_getElem hi, h1]; rfl
theorem nxt {n i : Nat} (hn : n ≤ 4611686018427387904) (h : (i : Int) < (n : Int)) : wrap64 ((i : Int) + 1) = ((i + 1 : Nat) : Int) := by
  rw [w64 (by omega) (by omega)]; omega
def cvR (x : S26) : S33 := ⟨x.f0, x.f1, x.f2⟩
def tup (x : S33) : Int × Int × Int := (x.f0, x.f1, x.f2)
theorem rdL {l : List S26} {i : Nat} {b : S26} {r : List S26} (h : l.drop i = b :: r) : (i : Int) < (l.length : Int) ∧ rd_T26 l (i : Int) = b ∧ l.drop (i + 1) = r := by
  obtain ⟨hi, h1, h2⟩ := drop_split h
  refine ⟨by omega, ?_, h2⟩
  unfold rd_T26
  rw [Int.toNat_natCast, List.getD_eq_getElem?_getD, List.getElem?_eq_getElem hi, h1]; rfl
theorem szRowS_small (l : List S26) (a : Int) (ha : a ≤ 1048576) (h : (l.length : Int) ≤ a) : laws_szRowS.f l a = some (a - l.length) := by
  unfold laws_szRowS.f
  rw [w64 (by omega) (by omega), if_neg (by omega)]
theorem szRowS_big (l : List S26) (a : Int) (hl : l.length ≤ 9223372036854775807) (h0 : 0 ≤ a) (ha : a ≤ 1048576) (h : ¬ (l.length : Int) ≤ a) : laws_szRowS.f l a = some (-1) := by
  unfold laws_szRowS.f
  rw [w64 (by omega) (by omega), if_pos (by omega)]
theorem toRowS_ev (l : List S26) (hl : (l.length : Int) ≤ 1048576) : Ev (fun k => laws_toRowS.f k l) (l.map cvR) := by
  have key : ∀ (r : List S26) (d : List S33), l.drop d.length = r → Ev (fun k => laws_toRowS.l0 k l (d ++ List.replicate r.length z33) (d.length : Int)) (d ++ r.map cvR) := by
    intro r
    induction r with
    | nil =>
      intro d h
      refine Ev.succ ?_
      simp only [laws_toRowS.l0, List.length_nil, List.replicate_zero, List.append_nil, List.map_nil]
      exact Ev.neg (drop_nil_lt h) (Ev.now _)
    | cons b r ih =>
      intro d h
      obtain ⟨h1, h2, h3⟩ := rdL h
      refine Ev.succ ?_
      simp only [laws_toRowS.l0, h2, toRow_f, Option.bind_some, nxt (show l.length ≤ 4611686018427387904 by omega) h1]
      refine Ev.pos h1 (Ev.pos (Int.natCast_nonneg _) (Ev.pos ?_ ?_))
      · simp only [List.length_append, List.length_replicate, List.length_cons]; omega
      · have e : (d ++ List.replicate (b :: r).length z33).set (d.length : Int).toNat ⟨b.f0, b.f1, b.f2⟩ = (d ++ [cvR b]) ++ List.replicate r.length z33 := by
          rw [Int.toNat_natCast, List.set_append_right _ _ (Nat.le_refl _), Nat.sub_self, List.length_cons, List.replicate_succ, List.set_cons_zero, List.append_assoc]
          rfl
        rw [e]
        have := ih (d ++ [cvR b]) (by simpa using h3)
        simpa using this
  have := key l [] rfl
  simp only [laws_toRowS.f]
  refine Ev.pos (by omega) (Ev.pos (by omega) ?_)
  simpa using this
theorem eqRow_f (a b c : Int) : laws_eqRow.f a b c a b c = some true := by simp [laws_eqRow.f]
theorem eqRowS_ev (l : List S33) (hl : l.length ≤ 4611686018427387904) : Ev (fun k => laws_eqRowS.f k l l) true := by
  have key : ∀ (r : List S33) (i : Nat), l.drop i = r → Ev (fun k => laws_eqRowS.l0 k l l (i : Int)) true := by
    intro r
    induction r with
    | nil =>
      intro i h
      refine Ev.succ ?_
      simp only [laws_eqRowS.l0]
      exact Ev.neg (drop_nil_lt h) (Ev.now _)
    | cons b r ih =>
      intro i h
      obtain ⟨h1, h2, h3⟩ := rdI h
      refine Ev.succ ?_
      simp only [laws_eqRowS.l0, eqRow_f, Option.bind_some, if_true, nxt hl h1]
      exact Ev.pos h1 (Ev.pos (Int.natCast_nonneg _) (Ev.pos h1 (ih (i + 1) h3)))
  simp only [laws_eqRowS.f, if_true]
  exact key l 0 rfl
theorem map_len (l : List S26) : (l.map cvR).length = l.length := List.length_map ..
theorem szPage_small (l : List S26) (a : Int) (ha : a ≤ 1048576) (h : (l.length : Int) ≤ a) : laws_szPage.f l a = some (a - l.length) := by
  simp only [laws_szPage.f, szRowS_small l a ha h, Option.bind_some]
  rw [if_neg (by omega)]
theorem szPage_big (l : List S26) (a : Int) (hl : l.length ≤ 9223372036854775807) (h0 : 0 ≤ a) (ha : a ≤ 1048576) (h : ¬ (l.length : Int) ≤ a) : laws_szPage.f l a = some (-1) := by
  simp only [laws_szPage.f, szRowS_big l a hl h0 ha h, Option.bind_some]
  rw [if_pos (by omega)]
theorem toPage_ev (l : List S26) (hl : (l.length : Int) ≤ 1048576) : Ev (fun k => laws_toPage.f k l) (l.map cvR) := by
  simp only [laws_toPage.f]
  exact Ev.tl (toRowS_ev l hl) rfl
theorem rdT24 {l : List S24} {i : Nat} {b : S24} {r : List S24} (h : l.drop i = b :: r) : (i : Int) < (l.length : Int) ∧ rd_T24 l (i : Int) = b ∧ l.drop (i + 1) = r := by
  obtain ⟨hi, h1, h2⟩ := drop_split h
  refine ⟨by omega, ?_, h2⟩
  unfold rd_T24
  rw [Int.toNat_natCast, List.getD_eq_getElem?_getD, List.getElem?_eq_getElem hi, h1]; rfl
theorem rdT31 {l : List S31} {i : Nat} {b : S31} {r : List S31} (h : l.drop i = b :: r) : (i : Int) < (l.length : Int) ∧ rd_T31 l (i : Int) = b ∧ l.drop (i + 1) = r := by
  obtain ⟨hi, h1, h2⟩ := drop_split h
  refine ⟨by omega, ?_, h2⟩
  unfold rd_T31
  rw [Int.toNat_natCast, List.getD_eq_getElem?_getD, List.getElem?_eq_getElem hi, h1]; rfl
def cvP (x : S24) : S31 := ⟨x.f0.map cvR⟩
def SmP (l : List S24) : Prop := (l.length : Int) ≤ 1048576 ∧ ∀ x ∈ l, (x.f0.length : Int) ≤ 1048576
theorem szPageS_ev (l : List S24) (h0 : l.length ≤ 9223372036854775807) (h : ∀ x ∈ l, x.f0.length ≤ 9223372036854775807) (a : Int) (ha0 : 0 ≤ a) (ha : a ≤ 1048576) :
    ∃ t, Ev (fun k => laws_szPageS.f k l a) t ∧ t ≤ a ∧ (0 ≤ t → SmP l) := by
  have key : ∀ (r : List S24) (i : Nat) (a : Int), l.length ≤ 1048576 → l.drop i = r → (∀ x ∈ r, x.f0.length ≤ 9223372036854775807) → 0 ≤ a → a ≤ 1048576 →
      ∃ t, Ev (fun k => laws_szPageS.l0 k l a (i : Int)) t ∧ t ≤ a ∧ (0 ≤ t → ∀ x ∈ r, (x.f0.length : Int) ≤ 1048576) := by
    intro r
    induction r with
    | nil =>
      intro i a hl hd hr ha0 ha
      refine ⟨a, Ev.succ ?_, Int.le_refl _, fun _ x hx => by simp at hx⟩
      simp only [laws_szPageS.l0]
      exact Ev.neg (drop_nil_lt hd) (Ev.now _)
    | cons x r ih =>
      intro i a hl hd hr ha0 ha
      obtain ⟨h1, h2, h3⟩ := rdT24 hd
      by_cases hx : (x.f0.length : Int) ≤ a
      · obtain ⟨t, e, ht, hs⟩ := ih (i + 1) (a - x.f0.length) hl h3 (fun y hy => hr y (by simp [hy])) (by omega) (by omega)
        refine ⟨t, Ev.succ ?_, by omega, fun h0 y hy => ?_⟩
        · simp only [laws_szPageS.l0, h2, szPage_small x.f0 a ha hx, Option.bind_some, nxt (show l.length ≤ 4611686018427387904 by omega) h1]
          exact Ev.pos h1 (Ev.pos (Int.natCast_nonneg _) (Ev.neg (by omega) e))
        · rcases List.mem_cons.1 hy with rfl | hy
          · omega
          · exact hs h0 y hy
      · refine ⟨-1, Ev.succ ?_, by omega, fun h0 => by omega⟩
        simp only [laws_szPageS.l0, h2, szPage_big x.f0 a (hr x (by simp)) ha0 ha hx, Option.bind_some]
        exact Ev.pos h1 (Ev.pos (Int.natCast_nonneg _) (Ev.pos (by omega) (Ev.now _)))
  by_cases hl : (l.length : Int) ≤ a
  · obtain ⟨t, e, ht, hs⟩ := key l 0 (a - l.length) (by omega) rfl h (by omega) (by omega)
    refine ⟨t, ?_, by omega, fun h0 => ⟨by omega, hs h0⟩⟩
    simp only [laws_szPageS.f, w64 (x := a - (l.length : Int)) (by omega) (by omega)]
    exact Ev.neg (by omega) e
  · refine ⟨-1, ?_, by omega, fun h0 => by omega⟩
    simp only [laws_szPageS.f, w64 (x := a - (l.length : Int)) (by omega) (by omega)]
    exact Ev.pos (by omega) (Ev.now _)
theorem toPageS_ev (l : List S24) (hs : SmP l) : Ev (fun k => laws_toPageS.f k l) (l.map cvP) := by
  have hl := hs.1
  have key : ∀ (r : List S24) (d : List S31), l.drop d.length = r → (∀ x ∈ r, (x.f0.length : Int) ≤ 1048576) → Ev (fun k => laws_toPageS.l0 k l (d ++ List.replicate r.length z31) (d.length : Int)) (d ++ r.map cvP) := by
    intro r
    induction r with
    | nil =>
      intro d h hr
      refine Ev.succ ?_
      simp only [laws_toPageS.l0, List.length_nil, List.replicate_zero, List.append_nil, List.map_nil]
      exact Ev.neg (drop_nil_lt h) (Ev.now _)
    | cons b r ih =>
      intro d h hr
      obtain ⟨h1, h2, h3⟩ := rdT24 h
      refine Ev.succ ?_
      simp only [laws_toPageS.l0, h2, nxt (show l.length ≤ 4611686018427387904 by omega) h1]
      refine Ev.pos h1 (Ev.pos (Int.natCast_nonneg _) (Ev.bind (toPage_ev b.f0 (hr b (by simp))) (Ev.pos ?_ ?_)))
      · simp only [List.length_append, List.length_replicate, List.length_cons]; omega
      · have e : (d ++ List.replicate (b :: r).length z31).set (d.length : Int).toNat ⟨b.f0.map cvR⟩ = (d ++ [cvP b]) ++ List.replicate r.length z31 := by
          rw [Int.toNat_natCast, List.set_append_right _ _ (Nat.le_refl _), Nat.sub_self, List.length_cons, List.replicate_succ, List.set_cons_zero, List.append_assoc]
          rfl
        rw [e]
        have := ih (d ++ [cvP b]) (by simpa using h3) (fun y hy => hr y (by simp [hy]))
        simpa using this
  have := key l [] rfl hs.2
  simp only [laws_toPageS.f]
  refine Ev.pos (by omega) (Ev.pos (by omega) ?_)
  simpa using this
theorem eqPage_ev (l : List S33) (hl : l.length ≤ 4611686018427387904) : Ev (fun k => laws_eqPage.f k l l) true := by
  simp only [laws_eqPage.f]
  exact Ev.tl (eqRowS_ev l hl) rfl
theorem eqPageS_ev (l : List S31) (hl : l.length ≤ 4611686018427387904) (hp : ∀ x ∈ l, x.f0.length ≤ 4611686018427387904) : Ev (fun k => laws_eqPageS.f k l l) true := by
  have key : ∀ (r : List S31) (i : Nat), l.drop i = r → (∀ x ∈ r, x.f0.length ≤ 4611686018427387904) → Ev (fun k => laws_eqPageS.l0 k l l (i : Int)) true := by
    intro r
    induction r with
    | nil =>
      intro i h hr
      refine Ev.succ ?_
      simp only [laws_eqPageS.l0]
      exact Ev.neg (drop_nil_lt h) (Ev.now _)
    | cons b r ih =>
      intro i h hr
      obtain ⟨h1, h2, h3⟩ := rdT31 h
      refine Ev.succ ?_
      simp only [laws_eqPageS.l0, h2, nxt hl h1]
      refine Ev.pos h1 (Ev.pos (Int.natCast_nonneg _) (Ev.pos h1 (Ev.bind (eqPage_ev b.f0 (hr b (by simp))) ?_)))
      exact Ev.pos (by trivial) (ih (i + 1) h3 (fun y hy => hr y (by simp [hy])))
  simp only [laws_eqPageS.f, if_true]
  exact key l 0 rfl hp
theorem rdT125 {l : List S125} {i : Nat} {b : S125} {r : List S125} (h : l.drop i = b :: r) : (i : Int) < (l.length : Int) ∧ rd_T125 l (i : Int) = b ∧ l.drop (i + 1) = r := by
  obtain ⟨hi, h1, h2⟩ := drop_split h
  refine ⟨by omega, ?_, h2⟩
  unfold rd_T125
  rw [Int.toNat_natCast, List.getD_eq_getElem?_getD, List.getElem?_eq_getElem hi, h1]; rfl
theorem rdT104 {l : List S104} {i : Nat} {b : S104} {r : List S104} (h : l.drop i = b :: r) : (i : Int) < (l.length : Int) ∧ rd_T104 l (i : Int) = b ∧ l.drop (i + 1) = r := by
  obtain ⟨hi, h1, h2⟩ := drop_split h
  refine ⟨by omega, ?_, h2⟩
  unfold rd_T104
  rw [Int.toNat_natCast, List.getD_eq_getElem?_getD, List.getElem?_eq_getElem hi, h1]; rfl
def cvF (x : S125) : S104 := ⟨x.f0, x.f1.map cvP, x.f2, x.f3⟩
def SmF (l : List S125) : Prop := (l.length : Int) ≤ 1048576 ∧ ∀ x ∈ l, SmP x.f1
def GoodF (x : S125) : Prop := (Lit.int .i64 x.f0).wf = true ∧ (x.f1.length ≤ 9223372036854775807 ∧ ∀ p ∈ x.f1, p.f0.length ≤ 9223372036854775807 ∧ ∀ y ∈ p.f0, (Lit.int .i64 y.f0).wf = true ∧ (Lit.int .i64 y.f1).wf = true ∧ (Lit.int .i64 y.f2).wf = true) ∧ (Lit.int .i64 x.f2).wf = true ∧ True
theorem szFile_ev (x : S125) (h : GoodF x) (a : Int) (ha0 : 0 ≤ a) (ha : a ≤ 1048576) :
    ∃ t, Ev (fun k => laws_szFile.f k x.f0 x.f1 x.f2 x.f3 a) t ∧ t ≤ a ∧ (0 ≤ t → SmP x.f1) := by
  obtain ⟨t, e, ht, hs⟩ := szPageS_ev x.f1 h.2.1.1 (fun p hp => (h.2.1.2 p hp).1) a ha0 ha
  by_cases h0 : t < 0
  · refine ⟨-1, ?_, by omega, fun h => by omega⟩
    simp only [laws_szFile.f]
    exact Ev.bind e (Ev.pos h0 (Ev.now _))
  · refine ⟨t, ?_, ht, hs⟩
    simp only [laws_szFile.f]
    exact Ev.bind e (Ev.neg h0 (Ev.now _))
theorem szFileS_ev (l : List S125) (h0 : l.length ≤ 9223372036854775807) (h : ∀ x ∈ l, GoodF x) (a : Int) (ha0 : 0 ≤ a) (ha : a ≤ 1048576) :
    ∃ t, Ev (fun k => laws_szFileS.f k l a) t ∧ t ≤ a ∧ (0 ≤ t → SmF l) := by
  have key : ∀ (r : List S125) (i : Nat) (a : Int), l.length ≤ 1048576 → l.drop i = r → (∀ x ∈ r, GoodF x) → 0 ≤ a → a ≤ 1048576 →
      ∃ t, Ev (fun k => laws_szFileS.l0 k l a (i : Int)) t ∧ t ≤ a ∧ (0 ≤ t → ∀ x ∈ r, SmP x.f1) := by
    intro r
    induction r with
    | nil =>
      intro i a hl hd hr ha0 ha
      refine ⟨a, Ev.succ ?_, Int.le_refl _, fun _ x hx => by simp at hx⟩
      simp only [laws_szFileS.l0]
      exact Ev.neg (drop_nil_lt hd) (Ev.now _)
    | cons x r ih =>
      intro i a hl hd hr ha0 ha
      obtain ⟨h1, h2, h3⟩ := rdT125 hd
      obtain ⟨t, e, ht, hs⟩ := szFile_ev x (hr x (by simp)) a ha0 ha
      by_cases ht0 : t < 0
      · refine ⟨-1, Ev.succ ?_, by omega, fun h0 => by omega⟩
        simp only [laws_szFileS.l0, h2]
        exact Ev.pos h1 (Ev.pos (Int.natCast_nonneg _) (Ev.bind e (Ev.pos ht0 (Ev.now _))))
      · obtain ⟨t', e', ht', hs'⟩ := ih (i + 1) t hl h3 (fun y hy => hr y (by simp [hy])) (by omega) (by omega)
        refine ⟨t', Ev.succ ?_, by omega, fun h0 y hy => ?_⟩
        · simp only [laws_szFileS.l0, h2, nxt (show l.length ≤ 4611686018427387904 by omega) h1]
          exact Ev.pos h1 (Ev.pos (Int.natCast_nonneg _) (Ev.bind e (Ev.neg ht0 e')))
        · rcases List.mem_cons.1 hy with rfl | hy
          · exact hs (by omega)
          · exact hs' h0 y hy
  by_cases hl : (l.length : Int) ≤ a
  · obtain ⟨t, e, ht, hs⟩ := key l 0 (a - l.length) (by omega) rfl h (by omega) (by omega)
    refine ⟨t, ?_, by omega, fun h0 => ⟨by omega, hs h0⟩⟩
    simp only [laws_szFileS.f, w64 (x := a - (l.length : Int)) (by omega) (by omega)]
    exact Ev.neg (by omega) e
  · refine ⟨-1, ?_, by omega, fun h0 => by omega⟩
    simp only [laws_szFileS.f, w64 (x := a - (l.length : Int)) (by omega) (by omega)]
    exact Ev.pos (by omega) (Ev.now _)
theorem szDisk_ev (l : List S125) (n : Int) (h0 : l.length ≤ 9223372036854775807) (h : ∀ x ∈ l, GoodF x) (a : Int) (ha0 : 0 ≤ a) (ha : a ≤ 1048576) :
    ∃ t, Ev (fun k => laws_szDisk.f k l n a) t ∧ t ≤ a ∧ (0 ≤ t → SmF l) := by
  obtain ⟨t, e, ht, hs⟩ := szFileS_ev l h0 h a ha0 ha
  by_cases ht0 : t < 0
  · refine ⟨-1, ?_, by omega, fun h => by omega⟩
    simp only [laws_szDisk.f]
    exact Ev.bind e (Ev.pos ht0 (Ev.now _))
  · refine ⟨t, ?_, ht, hs⟩
    simp only [laws_szDisk.f]
    exact Ev.bind e (Ev.neg ht0 (Ev.now _))
theorem toFile_ev (x : S125) (h : SmP x.f1) : Ev (fun k => laws_toFile.f k x.f0 x.f1 x.f2 x.f3) (x.f0, x.f1.map cvP, x.f2, x.f3) := by
  simp only [laws_toFile.f]
  exact Ev.tl (toPageS_ev x.f1 h) rfl
theorem toFileS_ev (l : List S125) (hs : SmF l) : Ev (fun k => laws_toFileS.f k l) (l.map cvF) := by
  have hl := hs.1
  have key : ∀ (r : List S125) (d : List S104), l.drop d.length = r → (∀ x ∈ r, SmP x.f1) → Ev (fun k => laws_toFileS.l0 k l (d ++ List.replicate r.length z104) (d.length : Int)) (d ++ r.map cvF) := by
    intro r
    induction r with
    | nil =>
      intro d h hr
      refine Ev.succ ?_
      simp only [laws_toFileS.l0, List.length_nil, List.replicate_zero, List.append_nil, List.map_nil]
      exact Ev.neg (drop_nil_lt h) (Ev.now _)
    | cons b r ih =>
      intro d h hr
      obtain ⟨h1, h2, h3⟩ := rdT125 h
      refine Ev.succ ?_
      simp only [laws_toFileS.l0, h2, nxt (show l.length ≤ 4611686018427387904 by omega) h1]
      refine Ev.pos h1 (Ev.pos (Int.natCast_nonneg _) (Ev.bind (toFile_ev b (hr b (by simp))) (Ev.pos ?_ ?_)))
      · simp only [List.length_append, List.length_replicate, List.length_cons]; omega
      · have e : (d ++ List.replicate (b :: r).length z104).set (d.length : Int).toNat ⟨b.f0, b.f1.map cvP, b.f2, b.f3⟩ = (d ++ [cvF b]) ++ List.replicate r.length z104 := by
          rw [Int.toNat_natCast, List.set_append_right _ _ (Nat.le_refl _), Nat.sub_self, List.length_cons, List.replicate_succ, List.set_cons_zero, List.append_assoc]
          rfl
        rw [e]
        have := ih (d ++ [cvF b]) (by simpa using h3) (fun y hy => hr y (by simp [hy]))
        simpa using this
  have := key l [] rfl hs.2
  simp only [laws_toFileS.f]
  refine Ev.pos (by omega) (Ev.pos (by omega) ?_)
  simpa using this
theorem toDisk_ev (l : List S125) (n : Int) (hs : SmF l) : Ev (fun k => laws_toDisk.f k l n) (l.map cvF, n) := by
  simp only [laws_toDisk.f]
  exact Ev.tl (toFileS_ev l hs) rfl
/-- Not too long, at any depth. -/
def OkP (l : List S31) : Prop := l.length ≤ 1048576 ∧ ∀ x ∈ l, x.f0.length ≤ 1048576
def OkF (l : List S104) : Prop := l.length ≤ 1048576 ∧ ∀ x ∈ l, OkP x.f1
theorem OkF_cv {l : List S125} (h : SmF l) : OkF (l.map cvF) := by
  refine ⟨by rw [List.length_map]; have := h.1; omega, fun x hx => ?_⟩
  obtain ⟨y, hy, rfl⟩ := List.mem_map.1 hx
  have hp := h.2 y hy
  refine ⟨by show (y.f1.map cvP).length ≤ _; rw [List.length_map]; have := hp.1; omega, fun q hq => ?_⟩
  obtain ⟨z, hz, rfl⟩ := List.mem_map.1 hq
  show (z.f0.map cvR).length ≤ _
  rw [List.length_map]
  have := hp.2 z hz
  omega
theorem eqFile_ev (x : S104) (h : OkP x.f1) : Ev (fun k => laws_eqFile.f k x.f0 x.f1 x.f2 x.f3 x.f0 x.f1 x.f2 x.f3) true := by
  simp only [laws_eqFile.f]
  refine Ev.pos (by trivial) (Ev.bind (eqPageS_ev x.f1 (by have := h.1; omega) (fun p hp => by have := h.2 p hp; omega)) ?_)
  exact Ev.pos (by trivial) (Ev.pos (by trivial) (Ev.neg (by simp) (Ev.now _)))
theorem eqFileS_ev (l : List S104) (h : OkF l) : Ev (fun k => laws_eqFileS.f k l l) true := by
  have hl := h.1
  have key : ∀ (r : List S104) (i : Nat), l.drop i = r → (∀ x ∈ r, OkP x.f1) → Ev (fun k => laws_eqFileS.l0 k l l (i : Int)) true := by
    intro r
    induction r with
    | nil =>
      intro i h hr
      refine Ev.succ ?_
      simp only [laws_eqFileS.l0]
      exact Ev.neg (drop_nil_lt h) (Ev.now _)
    | cons b r ih =>
      intro i h hr
      obtain ⟨h1, h2, h3⟩ := rdT104 h
      refine Ev.succ ?_
      simp only [laws_eqFileS.l0, h2, nxt (show l.length ≤ 4611686018427387904 by omega) h1]
      refine Ev.pos h1 (Ev.pos (Int.natCast_nonneg _) (Ev.pos h1 (Ev.bind (eqFile_ev b (hr b (by simp))) ?_)))
      exact Ev.pos (by trivial) (ih (i + 1) h3 (fun y hy => hr y (by simp [hy])))
  simp only [laws_eqFileS.f, if_true]
  exact key l 0 rfl h.2
theorem eqDisk_ev (l : List S104) (n : Int) (h : OkF l) : Ev (fun k => laws_eqDisk.f k l n l n) true := by
  simp only [laws_eqDisk.f]
  exact Ev.bind (eqFileS_ev l h) (Ev.pos (by trivial) (Ev.pos (by trivial) (Ev.now _)))
def neR (x y : S33) : Bool := !(x.f0 == y.f0) || (!(x.f1 == y.f1) || (!(x.f2 == y.f2)))
def rowsE : List S33 → List S33 → Bool
  | [], [] => true
  | x :: r, y :: s => if neR x y = true then false else rowsE r s
  | _, _ => false
def rowsEq (a b : List S33) : Bool := if a.length = b.length then rowsE a b else false
theorem rowsE_refl : ∀ a, rowsE a a = true
  | [] => rfl
  | x :: r => by simp [rowsE, neR, rowsE_refl r]
def pagesE : List S31 → List S31 → Bool
  | [], [] => true
  | x :: r, y :: s => if rowsEq x.f0 y.f0 = true then pagesE r s else false
  | _, _ => false
def filesE : List S104 → List S104 → Bool
  | [], [] => true
  | x :: r, y :: s => if x.f0 = y.f0 ∧ x.f2 = y.f2 ∧ x.f3 = y.f3 ∧ x.f1.length = y.f1.length then (pagesE x.f1 y.f1 && filesE r s) else false
  | _, _ => false
def diskE (a : List S104) (m : Int) (b : List S104) (n : Int) : Bool := if m = n ∧ a.length = b.length then filesE a b else false
theorem pagesE_refl : ∀ a, pagesE a a = true
  | [] => rfl
  | x :: r => by simp [pagesE, rowsEq, rowsE_refl, pagesE_refl r]
theorem filesE_refl : ∀ a, filesE a a = true
  | [] => rfl
  | x :: r => by simp [filesE, pagesE_refl, filesE_refl r]
theorem diskE_refl (a : List S104) (m : Int) : diskE a m a m = true := by simp [diskE, filesE_refl]
def LenP (l : List S31) : Prop := l.length ≤ 4611686018427387904 ∧ ∀ x ∈ l, x.f0.length ≤ 4611686018427387904
theorem spec_l6Rows_ev (a b : List S33) (ha : a.length ≤ 4611686018427387904) : Ev (fun k => spec_l6Rows.f k a b) (rowsEq a b) := by
  have key : ∀ (r s : List S33) (i : Nat), a.drop i = r → b.drop i = s → r.length = s.length → Ev (fun k => spec_l6Rows.l0 k a b (i : Int)) (rowsE r s) := by
    intro r
    induction r with
    | nil =>
      intro s i h hs hl
      obtain rfl : s = [] := List.eq_nil_of_length_eq_zero (by simpa using hl.symm)
      refine Ev.succ ?_
      simp only [spec_l6Rows.l0]
      exact Ev.neg (drop_nil_lt h) (Ev.now _)
    | cons x r ih =>
      intro s i h hs hl
      cases s with
      | nil => simp at hl
      | cons y s =>
        obtain ⟨h1, h2, h3⟩ := rdI h
        obtain ⟨g1, g2, g3⟩ := rdI hs
        refine Ev.succ ?_
        simp only [spec_l6Rows.l0, h2, g2, nxt ha h1, rowsE]
        refine Ev.pos h1 (Ev.pos (Int.natCast_nonneg _) (Ev.pos g1 ?_))
        by_cases hn : neR x y = true
        · rw [if_pos hn]; exact Ev.pos hn (Ev.now _)
        · rw [if_neg hn]; exact Ev.neg hn (ih s (i + 1) h3 g3 (by simpa using hl))
  simp only [spec_l6Rows.f]
  unfold rowsEq
  by_cases h : a.length = b.length
  · rw [if_pos h]; exact Ev.pos (by omega) (key a b 0 rfl rfl h)
  · rw [if_neg h]; exact Ev.neg (by omega) (Ev.now _)
theorem spec_EqualDisks_ev (a : List S104) (m : Int) (b : List S104) (n : Int) (ha : a.length ≤ 4611686018427387904) (hp : ∀ x ∈ a, LenP x.f1) : Ev (fun k => spec_EqualDisks.f k a m b n) (diskE a m b n) := by
  have inner : ∀ (x y : S104) (i : Nat) (R : Bool), LenP x.f1 → wrap64 ((i : Int) + 1) = ((i + 1 : Nat) : Int) → Ev (fun k => spec_EqualDisks.l0 k ((i + 1 : Nat) : Int) a m b n) R → ∀ (p q : List S31) (j : Nat), x.f1.drop j = p → y.f1.drop j = q → p.length = q.length → (∀ z ∈ p, z.f0.length ≤ 4611686018427387904) →
      Ev (fun k => spec_EqualDisks.l1 k (i : Int) (j : Int) a m b n x.f0 x.f1 x.f2 x.f3 y.f0 y.f1 y.f2 y.f3) (pagesE p q && R) := by
    intro x y i R hx hi hR p
    induction p with
    | nil =>
      intro q j h hs hl hz
      obtain rfl : q = [] := List.eq_nil_of_length_eq_zero (by simpa using hl.symm)
      refine Ev.succ ?_
      simp only [spec_EqualDisks.l1, hi, pagesE, Bool.true_and]
      exact Ev.neg (drop_nil_lt h) hR
    | cons u p ih =>
      intro q j h hs hl hz
      cases q with
      | nil => simp at hl
      | cons v q =>
        obtain ⟨h1, h2, h3⟩ := rdT31 h
        obtain ⟨g1, g2, g3⟩ := rdT31 hs
        refine Ev.succ ?_
        simp only [spec_EqualDisks.l1, h2, g2, nxt hx.1 h1, pagesE]
        refine Ev.pos h1 (Ev.pos (Int.natCast_nonneg _) (Ev.pos g1 (Ev.bind (spec_l6Rows_ev u.f0 v.f0 (hz u (by simp))) ?_)))
        by_cases hn : rowsEq u.f0 v.f0 = true
        · rw [if_pos hn]; exact Ev.pos hn (ih q (j + 1) h3 g3 (by simpa using hl) (fun z hz' => hz z (by simp [hz'])))
        · rw [if_neg hn]; exact Ev.neg hn (Ev.now _)
  have key : ∀ (r s : List S104) (i : Nat), a.drop i = r → b.drop i = s → r.length = s.length → (∀ x ∈ r, LenP x.f1) → Ev (fun k => spec_EqualDisks.l0 k (i : Int) a m b n) (filesE r s) := by
    intro r
    induction r with
    | nil =>
      intro s i h hs hl hr
      obtain rfl : s = [] := List.eq_nil_of_length_eq_zero (by simpa using hl.symm)
      refine Ev.succ ?_
      simp only [spec_EqualDisks.l0]
      exact Ev.neg (drop_nil_lt h) (Ev.now _)
    | cons x r ih =>
      intro s i h hs hl hr
      cases s with
      | nil => simp at hl
      | cons y s =>
        obtain ⟨h1, h2, h3⟩ := rdT104 h
        obtain ⟨g1, g2, g3⟩ := rdT104 hs
        have hx := hr x (by simp)
        have tt : Ev (fun k => spec_EqualDisks.j2 k (i : Int) true a m b n x.f0 x.f1 x.f2 x.f3 y.f0 y.f1 y.f2 y.f3) false := by
          refine Ev.succ ?_
          simp only [spec_EqualDisks.j2]
          exact Ev.pos (by trivial) (Ev.now _)
        refine Ev.succ ?_
        simp only [spec_EqualDisks.l0, h2, g2, filesE]
        refine Ev.pos h1 (Ev.pos (Int.natCast_nonneg _) (Ev.pos g1 ?_))
        by_cases e0 : x.f0 = y.f0
        · refine Ev.pos e0 ?_
          by_cases e2 : x.f2 = y.f2
          · refine Ev.pos e2 ?_
            by_cases e3 : x.f3 = y.f3
            · refine Ev.neg (by simp [e3]) (Ev.succ ?_)
              simp only [spec_EqualDisks.j2]
              by_cases e1 : x.f1.length = y.f1.length
              · rw [if_pos ⟨e0, e2, e3, e1⟩]
                refine Ev.neg (by simp [e1]) ?_
                exact inner x y i _ hx (nxt ha h1) (ih s (i + 1) h3 g3 (by simpa using hl) (fun z hz => hr z (by simp [hz]))) x.f1 y.f1 0 rfl rfl e1 hx.2
              · rw [if_neg (fun hh => e1 hh.2.2.2)]
                exact Ev.pos (by simp; omega) (Ev.now _)
            · rw [if_neg (fun hh => e3 hh.2.2.1)]
              exact Ev.pos (by simpa using e3) tt
          · rw [if_neg (fun hh => e2 hh.2.1)]
            exact Ev.neg e2 tt
        · rw [if_neg (fun hh => e0 hh.1)]
          exact Ev.neg e0 tt
  simp only [spec_EqualDisks.f]
  unfold diskE
  by_cases hmn : m = n
  · refine Ev.pos hmn (Ev.succ ?_)
    simp only [spec_EqualDisks.j0]
    by_cases hl : a.length = b.length
    · rw [if_pos ⟨hmn, hl⟩]; exact Ev.neg (by simp [hl]) (key a b 0 rfl rfl hl hp)
    · rw [if_neg (fun hh => hl hh.2)]; exact Ev.pos (by simp; omega) (Ev.now _)
  · rw [if_neg (fun hh => hmn hh.1)]
    refine Ev.neg hmn (Ev.succ ?_)
    simp only [spec_EqualDisks.j0]
    exact Ev.pos (by trivial) (Ev.now _)
theorem impl_equal_ev (a b : List S33) (ha : a.length ≤ 4611686018427387904) : Ev (fun k => impl_equal.f k a b) (rowsEq a b) := by
  have key : ∀ (r s : List S33) (i : Nat), a.drop i = r → b.drop i = s → r.length = s.length → Ev (fun k => impl_equal.l0 k a b (a.length : Int) (i : Int)) (rowsE r s) := by
    intro r
    induction r with
    | nil =>
      intro s i h hs hl
      obtain rfl : s = [] := List.eq_nil_of_length_eq_zero (by simpa using hl.symm)
      refine Ev.succ ?_
      simp only [impl_equal.l0]
      exact Ev.neg (drop_nil_lt h) (Ev.now _)
    | cons x r ih =>
      intro s i h hs hl
      cases s with
      | nil => simp at hl
      | cons y s =>
        obtain ⟨h1, h2, h3⟩ := rdI h
        obtain ⟨g1, g2, g3⟩ := rdI hs
        refine Ev.succ ?_
        simp only [impl_equal.l0, h2, g2, nxt ha h1, rowsE]
        refine Ev.pos h1 (Ev.pos (Int.natCast_nonneg _) (Ev.pos h1 (Ev.pos g1 ?_)))
        by_cases hn : neR x y = true
        · rw [if_pos hn]; exact Ev.pos hn (Ev.now _)
        · rw [if_neg hn]; exact Ev.neg hn (ih s (i + 1) h3 g3 (by simpa using hl))
  simp only [impl_equal.f]
  unfold rowsEq
  by_cases h : a.length = b.length
  · rw [if_pos h]; exact Ev.pos (by omega) (key a b 0 rfl rfl h)
  · rw [if_neg h]; exact Ev.neg (by omega) (Ev.now _)
theorem impl_EqualDisks_ev (a : List S104) (m : Int) (b : List S104) (n : Int) (ha : a.length ≤ 4611686018427387904) (hp : ∀ x ∈ a, LenP x.f1) : Ev (fun k => impl_EqualDisks.f k a m b n) (diskE a m b n) := by
  have inner : ∀ (x y : S104) (i : Nat) (R : Bool), LenP x.f1 → wrap64 ((i : Int) + 1) = ((i + 1 : Nat) : Int) → Ev (fun k => impl_EqualDisks.l0 k a (a.length : Int) ((i + 1 : Nat) : Int) b n) R → ∀ (p q : List S31) (j : Nat), x.f1.drop j = p → y.f1.drop j = q → p.length = q.length → (∀ z ∈ p, z.f0.length ≤ 4611686018427387904) →
      Ev (fun k => impl_EqualDisks.l1 k a (a.length : Int) (i : Int) (x.f1.length : Int) (j : Int) b n x.f0 x.f1 x.f2 x.f3 y.f0 y.f1 y.f2 y.f3) (pagesE p q && R) := by
    intro x y i R hx hi hR p
    induction p with
    | nil =>
      intro q j h hs hl hz
      obtain rfl : q = [] := List.eq_nil_of_length_eq_zero (by simpa using hl.symm)
      refine Ev.succ ?_
      simp only [impl_EqualDisks.l1, hi, pagesE, Bool.true_and]
      exact Ev.neg (drop_nil_lt h) hR
    | cons u p ih =>
      intro q j h hs hl hz
      cases q with
      | nil => simp at hl
      | cons v q =>
        obtain ⟨h1, h2, h3⟩ := rdT31 h
        obtain ⟨g1, g2, g3⟩ := rdT31 hs
        refine Ev.succ ?_
        simp only [impl_EqualDisks.l1, h2, g2, nxt hx.1 h1, pagesE]
        refine Ev.pos h1 (Ev.pos (Int.natCast_nonneg _) (Ev.pos h1 (Ev.pos g1 (Ev.bind (impl_equal_ev u.f0 v.f0 (hz u (by simp))) ?_))))
        by_cases hn : rowsEq u.f0 v.f0 = true
        · rw [if_pos hn]; exact Ev.pos hn (ih q (j + 1) h3 g3 (by simpa using hl) (fun z hz' => hz z (by simp [hz'])))
        · rw [if_neg hn]; exact Ev.neg hn (Ev.now _)
  have key : ∀ (r s : List S104) (i : Nat), a.drop i = r → b.drop i = s → r.length = s.length → (∀ x ∈ r, LenP x.f1) → Ev (fun k => impl_EqualDisks.l0 k a (a.length : Int) (i : Int) b n) (filesE r s) := by
    intro r
    induction r with
    | nil =>
      intro s i h hs hl hr
      obtain rfl : s = [] := List.eq_nil_of_length_eq_zero (by simpa using hl.symm)
      refine Ev.succ ?_
      simp only [impl_EqualDisks.l0]
      exact Ev.neg (drop_nil_lt h) (Ev.now _)
    | cons x r ih =>
      intro s i h hs hl hr
      cases s with
      | nil => simp at hl
      | cons y s =>
        obtain ⟨h1, h2, h3⟩ := rdT104 h
        obtain ⟨g1, g2, g3⟩ := rdT104 hs
        have hx := hr x (by simp)
        have tt : Ev (fun k => impl_EqualDisks.j2 k a (a.length : Int) (i : Int) true b n x.f0 x.f1 x.f2 x.f3 y.f0 y.f1 y.f2 y.f3) false := by
          refine Ev.succ ?_
          simp only [impl_EqualDisks.j2]
          exact Ev.pos (by trivial) (Ev.now _)
        refine Ev.succ ?_
        simp only [impl_EqualDisks.l0, h2, g2, filesE]
        refine Ev.pos h1 (Ev.pos (Int.natCast_nonneg _) (Ev.pos h1 (Ev.pos g1 ?_)))
        by_cases e0 : x.f0 = y.f0
        · refine Ev.pos e0 ?_
          by_cases e2 : x.f2 = y.f2
          · refine Ev.pos e2 ?_
            by_cases e3 : x.f3 = y.f3
            · refine Ev.neg (by simp [e3]) (Ev.succ ?_)
              simp only [impl_EqualDisks.j2]
              by_cases e1 : x.f1.length = y.f1.length
              · rw [if_pos ⟨e0, e2, e3, e1⟩]
                refine Ev.neg (by simp [e1]) ?_
                exact inner x y i _ hx (nxt ha h1) (ih s (i + 1) h3 g3 (by simpa using hl) (fun z hz => hr z (by simp [hz]))) x.f1 y.f1 0 rfl rfl e1 hx.2
              · rw [if_neg (fun hh => e1 hh.2.2.2)]
                exact Ev.pos (by simp; omega) (Ev.now _)
            · rw [if_neg (fun hh => e3 hh.2.2.1)]
              exact Ev.pos (by simpa using e3) tt
          · rw [if_neg (fun hh => e2 hh.2.1)]
            exact Ev.neg e2 tt
        · rw [if_neg (fun hh => e0 hh.1)]
          exact Ev.neg e0 tt
  simp only [impl_EqualDisks.f]
  unfold diskE
  by_cases hmn : m = n
  · refine Ev.pos hmn (Ev.succ ?_)
    simp only [impl_EqualDisks.j0]
    by_cases hl : a.length = b.length
    · rw [if_pos ⟨hmn, hl⟩]; exact Ev.neg (by simp [hl]) (key a b 0 rfl rfl hl hp)
    · rw [if_neg (fun hh => hl hh.2)]; exact Ev.pos (by simp; omega) (Ev.now _)
  · rw [if_neg (fun hh => hmn hh.1)]
    refine Ev.neg hmn (Ev.succ ?_)
    simp only [impl_EqualDisks.j0]
    exact Ev.pos (by trivial) (Ev.now _)
theorem LenP_of {l : List S104} (h : OkF l) : ∀ x ∈ l, LenP x.f1 := fun x hx => ⟨by have := (h.2 x hx).1; omega, fun p hp => by have := (h.2 x hx).2 p hp; omega⟩
theorem FnExactEqualDisks {G G1 : Prop} (l : List S125) (n : Int) (l' : List S125) (n' : Int) (g : (l.length ≤ 9223372036854775807 ∧ ∀ y ∈ l, GoodF y) ∧ G) (g1 : (l'.length ≤ 9223372036854775807 ∧ ∀ y ∈ l', GoodF y) ∧ G1) : ∃ k, laws_FnExactEqualDisks.f k l n l' n' = some true := by
  refine Ev.rounds ?_
  simp only [laws_FnExactEqualDisks.f]
  obtain ⟨t, e, ht, hs⟩ := szDisk_ev l n g.1.1 g.1.2 1048576 (by omega) (Int.le_refl _)
  refine Ev.bind e ?_
  by_cases h0 : t < 0
  · exact Ev.pos h0 (Ev.now _)
  · obtain ⟨t', e', ht', hs'⟩ := szDisk_ev l' n' g1.1.1 g1.1.2 t (by omega) (by omega)
    refine Ev.neg h0 (Ev.bind e' ?_)
    by_cases h0' : t' < 0
    · exact Ev.pos h0' (Ev.now _)
    · have hS := hs (by omega)
      have hO := OkF_cv hS
      have hS' := hs' (by omega)
      have hO' := OkF_cv hS'
      have hlen : (l.map cvF).length ≤ 4611686018427387904 := by have := hO.1; omega
      refine Ev.neg h0' (Ev.bind (toDisk_ev l n hS) (Ev.bind (toDisk_ev l' n' hS') (Ev.bind (spec_EqualDisks_ev _ n _ n' hlen (LenP_of hO)) (Ev.bind (toDisk_ev l n hS) (Ev.bind (toDisk_ev l' n' hS') (Ev.bind (impl_EqualDisks_ev _ n _ n' hlen (LenP_of hO)) ?_))))))
      refine Ev.neg (by simp) (Ev.bind (toDisk_ev l n hS) (Ev.bind (eqDisk_ev _ n hO) (Ev.pos (by trivial) ?_)))
      exact Ev.bind (toDisk_ev l' n' hS') (Ev.bind (eqDisk_ev _ n' hO') (Ev.pos (by trivial) (Ev.now _)))

end Go.Proofs.Ytkipmmkjbeeemaa.Pure
