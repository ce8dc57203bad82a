/- The program's FormatPages answers as the reference's does, for all arguments that the statement lets in; no further condition. -/
import Derived.Test.YtinniedbgfgclaaQFnExactFormatPagesx6
import Derived.Test.YtinniedbgfgclaaCore
namespace Go.Proofs.Ytinniedbgfgclaa.Pure
open Go.RowKit Go.Proofs.Ytinniedbgfgclaa.PFnExactFormatPages Go.Proofs.YtinniedbgfgclaaW.PrintWords Go.Proofs.YtinniedbgfgclaaW.PrintLast Go.Proofs.YtinniedbgfgclaaW.PrintMore Go.Proofs.Ytinniedbgfgclaa.Core
set_option linter.unusedVariables false
set_option linter.unusedSimpArgs false

theorem toRow_f (a b c : Int) : laws_toRow.f a b c = some (a, b, c) := rfl
theorem drop_nil_lt {α : Type} {l : List α} {i : Nat} (h : l.drop i = []) : ¬ (i : Int) < (l.length : Int) := by
  have := List.drop_eq_nil_iff.1 h
  omega
theorem rdI {l : List S95} {i : Nat} {b : S95} {r : List S95} (h : l.drop i = b :: r) : (i : Int) < (l.length : Int) ∧ rd_T95 l (i : Int) = b ∧ l.drop (i + 1) = r := by
  obtain ⟨hi, h1, h2⟩ := drop_split h
  refine ⟨by omega, ?_, h2⟩
  unfold rd_T95
  rw [Int.toNat_natCast, List.getD_eq_getElem?_getD, List.getElem?_eq_getElem hi, h1]; rfl
theorem nxt {n i : Nat} (hn : n ≤ 4611686018427387904) (h : (i : Int) < (n : Int)) : wrap64 ((i : Int) + 1) = ((i + 1 : Nat) : Int) := by
  rw [w64 (by omega) (by omega)]; omega
def cvR (x : S120) : S95 := ⟨x.f0, x.f1, x.f2⟩
def tup (x : S95) : Int × Int × Int := (x.f0, x.f1, x.f2)
theorem rdL {l : List S120} {i : Nat} {b : S120} {r : List S120} (h : l.drop i = b :: r) : (i : Int) < (l.length : Int) ∧ rd_T120 l (i : Int) = b ∧ l.drop (i + 1) = r := by
  obtain ⟨hi, h1, h2⟩ := drop_split h
  refine ⟨by omega, ?_, h2⟩
  unfold rd_T120
  rw [Int.toNat_natCast, List.getD_eq_getElem?_getD, List.getElem?_eq_getElem hi, h1]; rfl
theorem szRowS_small (l : List S120) (a : Int) (ha : a ≤ 1048576) (h : (l.length : Int) ≤ a) : laws_szRowS.f l a = some (a - l.length) := by
  unfold laws_szRowS.f
  rw [w64 (by omega) (by omega), if_neg (by omega)]
theorem szRowS_big (l : List S120) (a : Int) (hl : l.length ≤ 9223372036854775807) (h0 : 0 ≤ a) (ha : a ≤ 1048576) (h : ¬ (l.length : Int) ≤ a) : laws_szRowS.f l a = some (-1) := by
  unfold laws_szRowS.f
  rw [w64 (by omega) (by omega), if_pos (by omega)]
theorem toRowS_ev (l : List S120) (hl : (l.length : Int) ≤ 1048576) : Ev (fun k => laws_toRowS.f k l) (l.map cvR) := by
  have key : ∀ (r : List S120) (d : List S95), l.drop d.length = r → Ev (fun k => laws_toRowS.l0 k l (d ++ List.replicate r.length z95) (d.length : Int)) (d ++ r.map cvR) := by
    intro r
    induction r with
    | nil =>
      intro d h
      refine Ev.succ ?_
      simp only [laws_toRowS.l0, List.length_nil, List.replicate_zero, List.append_nil, List.map_nil]
      exact Ev.neg (drop_nil_lt h) (Ev.now _)
    | cons b r ih =>
      intro d h
      obtain ⟨h1, h2, h3⟩ := rdL h
      refine Ev.succ ?_
      simp only [laws_toRowS.l0, h2, toRow_f, Option.bind_some, nxt (show l.length ≤ 4611686018427387904 by omega) h1]
      refine Ev.pos h1 (Ev.pos (Int.natCast_nonneg _) (Ev.pos ?_ ?_))
      · simp only [List.length_append, List.length_replicate, List.length_cons]; omega
      · have e : (d ++ List.replicate (b :: r).length z95).set (d.length : Int).toNat ⟨b.f0, b.f1, b.f2⟩ = (d ++ [cvR b]) ++ List.replicate r.length z95 := by
          rw [Int.toNat_natCast, List.set_append_right _ _ (Nat.le_refl _), Nat.sub_self, List.length_cons, List.replicate_succ, List.set_cons_zero, List.append_assoc]
          rfl
        rw [e]
        have := ih (d ++ [cvR b]) (by simpa using h3)
        simpa using this
  have := key l [] rfl
  simp only [laws_toRowS.f]
  refine Ev.pos (by omega) (Ev.pos (by omega) ?_)
  simpa using this
theorem eqRow_f (a b c : Int) : laws_eqRow.f a b c a b c = some true := by simp [laws_eqRow.f]
theorem eqRowS_ev (l : List S95) (hl : l.length ≤ 4611686018427387904) : Ev (fun k => laws_eqRowS.f k l l) true := by
  have key : ∀ (r : List S95) (i : Nat), l.drop i = r → Ev (fun k => laws_eqRowS.l0 k l l (i : Int)) true := by
    intro r
    induction r with
    | nil =>
      intro i h
      refine Ev.succ ?_
      simp only [laws_eqRowS.l0]
      exact Ev.neg (drop_nil_lt h) (Ev.now _)
    | cons b r ih =>
      intro i h
      obtain ⟨h1, h2, h3⟩ := rdI h
      refine Ev.succ ?_
      simp only [laws_eqRowS.l0, eqRow_f, Option.bind_some, if_true, nxt hl h1]
      exact Ev.pos h1 (Ev.pos (Int.natCast_nonneg _) (Ev.pos h1 (ih (i + 1) h3)))
  simp only [laws_eqRowS.f, if_true]
  exact key l 0 rfl
theorem map_len (l : List S120) : (l.map cvR).length = l.length := List.length_map ..
theorem szPage_small (l : List S120) (a : Int) (ha : a ≤ 1048576) (h : (l.length : Int) ≤ a) : laws_szPage.f l a = some (a - l.length) := by
  simp only [laws_szPage.f, szRowS_small l a ha h, Option.bind_some]
  rw [if_neg (by omega)]
theorem szPage_big (l : List S120) (a : Int) (hl : l.length ≤ 9223372036854775807) (h0 : 0 ≤ a) (ha : a ≤ 1048576) (h : ¬ (l.length : Int) ≤ a) : laws_szPage.f l a = some (-1) := by
  simp only [laws_szPage.f, szRowS_big l a hl h0 ha h, Option.bind_some]
  rw [if_pos (by omega)]
theorem toPage_ev (l : List S120) (hl : (l.length : Int) ≤ 1048576) : Ev (fun k => laws_toPage.f k l) (l.map cvR) := by
  simp only [laws_toPage.f]
  exact Ev.tl (toRowS_ev l hl) rfl
theorem rdT67 {l : List S67} {i : Nat} {b : S67} {r : List S67} (h : l.drop i = b :: r) : (i : Int) < (l.length : Int) ∧ rd_T67 l (i : Int) = b ∧ l.drop (i + 1) = r := by
  obtain ⟨hi, h1, h2⟩ := drop_split h
  refine ⟨by omega, ?_, h2⟩
  unfold rd_T67
  rw [Int.toNat_natCast, List.getD_eq_getElem?_getD, List.getElem?_eq_getElem hi, h1]; rfl
theorem rdT39 {l : List S39} {i : Nat} {b : S39} {r : List S39} (h : l.drop i = b :: r) : (i : Int) < (l.length : Int) ∧ rd_T39 l (i : Int) = b ∧ l.drop (i + 1) = r := by
  obtain ⟨hi, h1, h2⟩ := drop_split h
  refine ⟨by omega, ?_, h2⟩
  unfold rd_T39
  rw [Int.toNat_natCast, List.getD_eq_getElem?_getD, List.getElem?_eq_getElem hi, h1]; rfl
def cvP (x : S67) : S39 := ⟨x.f0.map cvR⟩
def SmP (l : List S67) : Prop := (l.length : Int) ≤ 1048576 ∧ ∀ x ∈ l, (x.f0.length : Int) ≤ 1048576
theorem szPageS_ev (l : List S67) (h0 : l.length ≤ 9223372036854775807) (h : ∀ x ∈ l, x.f0.length ≤ 9223372036854775807) (a : Int) (ha0 : 0 ≤ a) (ha : a ≤ 1048576) :
    ∃ t, Ev (fun k => laws_szPageS.f k l a) t ∧ t ≤ a ∧ (0 ≤ t → SmP l) := by
  have key : ∀ (r : List S67) (i : Nat) (a : Int), l.length ≤ 1048576 → l.drop i = r → (∀ x ∈ r, x.f0.length ≤ 9223372036854775807) → 0 ≤ a → a ≤ 1048576 →
      ∃ t, Ev (fun k => laws_szPageS.l0 k l a (i : Int)) t ∧ t ≤ a ∧ (0 ≤ t → ∀ x ∈ r, (x.f0.length : Int) ≤ 1048576) := by
    intro r
    induction r with
    | nil =>
      intro i a hl hd hr ha0 ha
      refine ⟨a, Ev.succ ?_, Int.le_refl _, fun _ x hx => by simp at hx⟩
      simp only [laws_szPageS.l0]
      exact Ev.neg (drop_nil_lt hd) (Ev.now _)
    | cons x r ih =>
      intro i a hl hd hr ha0 ha
      obtain ⟨h1, h2, h3⟩ := rdT67 hd
      by_cases hx : (x.f0.length : Int) ≤ a
      · obtain ⟨t, e, ht, hs⟩ := ih (i + 1) (a - x.f0.length) hl h3 (fun y hy => hr y (by simp [hy])) (by omega) (by omega)
        refine ⟨t, Ev.succ ?_, by omega, fun h0 y hy => ?_⟩
        · simp only [laws_szPageS.l0, h2, szPage_small x.f0 a ha hx, Option.bind_some, nxt (show l.length ≤ 4611686018427387904 by omega) h1]
          exact Ev.pos h1 (Ev.pos (Int.natCast_nonneg _) (Ev.neg (by omega) e))
        · rcases List.mem_cons.1 hy with rfl | hy
          · omega
          · exact hs h0 y hy
      · refine ⟨-1, Ev.succ ?_, by omega, fun h0 => by omega⟩
        simp only [laws_szPageS.l0, h2, szPage_big x.f0 a (hr x (by simp)) ha0 ha hx, Option.bind_some]
        exact Ev.pos h1 (Ev.pos (Int.natCast_nonneg _) (Ev.pos (by omega) (Ev.now _)))
  by_cases hl : (l.length : Int) ≤ a
  · obtain ⟨t, e, ht, hs⟩ := key l 0 (a - l.length) (by omega) rfl h (by omega) (by omega)
    refine ⟨t, ?_, by omega, fun h0 => ⟨by omega, hs h0⟩⟩
    simp only [laws_szPageS.f, w64 (x := a - (l.length : Int)) (by omega) (by omega)]
    exact Ev.neg (by omega) e
  · refine ⟨-1, ?_, by omega, fun h0 => by omega⟩
    simp only [laws_szPageS.f, w64 (x := a - (l.length : Int)) (by omega) (by omega)]
    exact Ev.pos (by omega) (Ev.now _)
theorem toPageS_ev (l : List S67) (hs : SmP l) : Ev (fun k => laws_toPageS.f k l) (l.map cvP) := by
  have hl := hs.1
  have key : ∀ (r : List S67) (d : List S39), l.drop d.length = r → (∀ x ∈ r, (x.f0.length : Int) ≤ 1048576) → Ev (fun k => laws_toPageS.l0 k l (d ++ List.replicate r.length z39) (d.length : Int)) (d ++ r.map cvP) := by
    intro r
    induction r with
    | nil =>
      intro d h hr
      refine Ev.succ ?_
      simp only [laws_toPageS.l0, List.length_nil, List.replicate_zero, List.append_nil, List.map_nil]
      exact Ev.neg (drop_nil_lt h) (Ev.now _)
    | cons b r ih =>
      intro d h hr
      obtain ⟨h1, h2, h3⟩ := rdT67 h
      refine Ev.succ ?_
      simp only [laws_toPageS.l0, h2, nxt (show l.length ≤ 4611686018427387904 by omega) h1]
      refine Ev.pos h1 (Ev.pos (Int.natCast_nonneg _) (Ev.bind (toPage_ev b.f0 (hr b (by simp))) (Ev.pos ?_ ?_)))
      · simp only [List.length_append, List.length_replicate, List.length_cons]; omega
      · have e : (d ++ List.replicate (b :: r).length z39).set (d.length : Int).toNat ⟨b.f0.map cvR⟩ = (d ++ [cvP b]) ++ List.replicate r.length z39 := by
          rw [Int.toNat_natCast, List.set_append_right _ _ (Nat.le_refl _), Nat.sub_self, List.length_cons, List.replicate_succ, List.set_cons_zero, List.append_assoc]
          rfl
        rw [e]
        have := ih (d ++ [cvP b]) (by simpa using h3) (fun y hy => hr y (by simp [hy]))
        simpa using this
  have := key l [] rfl hs.2
  simp only [laws_toPageS.f]
  refine Ev.pos (by omega) (Ev.pos (by omega) ?_)
  simpa using this
theorem eqPage_ev (l : List S95) (hl : l.length ≤ 4611686018427387904) : Ev (fun k => laws_eqPage.f k l l) true := by
  simp only [laws_eqPage.f]
  exact Ev.tl (eqRowS_ev l hl) rfl
theorem eqPageS_ev (l : List S39) (hl : l.length ≤ 4611686018427387904) (hp : ∀ x ∈ l, x.f0.length ≤ 4611686018427387904) : Ev (fun k => laws_eqPageS.f k l l) true := by
  have key : ∀ (r : List S39) (i : Nat), l.drop i = r → (∀ x ∈ r, x.f0.length ≤ 4611686018427387904) → Ev (fun k => laws_eqPageS.l0 k l l (i : Int)) true := by
    intro r
    induction r with
    | nil =>
      intro i h hr
      refine Ev.succ ?_
      simp only [laws_eqPageS.l0]
      exact Ev.neg (drop_nil_lt h) (Ev.now _)
    | cons b r ih =>
      intro i h hr
      obtain ⟨h1, h2, h3⟩ := rdT39 h
      refine Ev.succ ?_
      simp only [laws_eqPageS.l0, h2, nxt hl h1]
      refine Ev.pos h1 (Ev.pos (Int.natCast_nonneg _) (Ev.pos h1 (Ev.bind (eqPage_ev b.f0 (hr b (by simp))) ?_)))
      exact Ev.pos (by trivial) (ih (i + 1) h3 (fun y hy => hr y (by simp [hy])))
  simp only [laws_eqPageS.f, if_true]
  exact key l 0 rfl hp
def vrow (r : Int × Int × Int) : Bool := (decide (0 ≤ r.1) && decide (r.1 ≤ 9)) && ((decide (0 ≤ r.2.1) && decide (r.2.1 ≤ 99)) && (decide (0 ≤ r.2.2) && decide (r.2.2 ≤ 3)))
theorem vrow_iff {a b c : Int} : vrow (a, b, c) = true ↔ (0 ≤ a ∧ a ≤ 9) ∧ (0 ≤ b ∧ b ≤ 99) ∧ 0 ≤ c ∧ c ≤ 3 := by simp [vrow]
def dgs (n : Nat) : List Int := if h : n = 0 then [] else dgs (n / 10) ++ [48 + ((n % 10 : Nat) : Int)]
termination_by n
decreasing_by omega
theorem dgs_zero : dgs 0 = [] := by rw [dgs, dif_pos rfl]
theorem dgs_pos {n : Nat} (h : n ≠ 0) : dgs n = dgs (n / 10) ++ [48 + ((n % 10 : Nat) : Int)] := by rw [dgs, dif_neg h]
theorem dgs_length : ∀ (k n : Nat), n < 10 ^ k → (dgs n).length ≤ k
  | 0, n, h => by
    have : n = 0 := by simpa using h
    subst this; rw [dgs_zero]; exact Nat.le_refl _
  | k + 1, n, h => by
    by_cases h0 : n = 0
    · subst h0; rw [dgs_zero]; exact Nat.zero_le _
    · rw [dgs_pos h0]
      have := dgs_length k (n / 10) (by rw [Nat.pow_succ] at h; omega)
      simp only [List.length_append, List.length_cons, List.length_nil]; omega
def dec (n : Nat) : List Int := if n = 0 then [48] else dgs n
def fmtI (n : Int) : List Int := if n < 0 then 45 :: dec n.natAbs else dec n.natAbs
theorem str_cons (c : Int) (s : List Int) : strOfNums [c] ++ strOfNums s = strOfNums (c :: s) := by
  rw [str_mkB, str_mkB, str_mkB, mkB_append]; rfl
theorem str_append (a b : List Int) : strOfNums a ++ strOfNums b = strOfNums (a ++ b) := by
  rw [str_mkB, str_mkB, str_mkB, mkB_append, List.map_append]
theorem str_minus (s : List Int) : (⟨#[45]⟩ : ByteArray) ++ strOfNums s = strOfNums (45 :: s) := str_cons 45 s
theorem dec_len (n : Nat) (hn : n ≤ 9223372036854775808) : (dec n).length ≤ 19 := by
  unfold dec
  split
  · decide
  · exact dgs_length 19 n (by omega)
def frI (a b c : Int) : List Int := if vrow (a, b, c) = true then fmtI a ++ 46 :: (fmtI b ++ 46 :: fmtI c) else []
theorem fmtI_len (n : Int) (h1 : -9223372036854775808 ≤ n) (h2 : n ≤ 9223372036854775807) : (fmtI n).length ≤ 20 := by
  have := dec_len n.natAbs (by omega)
  unfold fmtI
  split
  · simp only [List.length_cons]; omega
  · omega
theorem str_dot (s : List Int) : strOfNums s ++ (⟨#[46]⟩ : ByteArray) = strOfNums (s ++ [46]) := str_append s [46]
def allV (l : List S95) : Bool := l.all fun x => vrow (x.f0, x.f1, x.f2)
def avM (l : List S95) : Bool := allV l && decide ((l.length : Int) ≤ 24)
def tailI : List S95 → List Int
  | [] => []
  | x :: r => 32 :: (frI x.f0 x.f1 x.f2 ++ tailI r)
def rowsI : List S95 → List Int
  | [] => []
  | x :: r => frI x.f0 x.f1 x.f2 ++ tailI r
def frsI (l : List S95) : List Int := if avM l = true then rowsI l else []
theorem frI_len (a b c : Int) : (frI a b c).length ≤ 62 := by
  unfold frI
  by_cases h : vrow (a, b, c) = true
  · have hv := vrow_iff.1 h
    have l1 := fmtI_len a (by omega) (by omega)
    have l2 := fmtI_len b (by omega) (by omega)
    have l3 := fmtI_len c (by omega) (by omega)
    rw [if_pos h]
    simp only [List.length_append, List.length_cons]; omega
  · rw [if_neg h]; simp
theorem tailI_len : ∀ l, (tailI l).length ≤ 63 * l.length
  | [] => by simp [tailI]
  | x :: r => by
    have h1 := frI_len x.f0 x.f1 x.f2
    have h2 := tailI_len r
    simp only [tailI, List.length_cons, List.length_append]; omega
theorem avM_len {l : List S95} (h : avM l = true) : l.length ≤ 24 := by
  unfold avM at h
  simp at h
  omega
theorem str_sp (s : List Int) : strOfNums s ++ (⟨#[32]⟩ : ByteArray) = strOfNums (s ++ [32]) := str_append s [32]
theorem l1In_f (a b c : Int) : spec_l1In.f a b c = some (decide (b ≤ a) && decide (a ≤ c)) := by
  by_cases h : b ≤ a <;> simp [spec_l1In.f, h]
theorem spec_IsValidRow_f (a b c : Int) : spec_IsValidRow.f a b c = some (vrow (a, b, c)) := by
  simp only [spec_IsValidRow.f, l1In_f, Option.bind_some, vrow]
  cases (decide (0 ≤ a) && decide (a ≤ 9)) <;> cases (decide (0 ≤ b) && decide (b ≤ 99)) <;> simp
theorem spec_AreValidRows_ev (l : List S95) (hl : l.length ≤ 4611686018427387904) : Ev (fun k => spec_AreValidRows.f k l) (avM l) := by
  have key : ∀ (r : List S95) (i : Nat), l.drop i = r → Ev (fun k => spec_AreValidRows.l0 k l (i : Int)) (allV r && decide ((l.length : Int) ≤ 24)) := by
    intro r
    induction r with
    | nil =>
      intro i h
      refine Ev.succ ?_
      simp only [spec_AreValidRows.l0]
      exact Ev.neg (drop_nil_lt h) (Ev.now' (by simp [allV]))
    | cons x r ih =>
      intro i h
      obtain ⟨h1, h2, h3⟩ := rdI h
      refine Ev.succ ?_
      simp only [spec_AreValidRows.l0, h2, nxt hl h1, spec_IsValidRow_f, Option.bind_some]
      refine Ev.pos h1 (Ev.pos (Int.natCast_nonneg _) ?_)
      by_cases hv : vrow (x.f0, x.f1, x.f2) = true
      · refine Ev.pos hv ?_
        have e : allV (x :: r) = allV r := by simp [allV, hv]
        rw [e]; exact ih (i + 1) h3
      · exact Ev.neg hv (Ev.now' (by simp [allV, hv]))
  exact key l 0 rfl
theorem within_f (a b c : Int) : impl_within.f a b c = some (decide (b ≤ a) && decide (a ≤ c)) := by
  by_cases h : b ≤ a <;> simp [impl_within.f, h]
theorem impl_IsValidRow_f (a b c : Int) : impl_IsValidRow.f a b c = some (vrow (a, b, c)) := by
  simp only [impl_IsValidRow.f, within_f, Option.bind_some, vrow]
  cases (decide (0 ≤ a) && decide (a ≤ 9)) <;> cases (decide (0 ≤ b) && decide (b ≤ 99)) <;> simp
theorem impl_allValid_ev (l : List S95) (hl : l.length ≤ 4611686018427387904) : Ev (fun k => impl_allValid.f k l) (allV l) := by
  have key : ∀ (r : List S95) (i : Nat), l.drop i = r → Ev (fun k => impl_allValid.l0 k l (l.length : Int) (i : Int)) (allV r) := by
    intro r
    induction r with
    | nil =>
      intro i h
      refine Ev.succ ?_
      simp only [impl_allValid.l0]
      exact Ev.neg (drop_nil_lt h) (Ev.now' (by simp [allV]))
    | cons x r ih =>
      intro i h
      obtain ⟨h1, h2, h3⟩ := rdI h
      refine Ev.succ ?_
      simp only [impl_allValid.l0, h2, nxt hl h1, impl_IsValidRow_f, Option.bind_some]
      refine Ev.pos h1 (Ev.pos (Int.natCast_nonneg _) (Ev.pos h1 ?_))
      by_cases hv : vrow (x.f0, x.f1, x.f2) = true
      · refine Ev.pos hv ?_
        have e : allV (x :: r) = allV r := by simp [allV, hv]
        rw [e]; exact ih (i + 1) h3
      · exact Ev.neg hv (Ev.now' (by simp [allV, hv]))
  exact key l 0 rfl
theorem impl_AreValidRows_ev (l : List S95) (hl : l.length ≤ 4611686018427387904) : Ev (fun k => impl_AreValidRows.f k l) (avM l) := by
  simp only [impl_AreValidRows.f]
  unfold avM
  by_cases h : (l.length : Int) ≤ 24
  · refine Ev.pos h (Ev.tl (impl_allValid_ev l hl) ?_)
    simp [h]
  · exact Ev.neg h (Ev.now' (by simp [h]))
def cost (r : Int × Int × Int) : Int := if vrow r = true then 1 + r.2.2 else 0
theorem impl_RowCost_f (a b c : Int) : impl_RowCost.f a b c = some (cost (a, b, c)) := by
  simp only [impl_RowCost.f, impl_IsValidRow_f, Option.bind_some, cost]
  by_cases h : vrow (a, b, c) = true
  · have := vrow_iff.1 h
    rw [if_pos h, if_pos h, w64 (by omega) (by omega)]
  · rw [if_neg h, if_neg h]
theorem spec_RowCost_f (a b c : Int) : spec_RowCost.f a b c = some (cost (a, b, c)) := by
  simp only [spec_RowCost.f, spec_IsValidRow_f, Option.bind_some, cost]
  by_cases h : vrow (a, b, c) = true
  · have := vrow_iff.1 h
    rw [if_pos h, if_pos h, w64 (by omega) (by omega)]
  · rw [if_neg h, if_neg h]
theorem cost_bd (r : Int × Int × Int) : 0 ≤ cost r ∧ cost r ≤ 4 := by
  obtain ⟨a, b, c⟩ := r
  unfold cost
  by_cases h : vrow (a, b, c) = true
  · have := vrow_iff.1 h
    rw [if_pos h]; simp only; omega
  · rw [if_neg h]; omega
def tcM : List S95 → Int → Int
  | [], n => n
  | x :: r, n => tcM r (n + cost (x.f0, x.f1, x.f2))
theorem spec_TotalCost_ev (l : List S95) (hl : l.length ≤ 1152921504606846976) : Ev (fun k => spec_TotalCost.f k l) (tcM l 0) := by
  have key : ∀ (r : List S95) (i : Nat) (n : Int), l.drop i = r → 0 ≤ n → n ≤ 4 * i → Ev (fun k => spec_TotalCost.l0 k l n (i : Int)) (tcM r n) := by
    intro r
    induction r with
    | nil =>
      intro i n h h0 hn
      refine Ev.succ ?_
      simp only [spec_TotalCost.l0]
      exact Ev.neg (drop_nil_lt h) (Ev.now _)
    | cons x r ih =>
      intro i n h h0 hn
      obtain ⟨h1, h2, h3⟩ := rdI h
      have hc := cost_bd (x.f0, x.f1, x.f2)
      refine Ev.succ ?_
      simp only [spec_TotalCost.l0, h2, nxt (show l.length ≤ 4611686018427387904 by omega) h1, spec_RowCost_f, Option.bind_some, w64 (x := n + cost (x.f0, x.f1, x.f2)) (by omega) (by omega)]
      exact Ev.pos h1 (Ev.pos (Int.natCast_nonneg _) (ih (i + 1) _ h3 (by omega) (by omega)))
  exact key l 0 0 rfl (by omega) (by omega)
theorem impl_TotalCost_ev (l : List S95) (hl : l.length ≤ 1152921504606846976) : Ev (fun k => impl_TotalCost.f k l) (tcM l 0) := by
  have key : ∀ (r : List S95) (i : Nat) (n : Int), l.drop i = r → 0 ≤ n → n ≤ 4 * i → Ev (fun k => impl_TotalCost.l0 k n l (l.length : Int) (i : Int)) (tcM r n) := by
    intro r
    induction r with
    | nil =>
      intro i n h h0 hn
      refine Ev.succ ?_
      simp only [impl_TotalCost.l0]
      exact Ev.neg (drop_nil_lt h) (Ev.now _)
    | cons x r ih =>
      intro i n h h0 hn
      obtain ⟨h1, h2, h3⟩ := rdI h
      have hc := cost_bd (x.f0, x.f1, x.f2)
      refine Ev.succ ?_
      simp only [impl_TotalCost.l0, h2, nxt (show l.length ≤ 4611686018427387904 by omega) h1, impl_RowCost_f, Option.bind_some, w64 (x := n + cost (x.f0, x.f1, x.f2)) (by omega) (by omega)]
      exact Ev.pos h1 (Ev.pos (Int.natCast_nonneg _) (Ev.pos h1 (ih (i + 1) _ h3 (by omega) (by omega))))
  exact key l 0 0 rfl (by omega) (by omega)
theorem tcM_bd : ∀ (l : List S95) (n : Int), n ≤ tcM l n ∧ tcM l n ≤ n + 4 * l.length
  | [], n => by simp [tcM]
  | x :: r, n => by
    have hc := cost_bd (x.f0, x.f1, x.f2)
    have := tcM_bd r (n + cost (x.f0, x.f1, x.f2))
    simp only [tcM, List.length_cons]
    omega
def vpM (l : List S95) : Bool := avM l && (decide (1 ≤ tcM l 0) && decide (tcM l 0 ≤ 8))
theorem spec_IsValidPage_ev (l : List S95) (hl : l.length ≤ 1152921504606846976) : Ev (fun k => spec_IsValidPage.f k l) (vpM l) := by
  simp only [spec_IsValidPage.f, l1In_f, Option.bind_some]
  unfold vpM
  refine Ev.bind (spec_AreValidRows_ev l (by omega)) ?_
  by_cases h : avM l = true
  · refine Ev.pos h (Ev.tl (spec_TotalCost_ev l hl) ?_)
    rw [h]; rfl
  · exact Ev.neg h (Ev.now' (by simp [h]))
theorem impl_IsValidPage_ev (l : List S95) (hl : l.length ≤ 1152921504606846976) : Ev (fun k => impl_IsValidPage.f k l) (vpM l) := by
  simp only [impl_IsValidPage.f, within_f, Option.bind_some]
  unfold vpM
  refine Ev.bind (impl_AreValidRows_ev l (by omega)) ?_
  by_cases h : avM l = true
  · refine Ev.pos h (Ev.tl (impl_TotalCost_ev l hl) ?_)
    rw [h]; rfl
  · exact Ev.neg h (Ev.now' (by simp [h]))
def vpsM (l : List S39) : Bool := l.all fun x => vpM x.f0
def pagesI : List S39 → List Int
  | [] => []
  | x :: r => 91 :: (frsI x.f0 ++ (93 :: pagesI r))
def fpM (l : List S39) : List Int := if vpsM l = true then pagesI l else []
theorem frsI_len (l : List S95) : (frsI l).length ≤ 2000 := by
  unfold frsI
  by_cases h : avM l = true
  · have h1 := avM_len h
    rw [if_pos h]
    cases l with
    | nil => simp [rowsI]
    | cons x r =>
      have h2 := frI_len x.f0 x.f1 x.f2
      have h3 := tailI_len r
      simp only [List.length_cons] at h1
      simp only [rowsI, List.length_append]; omega
  · rw [if_neg h]; simp
theorem str_lb (s : List Int) : strOfNums s ++ (⟨#[91]⟩ : ByteArray) = strOfNums (s ++ [91]) := str_append s [91]
theorem str_rb (s : List Int) : strOfNums s ++ (⟨#[93]⟩ : ByteArray) = strOfNums (s ++ [93]) := str_append s [93]
theorem lb_str (s : List Int) : (⟨#[91]⟩ : ByteArray) ++ strOfNums s = strOfNums (91 :: s) := str_append [91] s
theorem spec_dig (x : Int) (n : Nat) (hx : x.natAbs = n) (hn : n ≤ 9223372036854775808) :
    (if Int.tmod x 10 < 0 then (wrap64 (48 + wrap64 (-(Int.tmod x 10)))) % 256 else (wrap64 (48 + Int.tmod x 10)) % 256) = 48 + ((n % 10 : Nat) : Int) ∧ (Int.tdiv x 10).natAbs = n / 10 ∧ (wrap64 (Int.tdiv x 10) = Int.tdiv x 10) := by
  rcases Int.le_total 0 x with h | h
  · have e1 : Int.tmod x 10 = x % 10 := Int.tmod_eq_emod_of_nonneg h
    have e2 : Int.tdiv x 10 = x / 10 := Int.tdiv_eq_ediv_of_nonneg h
    rw [e1, e2, if_neg (by omega)]
    refine ⟨?_, by omega, w64 (by omega) (by omega)⟩
    rw [w64 (by omega) (by omega)]; omega
  · obtain ⟨m, rfl⟩ : ∃ m : Nat, x = -(m : Int) := ⟨n, by omega⟩
    have e1 : Int.tmod (-(m : Int)) 10 = -((m : Int) % 10) := by rw [Int.neg_tmod, Int.tmod_eq_emod_of_nonneg (by omega)]
    have e2 : Int.tdiv (-(m : Int)) 10 = -((m : Int) / 10) := by rw [Int.neg_tdiv, Int.tdiv_eq_ediv_of_nonneg (by omega)]
    rw [e1, e2]
    refine ⟨?_, by omega, w64 (by omega) (by omega)⟩
    split
    · rw [w64 (x := -(-((m : Int) % 10))) (by omega) (by omega), w64 (by omega) (by omega)]; omega
    · rw [w64 (by omega) (by omega)]; omega
theorem spec_fmt : ∀ (n : Nat) (x : Int) (s : List Int) (neg : Bool), x.natAbs = n → n ≤ 9223372036854775808 → s.length + (dgs n).length ≤ 40 →
    Ev (fun k => spec_FormatInt.l0 k x (strOfNums s) neg) (if neg = true then strOfNums (45 :: (dgs n ++ s)) else strOfNums (dgs n ++ s)) := by
  intro n
  induction n using Nat.strongRecOn with
  | _ n ih =>
    intro x s neg hx hn hl
    refine Ev.succ ?_
    by_cases h : n = 0
    · subst h
      simp only [spec_FormatInt.l0, if_pos (show x = 0 by omega), dgs_zero, List.nil_append, str_minus]
      simp only [dgs_zero, List.length_nil] at hl
      cases neg
      · exact Ev.neg (by decide) (Ev.now _)
      · refine Ev.pos (by trivial) ?_
        exact Ev.pos (by rw [strOfNums_size]; omega) (Ev.now _)
    · obtain ⟨d1, d2, d3⟩ := spec_dig x n hx hn
      rw [dgs_pos h] at hl
      simp only [List.length_append, List.length_cons, List.length_nil] at hl
      have step := ih (n / 10) (by omega) (Int.tdiv x 10) ((48 + ((n % 10 : Nat) : Int)) :: s) neg d2 (by omega) (by simp only [List.length_cons]; omega)
      simp only [spec_FormatInt.l0, if_neg (show ¬ x = 0 by omega), d3, Option.bind_some]
      have e : dgs n ++ s = dgs (n / 10) ++ ((48 + ((n % 10 : Nat) : Int)) :: s) := by rw [dgs_pos h]; simp
      rw [e]
      by_cases hm : Int.tmod x 10 < 0
      · rw [if_pos hm] at d1
        refine Ev.pos hm ?_
        simp only [d1, str_cons]
        exact Ev.pos (by rw [strOfNums_size, strOfNums_size]; simp only [List.length_cons, List.length_nil]; omega) step
      · rw [if_neg hm] at d1
        refine Ev.neg hm ?_
        simp only [d1, str_cons]
        exact Ev.pos (by rw [strOfNums_size, strOfNums_size]; simp only [List.length_cons, List.length_nil]; omega) step
theorem spec_FormatInt_ev (n : Int) (h1 : -9223372036854775808 ≤ n) (h2 : n ≤ 9223372036854775807) : Ev (fun k => spec_FormatInt.f k n) (strOfNums (fmtI n)) := by
  simp only [spec_FormatInt.f]
  by_cases h0 : n = 0
  · subst h0
    exact Ev.pos rfl (Ev.now' rfl)
  · refine Ev.neg h0 ?_
    have := spec_fmt n.natAbs n [] (decide (n < 0)) rfl (by omega) (by have := dgs_length 19 n.natAbs (by omega); simp only [List.length_nil]; omega)
    have e : strOfNums (fmtI n) = (if decide (n < 0) = true then strOfNums (45 :: (dgs n.natAbs ++ [])) else strOfNums (dgs n.natAbs ++ [])) := by
      unfold fmtI dec
      rw [if_neg (show ¬ n.natAbs = 0 by omega)]
      by_cases hn : n < 0 <;> simp [hn]
    rw [e]
    exact this
theorem spec_FormatRow_ev (a b c : Int) : Ev (fun k => spec_FormatRow.f k a b c) (strOfNums (frI a b c)) := by
  simp only [spec_FormatRow.f, spec_IsValidRow_f, Option.bind_some]
  unfold frI
  by_cases h : vrow (a, b, c) = true
  · have hv := vrow_iff.1 h
    have l1 := fmtI_len a (by omega) (by omega)
    have l2 := fmtI_len b (by omega) (by omega)
    have l3 := fmtI_len c (by omega) (by omega)
    rw [if_pos h]
    refine Ev.pos h (Ev.bind (spec_FormatInt_ev a (by omega) (by omega)) (Ev.pos (by rw [strOfNums_size]; omega) (Ev.bind (spec_FormatInt_ev b (by omega) (by omega)) ?_)))
    simp only [str_dot, str_append]
    refine Ev.pos ?_ (Ev.pos ?_ (Ev.bind (spec_FormatInt_ev c (by omega) (by omega)) ?_))
    · rw [strOfNums_size, strOfNums_size]; simp only [List.length_append, List.length_cons, List.length_nil]; omega
    · rw [strOfNums_size]; simp only [List.length_append, List.length_cons, List.length_nil]; omega
    · simp only [str_append]
      refine Ev.pos ?_ (Ev.now' ?_)
      · rw [strOfNums_size, strOfNums_size]; simp only [List.length_append, List.length_cons, List.length_nil]; omega
      · simp
  · rw [if_neg h]
    exact Ev.neg h (Ev.now' rfl)
theorem spec_FormatRows_ev (l : List S95) (hl : l.length ≤ 4611686018427387904) : Ev (fun k => spec_FormatRows.f k l) (strOfNums (frsI l)) := by
  by_cases hv : avM l = true
  · have hl24 := avM_len hv
    have key : ∀ (r : List S95) (i : Nat) (acc : List Int), l.drop i = r → 1 ≤ i → acc.length + 63 * r.length ≤ 10000 → Ev (fun k => spec_FormatRows.l0 k l (strOfNums acc) (i : Int)) (strOfNums (acc ++ tailI r)) := by
      intro r
      induction r with
      | nil =>
        intro i acc h hi ha
        refine Ev.succ ?_
        simp only [spec_FormatRows.l0]
        refine Ev.neg (drop_nil_lt h) (Ev.succ ?_)
        simp only [spec_FormatRows.j1]
        exact Ev.neg (by decide) (Ev.now' (by simp [tailI]))
      | cons x r ih =>
        intro i acc h hi ha
        obtain ⟨h1, h2, h3⟩ := rdI h
        have hf := frI_len x.f0 x.f1 x.f2
        simp only [List.length_cons] at ha
        refine Ev.succ ?_
        simp only [spec_FormatRows.l0]
        refine Ev.pos h1 (Ev.bind (spec_AreValidRows_ev l hl) (Ev.succ ?_))
        simp only [spec_FormatRows.j1, h2, nxt hl h1, hv]
        refine Ev.pos (by trivial) (Ev.pos (by omega) (Ev.pos (by rw [strOfNums_size]; omega) (Ev.pos (Int.natCast_nonneg _) (Ev.pos h1 (Ev.bind (spec_FormatRow_ev _ _ _) ?_)))))
        simp only [str_sp, str_append]
        refine Ev.pos (by rw [strOfNums_size, strOfNums_size]; simp only [List.length_append, List.length_cons, List.length_nil]; omega) ?_
        have := ih (i + 1) ((acc ++ [32]) ++ frI x.f0 x.f1 x.f2) h3 (by omega) (by simp only [List.length_append, List.length_cons, List.length_nil]; omega)
        simpa [tailI] using this
    have e : frsI l = rowsI l := if_pos hv
    rw [e]
    cases hd : l with
    | nil =>
      refine Ev.succ (g := fun k => spec_FormatRows.l0 k [] (⟨#[]⟩ : ByteArray) 0) ?_
      simp only [spec_FormatRows.l0]
      refine Ev.neg (by simp) (Ev.succ ?_)
      simp only [spec_FormatRows.j1]
      exact Ev.neg (by decide) (Ev.now' rfl)
    | cons x r =>
      rw [← hd]
      have h0 : l.drop 0 = x :: r := by rw [List.drop_zero, hd]
      obtain ⟨h1, h2, h3⟩ := rdI h0
      have hf := frI_len x.f0 x.f1 x.f2
      have hlr : r.length ≤ 24 := by rw [hd] at hl24; simp only [List.length_cons] at hl24; omega
      have e1 : wrap64 (0 + 1) = ((0 + 1 : Nat) : Int) := by rw [w64 (by omega) (by omega)]; rfl
      have h1' : (0 : Int) < (l.length : Int) := h1
      have h2' : rd_T95 l 0 = x := h2
      refine Ev.succ (g := fun k => spec_FormatRows.l0 k l (⟨#[]⟩ : ByteArray) 0) ?_
      simp only [spec_FormatRows.l0]
      refine Ev.pos h1' (Ev.bind (spec_AreValidRows_ev l hl) (Ev.succ ?_))
      simp only [spec_FormatRows.j1, h2', hv, e1]
      refine Ev.pos (by trivial) (Ev.neg (by omega) (Ev.pos (by omega) (Ev.pos h1' (Ev.bind (spec_FormatRow_ev _ _ _) ?_))))
      have e2 : (⟨#[]⟩ : ByteArray) ++ strOfNums (frI x.f0 x.f1 x.f2) = strOfNums (frI x.f0 x.f1 x.f2) := str_append [] _
      have e3 : (⟨#[]⟩ : ByteArray).size = 0 := rfl
      simp only [e2]
      refine Ev.pos (by rw [strOfNums_size, e3]; omega) ?_
      have := key r (0 + 1) (frI x.f0 x.f1 x.f2) h3 (by omega) (by omega)
      rw [hd]
      rw [hd] at this
      exact this
  · have e : frsI l = [] := if_neg hv
    rw [e]
    have hj : ∀ b, b = false → Ev (fun k => spec_FormatRows.j1 k l (⟨#[]⟩ : ByteArray) 0 b) (strOfNums []) := by
      intro b hb
      subst hb
      refine Ev.succ ?_
      simp only [spec_FormatRows.j1]
      exact Ev.neg (by decide) (Ev.now' rfl)
    refine Ev.succ (g := fun k => spec_FormatRows.l0 k l (⟨#[]⟩ : ByteArray) 0) ?_
    simp only [spec_FormatRows.l0]
    by_cases h0 : (0 : Int) < (l.length : Int)
    · exact Ev.pos h0 (Ev.bind (spec_AreValidRows_ev l hl) (hj _ (by simpa using hv)))
    · exact Ev.neg h0 (hj _ rfl)
theorem u64w (x : Int) : IntKind.u64.wrap x = x % 18446744073709551616 := by simp [IntKind.wrap, IntKind.bits, IntKind.signed]
theorem impl_dec : ∀ (n : Nat), n ≤ 9223372036854775808 → Ev (fun k => impl_decimal.f k (n : Int)) (strOfNums (dec n)) := by
  intro n
  induction n using Nat.strongRecOn with
  | _ n ih =>
    intro hn
    refine Ev.succ ?_
    simp only [impl_decimal.f]
    by_cases h : n < 10
    · refine Ev.pos (by omega) (Ev.now' ?_)
      have e : IntKind.u64.wrap (48 + (n : Int)) % 256 = 48 + (n : Int) := by rw [u64w]; omega
      rw [e]
      unfold dec
      by_cases h0 : n = 0
      · subst h0; rfl
      · rw [if_neg h0, dgs_pos h0, show n / 10 = 0 by omega, dgs_zero, show n % 10 = n by omega]; rfl
    · refine Ev.neg (by omega) ?_
      have e1 : IntKind.u64.wrap (Int.tdiv (n : Int) 10) = ((n / 10 : Nat) : Int) := by rw [Int.tdiv_eq_ediv_of_nonneg (by omega), u64w]; omega
      have e2 : IntKind.u64.wrap (48 + Int.tmod (n : Int) 10) % 256 = 48 + ((n % 10 : Nat) : Int) := by rw [Int.tmod_eq_emod_of_nonneg (by omega), u64w]; omega
      simp only [e1, e2, Option.bind_some]
      refine Ev.tl (ih (n / 10) (by omega) (by omega)) ?_
      have hl := dec_len (n / 10) (by omega)
      rw [if_pos (by rw [strOfNums_size, strOfNums_size]; simp only [List.length_cons, List.length_nil]; omega), str_append]
      have e3 : dec n = dec (n / 10) ++ [48 + ((n % 10 : Nat) : Int)] := by
        unfold dec
        rw [if_neg (show ¬ n = 0 by omega), if_neg (show ¬ n / 10 = 0 by omega), dgs_pos (show n ≠ 0 by omega)]
      rw [e3]
theorem impl_FormatInt_ev (n : Int) (h1 : -9223372036854775808 ≤ n) (h2 : n ≤ 9223372036854775807) : Ev (fun k => impl_FormatInt.f k n) (strOfNums (fmtI n)) := by
  simp only [impl_FormatInt.f]
  have hl := dec_len n.natAbs (by omega)
  by_cases h : n < 0
  · refine Ev.pos h ?_
    have e : IntKind.u64.wrap (-(IntKind.u64.wrap n)) = (n.natAbs : Int) := by rw [u64w, u64w]; omega
    simp only [e]
    refine Ev.tl (impl_dec n.natAbs (by omega)) ?_
    rw [if_pos (by rw [strOfNums_size]; omega), str_minus]
    unfold fmtI
    rw [if_pos h]
  · refine Ev.neg h ?_
    have e : IntKind.u64.wrap n = (n.natAbs : Int) := by rw [u64w]; omega
    simp only [e]
    refine Ev.tl (impl_dec n.natAbs (by omega)) ?_
    unfold fmtI
    rw [if_neg h]
theorem impl_FormatRow_ev (a b c : Int) : Ev (fun k => impl_FormatRow.f k a b c) (strOfNums (frI a b c)) := by
  simp only [impl_FormatRow.f, impl_IsValidRow_f, Option.bind_some]
  unfold frI
  by_cases h : vrow (a, b, c) = true
  · have hv := vrow_iff.1 h
    have l1 := fmtI_len a (by omega) (by omega)
    have l2 := fmtI_len b (by omega) (by omega)
    have l3 := fmtI_len c (by omega) (by omega)
    rw [if_pos h]
    refine Ev.pos h (Ev.bind (impl_FormatInt_ev a (by omega) (by omega)) (Ev.pos (by rw [strOfNums_size]; omega) (Ev.bind (impl_FormatInt_ev b (by omega) (by omega)) ?_)))
    simp only [str_dot, str_append]
    refine Ev.pos ?_ (Ev.pos ?_ (Ev.bind (impl_FormatInt_ev c (by omega) (by omega)) ?_))
    · rw [strOfNums_size, strOfNums_size]; simp only [List.length_append, List.length_cons, List.length_nil]; omega
    · rw [strOfNums_size]; simp only [List.length_append, List.length_cons, List.length_nil]; omega
    · simp only [str_append]
      refine Ev.pos ?_ (Ev.now' ?_)
      · rw [strOfNums_size, strOfNums_size]; simp only [List.length_append, List.length_cons, List.length_nil]; omega
      · simp
  · rw [if_neg h]
    exact Ev.neg h (Ev.now' rfl)
/-- The digits of a text, other signs passed over. -/
def dval : List Int → Int → Int
  | [], n => n
  | c :: r, n => if 48 ≤ c ∧ c ≤ 57 then dval r (n * 10 + (c - 48)) else dval r n
def dcnt : List Int → Int → Int
  | [], n => n
  | c :: r, n => if 48 ≤ c ∧ c ≤ 57 then dcnt r (n + 1) else dcnt r n
theorem dval_append : ∀ (a b : List Int) (n : Int), dval (a ++ b) n = dval b (dval a n)
  | [], b, n => rfl
  | c :: a, b, n => by
    simp only [List.cons_append, dval]
    split <;> exact dval_append a b _
theorem dcnt_append : ∀ (a b : List Int) (n : Int), dcnt (a ++ b) n = dcnt b (dcnt a n)
  | [], b, n => rfl
  | c :: a, b, n => by
    simp only [List.cons_append, dcnt]
    split <;> exact dcnt_append a b _
def isDig (c : Int) : Prop := 48 ≤ c ∧ c ≤ 57
theorem dgs_dig : ∀ (n : Nat), ∀ c ∈ dgs n, 48 ≤ c ∧ c ≤ 57 := by
  intro n
  induction n using Nat.strongRecOn with
  | _ n ih =>
    intro c hc
    by_cases h : n = 0
    · subst h; rw [dgs_zero] at hc; simp at hc
    · rw [dgs_pos h] at hc
      rcases List.mem_append.1 hc with hc | hc
      · exact ih (n / 10) (by omega) c hc
      · have : c = 48 + ((n % 10 : Nat) : Int) := by simpa using hc
        omega
theorem dec_dig (n : Nat) : ∀ c ∈ dec n, 48 ≤ c ∧ c ≤ 57 := by
  intro c hc
  unfold dec at hc
  split at hc
  · have : c = 48 := by simpa using hc
    omega
  · exact dgs_dig n c hc
theorem dgs_val : ∀ (n : Nat), dval (dgs n) 0 = n := by
  intro n
  induction n using Nat.strongRecOn with
  | _ n ih =>
    by_cases h : n = 0
    · subst h; rw [dgs_zero]; rfl
    · rw [dgs_pos h, dval_append, ih (n / 10) (by omega)]
      simp only [dval]
      rw [if_pos (by omega)]
      omega
theorem dec_val (n : Nat) : dval (dec n) 0 = n := by
  unfold dec
  split
  · rename_i h; subst h; rfl
  · exact dgs_val n
theorem dcnt_dig : ∀ (l : List Int) (n : Int), (∀ c ∈ l, 48 ≤ c ∧ c ≤ 57) → dcnt l n = n + l.length
  | [], n, _ => by simp [dcnt]
  | c :: r, n, h => by
    simp only [dcnt]
    rw [if_pos (h c (by simp)), dcnt_dig r (n + 1) (fun d hd => h d (by simp [hd]))]
    simp only [List.length_cons]; omega
theorem dec_pos (n : Nat) : 1 ≤ (dec n).length := by
  unfold dec
  split
  · decide
  · rename_i h; rw [dgs_pos h]; simp
theorem dgs_len_lt (n : Nat) (h : n < 1000000000) : (dgs n).length ≤ 9 := dgs_length 9 n h
theorem dec_len9 (n : Nat) (h : n < 1000000000) : (dec n).length ≤ 9 := by
  unfold dec
  split
  · decide
  · exact dgs_len_lt n h
theorem dgs_len_ge : ∀ (k n : Nat), 10 ^ k ≤ n → k + 1 ≤ (dgs n).length
  | 0, n, h => by
    have : n ≠ 0 := by have : (1 : Nat) ≤ n := by simpa using h
                       omega
    rw [dgs_pos this]; simp
  | k + 1, n, h => by
    have h0 : n ≠ 0 := by have := Nat.pow_pos (n := k + 1) (show 0 < 10 by decide); omega
    have := dgs_len_ge k (n / 10) (by rw [Nat.pow_succ] at h; omega)
    rw [dgs_pos h0]; simp only [List.length_append, List.length_cons, List.length_nil]; omega
theorem dec_small (n : Nat) (h : (dec n).length ≤ 9) : n < 1000000000 := by
  rcases Nat.lt_or_ge n 1000000000 with h' | h'
  · exact h'
  · have := dgs_len_ge 9 n h'
    unfold dec at h
    rw [if_neg (by omega)] at h
    omega
theorem dec_range (n : Nat) : ∀ c ∈ dec n, 0 ≤ c ∧ c ≤ 255 := fun c hc => by have := dec_dig n c hc; omega
theorem fmtI_range (n : Int) : ∀ c ∈ fmtI n, 0 ≤ c ∧ c ≤ 255 := by
  intro c hc
  unfold fmtI at hc
  split at hc
  · rcases List.mem_cons.1 hc with rfl | hc
    · omega
    · exact dec_range _ c hc
  · exact dec_range _ c hc
/-- The numbers of a text's bytes. -/
def numsB (s : ByteArray) : List Int := s.data.toList.map fun b => (b.toNat : Int)
theorem numsB_len (s : ByteArray) : (numsB s).length = s.size := by unfold numsB; rw [List.length_map, ← ba_size]
theorem numsB_str (l : List Int) (h : ∀ c ∈ l, 0 ≤ c ∧ c ≤ 255) : numsB (strOfNums l) = l := by
  unfold numsB
  rw [strOfNums_data, List.map_map]
  have : ∀ c ∈ l, ((fun b : UInt8 => (b.toNat : Int)) ∘ fun n : Int => UInt8.ofNat n.toNat) c = id c := by
    intro c hc
    have := h c hc
    simp; omega
  rw [List.map_congr_left this, List.map_id]
theorem str_numsB (s : ByteArray) : strOfNums (numsB s) = s := by
  unfold numsB strOfNums
  rw [List.map_map]
  have : ((fun n : Int => UInt8.ofNat n.toNat) ∘ fun b : UInt8 => (b.toNat : Int)) = id := by funext b; simp
  rw [this, List.map_id]
theorem str_eq (l : List Int) (s : ByteArray) (h : ∀ c ∈ l, 0 ≤ c ∧ c ≤ 255) : (strOfNums l).toList = s.toList ↔ numsB s = l := by
  rw [toL, toL]
  constructor
  · intro he
    have : strOfNums l = s := by apply ByteArray.ext; exact Array.toList_inj.1 he
    rw [← this, numsB_str l h]
  · intro he
    rw [← he, str_numsB]
theorem numsB_drop_nil {s : ByteArray} {i : Nat} (h : (numsB s).drop i = []) : ¬ (i : Int) < (s.size : Int) := by
  have := List.drop_eq_nil_iff.1 h
  rw [numsB_len] at this
  omega
theorem numsB_drop_cons {s : ByteArray} {i : Nat} {b : Int} {l : List Int} (h : (numsB s).drop i = b :: l) : (i : Int) < (s.size : Int) ∧ bt s (i : Int) = b ∧ (numsB s).drop (i + 1) = l ∧ 0 ≤ b ∧ b ≤ 255 := by
  obtain ⟨hi, h1, h2⟩ := drop_split h
  have hi' : i < s.data.toList.length := by rw [numsB_len] at hi; rw [← ba_size]; exact hi
  have e : bt s (i : Int) = b := by
    rw [bt_list s i hi', ← h1]; simp [numsB]
  refine ⟨by rw [numsB_len] at hi; omega, e, h2, ?_⟩
  have := bt_range s i
  omega
/-- What ParseInt answers. -/
def PInt (s : ByteArray) (r : Int × Bool) : Prop := (r.2 = true ∧ numsB s = fmtI r.1 ∧ r.1.natAbs < 1000000000) ∨ (r = (0, false) ∧ ∀ n : Int, n.natAbs < 1000000000 → numsB s ≠ fmtI n)
theorem fmtI_inj {a b : Int} (h : fmtI a = fmtI b) : a = b := by
  have hd : ∀ n : Nat, ∀ c r, dec n = c :: r → c ≠ 45 := fun n c r he hc => by have := dec_dig n c (by rw [he]; simp); omega
  have hne : ∀ n : Nat, dec n ≠ [] := fun n he => by have := dec_pos n; rw [he] at this; simp at this
  have hv : ∀ m n : Nat, dec m = dec n → m = n := fun m n he => by
    have h1 := dec_val m
    rw [he, dec_val n] at h1
    omega
  unfold fmtI at h
  by_cases ha : a < 0 <;> by_cases hb : b < 0
  · rw [if_pos ha, if_pos hb] at h
    have := hv _ _ (List.cons.inj h).2
    omega
  · rw [if_pos ha, if_neg hb] at h
    exact absurd rfl (hd b.natAbs 45 _ h.symm)
  · rw [if_neg ha, if_pos hb] at h
    exact absurd rfl (hd a.natAbs 45 _ h)
  · rw [if_neg ha, if_neg hb] at h
    have := hv _ _ h
    omega
theorem PInt_unique {s : ByteArray} {r q : Int × Bool} (h : PInt s r) (k : PInt s q) : r = q := by
  rcases h with ⟨h1, h2, h3⟩ | ⟨h1, h2⟩ <;> rcases k with ⟨k1, k2, k3⟩ | ⟨k1, k2⟩
  · have : r.1 = q.1 := fmtI_inj (h2.symm.trans k2)
    exact Prod.ext this (h1.trans k1.symm)
  · exact absurd h2 (k2 _ h3)
  · exact absurd k2 (h2 _ k3)
  · rw [h1, k1]
theorem pi_bound {n c : Int} {d : Nat} (h0 : 0 ≤ n) (hc : 0 ≤ c ∧ c ≤ 9) (hp : (n + 1) * 10 ^ (d + 1) ≤ 100000000000) : 0 ≤ n * 10 + c ∧ (n * 10 + c + 1) * 10 ^ d ≤ 100000000000 ∧ n * 10 + c < 100000000000 ∧ n < 100000000000 := by
  have h1 : (0 : Int) < 10 ^ d := Int.pow_pos (by decide)
  have e : (n + 1) * 10 ^ (d + 1) = ((n + 1) * 10) * 10 ^ d := by rw [Int.pow_succ, Int.mul_comm (10 ^ d) 10, Int.mul_assoc]
  have h2 : (n * 10 + c + 1) * 10 ^ d ≤ ((n + 1) * 10) * 10 ^ d := Int.mul_le_mul_of_nonneg_right (by omega) (Int.le_of_lt h1)
  have h3 : (n * 10 + c + 1) * 1 ≤ (n * 10 + c + 1) * 10 ^ d := Int.mul_le_mul_of_nonneg_left (by omega) (by omega)
  refine ⟨by omega, by omega, by omega, by omega⟩
theorem pi_bound0 {n : Int} {d : Nat} (h0 : 0 ≤ n) (hp : (n + 1) * 10 ^ (d + 1) ≤ 100000000000) : (n + 1) * 10 ^ d ≤ 100000000000 ∧ n < 100000000000 := by
  have h1 : (0 : Int) < 10 ^ d := Int.pow_pos (by decide)
  have e : (n + 1) * 10 ^ (d + 1) = ((n + 1) * 10 ^ d) * 10 := by rw [Int.pow_succ, Int.mul_assoc]
  have h3 : (n + 1) * 1 ≤ (n + 1) * 10 ^ d := Int.mul_le_mul_of_nonneg_left (by omega) (by omega)
  omega
theorem pi_ten {d : Nat} (h : d ≤ 11) : ((0 : Int) + 1) * 10 ^ d ≤ 100000000000 := by
  have : (10 : Nat) ^ d ≤ 10 ^ 11 := Nat.pow_le_pow_right (by decide) h
  have : ((10 ^ d : Nat) : Int) ≤ ((10 ^ 11 : Nat) : Int) := by exact_mod_cast this
  simpa using this
theorem pi_less {n : Int} {d : Nat} (h0 : 0 ≤ n) (hp : (n + 1) * 10 ^ d ≤ 100000000000) : n < 100000000000 := by
  have h1 : (0 : Int) < 10 ^ d := Int.pow_pos (by decide)
  have h3 : (n + 1) * 1 ≤ (n + 1) * 10 ^ d := Int.mul_le_mul_of_nonneg_left (by omega) (by omega)
  omega
theorem dval_fmtI (m : Int) : dval (fmtI m) 0 = m.natAbs := by
  unfold fmtI
  split
  · simp only [dval]; rw [if_neg (by omega)]; exact dec_val _
  · exact dec_val _
theorem dcnt_fmtI (m : Int) : dcnt (fmtI m) 0 = (dec m.natAbs).length := by
  unfold fmtI
  split
  · simp only [dcnt]; rw [if_neg (by omega), dcnt_dig _ _ (dec_dig _)]; omega
  · rw [dcnt_dig _ _ (dec_dig _)]; omega
def negB (s : ByteArray) : Bool := decide (0 < (s.size : Int)) && (bt s 0 == 45)
theorem bt0_hd {s : ByteArray} {c : Int} {r : List Int} (h : numsB s = c :: r) : 0 < (s.size : Int) ∧ bt s 0 = c := by
  have := numsB_drop_cons (s := s) (i := 0) (b := c) (l := r) h
  exact ⟨this.1, this.2.1⟩
theorem negB_fmtI {s : ByteArray} {m : Int} (h : numsB s = fmtI m) : negB s = decide (m < 0) := by
  unfold negB
  by_cases hm : m < 0
  · unfold fmtI at h
    rw [if_pos hm] at h
    obtain ⟨h1, h2⟩ := bt0_hd h
    rw [decide_eq_true h1, h2, decide_eq_true hm]; rfl
  · unfold fmtI at h
    rw [if_neg hm] at h
    have hp := dec_pos m.natAbs
    cases hd : dec m.natAbs with
    | nil => rw [hd] at hp; simp at hp
    | cons c r =>
      rw [hd] at h
      obtain ⟨h1, h2⟩ := bt0_hd h
      have := dec_dig m.natAbs c (by rw [hd]; simp)
      have e : (bt s 0 == 45) = false := by rw [h2]; simp; omega
      simp [e, hm]
theorem fmtI_len9 {m : Int} (h : m.natAbs < 1000000000) : (fmtI m).length ≤ 10 := by
  have := dec_len9 _ h
  unfold fmtI
  split
  · simp only [List.length_cons]; omega
  · omega
theorem rdB {l : List ByteArray} {i : Nat} {b : ByteArray} {r : List ByteArray} (h : l.drop i = b :: r) : (i : Int) < (l.length : Int) ∧ rdOf ByteArray.empty l (i : Int) = b ∧ l.drop (i + 1) = r := by
  obtain ⟨hi, h1, h2⟩ := drop_split h
  refine ⟨by omega, ?_, h2⟩
  unfold rdOf
  rw [Int.toNat_natCast, List.getD_eq_getElem?_getD, List.getElem?_eq_getElem hi, h1]; rfl
def tailT : List ByteArray → List Int
  | [] => []
  | t :: r => 32 :: (numsB t ++ tailT r)
def joinT : List ByteArray → List Int
  | [] => []
  | t :: r => numsB t ++ tailT r
theorem impl_joined_ev (w : List ByteArray) (hw : w.length ≤ 100) (ht : ∀ t ∈ w, t.size ≤ 100) : Ev (fun k => impl_joined.f k w (⟨#[32]⟩ : ByteArray)) (strOfNums (joinT w)) := by
  have es : (⟨#[32]⟩ : ByteArray).size = 1 := rfl
  have key : ∀ (r : List ByteArray) (i : Nat) (acc : List Int), w.drop i = r → 1 ≤ i → (∀ t ∈ r, t.size ≤ 100) → acc.length + 101 * r.length ≤ 20000 → Ev (fun k => impl_joined.l0 k (⟨#[32]⟩ : ByteArray) (strOfNums acc) w (w.length : Int) (i : Int)) (strOfNums (acc ++ tailT r)) := by
    intro r
    induction r with
    | nil =>
      intro i acc h hi hr ha
      refine Ev.succ ?_
      simp only [impl_joined.l0]
      exact Ev.neg (drop_nil_lt h) (Ev.now' (by simp [tailT]))
    | cons t r ih =>
      intro i acc h hi hr ha
      obtain ⟨h1, h2, h3⟩ := rdB h
      have hz := hr t (by simp)
      simp only [List.length_cons] at ha
      refine Ev.succ ?_
      simp only [impl_joined.l0, h2, nxt (show w.length ≤ 4611686018427387904 by omega) h1]
      refine Ev.pos h1 (Ev.pos (Int.natCast_nonneg _) (Ev.pos h1 (Ev.pos (by omega) (Ev.pos (by rw [strOfNums_size, es]; omega) ?_))))
      simp only [str_sp]
      refine Ev.pos (by rw [strOfNums_size]; simp only [List.length_append, List.length_cons, List.length_nil]; omega) ?_
      have e : strOfNums (acc ++ [32]) ++ t = strOfNums ((acc ++ [32]) ++ numsB t) := by
        have := str_append (acc ++ [32]) (numsB t)
        rw [str_numsB] at this
        exact this
      rw [e]
      have := ih (i + 1) ((acc ++ [32]) ++ numsB t) h3 (by omega) (fun q hq => hr q (by simp [hq])) (by simp only [List.length_append, List.length_cons, List.length_nil, numsB_len]; omega)
      simpa [tailT] using this
  cases hd : w with
  | nil =>
    refine Ev.succ (g := fun k => impl_joined.l0 k (⟨#[32]⟩ : ByteArray) (⟨#[]⟩ : ByteArray) [] (([] : List ByteArray).length : Int) 0) ?_
    simp only [impl_joined.l0]
    exact Ev.neg (by simp) (Ev.now' rfl)
  | cons t r =>
    rw [← hd]
    have h0 : w.drop 0 = t :: r := by rw [List.drop_zero, hd]
    obtain ⟨h1, h2, h3⟩ := rdB h0
    have hz := ht t (by rw [hd]; simp)
    have h1' : (0 : Int) < (w.length : Int) := h1
    have h2' : rdOf ByteArray.empty w 0 = t := h2
    have e1 : wrap64 (0 + 1) = ((0 + 1 : Nat) : Int) := by rw [w64 (by omega) (by omega)]; rfl
    refine Ev.succ (g := fun k => impl_joined.l0 k (⟨#[32]⟩ : ByteArray) (⟨#[]⟩ : ByteArray) w (w.length : Int) 0) ?_
    simp only [impl_joined.l0, h2', e1]
    have e2 : (⟨#[]⟩ : ByteArray) ++ t = strOfNums (numsB t) := by
      have := str_append [] (numsB t)
      rw [List.nil_append] at this
      rw [← this, str_numsB]; rfl
    have e3 : (⟨#[]⟩ : ByteArray).size = 0 := rfl
    simp only [e2]
    refine Ev.pos h1' (Ev.pos (by omega) (Ev.pos h1' (Ev.neg (by omega) (Ev.pos (by rw [e3]; omega) ?_))))
    have hlr : r.length ≤ 99 := by rw [hd] at hw; simp only [List.length_cons] at hw; omega
    have := key r (0 + 1) (numsB t) h3 (by omega) (fun q hq => ht q (by rw [hd]; simp [hq])) (by rw [numsB_len]; omega)
    rw [hd]
    rw [hd] at this
    exact this
theorem frI_rg (a b c : Int) : ∀ d ∈ frI a b c, 0 ≤ d ∧ d ≤ 255 := by
  intro d hd
  unfold frI at hd
  split at hd
  · rcases List.mem_append.1 hd with hd | hd
    · exact fmtI_range a d hd
    · rcases List.mem_cons.1 hd with rfl | hd
      · omega
      · rcases List.mem_append.1 hd with hd | hd
        · exact fmtI_range b d hd
        · rcases List.mem_cons.1 hd with rfl | hd
          · omega
          · exact fmtI_range c d hd
  · simp at hd
theorem tailT_map : ∀ (r : List S95), tailT (r.map fun x => strOfNums (frI x.f0 x.f1 x.f2)) = tailI r
  | [] => rfl
  | x :: r => by
    simp only [List.map_cons, tailT, tailI, tailT_map r, numsB_str _ (frI_rg x.f0 x.f1 x.f2)]
theorem joinT_map (l : List S95) : joinT (l.map fun x => strOfNums (frI x.f0 x.f1 x.f2)) = rowsI l := by
  cases l with
  | nil => rfl
  | cons x r => simp only [List.map_cons, joinT, rowsI, tailT_map r, numsB_str _ (frI_rg x.f0 x.f1 x.f2)]
theorem impl_rowTexts_ev (l : List S95) (hl : l.length ≤ 24) : Ev (fun k => impl_rowTexts.f k l) (strOfNums (rowsI l)) := by
  have key : ∀ (r : List S95) (i : Nat) (acc : List ByteArray), l.drop i = r → acc.length + r.length ≤ 24 → (∀ t ∈ acc, t.size ≤ 100) → Ev (fun k => impl_rowTexts.l0 k acc l (l.length : Int) (i : Int)) (strOfNums (joinT (acc ++ r.map fun x => strOfNums (frI x.f0 x.f1 x.f2)))) := by
    intro r
    induction r with
    | nil =>
      intro i acc h ha ht
      refine Ev.succ ?_
      simp only [impl_rowTexts.l0, List.map_nil, List.append_nil]
      simp only [List.length_nil] at ha
      exact Ev.neg (drop_nil_lt h) (Ev.tl (impl_joined_ev acc (by omega) ht) rfl)
    | cons x r ih =>
      intro i acc h ha ht
      obtain ⟨h1, h2, h3⟩ := rdI h
      have hf := frI_len x.f0 x.f1 x.f2
      simp only [List.length_cons] at ha
      refine Ev.succ ?_
      simp only [impl_rowTexts.l0, h2, nxt (show l.length ≤ 4611686018427387904 by omega) h1]
      refine Ev.pos h1 (Ev.pos (Int.natCast_nonneg _) (Ev.pos h1 (Ev.bind (impl_FormatRow_ev _ _ _) (Ev.pos (by omega) ?_))))
      have := ih (i + 1) (acc ++ [strOfNums (frI x.f0 x.f1 x.f2)]) h3 (by simp only [List.length_append, List.length_cons, List.length_nil]; omega) (fun t htm => by
        rcases List.mem_append.1 htm with htm | htm
        · exact ht t htm
        · have : t = strOfNums (frI x.f0 x.f1 x.f2) := by simpa using htm
          rw [this, strOfNums_size]; omega)
      simpa using this
  have := key l 0 [] rfl (by simpa using hl) (fun t ht => by simp at ht)
  rw [List.nil_append, joinT_map] at this
  exact this
theorem impl_FormatRows_ev (l : List S95) (hl : l.length ≤ 4611686018427387904) : Ev (fun k => impl_FormatRows.f k l) (strOfNums (frsI l)) := by
  simp only [impl_FormatRows.f]
  refine Ev.bind (impl_AreValidRows_ev l hl) ?_
  by_cases hv : avM l = true
  · have e : frsI l = rowsI l := if_pos hv
    rw [e]
    exact Ev.pos hv (Ev.tl (impl_rowTexts_ev l (avM_len hv)) rfl)
  · have e : frsI l = [] := if_neg hv
    rw [e]
    exact Ev.neg hv (Ev.now' rfl)
theorem spec_l4Pages_ev (l : List S39) (hl : l.length ≤ 1048576) (hp : ∀ x ∈ l, x.f0.length ≤ 1048576) : Ev (fun k => spec_l4Pages.f k l) (vpsM l) := by
  have key : ∀ (r : List S39) (i : Nat), l.drop i = r → (∀ x ∈ r, x.f0.length ≤ 1048576) → Ev (fun k => spec_l4Pages.l0 k l (i : Int)) (vpsM r) := by
    intro r
    induction r with
    | nil =>
      intro i h hr
      refine Ev.succ ?_
      simp only [spec_l4Pages.l0]
      exact Ev.neg (drop_nil_lt h) (Ev.now _)
    | cons x r ih =>
      intro i h hr
      obtain ⟨h1, h2, h3⟩ := rdT39 h
      have hx := hr x (by simp)
      refine Ev.succ ?_
      simp only [spec_l4Pages.l0, h2, nxt (show l.length ≤ 4611686018427387904 by omega) h1]
      refine Ev.pos h1 (Ev.pos (Int.natCast_nonneg _) (Ev.bind (spec_IsValidPage_ev x.f0 (by omega)) ?_))
      by_cases hv : vpM x.f0 = true
      · have e : vpsM (x :: r) = vpsM r := by simp [vpsM, hv]
        rw [e]
        exact Ev.pos hv (ih (i + 1) h3 (fun y hy => hr y (by simp [hy])))
      · exact Ev.neg hv (Ev.now' (by simp [vpsM, hv]))
  exact key l 0 rfl hp
theorem impl_validPages_ev (l : List S39) (hl : l.length ≤ 1048576) (hp : ∀ x ∈ l, x.f0.length ≤ 1048576) : Ev (fun k => impl_validPages.f k l) (vpsM l) := by
  have key : ∀ (r : List S39) (i : Nat), l.drop i = r → (∀ x ∈ r, x.f0.length ≤ 1048576) → Ev (fun k => impl_validPages.l0 k l (l.length : Int) (i : Int)) (vpsM r) := by
    intro r
    induction r with
    | nil =>
      intro i h hr
      refine Ev.succ ?_
      simp only [impl_validPages.l0]
      exact Ev.neg (drop_nil_lt h) (Ev.now _)
    | cons x r ih =>
      intro i h hr
      obtain ⟨h1, h2, h3⟩ := rdT39 h
      have hx := hr x (by simp)
      refine Ev.succ ?_
      simp only [impl_validPages.l0, h2, nxt (show l.length ≤ 4611686018427387904 by omega) h1]
      refine Ev.pos h1 (Ev.pos (Int.natCast_nonneg _) (Ev.pos h1 (Ev.bind (impl_IsValidPage_ev x.f0 (by omega)) ?_)))
      by_cases hv : vpM x.f0 = true
      · have e : vpsM (x :: r) = vpsM r := by simp [vpsM, hv]
        rw [e]
        exact Ev.pos hv (ih (i + 1) h3 (fun y hy => hr y (by simp [hy])))
      · exact Ev.neg hv (Ev.now' (by simp [vpsM, hv]))
  exact key l 0 rfl hp
theorem spec_FormatPages_ev (l : List S39) (hl : l.length ≤ 1048576) (hp : ∀ x ∈ l, x.f0.length ≤ 1048576) : Ev (fun k => spec_FormatPages.f k l) (strOfNums (fpM l)) := by
  by_cases hv : vpsM l = true
  · have key : ∀ (r : List S39) (i : Nat) (acc : List Int), l.drop i = r → (∀ x ∈ r, x.f0.length ≤ 1048576) → acc.length + 2002 * r.length ≤ 4000000000 → Ev (fun k => spec_FormatPages.l0 k l (strOfNums acc) (i : Int)) (strOfNums (acc ++ pagesI r)) := by
      intro r
      induction r with
      | nil =>
        intro i acc h hr ha
        refine Ev.succ ?_
        simp only [spec_FormatPages.l0]
        exact Ev.neg (drop_nil_lt h) (Ev.now' (by simp [pagesI]))
      | cons x r ih =>
        intro i acc h hr ha
        obtain ⟨h1, h2, h3⟩ := rdT39 h
        have hx := hr x (by simp)
        have hf := frsI_len x.f0
        simp only [List.length_cons] at ha
        refine Ev.succ ?_
        simp only [spec_FormatPages.l0, h2, nxt (show l.length ≤ 4611686018427387904 by omega) h1]
        refine Ev.pos h1 (Ev.bind (spec_l4Pages_ev l hl hp) (Ev.pos hv (Ev.pos (by rw [strOfNums_size]; omega) (Ev.pos (Int.natCast_nonneg _) (Ev.bind (spec_FormatRows_ev x.f0 (by omega)) ?_)))))
        simp only [str_lb, str_append]
        refine Ev.pos (by rw [strOfNums_size, strOfNums_size]; simp only [List.length_append, List.length_cons, List.length_nil]; omega) (Ev.pos (by rw [strOfNums_size]; simp only [List.length_append, List.length_cons, List.length_nil]; omega) ?_)
        simp only [str_rb]
        have := ih (i + 1) (((acc ++ [91]) ++ frsI x.f0) ++ [93]) h3 (fun y hy => hr y (by simp [hy])) (by simp only [List.length_append, List.length_cons, List.length_nil]; omega)
        simpa [pagesI] using this
    have e : fpM l = pagesI l := if_pos hv
    rw [e]
    exact key l 0 [] rfl hp (by simp only [List.length_nil]; omega)
  · have e : fpM l = [] := if_neg hv
    rw [e]
    refine Ev.succ (g := fun k => spec_FormatPages.l0 k l (⟨#[]⟩ : ByteArray) 0) ?_
    simp only [spec_FormatPages.l0]
    by_cases h0 : (0 : Int) < (l.length : Int)
    · exact Ev.pos h0 (Ev.bind (spec_l4Pages_ev l hl hp) (Ev.neg hv (Ev.now' rfl)))
    · exact Ev.neg h0 (Ev.now' rfl)
theorem impl_FormatPages_ev (l : List S39) (hl : l.length ≤ 1048576) (hp : ∀ x ∈ l, x.f0.length ≤ 1048576) : Ev (fun k => impl_FormatPages.f k l) (strOfNums (fpM l)) := by
  have key : ∀ (r : List S39) (i : Nat) (acc : List Int), l.drop i = r → (∀ x ∈ r, x.f0.length ≤ 1048576) → acc.length + 2002 * r.length ≤ 4000000000 → Ev (fun k => impl_FormatPages.l0 k (strOfNums acc) l (l.length : Int) (i : Int)) (strOfNums (acc ++ pagesI r)) := by
    intro r
    induction r with
    | nil =>
      intro i acc h hr ha
      refine Ev.succ ?_
      simp only [impl_FormatPages.l0]
      exact Ev.neg (drop_nil_lt h) (Ev.now' (by simp [pagesI]))
    | cons x r ih =>
      intro i acc h hr ha
      obtain ⟨h1, h2, h3⟩ := rdT39 h
      have hx := hr x (by simp)
      have hf := frsI_len x.f0
      simp only [List.length_cons] at ha
      refine Ev.succ ?_
      simp only [impl_FormatPages.l0, h2, nxt (show l.length ≤ 4611686018427387904 by omega) h1]
      refine Ev.pos h1 (Ev.pos (Int.natCast_nonneg _) (Ev.pos h1 (Ev.bind (impl_FormatRows_ev x.f0 (by omega)) ?_)))
      simp only [lb_str, str_rb, str_append]
      refine Ev.pos (by rw [strOfNums_size]; omega) (Ev.pos (by rw [strOfNums_size]; simp only [List.length_cons]; omega) (Ev.pos (by rw [strOfNums_size, strOfNums_size]; simp only [List.length_append, List.length_cons, List.length_nil]; omega) ?_))
      have := ih (i + 1) (acc ++ ((91 :: frsI x.f0) ++ [93])) h3 (fun y hy => hr y (by simp [hy])) (by simp only [List.length_append, List.length_cons, List.length_nil]; omega)
      simpa [pagesI] using this
  simp only [impl_FormatPages.f]
  refine Ev.bind (impl_validPages_ev l hl hp) ?_
  by_cases hv : vpsM l = true
  · have e : fpM l = pagesI l := if_pos hv
    rw [e]
    exact Ev.pos hv (key l 0 [] rfl hp (by simp only [List.length_nil]; omega))
  · have e : fpM l = [] := if_neg hv
    rw [e]
    exact Ev.neg hv (Ev.now' rfl)
theorem FnExactFormatPages {P : S67 → Prop} (l : List S67) (g : l.length ≤ 9223372036854775807 ∧ ∀ y ∈ l, y.f0.length ≤ 9223372036854775807 ∧ P y) : ∃ k, laws_FnExactFormatPages.f k l = some true := by
  refine Ev.rounds ?_
  simp only [laws_FnExactFormatPages.f]
  obtain ⟨t, e, ht, hs⟩ := szPageS_ev l g.1 (fun y hy => (g.2 y hy).1) 1048576 (by omega) (Int.le_refl _)
  refine Ev.bind e ?_
  by_cases h0 : t < 0
  · exact Ev.pos h0 (Ev.now _)
  · have hS := hs (by omega)
    have hl : (l.map cvP).length ≤ 1048576 := by rw [List.length_map]; have := hS.1; omega
    have hp : ∀ x ∈ l.map cvP, x.f0.length ≤ 1048576 := fun x hx => by
      obtain ⟨y, hy, rfl⟩ := List.mem_map.1 hx
      have := hS.2 y hy
      show (y.f0.map cvR).length ≤ 1048576
      rw [List.length_map]; omega
    refine Ev.neg h0 (Ev.bind (toPageS_ev l hS) (Ev.bind (spec_FormatPages_ev _ hl hp) (Ev.bind (toPageS_ev l hS) (Ev.bind (impl_FormatPages_ev _ hl hp) ?_))))
    exact Ev.pos rfl (Ev.bind (toPageS_ev l hS) (Ev.tl (eqPageS_ev _ (by omega) (fun x hx => by have := hp x hx; omega)) rfl))

end Go.Proofs.Ytinniedbgfgclaa.Pure
