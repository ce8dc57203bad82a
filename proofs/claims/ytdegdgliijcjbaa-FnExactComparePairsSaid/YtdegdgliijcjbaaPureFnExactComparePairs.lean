/- The program's ComparePairs answers as the reference's does, for all arguments that the statement lets in; no further condition. -/
import Derived.Test.YtdegdgliijcjbaaPFnExactComparePairsx2
import Derived.Test.YtdegdgliijcjbaaCore
namespace Go.Proofs.Ytdegdgliijcjbaa.Pure
open Go.RowKit Go.Proofs.Ytdegdgliijcjbaa.PFnExactComparePairs Go.Proofs.YtdegdgliijcjbaaW.PrintWords Go.Proofs.YtdegdgliijcjbaaW.PrintLast Go.Proofs.YtdegdgliijcjbaaW.PrintMore Go.Proofs.Ytdegdgliijcjbaa.Core
set_option linter.unusedVariables false
set_option linter.unusedSimpArgs false

def ord (a b : Int) : Int := if a < b then -1 else if b < a then 1 else 0
def cmpR (r q : Int × Int × Int) : Int := if ord r.1 q.1 ≠ 0 then ord r.1 q.1 else if ord r.2.1 q.2.1 ≠ 0 then ord r.2.1 q.2.1 else ord r.2.2 q.2.2
theorem order_f (a b : Int) : impl_order.f a b = some (ord a b) := by
  unfold impl_order.f ord
  by_cases h : a < b
  · rw [if_pos h, if_pos h]
  · rw [if_neg h, if_neg h]
    by_cases h2 : b < a
    · rw [if_pos (show a > b from h2), if_pos h2]
    · rw [if_neg (show ¬ a > b from h2), if_neg h2]
theorem impl_CompareRows_f (a b c x y z : Int) : impl_CompareRows.f a b c x y z = some (cmpR (a, b, c) (x, y, z)) := by
  simp only [impl_CompareRows.f, order_f, Option.bind_some, cmpR]
  by_cases h1 : ord a x = 0
  · rw [if_pos h1, if_neg (show ¬ ord a x ≠ 0 from fun hh => hh h1)]
    by_cases h2 : ord b y = 0
    · rw [if_pos h2, if_neg (show ¬ ord b y ≠ 0 from fun hh => hh h2)]
    · rw [if_neg h2, if_pos h2]
  · rw [if_neg h1, if_pos h1]
theorem spec_CompareRows_ev (a b c x y z : Int) : Ev (fun k => spec_CompareRows.f k a b c x y z) (cmpR (a, b, c) (x, y, z)) := by
  simp only [spec_CompareRows.f]
  have step : ∀ (p q : List Int) (i : Int) (r : Int), p.length = 3 → q.length = 3 → 0 ≤ i → i < 3 → (ord (rd p i) (rd q i) = 0 → Ev (fun k => spec_CompareRows.l0 k p q (i + 1)) r) → (ord (rd p i) (rd q i) ≠ 0 → r = ord (rd p i) (rd q i)) → Ev (fun k => spec_CompareRows.l0 k p q i) r := by
    intro p q i r hp hq h0 h1 e1 e2
    refine Ev.succ ?_
    simp only [spec_CompareRows.l0]
    refine Ev.pos h1 (Ev.pos h0 (Ev.pos (by omega) (Ev.pos (by omega) ?_)))
    unfold ord at e1 e2
    by_cases h : rd p i < rd q i
    · refine Ev.pos h (Ev.now' ?_)
      rw [if_pos h] at e2
      exact (e2 (by decide)).symm
    · refine Ev.neg h ?_
      by_cases h' : rd p i > rd q i
      · refine Ev.pos h' (Ev.now' ?_)
        rw [if_neg h, if_pos h'] at e2
        exact (e2 (by decide)).symm
      · refine Ev.neg h' ?_
        rw [if_neg h, if_neg h'] at e1
        rw [w64 (by omega) (by omega)]
        exact e1 rfl
  refine step _ _ 0 _ rfl rfl (by decide) (by decide) (fun h0 => ?_) (fun h0 => ?_)
  · refine step _ _ (0 + 1) _ rfl rfl (by decide) (by decide) (fun h1 => ?_) (fun h1 => ?_)
    · refine step _ _ (0 + 1 + 1) _ rfl rfl (by decide) (by decide) (fun h2 => ?_) (fun h2 => ?_)
      · refine Ev.succ ?_
        simp only [spec_CompareRows.l0]
        refine Ev.neg (by decide) (Ev.now' ?_)
        have h0' : ord a x = 0 := h0
        have h1' : ord b y = 0 := h1
        have h2' : ord c z = 0 := h2
        simp [cmpR, h0', h1', h2']
      · have h0' : ord a x = 0 := h0
        have h1' : ord b y = 0 := h1
        show cmpR (a, b, c) (x, y, z) = ord c z
        simp [cmpR, h0', h1']
    · have h0' : ord a x = 0 := h0
      have h1' : ord b y ≠ 0 := h1
      show cmpR (a, b, c) (x, y, z) = ord b y
      simp [cmpR, h0', h1']
  · have h0' : ord a x ≠ 0 := h0
    show cmpR (a, b, c) (x, y, z) = ord a x
    simp [cmpR, h0']
theorem toRow_f (a b c : Int) : laws_toRow.f a b c = some (a, b, c) := rfl
theorem FnExactComparePairs {G0 G1 : Prop} (a b c d e f : Int) (m : Bool) (a' b' c' d' e' f' : Int) (m' : Bool) (g0 : G0) (g1 : G1) : ∃ k, laws_FnExactComparePairs.f k a b c d e f m a' b' c' d' e' f' m' = some true := by
  have hp : ∀ a b c d e f m, laws_toPair.f a b c d e f m = some (a, b, c, d, e, f, m) := fun a b c d e f m => by simp [laws_toPair.f, toRow_f]
  refine Ev.rounds ?_
  simp only [laws_FnExactComparePairs.f, hp, Option.bind_some, spec_ComparePairs.f, impl_ComparePairs.f, impl_CompareRows_f]
  have hs : Ev (fun k => (spec_CompareRows.f k a b c a' b' c').bind fun t => (if t = 0 then (if (m != m') = true then (if m' = true then (some (-1)) else (some 1)) else ((spec_CompareRows.f k d e f d' e' f').bind fun t => (some t))) else (some t)))
      (if cmpR (a, b, c) (a', b', c') = 0 then (if (m != m') = true then (if m' = true then -1 else 1) else cmpR (d, e, f) (d', e', f')) else cmpR (a, b, c) (a', b', c')) := by
    refine Ev.bind (spec_CompareRows_ev a b c a' b' c') ?_
    by_cases h1 : cmpR (a, b, c) (a', b', c') = 0
    · rw [if_pos h1]
      refine Ev.pos h1 ?_
      by_cases h2 : (m != m') = true
      · rw [if_pos h2]
        refine Ev.pos h2 ?_
        cases m' with
        | true => exact Ev.now _
        | false => exact Ev.now _
      · rw [if_neg h2]
        exact Ev.neg h2 (Ev.tl (spec_CompareRows_ev _ _ _ _ _ _) rfl)
    · rw [if_neg h1]; exact Ev.neg h1 (Ev.now _)
  refine Ev.tl hs ?_
  by_cases h1 : cmpR (a, b, c) (a', b', c') = 0
  · cases m <;> cases m' <;> simp [h1]
  · simp [h1]

end Go.Proofs.Ytdegdgliijcjbaa.Pure
