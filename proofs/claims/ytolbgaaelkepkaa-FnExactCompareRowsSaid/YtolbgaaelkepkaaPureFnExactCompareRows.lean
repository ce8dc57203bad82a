/- The program's CompareRows answers as the reference's does, for all arguments that the statement lets in; no further condition. -/
import Derived.Test.YtolbgaaelkepkaaPFnExactCompareRowsx1
import Derived.Test.YtolbgaaelkepkaaCore
namespace Go.Proofs.Ytolbgaaelkepkaa.Pure
open Go.RowKit Go.Proofs.Ytolbgaaelkepkaa.PFnExactCompareRows Go.Proofs.YtolbgaaelkepkaaW.PrintWords Go.Proofs.YtolbgaaelkepkaaW.PrintLast Go.Proofs.YtolbgaaelkepkaaW.PrintMore Go.Proofs.Ytolbgaaelkepkaa.Core
set_option linter.unusedVariables false
set_option linter.unusedSimpArgs false

def ord (a b : Int) : Int := if a < b then -1 else if b < a then 1 else 0
def cmpR (r q : Int × Int × Int) : Int := if ord r.1 q.1 ≠ 0 then ord r.1 q.1 else if ord r.2.1 q.2.1 ≠ 0 then ord r.2.1 q.2.1 else ord r.2.2 q.2.2
theorem order_f (a b : Int) : impl_order.f a b = some (ord a b) := by
  unfold impl_order.f ord
  by_cases h : a < b
  · rw [if_pos h, if_pos h]
  · rw [if_neg h, if_neg h]
    by_cases h2 : b < a
    · rw [if_pos (show a > b from h2), if_pos h2]
    · rw [if_neg (show ¬ a > b from h2), if_neg h2]
theorem impl_CompareRows_f (a b c x y z : Int) : impl_CompareRows.f a b c x y z = some (cmpR (a, b, c) (x, y, z)) := by
  simp only [impl_CompareRows.f, order_f, Option.bind_some, cmpR]
  by_cases h1 : ord a x = 0
  · rw [if_pos h1, if_neg (show ¬ ord a x ≠ 0 from fun hh => hh h1)]
    by_cases h2 : ord b y = 0
    · rw [if_pos h2, if_neg (show ¬ ord b y ≠ 0 from fun hh => hh h2)]
    · rw [if_neg h2, if_pos h2]
  · rw [if_neg h1, if_pos h1]
theorem spec_CompareRows_ev (a b c x y z : Int) : Ev (fun k => spec_CompareRows.f k a b c x y z) (cmpR (a, b, c) (x, y, z)) := by
  simp only [spec_CompareRows.f]
  have step : ∀ (p q : List Int) (i : Int) (r : Int), p.length = 3 → q.length = 3 → 0 ≤ i → i < 3 → (ord (rd p i) (rd q i) = 0 → Ev (fun k => spec_CompareRows.l0 k p q (i + 1)) r) → (ord (rd p i) (rd q i) ≠ 0 → r = ord (rd p i) (rd q i)) → Ev (fun k => spec_CompareRows.l0 k p q i) r := by
    intro p q i r hp hq h0 h1 e1 e2
    refine Ev.succ ?_
    simp only [spec_CompareRows.l0]
    refine Ev.pos h1 (Ev.pos h0 (Ev.pos (by omega) (Ev.pos (by omega) ?_)))
    unfold ord at e1 e2
    by_cases h : rd p i < rd q i
    · refine Ev.pos h (Ev.now' ?_)
      rw [if_pos h] at e2
      exact (e2 (by decide)).symm
    · refine Ev.neg h ?_
      by_cases h' : rd p i > rd q i
      · refine Ev.pos h' (Ev.now' ?_)
        rw [if_neg h, if_pos h'] at e2
        exact (e2 (by decide)).symm
      · refine Ev.neg h' ?_
        rw [if_neg h, if_neg h'] at e1
        rw [w64 (by omega) (by omega)]
        exact e1 rfl
  refine step _ _ 0 _ rfl rfl (by decide) (by decide) (fun h0 => ?_) (fun h0 => ?_)
  · refine step _ _ (0 + 1) _ rfl rfl (by decide) (by decide) (fun h1 => ?_) (fun h1 => ?_)
    · refine step _ _ (0 + 1 + 1) _ rfl rfl (by decide) (by decide) (fun h2 => ?_) (fun h2 => ?_)
      · refine Ev.succ ?_
        simp only [spec_CompareRows.l0]
        refine Ev.neg (by decide) (Ev.now' ?_)
        have h0' : ord a x = 0 := h0
        have h1' : ord b y = 0 := h1
        have h2' : ord c z = 0 := h2
        simp [cmpR, h0', h1', h2']
      · have h0' : ord a x = 0 := h0
        have h1' : ord b y = 0 := h1
        show cmpR (a, b, c) (x, y, z) = ord c z
        simp [cmpR, h0', h1']
    · have h0' : ord a x = 0 := h0
      have h1' : ord b y ≠ 0 := h1
      show cmpR (a, b, c) (x, y, z) = ord b y
      simp [cmpR, h0', h1']
  · have h0' : ord a x ≠ 0 := h0
    show cmpR (a, b, c) (x, y, z) = ord a x
    simp [cmpR, h0']
theorem toRow_f (a b c : Int) : laws_toRow.f a b c = some (a, b, c) := rfl
theorem FnExactCompareRows {G0 G1 : Prop} (a b c x y z : Int) (g0 : G0) (g1 : G1) : ∃ k, laws_FnExactCompareRows.f k a b c x y z = some true := by
  refine Ev.rounds ?_
  simp only [laws_FnExactCompareRows.f, toRow_f, Option.bind_some]
  refine Ev.tl (spec_CompareRows_ev a b c x y z) ?_
  simp [impl_CompareRows_f]

end Go.Proofs.Ytolbgaaelkepkaa.Pure
