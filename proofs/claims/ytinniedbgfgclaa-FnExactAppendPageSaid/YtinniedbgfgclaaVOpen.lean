/- How an argument of a type made of whole numbers, bools, structs and slices reads, as the printed contracts ask it; nothing is claimed here. -/
import Derived.Test.YtinniedbgfgclaaVWMore
import Derived.Deep.Slices
import Derived.Deep.Fields
import Derived.ChangeSame
namespace Go.Proofs.Ytinniedbgfgclaa.Open
open Go.ChangeShapes Go.WideShapes Go.Deep Go.Proofs.YtinniedbgfgclaaW.PrintWords
set_option linter.unusedVariables false
section
variable {H : Type} {enc : TypeId × Value → H} {P : Program} {W : World} {spare : Nat → Bool} {held : Bool}
def Opens {α : Type} (enc : TypeId × Value → H) (P : Program) (W : World) (spare : Nat → Bool) (held : Bool) (t : TypeId) (d : Kd α) (G : α → Prop) : Prop :=
  ∀ (fuel : Nat) (cs : List Value) (y : DataW H × List MemPlace), DataW.trod enc P W 0 spare held fuel t cs = some y → ∃ x, d.K W x cs ∧ G x
theorem opens_int {k : IntKind} {t : TypeId} (ht : P.underlying t = some (.int k)) : Opens enc P W spare held t (Kd.int k) (fun x => (Lit.int k x).wf = true) := by
  intro fuel cs y h
  obtain ⟨n, rfl, _, hw⟩ := DataW.trod_int ht h
  exact ⟨n, rfl, hw⟩
theorem opens_bool {t : TypeId} (ht : P.underlying t = some .bool) : Opens enc P W spare held t Kd.bool (fun _ => True) := by
  intro fuel cs y h
  obtain ⟨b, rfl, _⟩ := DataW.trod_bool ht h
  exact ⟨b, rfl, trivial⟩
theorem list_of {α : Type} {p : Nat → α → Prop} : ∀ (n : Nat), (∀ i, i < n → ∃ x, p i x) → ∃ xs : List α, xs.length = n ∧ ∀ j x, xs[j]? = some x → p j x
  | 0, _ => ⟨[], rfl, fun j x h => by simp at h⟩
  | n + 1, h => by
    obtain ⟨xs, hl, hx⟩ := list_of n (fun i hi => h i (Nat.lt_succ_of_lt hi))
    obtain ⟨x, hp⟩ := h n (Nat.lt_succ_self n)
    refine ⟨xs ++ [x], by simp [hl], fun j q hq => ?_⟩
    rcases Nat.lt_or_ge j xs.length with hj | hj
    · rw [List.getElem?_append_left hj] at hq
      exact hx j q hq
    · have hj' : j = xs.length := by
        have := (List.getElem?_eq_some_iff.1 hq).1
        rw [List.length_append, List.length_singleton] at this
        omega
      subst hj'
      have : x = q := by simpa using hq
      subst this
      rw [hl]
      exact hp
theorem opens_slice {α : Type} {t e : TypeId} {d : Kd α} {G : α → Prop} (ht : P.underlying t = some (.slice e)) (hsz : P.cellsOf e = d.sz) (hd : Opens enc P W spare held e d G) :
    Opens enc P W spare held t (Kd.slice e d) (fun xs => xs.length ≤ 9223372036854775807 ∧ ∀ x ∈ xs, G x) := by
  intro fuel cs y h
  rcases open_slice ht h with ⟨rfl, _⟩ | ⟨a, len, cap, m, n, D, Pl, rfl, hb, hl, hm, hmm, hx, hi⟩
  · exact ⟨[], ⟨none, 0, rfl, Nat.le_refl _, rfl, by simp, fun h => by simp at h⟩, by simp, fun x hx => by simp at hx⟩
  · have hlm : len ≤ m := by rw [hmm]; split <;> omega
    obtain ⟨xs, hxl, hxs⟩ := list_of (p := fun i x => ∃ cs', W.cells? 0 (a.add (i * d.sz)) d.sz = some cs' ∧ d.K W x cs' ∧ G x) len (fun i hlt => by
      obtain ⟨cs', hc, ht'⟩ := hi i (by omega)
      rw [hsz] at hc
      obtain ⟨x, hk, hg⟩ := hd n cs' _ ht'
      exact ⟨x, cs', hc, hk, hg⟩)
    have hmx : len ≤ 9223372036854775807 := by unfold maxLen at hm; omega
    subst hxl
    refine ⟨xs, ⟨some a, cap, rfl, hl, rfl, hmx, fun _ => ⟨a, rfl, fun j p hj => ?_⟩⟩, hmx, fun x hx => ?_⟩
    · obtain ⟨cs', hc, hk, _⟩ := hxs j p hj
      obtain ⟨_, hlen, hat⟩ := World.cells?_some hc
      refine ⟨cs', hlen, hk, fun i u hu => ?_⟩
      have hil : i < d.sz := by rw [← hlen]; exact (List.getElem?_eq_some_iff.1 hu).1
      rw [← Go.Deep.add_add, hat i hil, hu]
    · obtain ⟨j, hj⟩ := List.getElem?_of_mem hx
      obtain ⟨cs', _, _, hg⟩ := hxs j x hj
      exact hg
theorem opens_s1 {α : Type} {t : TypeId} {f0 : Field} {d0 : Kd α} {G0 : α → Prop} (hs : P.underlying t = some (.struct #[f0])) (hone : oneCellFields P #[f0] = true) (hC : P.cellsOf t = 1)
    (h0 : Opens enc P W spare held f0.type d0 G0) : Opens enc P W spare held t d0 G0 := by
  intro fuel cs y h
  obtain ⟨ys, n, _, _, hl, hyl, hf⟩ := DataW.trod_struct hs h
  rw [hC] at hl
  obtain ⟨o0, k0⟩ := hone_of hone 0 f0 rfl
  match cs, ys, hl, hyl with
  | [c0], [y0], _, _ => exact h0 n _ y0 (by simpa [o0, k0] using hf 0 f0 rfl)
theorem opens_s2 {α β : Type} {t : TypeId} {f0 f1 : Field} {d0 : Kd α} {d1 : Kd β} {G0 : α → Prop} {G1 : β → Prop} (hs : P.underlying t = some (.struct #[f0, f1])) (hone : oneCellFields P #[f0, f1] = true) (hC : P.cellsOf t = 2)
    (h0 : Opens enc P W spare held f0.type d0 G0) (h1 : Opens enc P W spare held f1.type d1 G1) : Opens enc P W spare held t (Kd.pair d0 d1) (fun x => G0 x.1 ∧ G1 x.2) := by
  intro fuel cs y h
  obtain ⟨ys, n, _, _, hl, hyl, hf⟩ := DataW.trod_struct hs h
  rw [hC] at hl
  obtain ⟨o0, k0⟩ := hone_of hone 0 f0 rfl
  obtain ⟨o1, k1⟩ := hone_of hone 1 f1 rfl
  match cs, ys, hl, hyl with
  | [c0, c1], [y0, y1], _, _ =>
    obtain ⟨x0, p0, g0⟩ := h0 n _ y0 (by simpa [o0, k0] using hf 0 f0 rfl)
    obtain ⟨x1, p1, g1⟩ := h1 n _ y1 (by simpa [o1, k1] using hf 1 f1 rfl)
    exact ⟨(x0, x1), ⟨[c0], [c1], rfl, p0, p1⟩, g0, g1⟩
theorem opens_s3 {α β γ : Type} {t : TypeId} {f0 f1 f2 : Field} {d0 : Kd α} {d1 : Kd β} {d2 : Kd γ} {G0 : α → Prop} {G1 : β → Prop} {G2 : γ → Prop} (hs : P.underlying t = some (.struct #[f0, f1, f2])) (hone : oneCellFields P #[f0, f1, f2] = true) (hC : P.cellsOf t = 3)
    (h0 : Opens enc P W spare held f0.type d0 G0) (h1 : Opens enc P W spare held f1.type d1 G1) (h2 : Opens enc P W spare held f2.type d2 G2) :
    Opens enc P W spare held t (Kd.pair d0 (Kd.pair d1 d2)) (fun x => G0 x.1 ∧ G1 x.2.1 ∧ G2 x.2.2) := by
  intro fuel cs y h
  obtain ⟨ys, n, _, _, hl, hyl, hf⟩ := DataW.trod_struct hs h
  rw [hC] at hl
  obtain ⟨o0, k0⟩ := hone_of hone 0 f0 rfl
  obtain ⟨o1, k1⟩ := hone_of hone 1 f1 rfl
  obtain ⟨o2, k2⟩ := hone_of hone 2 f2 rfl
  match cs, ys, hl, hyl with
  | [c0, c1, c2], [y0, y1, y2], _, _ =>
    obtain ⟨x0, p0, g0⟩ := h0 n _ y0 (by simpa [o0, k0] using hf 0 f0 rfl)
    obtain ⟨x1, p1, g1⟩ := h1 n _ y1 (by simpa [o1, k1] using hf 1 f1 rfl)
    obtain ⟨x2, p2, g2⟩ := h2 n _ y2 (by simpa [o2, k2] using hf 2 f2 rfl)
    exact ⟨(x0, x1, x2), ⟨[c0], [c1, c2], rfl, p0, [c1], [c2], rfl, p1, p2⟩, g0, g1, g2⟩
theorem opens_s4 {α β γ δ : Type} {t : TypeId} {f0 f1 f2 f3 : Field} {d0 : Kd α} {d1 : Kd β} {d2 : Kd γ} {d3 : Kd δ} {G0 : α → Prop} {G1 : β → Prop} {G2 : γ → Prop} {G3 : δ → Prop}
    (hs : P.underlying t = some (.struct #[f0, f1, f2, f3])) (hone : oneCellFields P #[f0, f1, f2, f3] = true) (hC : P.cellsOf t = 4)
    (h0 : Opens enc P W spare held f0.type d0 G0) (h1 : Opens enc P W spare held f1.type d1 G1) (h2 : Opens enc P W spare held f2.type d2 G2) (h3 : Opens enc P W spare held f3.type d3 G3) :
    Opens enc P W spare held t (Kd.pair d0 (Kd.pair d1 (Kd.pair d2 d3))) (fun x => G0 x.1 ∧ G1 x.2.1 ∧ G2 x.2.2.1 ∧ G3 x.2.2.2) := by
  intro fuel cs y h
  obtain ⟨ys, n, _, _, hl, hyl, hf⟩ := DataW.trod_struct hs h
  rw [hC] at hl
  obtain ⟨o0, k0⟩ := hone_of hone 0 f0 rfl
  obtain ⟨o1, k1⟩ := hone_of hone 1 f1 rfl
  obtain ⟨o2, k2⟩ := hone_of hone 2 f2 rfl
  obtain ⟨o3, k3⟩ := hone_of hone 3 f3 rfl
  match cs, ys, hl, hyl with
  | [c0, c1, c2, c3], [y0, y1, y2, y3], _, _ =>
    obtain ⟨x0, p0, g0⟩ := h0 n _ y0 (by simpa [o0, k0] using hf 0 f0 rfl)
    obtain ⟨x1, p1, g1⟩ := h1 n _ y1 (by simpa [o1, k1] using hf 1 f1 rfl)
    obtain ⟨x2, p2, g2⟩ := h2 n _ y2 (by simpa [o2, k2] using hf 2 f2 rfl)
    obtain ⟨x3, p3, g3⟩ := h3 n _ y3 (by simpa [o3, k3] using hf 3 f3 rfl)
    exact ⟨(x0, x1, x2, x3), ⟨[c0], [c1, c2, c3], rfl, p0, [c1], [c2, c3], rfl, p1, [c2], [c3], rfl, p2, p3⟩, g0, g1, g2, g3⟩
theorem opens_iso {α β : Type} {t : TypeId} {d : Kd α} {G : α → Prop} (f : β → α) (g : α → β) (hg : ∀ a, f (g a) = a) (h : Opens enc P W spare held t d G) : Opens enc P W spare held t (Kd.iso d f) (fun x => G (f x)) := by
  intro fuel cs y hy
  obtain ⟨x, hk, hx⟩ := h fuel cs y hy
  exact ⟨g x, by show d.K W (f (g x)) cs; rw [hg]; exact hk, by show G (f (g x)); rw [hg]; exact hx⟩
theorem arr_of {cs : Array Value} {l : List Value} (h : cs.toList = l) : cs = l.toArray := by subst h; simp
end
end Go.Proofs.Ytinniedbgfgclaa.Open
