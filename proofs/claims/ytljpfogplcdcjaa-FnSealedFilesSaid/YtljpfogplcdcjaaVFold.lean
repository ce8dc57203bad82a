/- Steps of the walks said at once: what is held in a region told by the facts themselves, stores told by what they make, tests told with their arm; nothing is claimed here. -/
import Derived.Test.YtljpfogplcdcjaaVPress
import Derived.Test.YtljpfogplcdcjaaVWLast
import Derived.Test.YtljpfogplcdcjaaVWTab
import Derived.Test.YtljpfogplcdcjaaVWMore
import Derived.Test.YtljpfogplcdcjaaVWN
namespace Go.Proofs.Ytljpfogplcdcjaa.Fold
open Go.RowKit Go.Proofs.YtljpfogplcdcjaaW.PrintWords Go.Proofs.YtljpfogplcdcjaaW.PrintLast Go.Proofs.YtljpfogplcdcjaaW.PrintMore Go.Proofs.Ytljpfogplcdcjaa.Press
set_option linter.unusedVariables false
theorem tg {p q : Prop} (_ : q) (h : p) : p := h
structure Hd (S : World → Prop) (w : World) : Prop where mk :: (out : S w)
section
variable {S : World → Prop} {w : World} {p : Addr} {v a b c d e : Value} {g : Nat} {t : TypeId}
theorem lq (h : w.cell? p = some v) (r : Hd S w) : Hd (fun W => W.cell? p = some v ∧ S W) w := ⟨h, r.out⟩
theorem mq (h : w.cell? p = some v) : Hd (fun W => W.cell? p = some v) w := ⟨h⟩
theorem ha1 (h : Aside0 (w.heap[g]? = some (.cells #[a] t (0, 0)))) (r : Hd S w) : Hd (fun W => W.cell? ⟨g, 0, none⟩ = some a ∧ S W) w := ⟨bc h.out, r.out⟩
theorem hz1 (h : Aside0 (w.heap[g]? = some (.cells #[a] t (0, 0)))) : Hd (fun W => W.cell? ⟨g, 0, none⟩ = some a) w := ⟨bc h.out⟩
theorem ha2 (h : Aside0 (w.heap[g]? = some (.cells #[a, b] t (0, 0)))) (r : Hd S w) : Hd (fun W => W.cell? ⟨g, 0, none⟩ = some a ∧ W.cell? ⟨g, 1, none⟩ = some b ∧ S W) w := ⟨bc h.out, bc h.out, r.out⟩
theorem hz2 (h : Aside0 (w.heap[g]? = some (.cells #[a, b] t (0, 0)))) : Hd (fun W => W.cell? ⟨g, 0, none⟩ = some a ∧ W.cell? ⟨g, 1, none⟩ = some b) w := ⟨bc h.out, bc h.out⟩
theorem hz3 (h : Aside0 (w.heap[g]? = some (.cells #[a, b, c] t (0, 0)))) : Hd (fun W => W.cell? ⟨g, 0, none⟩ = some a ∧ W.cell? ⟨g, 1, none⟩ = some b ∧ W.cell? ⟨g, 2, none⟩ = some c) w := ⟨bc h.out, bc h.out, bc h.out⟩
theorem ha4 (h : Aside0 (w.heap[g]? = some (.cells #[a, b, c, d] t (0, 0)))) (r : Hd S w) : Hd (fun W => W.cell? ⟨g, 0, none⟩ = some a ∧ W.cell? ⟨g, 1, none⟩ = some b ∧ W.cell? ⟨g, 2, none⟩ = some c ∧ W.cell? ⟨g, 3, none⟩ = some d ∧ S W) w := ⟨bc h.out, bc h.out, bc h.out, bc h.out, r.out⟩
theorem hz4 (h : Aside0 (w.heap[g]? = some (.cells #[a, b, c, d] t (0, 0)))) : Hd (fun W => W.cell? ⟨g, 0, none⟩ = some a ∧ W.cell? ⟨g, 1, none⟩ = some b ∧ W.cell? ⟨g, 2, none⟩ = some c ∧ W.cell? ⟨g, 3, none⟩ = some d) w := ⟨bc h.out, bc h.out, bc h.out, bc h.out⟩
end
section
variable {P : Program} {ops : Array Oper} {Q : Exit → Act → World → Prop} {S : World → Prop} {T : Bool × List (List Nat × List Nat)} {B : List Nat} {id : Nat} {a : Act} {w : World} {l : Array Bool}
theorem sd_ (n : Nat) (ds : List Nat) (hT : rtab .any ops = T) (hB : waitsOk T.2 B = true) (hS : Hd S w.drew)
    (h : S w.drew → Aside0 (rtab .any ops = T) → Aside0 (waitsOk T.2 B = true) → wpAnyLast P .any ops Q S ds n l a w.drew) (hl : Array.replicate n false = l := by (simp only [Array.replicate, List.replicate]; rfl))
    (hm : P.follows .mixedOrders = true := by kernel_rfl) (hn : ops.size = n := by rfl) : (Code.region id ops true).wp P Q a w :=
  start_ l hm hn hl hS.out (fun s => h s ⟨hT⟩ ⟨hB⟩)
theorem st_ (n : Nat) (hT : rtab .any ops = T) (hB : waitsOk T.2 B = true) (hS : Hd S w.drew)
    (h : S w.drew → Aside0 (rtab .any ops = T) → Aside0 (waitsOk T.2 B = true) → wpAnyLast P .any ops Q S [] n l a w.drew) (hl : Array.replicate n false = l := by (simp only [Array.replicate, List.replicate]; rfl))
    (hm : P.follows .mixedOrders = true := by kernel_rfl) (hn : ops.size = n := by rfl) : (Code.region id ops true).wp P Q a w :=
  start_ l hm hn hl hS.out (fun s => h s ⟨hT⟩ ⟨hB⟩)
end
section
variable {P : Program} {md : Region.Mode} {ops : Array Oper} {Q : Exit → Act → World → Prop} {S : World → Prop} {ds : List Nat} {v : Value} {fuel : Nat} {l' : Array Bool} {a a' : Act} {w : World} {K : Act → World → Prop}
theorem hk_ (N : Nat) (hK : Shut (∀ a' w', S w' → (S w' → wpAnyLast P md ops Q S ds fuel l' a' w') → K a' w')) (h : S w → wpAnyLast P md ops Q S ds fuel l' a' w)
    (hS : S w := by (repeat' (refine And.intro ?_ ?_)) <;> first | exact bc (Aside0.out (by with_reducible assumption)) | exact bc (Aside0.out (by assumption)) | exact kc HB.out (by with_reducible assumption))
    (ha : a.put (some N) v = a' := by (simp only [Act.put, List.setIfInBounds_toArray, List.set_cons_zero, List.set_cons_succ, i64_w, i32_w]; rfl)) : K (a.put (some N) v) w :=
  hK.out _ _ hS (fun s => norm_ ha (h s))
end
section
variable {α β : Type} {c : Prop} [Decidable c] {x y : Option α} {r : α}
theorem ob {m : Option β} {f : β → Option α} (h : m.bind f = some r) : ∃ z, Aside0 (m = some z) ∧ f z = some r := by
  cases m with
  | none => cases h
  | some z => exact ⟨z, ⟨rfl⟩, h⟩
theorem sp {x y r : α} (h : (if c then x else y) = r) : (decide c = true ∧ x = r) ∨ (decide c = false ∧ y = r) := by
  by_cases hc : c
  · rw [if_pos hc] at h; exact .inl ⟨decide_eq_true hc, h⟩
  · rw [if_neg hc] at h; exact .inr ⟨decide_eq_false hc, h⟩
theorem sn (h : (if c then x else none) = some r) : decide c = true ∧ x = some r := by
  by_cases hc : c
  · rw [if_pos hc] at h; exact ⟨decide_eq_true hc, h⟩
  · rw [if_neg hc] at h; cases h
theorem ip {x y r : α} [Decidable (true = true)] (h : (if true = true then x else y) = r) : x = r := by rwa [if_pos rfl] at h
theorem ie {x y r : α} [Decidable (false = true)] (h : (if false = true then x else y) = r) : y = r := by rwa [if_neg Bool.false_ne_true] at h
end
section
variable {w w0 W : World} {g g' n : Nat} {t : TypeId} {a b c d v0 v1 v2 v3 : Value} {o : Obj} {cs : Array Value}
theorem fb {W' : World} (hW : W' = W) (h : Below w.heap.size w W' := by exact bb) : Below w.heap.size w W := by subst hW; exact h
end
section
variable {p q r : Prop}
theorem bl_ (a : q) (h : q → p := by intro a_; have := World.block_lt_of_cell? _ _ a_; first | rwa [add_block] at this | exact this) : p := h a
theorem ad_ (a : q) (h : q → p := by intro a_; first | (rw [add_block]; exact a_) | (show (Addr.add _ _).block ≠ _; rw [add_block]; exact a_) | exact a_) : p := h a
theorem kE {w W0 W : World} {g : Nat} {row : Option Nat} (a : KeepBut w W0 g row) (h : KeepBut w W0 g row → KeepBut w W g row := by intro h_; repeat (first | (with_reducible first | exact h_ | apply KeepBut.set_ | apply keep_drewN | apply keep_drew | apply keep_alloc | refine keep_far ?_ (Aside0.out (by assumption)) _) | exact h_)) : KeepBut w W g row := h a
theorem vr (h : p := by first | rfl | (simp; done) | (simp [*]; done)) : p := h
theorem sN (a : q) (h : q → p := by intro h_; (with_reducible repeat (first | apply Kd.N_alloc | apply Kd.N_drewN | apply Kd.N_drew)); exact h_) : p := h a
theorem sS (a : q) (h : q → p := by intro h_; (with_reducible repeat (first | apply Kd.S_alloc | apply Kd.S_drewN | apply Kd.S_drew)); exact h_) : p := h a
theorem sR (a : q) (h : q → p := by intro h_; (with_reducible repeat (first | apply Kd.R_alloc | apply Kd.R_drewN | apply Kd.R_drew)); exact h_) : p := h a
theorem sC (a : q) (h : q → p := by intro h_; repeat (first | exact h_ | (with_reducible refine Kd.C_alloc ?_ _) | (with_reducible refine Kd.C_drewN ?_ _) | (with_reducible refine Kd.C_drew ?_))) : p := h a
theorem kq1 (a : q) (h : q → p := by intro h_; exact blk_put h_ 0 _ rfl) : p := h a
theorem kq2 (a : q) (h : q → p := by intro h_; exact blk_put (blk_put h_ 0 _ rfl) 1 _ rfl) : p := h a
theorem kq3 (a : q) (h : q → p := by intro h_; exact blk_put (blk_put (blk_put h_ 0 _ rfl) 1 _ rfl) 2 _ rfl) : p := h a
theorem kq4 (a : q) (h : q → p := by intro h_; exact blk_put (blk_put (blk_put (blk_put h_ 0 _ rfl) 1 _ rfl) 2 _ rfl) 3 _ rfl) : p := h a
end
section
variable {P : Program} {md : Region.Mode} {ops : Array Oper} {Q : Exit → Act → World → Prop} {S : World → Prop} {ds : List Nat} {v : Value} {fuel : Nat} {l' : Array Bool} {a a' : Act} {w : World} {K : Act → World → Prop}
theorem ho_ (hK : Shut (∀ a' w', S w' → (S w' → wpAnyLast P md ops Q S ds fuel l' a' w') → K a' w')) (h : S w → wpAnyLast P md ops Q S ds fuel l' a w)
    (hS : S w := by (repeat' (refine And.intro ?_ ?_)) <;> ((repeat (refine (cell_far (Aside0.out (by with_reducible assumption)) _).trans ?_)); first | exact bc (Aside0.out (by with_reducible assumption)) | exact kc HB.out (by with_reducible assumption) | (have s_ := hHeld; (repeat (obtain ⟨t_, s_⟩ : _ ∧ _ := s_)); assumption))) : K a w := hK.out _ _ hS h
end
section
theorem kf {p q : Prop} (h : p) (e : p → q := by intro h_; (with_reducible repeat (first | refine blk_drewN ?_ _ | refine blk_drew ?_ | refine blk_alloc ?_ _ | refine blk_far ?_ (Aside0.out (by assumption)) _)); exact h_) : q := e h
theorem kbf {W0 W w1 : World} {g : Nat} {o : Obj} (h : W0.heap[g]? = some o) (hb : Below W.heap.size W w1) (e : W0.heap[g]? = some o → W.heap[g]? = some o := by intro h_; (with_reducible repeat (first | refine blk_drewN ?_ _ | refine blk_drew ?_ | refine blk_alloc ?_ _ | refine blk_far ?_ (Aside0.out (by assumption)) _)); exact h_) : w1.heap[g]? = some o := blk_below (e h) hb
theorem blf {W0 W : World} {g g2 : Nat} {o : Obj} (hg : g2 = W.heap.size) (h : W0.heap[g]? = some o) (e : W0.heap[g]? = some o → W.heap[g]? = some o := by intro h_; (with_reducible repeat (first | refine blk_drewN ?_ _ | refine blk_drew ?_ | refine blk_alloc ?_ _ | refine blk_far ?_ (Aside0.out (by assumption)) _)); exact h_) : g ≠ g2 := by rw [hg]; exact Nat.ne_of_lt (blk_lt (e h))
theorem bgf {W0 W : World} {g g2 : Nat} {o : Obj} (hg : g2 = W.heap.size) (h : W0.heap[g]? = some o) (e : W0.heap[g]? = some o → W.heap[g]? = some o := by intro h_; (with_reducible repeat (first | refine blk_drewN ?_ _ | refine blk_drew ?_ | refine blk_alloc ?_ _ | refine blk_far ?_ (Aside0.out (by assumption)) _)); exact h_) : g2 ≠ g := by rw [hg]; exact Nat.ne_of_gt (blk_lt (e h))
end
end Go.Proofs.Ytljpfogplcdcjaa.Fold
