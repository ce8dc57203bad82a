/- Helper lemmas on whole numbers, byte strings and rounds, used by this seat's plain laws; nothing is claimed here. -/
import Derived.Test.YtbcpfppiaeelbaaVWWords
import Derived.Test.YtbcpfppiaeelbaaVWMore
import Derived.Lib.Strings
import Derived.Laws.BitsLemmas
namespace Go.Proofs.Ytbcpfppiaeelbaa.Core
open Go.RowKit Go.Proofs.YtbcpfppiaeelbaaW.PrintWords Go.Proofs.YtbcpfppiaeelbaaW.PrintMore
set_option linter.unusedVariables false
theorem w64 {x : Int} (h1 : -9223372036854775808 ≤ x) (h2 : x ≤ 9223372036854775807) : wrap64 x = x := by unfold wrap64; omega
theorem Ev.succ {α : Type} {g : Nat → Option α} {r : α} (h : Ev (fun k => g (k + 1)) r) : Ev g r := Ev.step (fun _ => rfl) h
theorem Ev.pos {α : Type} {c : Prop} [Decidable c] {a b : Nat → Option α} {r : α} (hc : c) (h : Ev a r) : Ev (fun k => if c then a k else b k) r :=
  Ev.congr (fun k => if_pos hc) h
theorem Ev.neg {α : Type} {c : Prop} [Decidable c] {a b : Nat → Option α} {r : α} (hc : ¬ c) (h : Ev b r) : Ev (fun k => if c then a k else b k) r :=
  Ev.congr (fun k => if_neg hc) h
theorem Ev.now' {α : Type} {r r' : α} (h : r' = r) : Ev (fun _ => some r') r := by subst h; exact Ev.now _
theorem Ev.const {α : Type} {a : Option α} {r : α} (h : a = some r) : Ev (fun _ => a) r := by subst h; exact Ev.now _
theorem Ev.tl {α β : Type} {g : Nat → Option α} {a : α} {r : β} {f : α → Option β} (h : Ev g a) (k : f a = some r) : Ev (fun n => (g n).bind f) r :=
  Ev.bind (f := fun _ => f) h (Ev.const k)
theorem drop_split {α : Type} {l : List α} {i : Nat} {b : α} {r : List α} (h : l.drop i = b :: r) : ∃ hi : i < l.length, l[i] = b ∧ l.drop (i + 1) = r := by
  have hi : i < l.length := by
    rcases Nat.lt_or_ge i l.length with h' | h'
    · exact h'
    · rw [List.drop_eq_nil_of_le h'] at h; cases h
  rw [List.drop_eq_getElem_cons hi] at h
  injection h with h1 h2
  exact ⟨hi, h1, h2⟩
end Go.Proofs.Ytbcpfppiaeelbaa.Core
