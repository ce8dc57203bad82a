/- Small words for walks whose every test is decided beforehand: what a call makes lies in an interval of blocks; nothing of the program is claimed here. -/
import Derived.Test.YtinniedbgfgclaaVWSized
import Derived.Test.YtinniedbgfgclaaVWApart
import Derived.Test.YtinniedbgfgclaaVWN
namespace Go.Proofs.Ytinniedbgfgclaa.Lin
open Go.RowKit Go.Proofs.YtinniedbgfgclaaW.PrintWords
set_option linter.unusedVariables false
def Iv (b c k : Nat) : Prop := b ≤ k ∧ k < c
section
variable {α : Type} {d : Kd α} {e B : Nat} {w' W W2 : World} {v : Value} {xs : List α} {b c b' c' : Nat}
theorem R_iv {ok : Nat → Prop} (h : d.R e w' W.heap.size ok v xs) (hw : B ≤ W.heap.size) : d.R e w' B (Iv W.heap.size w'.heap.size) v xs :=
  Kd.R_lower (Kd.R_mono (Kd.R_bound h) (fun k hk => ⟨hk.2.1, hk.2.2.1⟩)) hw
theorem S_iv {ok : Nat → Prop} (h : Kd.S d e w' W.heap.size ok v xs) (hw : B ≤ W.heap.size) : Kd.S d e w' B (Iv W.heap.size w'.heap.size) v xs :=
  Kd.S_lower (Kd.S_mono (Kd.S_bound h) (fun k hk => ⟨hk.2.1, hk.2.2.1⟩)) hw
theorem R_ivx {ok : Nat → Prop} (h : d.R e w' W.heap.size ok v xs) (hw : B ≤ W.heap.size) : ∃ b, (∀ n, n ≤ W.heap.size → n ≤ b) ∧ Aside0 (d.R e w' B (Iv b w'.heap.size) v xs) := ⟨_, fun _ h => h, ⟨R_iv h hw⟩⟩
theorem S_ivx {ok : Nat → Prop} (h : Kd.S d e w' W.heap.size ok v xs) (hw : B ≤ W.heap.size) : ∃ b, (∀ n, n ≤ W.heap.size → n ≤ b) ∧ Aside0 (Kd.S d e w' B (Iv b w'.heap.size) v xs) := ⟨_, fun _ h => h, ⟨S_iv h hw⟩⟩
theorem N_ivx (h : Kd.N d e w' W.heap.size (fun k => W.heap.size ≤ k) v xs) (hw : B ≤ W.heap.size) : ∃ b, (∀ n, n ≤ W.heap.size → n ≤ b) ∧ Aside0 (Kd.N d e w' B (Iv b w'.heap.size) v xs) :=
  ⟨_, fun _ h => h, ⟨Kd.N_lower (Kd.N_mono (Kd.N_bound h) (fun k hk => hk)) hw⟩⟩
theorem N_ivm {ok : Nat → Prop} (h : Kd.N d e w' W.heap.size ok v xs) (hk : ∀ k, ok k → W.heap.size ≤ k) : Kd.N d e w' W.heap.size (fun k => W.heap.size ≤ k) v xs := Kd.N_mono h hk
theorem iv_far {g : Nat} (h : c ≤ g) : ∀ k, Iv b c k → k ≠ g := fun k h1 => by have := h1.2; omega
theorem N_rd {A : Option Addr} {n cap : Nat} {ok : Nat → Prop} (h : Kd.N d e W B ok (.slice A n cap) xs) : d.C W A xs.length xs ∧ xs.length ≤ cap := by
  obtain ⟨h1, h2, h3⟩ := Kd.N_reads' h; subst h1; exact ⟨h3, h2⟩
theorem R_rd {A : Option Addr} {n cap : Nat} {ok : Nat → Prop} (h : d.R e W B ok (.slice A n cap) xs) : d.C W A xs.length xs ∧ xs.length ≤ cap := by
  obtain ⟨h1, h2, h3⟩ := Kd.R_reads' h; subst h1; exact ⟨h3, h2⟩
end
end Go.Proofs.Ytinniedbgfgclaa.Lin
