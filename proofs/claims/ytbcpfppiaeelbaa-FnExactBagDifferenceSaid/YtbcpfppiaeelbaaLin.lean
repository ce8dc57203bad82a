/- Small words for walks whose every test is decided beforehand: what a call makes lies in an interval of blocks; nothing of the program is claimed here. -/
import Derived.Test.YtbcpfppiaeelbaaWKept
import Derived.Test.YtbcpfppiaeelbaaWApart
import Derived.Test.YtbcpfppiaeelbaaWN
namespace Go.Proofs.Ytbcpfppiaeelbaa.Lin
open Go.RowKit Go.Proofs.YtbcpfppiaeelbaaW.PrintWords
set_option linter.unusedVariables false
def Iv (b c k : Nat) : Prop := b ≤ k ∧ k < c
section
variable {α : Type} {d : Kd α} {e B : Nat} {w' W W2 : World} {v : Value} {xs : List α} {b c b' c' : Nat}
theorem R_iv {ok : Nat → Prop} (h : d.R e w' W.heap.size ok v xs) (hw : B ≤ W.heap.size) : d.R e w' B (Iv W.heap.size w'.heap.size) v xs :=
  Kd.R_lower (Kd.R_mono (Kd.R_bound h) (fun k hk => ⟨hk.2.1, hk.2.2.1⟩)) hw
theorem S_iv {ok : Nat → Prop} (h : Kd.S d e w' W.heap.size ok v xs) (hw : B ≤ W.heap.size) : Kd.S d e w' B (Iv W.heap.size w'.heap.size) v xs :=
  Kd.S_lower (Kd.S_mono (Kd.S_bound h) (fun k hk => ⟨hk.2.1, hk.2.2.1⟩)) hw
theorem R_ivx {ok : Nat → Prop} (h : d.R e w' W.heap.size ok v xs) (hw : B ≤ W.heap.size) : ∃ b, (∀ n, n ≤ W.heap.size → n ≤ b) ∧ Aside0 (d.R e w' B (Iv b w'.heap.size) v xs) := ⟨_, fun _ h => h, ⟨R_iv h hw⟩⟩
theorem S_ivx {ok : Nat → Prop} (h : Kd.S d e w' W.heap.size ok v xs) (hw : B ≤ W.heap.size) : ∃ b, (∀ n, n ≤ W.heap.size → n ≤ b) ∧ Aside0 (Kd.S d e w' B (Iv b w'.heap.size) v xs) := ⟨_, fun _ h => h, ⟨S_iv h hw⟩⟩
theorem N_ivx (h : Kd.N d e w' W.heap.size (fun k => W.heap.size ≤ k) v xs) (hw : B ≤ W.heap.size) : ∃ b, (∀ n, n ≤ W.heap.size → n ≤ b) ∧ Aside0 (Kd.N d e w' B (Iv b w'.heap.size) v xs) :=
  ⟨_, fun _ h => h, ⟨Kd.N_lower (Kd.N_mono (Kd.N_bound h) (fun k hk => hk)) hw⟩⟩
theorem iv_far {g : Nat} (h : c ≤ g) : ∀ k, Iv b c k → k ≠ g := fun k h1 => by have := h1.2; omega
theorem iv_nb {g : Nat} (h : c ≤ g) : ¬ Iv b c g := fun h1 => by have := h1.2; omega
theorem iv_nb2 {g : Nat} (h : g < b) : ¬ Iv b c g := fun h1 => by have := h1.1; omega
def Lo (b k : Nat) : Prop := b ≤ k
theorem R_lo {ok : Nat → Prop} (h : d.R e w' W.heap.size ok v xs) (hs : W.heap.size ≤ w'.heap.size) (hw : B ≤ W.heap.size) : ∃ b, (∀ n, n ≤ W.heap.size → n ≤ b) ∧ Aside0 (b ≤ w'.heap.size) ∧ Aside0 (d.R e w' B (Lo b) v xs) :=
  ⟨_, fun _ h => h, ⟨hs⟩, ⟨Kd.R_lower (Kd.R_mono (Kd.R_bound h) (fun k hk => hk.2.1)) hw⟩⟩
theorem iv_row (hx : d.R e W B (Lo b) v xs) (h : c' ≤ b) : ∀ k, Iv b' c' k → some k ≠ v.ownBlock := fun k h1 he => by have h2 := hx.1 k he.symm; have h3 := h1.2; unfold Lo at h2; omega
theorem iv_up (h : c ≤ b') : ∀ k, Iv b' c' k → ¬ Iv b c k := fun k h1 h2 => by have := h1.1; have := h2.2; omega
theorem iv_dn (h : c' ≤ b) : ∀ k, Iv b' c' k → ¬ Iv b c k := fun k h1 h2 => by have := h1.2; have := h2.1; omega
theorem S_rd {A : Option Addr} {n cap : Nat} {ok : Nat → Prop} (h : Kd.S d e W B ok (.slice A n cap) xs) : d.C W A xs.length xs ∧ xs.length ≤ cap := by
  obtain ⟨h1, h2, h3⟩ := Kd.R_reads' (Kd.S_R h); subst h1; exact ⟨h3, h2⟩
theorem N_rd {A : Option Addr} {n cap : Nat} {ok : Nat → Prop} (h : Kd.N d e W B ok (.slice A n cap) xs) : d.C W A xs.length xs ∧ xs.length ≤ cap := by
  obtain ⟨h1, h2, h3⟩ := Kd.N_reads' h; subst h1; exact ⟨h3, h2⟩
theorem R_rd {A : Option Addr} {n cap : Nat} {ok : Nat → Prop} (h : d.R e W B ok (.slice A n cap) xs) : d.C W A xs.length xs ∧ xs.length ≤ cap := by
  obtain ⟨h1, h2, h3⟩ := Kd.R_reads' h; subst h1; exact ⟨h3, h2⟩
end
end Go.Proofs.Ytbcpfppiaeelbaa.Lin
