/- Rows told apart on three levels: a file's pages are a row whose elements lie apart; nothing of the program is claimed here. -/
import Derived.Test.YtljpfogplcdcjaaVQFnSealedFilesx0
import Derived.Test.YtljpfogplcdcjaaVWMore
import Derived.Test.YtljpfogplcdcjaaVFoldT
namespace Go.Proofs.Ytljpfogplcdcjaa.PFnSealedFiles
open Go.RowKit Go.Proofs.YtljpfogplcdcjaaW.PrintWords Go.Proofs.YtljpfogplcdcjaaW.PrintLast Go.Proofs.YtljpfogplcdcjaaW.PrintMore Go.Proofs.Ytljpfogplcdcjaa.Fold
set_option linter.unusedVariables false
def sliceS {α : Type} (e : Nat) (d : Kd α) : Kd (List α) where
 sz := 1
 E := e :: d.E
 K := (Kd.slice e d).K
 M := fun w base ok xs cs => ∃ v, cs = [v] ∧ Kd.S d e w base ok v xs
 K_len := (Kd.slice e d).K_len
 K_one := (Kd.slice e d).K_one
 K_below := (Kd.slice e d).K_below
 K_of_M := by
  rintro w base ok x cs ⟨v, rfl, h⟩
  exact (Kd.slice e d).K_of_M ⟨v, rfl, Kd.S_R h⟩
 M_mono := by
  rintro w base ok ok' x cs hok ⟨v, rfl, h⟩
  exact ⟨v, rfl, Kd.S_mono h hok⟩
 M_bound := by
  rintro w base ok x cs ⟨v, rfl, h⟩
  exact ⟨v, rfl, Kd.S_bound h⟩
 M_move := by
  rintro w w1 base ok x cs hm ⟨v, rfl, h⟩
  exact ⟨v, rfl, Kd.S_move h hm⟩
 M_lower := by
  rintro w base base' ok x cs hb ⟨v, rfl, h⟩
  exact ⟨v, rfl, Kd.S_lower h hb⟩
def kD : Kd S87 := Kd.iso (Kd.pair (Kd.int .i64) (Kd.pair (sliceS 39 k39) (Kd.pair (Kd.int .i64) Kd.bool))) (fun x : S87 => (x.f0, x.f1, x.f2, x.f3))
theorem kD_openM {w : World} {base : Nat} {ok : Nat → Prop} {x : S87} {cs : List Value} (h : kD.M w base ok x cs) : ∃ v1, cs = [.int .i64 x.f0, v1, .int .i64 x.f2, .bool x.f3] ∧ Kd.S k39 39 w base ok v1 x.f1 := by
 obtain ⟨_, _, rfl, rfl, ⟨_, _, rfl, ⟨v1, rfl, g1⟩, ⟨_, _, rfl, rfl, rfl⟩⟩⟩ := h
 exact ⟨v1, rfl, g1⟩
theorem kD_mkM (w : World) (base : Nat) (ok : Nat → Prop) (x : S87) {v1 : Value} (g1 : Kd.S k39 39 w base ok v1 x.f1) : kD.M w base ok x [.int .i64 x.f0, v1, .int .i64 x.f2, .bool x.f3] := ⟨[.int .i64 x.f0], [v1, .int .i64 x.f2, .bool x.f3], rfl, rfl, ⟨[v1], [.int .i64 x.f2, .bool x.f3], rfl, ⟨v1, rfl, g1⟩, ⟨[.int .i64 x.f2], [.bool x.f3], rfl, rfl, rfl⟩⟩⟩
theorem D_rd {e B : Nat} {W : World} {A : Option Addr} {n cap : Nat} {ok : Nat → Prop} {xs : List S87} (h : Kd.S kD e W B ok (.slice A n cap) xs) : Kd.C k87 W A xs.length xs ∧ xs.length ≤ cap := by
 obtain ⟨h1, h2, h3⟩ := Kd.R_reads' (Kd.S_R h); subst h1; exact ⟨h3, h2⟩
theorem D_M {w : World} {base : Nat} {ok : Nat → Prop} {x : S87} {cs : List Value} (h : kD.M w base ok x cs) : k87.M w base ok x cs := by
 obtain ⟨v1, rfl, g⟩ := kD_openM h
 exact k87_mkM w base ok x (Kd.S_R g)
theorem D_R {e : Nat} {w : World} {base : Nat} {ok : Nat → Prop} {v : Value} {xs : List S87} (h : Kd.S kD e w base ok v xs) : Kd.R k87 e w base ok v xs := Kd.R_imp (d := kD) (d' := k87) rfl (fun _ _ _ _ _ hm => D_M hm) (Kd.S_R h)
theorem S_part2 {α β : Type} {d : Kd α} {d2 : Kd β} {e e2 B : Nat} {ok ok2 : Nat → Prop} {W w1 : World} {v v2 : Value} {xs : List α} {ys : List β} (h : Kd.S d e W B ok v xs) (h2 : Kd.S d2 e2 w1 W.heap.size ok2 v2 ys) (hb : Below W.heap.size W w1) (hB : B ≤ W.heap.size) :
  ∃ N, (∀ n, n ≤ W.heap.size → n ≤ N) ∧ Aside0 (Kd.S d e w1 B (fun k => ok k ∧ k < N) v xs) ∧ Aside0 (Kd.S d2 e2 w1 B (fun k => N ≤ k) v2 ys) :=
 ⟨W.heap.size, fun _ h => h, ⟨Kd.S_old h hb⟩, ⟨Kd.S_lower (Kd.S_mono (Kd.S_bound h2) (fun _ hk => hk.2.1)) hB⟩⟩
end Go.Proofs.Ytljpfogplcdcjaa.PFnSealedFiles
