/- Rows told apart on three levels: a file's pages are a row whose elements lie apart; nothing of the program is claimed here. -/
import Derived.Test.YtinniedbgfgclaaVQFnDiskOperationsx0
import Derived.Test.YtinniedbgfgclaaVWMore
import Derived.Test.YtinniedbgfgclaaVFoldT
namespace Go.Proofs.Ytinniedbgfgclaa.PFnDiskOperations
open Go.RowKit Go.Proofs.YtinniedbgfgclaaW.PrintWords Go.Proofs.YtinniedbgfgclaaW.PrintLast Go.Proofs.YtinniedbgfgclaaW.PrintMore
set_option linter.unusedVariables false
def sliceS {α : Type} (e : Nat) (d : Kd α) : Kd (List α) where
 sz := 1
 E := e :: d.E
 K := (Kd.slice e d).K
 M := fun w base ok xs cs => ∃ v, cs = [v] ∧ Kd.S d e w base ok v xs
 K_len := (Kd.slice e d).K_len
 K_one := (Kd.slice e d).K_one
 K_below := (Kd.slice e d).K_below
 K_of_M := by
  rintro w base ok x cs ⟨v, rfl, h⟩
  exact (Kd.slice e d).K_of_M ⟨v, rfl, Kd.S_R h⟩
 M_mono := by
  rintro w base ok ok' x cs hok ⟨v, rfl, h⟩
  exact ⟨v, rfl, Kd.S_mono h hok⟩
 M_bound := by
  rintro w base ok x cs ⟨v, rfl, h⟩
  exact ⟨v, rfl, Kd.S_bound h⟩
 M_move := by
  rintro w w1 base ok x cs hm ⟨v, rfl, h⟩
  exact ⟨v, rfl, Kd.S_move h hm⟩
 M_lower := by
  rintro w base base' ok x cs hb ⟨v, rfl, h⟩
  exact ⟨v, rfl, Kd.S_lower h hb⟩
def kD : Kd S80 := Kd.iso (Kd.pair (Kd.int .i64) (Kd.pair (sliceS 39 k39) (Kd.pair (Kd.int .i64) Kd.bool))) (fun x : S80 => (x.f0, x.f1, x.f2, x.f3))
theorem kD_openM {w : World} {base : Nat} {ok : Nat → Prop} {x : S80} {cs : List Value} (h : kD.M w base ok x cs) : ∃ v1, cs = [.int .i64 x.f0, v1, .int .i64 x.f2, .bool x.f3] ∧ Kd.S k39 39 w base ok v1 x.f1 := by
 obtain ⟨_, _, rfl, rfl, ⟨_, _, rfl, ⟨v1, rfl, g1⟩, ⟨_, _, rfl, rfl, rfl⟩⟩⟩ := h
 exact ⟨v1, rfl, g1⟩
theorem kD_mkM (w : World) (base : Nat) (ok : Nat → Prop) (x : S80) {v1 : Value} (g1 : Kd.S k39 39 w base ok v1 x.f1) : kD.M w base ok x [.int .i64 x.f0, v1, .int .i64 x.f2, .bool x.f3] := ⟨[.int .i64 x.f0], [v1, .int .i64 x.f2, .bool x.f3], rfl, rfl, ⟨[v1], [.int .i64 x.f2, .bool x.f3], rfl, ⟨v1, rfl, g1⟩, ⟨[.int .i64 x.f2], [.bool x.f3], rfl, rfl, rfl⟩⟩⟩
theorem D_rd {e B : Nat} {W : World} {A : Option Addr} {n cap : Nat} {ok : Nat → Prop} {xs : List S80} (h : Kd.S kD e W B ok (.slice A n cap) xs) : Kd.C k80 W A xs.length xs ∧ xs.length ≤ cap := by
 obtain ⟨h1, h2, h3⟩ := Kd.R_reads' (Kd.S_R h); subst h1; exact ⟨h3, h2⟩
theorem D_M {w : World} {base : Nat} {ok : Nat → Prop} {x : S80} {cs : List Value} (h : kD.M w base ok x cs) : k80.M w base ok x cs := by
 obtain ⟨v1, rfl, g⟩ := kD_openM h
 exact k80_mkM w base ok x (Kd.S_R g)
theorem D_R {e : Nat} {w : World} {base : Nat} {ok : Nat → Prop} {v : Value} {xs : List S80} (h : Kd.S kD e w base ok v xs) : Kd.R k80 e w base ok v xs := Kd.R_imp (d := kD) (d' := k80) rfl (fun _ _ _ _ _ hm => D_M hm) (Kd.S_R h)
theorem S_part2 {α β : Type} {d : Kd α} {d2 : Kd β} {e e2 B : Nat} {ok ok2 : Nat → Prop} {W w1 : World} {v v2 : Value} {xs : List α} {ys : List β} (h : Kd.S d e W B ok v xs) (h2 : Kd.S d2 e2 w1 W.heap.size ok2 v2 ys) (hb : Below W.heap.size W w1) (hB : B ≤ W.heap.size) :
  ∃ N, (∀ n, n ≤ W.heap.size → n ≤ N) ∧ Aside0 (Kd.S d e w1 B (fun k => ok k ∧ k < N) v xs) ∧ Aside0 (Kd.S d2 e2 w1 B (fun k => N ≤ k) v2 ys) :=
 ⟨W.heap.size, fun _ h => h, ⟨Kd.S_old h hb⟩, ⟨Kd.S_lower (Kd.S_mono (Kd.S_bound h2) (fun _ hk => hk.2.1)) hB⟩⟩
end Go.Proofs.Ytinniedbgfgclaa.PFnDiskOperations
namespace Go.Proofs.Ytinniedbgfgclaa.PFnDiskOperations
open Go.RowKit Go.Proofs.YtinniedbgfgclaaW.PrintWords Go.Proofs.YtinniedbgfgclaaW.PrintLast Go.Proofs.YtinniedbgfgclaaW.PrintMore Go.Proofs.Ytinniedbgfgclaa.Fold
attribute [local go_sem] max2_int min2_int max_two min_two max_three min_three max_four min_four   -- for this text's walks alone
set_option linter.unusedVariables false
set_option linter.unusedSimpArgs false
theorem eqA95 (d : Nat) (w : World) (x0 y0 : Int) (x1 y1 : Int) (x2 y2 : Int) :
  (Op.equalIn (d + 2) 95 (.agg #[.int .i64 x0, .int .i64 x1, .int .i64 x2]) (.agg #[.int .i64 y0, .int .i64 y1, .int .i64 y2])).run Try.prog w = .ok (x0 == y0 && (x1 == y1 && (x2 == y2))) w := by
 refine eqA_of Try.underlying95 (by kernel_rfl) ?_
 refine eqf_cons (by rfl) (by go_simp; rfl) (by go_simp; rfl) (by go_simp) ?_
 refine eqf_cons (by rfl) (by go_simp; rfl) (by go_simp; rfl) (by go_simp) ?_
 exact eqf_last (by rfl) (by go_simp; rfl) (by go_simp; rfl) (by go_simp)
end Go.Proofs.Ytinniedbgfgclaa.PFnDiskOperations
