/- slices.Compact at rows, walked by hand: it returns the row with each run of equal neighbours told once; nothing is claimed here. -/
import Derived.Test.YtbcpfppiaeelbaaVQFnMultisetsx1
import Derived.Test.YtbcpfppiaeelbaaVWMore
import Derived.Test.YtbcpfppiaeelbaaVPress
namespace Go.Proofs.Ytbcpfppiaeelbaa.PFnMultisets
open Go.RowKit Go.Proofs.YtbcpfppiaeelbaaW.PrintWords Go.Proofs.YtbcpfppiaeelbaaW.PrintLast Go.Proofs.YtbcpfppiaeelbaaW.PrintMore Go.Proofs.Ytbcpfppiaeelbaa.Press
attribute [local go_sem high] eqA36
set_option linter.unusedVariables false
set_option linter.unusedSimpArgs false
def eqb (x y : S36) : Bool := x.f0 == y.f0 && (x.f1 == y.f1 && x.f2 == y.f2)
def ddp : S36 → List S36 → List S36
 | _, [] => []
 | p, x :: r => if eqb x p = true then ddp x r else x :: ddp x r
def dd : List S36 → List S36
 | [] => []
 | x :: r => x :: ddp x r
theorem ddp_snoc (x : S36) : ∀ (l : List S36) (p : S36), ddp p (l ++ [x]) = ddp p l ++ (if eqb x (l.getLastD p) = true then [] else [x])
 | [], p => rfl
 | y :: r, p => by
  have e : (y :: r).getLastD p = r.getLastD y := by cases r <;> rfl
  simp only [List.cons_append, ddp, e, ddp_snoc x r y]
  split <;> rfl
theorem dd_take (l : List S36) (q : Nat) (h1 : 1 ≤ q) (h2 : q < l.length) : dd (l.take (q + 1)) = dd (l.take q) ++ (if eqb (l.getD q z36) (l.getD (q - 1) z36) = true then [] else [l.getD q z36]) := by
 cases l with
 | nil => simp at h2
 | cons a r =>
  obtain ⟨p, rfl⟩ : ∃ p, q = p + 1 := ⟨q - 1, by omega⟩; have hp : p < r.length := by simpa using h2
  rw [List.take_succ_cons, List.take_succ_cons]
  show a :: ddp a (r.take (p + 1)) = (a :: ddp a (r.take p)) ++ _
  rw [List.take_add_one, List.getElem?_eq_getElem hp]
  show a :: ddp a (r.take p ++ [r[p]]) = _
  rw [ddp_snoc]; have e1 : (a :: r).getD (p + 1) z36 = r[p] := by simp [List.getD_eq_getElem?_getD, List.getElem?_eq_getElem hp]
  have e2 : (a :: r).getD (p + 1 - 1) z36 = (r.take p).getLastD a := by
   rw [Nat.add_sub_cancel]
   cases p with
   | zero => rfl
   | succ t =>
    have ht : t < r.length := by omega
    rw [List.take_add_one, List.getElem?_eq_getElem ht, List.getLastD_eq_getLast?, Option.toList_some, List.getLast?_concat]
    simp [List.getD_eq_getElem?_getD, List.getElem?_eq_getElem ht]
  rw [e1, e2]
  rfl
theorem setCells_append (g : Nat) : ∀ (a b : List Value) (o : Nat) (w : World), w.setCells g o (a ++ b) = (w.setCells g o a).setCells g (o + a.length) b
 | [], b, o, w => rfl
 | v :: r, b, o, w => by
  show ((w.setCell ⟨g, o, none⟩ v).setCells g (o + 1) (r ++ b)) = _
  rw [setCells_append g r b, List.length_cons, show o + (r.length + 1) = o + 1 + r.length from by omega]; rfl
theorem clear_rows {w : World} {B g n cap : Nat} {ok : Nat → Prop} {xs : List S36} (HO : Kd.R k36 36 w B ok (.slice (some ⟨g, 0, none⟩) n cap) xs) (m : Nat) (hm : m < n) (c : Nat) :
  ∃ w1 ys, (∀ ty, (Builtin.clear_ #[25] ty #[.slice (some ⟨g, m * 3, none⟩) (n - m) c]).run Try.prog w = .ok (.tuple #[]) w1) ∧ ys.take m = xs.take m ∧ ys.length = n ∧ Kd.R k36 36 w1 B ok (.slice (some ⟨g, 0, none⟩) n cap) ys ∧ w.grownBy w1 (some g) := by
 have hn := (Kd.R_reads' HO).1
 have step : ∀ j, m + j ≤ n → ∃ ys, ys.take m = xs.take m ∧ ys.length = n ∧ Kd.R k36 36 (w.setCells g (m * 3) (List.replicate (3 * j) (.int .i64 0))) B ok (.slice (some ⟨g, 0, none⟩) n cap) ys ∧ w.grownBy (w.setCells g (m * 3) (List.replicate (3 * j) (.int .i64 0))) (some g) := by
  intro j
  induction j with
  | zero => exact fun _ => ⟨xs, rfl, hn.symm, HO, World.grownBy.refl _ _⟩
  | succ j ih =>
   intro hj; obtain ⟨ys, h1, h2, h3, h4⟩ := ih (by omega); obtain ⟨ce, hcl, hM, hcc, hfr⟩ := Kd.R_elem h3 z36 ((m + j : Nat) : Int) (by omega) (by omega); have HP := Kd.R_seg h3 ((m + j : Nat) : Int) (by omega) (by omega) (seg := [.int .i64 0, .int .i64 0, .int .i64 0]) (j := 0) hcl hcc (show 3 ≤ 3 from by decide) (x' := (⟨0, 0, 0⟩ : S36)) (by obtain rfl := k36_openM hM; exact k36_mkM _ _ _ (⟨0, 0, 0⟩ : S36)) (fun _ hk => hk)
   have e : List.replicate (3 * (j + 1)) (Value.int .i64 0) = List.replicate (3 * j) (.int .i64 0) ++ [.int .i64 0, .int .i64 0, .int .i64 0] := by
    rw [show 3 * (j + 1) = 3 * j + 3 from by omega, ← List.replicate_append_replicate]; rfl
   rw [e, setCells_append, List.length_replicate, show m * 3 + 3 * j = (m + j) * 3 from by omega]; rw [Int.toNat_natCast] at HP; have HP1 : Kd.R k36 36 ((w.setCells g (m * 3) (List.replicate (3 * j) (.int .i64 0))).setCells g ((m + j) * 3) [.int .i64 0, .int .i64 0, .int .i64 0]) B ok (.slice (some ⟨g, 0, none⟩) n cap) (ys.set (m + j) (⟨0, 0, 0⟩ : S36)) := HP.1; have HP2 : (w.setCells g (m * 3) (List.replicate (3 * j) (.int .i64 0))).grownBy ((w.setCells g (m * 3) (List.replicate (3 * j) (.int .i64 0))).setCells g ((m + j) * 3) [.int .i64 0, .int .i64 0, .int .i64 0]) (some g) := HP.2; exact ⟨ys.set (m + j) ⟨0, 0, 0⟩, by rw [List.take_set_of_le (by omega), h1], by rw [List.length_set, h2], HP1, h4.trans HP2⟩
 obtain ⟨ys, h1, h2, h3, h4⟩ := step (n - m) (by omega)
 refine ⟨_, ys, fun ty => ?_, h1, h2, h3, h4⟩
 have hv : (zeroValue 36).run Try.prog w = .ok (.agg #[.int .i64 0, .int .i64 0, .int .i64 0]) w := by kernel_rfl
 have hzc : (Builtin.zeroCells (Value.agg #[.int .i64 0, .int .i64 0, .int .i64 0]).cells (n - m)).toList = List.replicate (3 * (n - m)) (Value.int .i64 0) := by
  simp only [Builtin.zeroCells, Value.cells]
  apply List.ext_getElem
  ·simp; omega
  ·intro i h1 h2; simp only [Array.toList_ofFn, List.getElem_ofFn, List.getElem_replicate]; have : i % 3 < 3 := Nat.mod_lt _ (by decide); obtain h | h | h : i % 3 = 0 ∨ i % 3 = 1 ∨ i % 3 = 2 := by omega
   all_goals simp [h]
 have cell : ∀ j, j < 3 * (n - m) → (w.cell? ⟨g, m * 3 + j, none⟩).isSome = true ∧ w.frozen? ⟨g, m * 3 + j, none⟩ = false := by
  intro j hj; obtain ⟨ce, hcl, hM, hcc, hfr⟩ := Kd.R_elem HO z36 ((m + j / 3 : Nat) : Int) (by omega) (by omega); obtain rfl := k36_openM hM; rw [Int.toNat_natCast] at hcc hfr; have e : m * 3 + j = (m + j / 3) * 3 + j % 3 := by omega
  have : j % 3 < 3 := Nat.mod_lt _ (by decide); rw [e]
  refine ⟨?_, hfr _⟩
  obtain h | h | h : j % 3 = 0 ∨ j % 3 = 1 ∨ j % 3 = 2 := by omega
  ·rw [h]; exact Option.isSome_iff_exists.2 ⟨_, hcc 0 _ rfl⟩
  ·rw [h]; exact Option.isSome_iff_exists.2 ⟨_, hcc 1 _ rfl⟩
  ·rw [h]; exact Option.isSome_iff_exists.2 ⟨_, hcc 2 _ rfl⟩
 have hst := run_storeCells_cells (P := Try.prog) g (m * 3) (List.replicate (3 * (n - m)) (Value.int .i64 0)) 0 w (by intro j hj; rw [List.length_replicate] at hj; rw [Nat.add_zero]; exact (cell j hj).1) (by intro j hj; rw [List.length_replicate] at hj; rw [Nat.add_zero]; exact (cell j hj).2) (by intro v hv'; rw [List.eq_of_mem_replicate hv']; rfl)
 simp only [Nat.add_zero] at hst
 obtain ⟨p, hp⟩ : ∃ p, n - m = p + 1 := ⟨n - m - 1, by omega⟩
 rw [hp] at hzc hst ⊢
 simp [Builtin.clear_, run_underlying Try.underlying25, hv, hzc, hst, Result.andThen]
theorem rows_at {w : World} {B g n cap : Nat} {ok : Nat → Prop} {xs : List S36} (HO : Kd.R k36 36 w B ok (.slice (some ⟨g, 0, none⟩) n cap) xs) (p : Nat) (hp : p < n) :
  (w.cell? ⟨g, p * 3, none⟩ = some (.int .i64 (xs.getD p z36).f0) ∧ w.cell? ⟨g, p * 3 + 1, none⟩ = some (.int .i64 (xs.getD p z36).f1) ∧ w.cell? ⟨g, p * 3 + 2, none⟩ = some (.int .i64 (xs.getD p z36).f2)) ∧
   w.frozen? ⟨g, p * 3, none⟩ = false ∧ w.frozen? ⟨g, p * 3 + 1, none⟩ = false ∧ w.frozen? ⟨g, p * 3 + 2, none⟩ = false := by
 obtain ⟨ce, hcl, hM, hcc, hfr⟩ := Kd.R_elem HO z36 (p : Int) (by omega) (by omega)
 obtain rfl := k36_openM hM
 rw [Int.toNat_natCast] at hcc hfr
 exact ⟨⟨hcc 0 _ rfl, hcc 1 _ rfl, hcc 2 _ rfl⟩, hfr 0, hfr 1, hfr 2⟩
theorem rows_put {w : World} {B g n cap : Nat} {ok : Nat → Prop} {xs : List S36} (HO : Kd.R k36 36 w B ok (.slice (some ⟨g, 0, none⟩) n cap) xs) (p : Nat) (hp : p < n) (x : S36) :
  Kd.R k36 36 (w.setCells g (p * 3) [.int .i64 x.f0, .int .i64 x.f1, .int .i64 x.f2]) B ok (.slice (some ⟨g, 0, none⟩) n cap) (xs.set p x) ∧ w.grownBy (w.setCells g (p * 3) [.int .i64 x.f0, .int .i64 x.f1, .int .i64 x.f2]) (some g) := by
 obtain ⟨ce, hcl, hM, hcc, hfr⟩ := Kd.R_elem HO z36 (p : Int) (by omega) (by omega)
 obtain rfl := k36_openM hM
 have HP := Kd.R_seg HO (p : Int) (by omega) (by omega) (seg := [.int .i64 x.f0, .int .i64 x.f1, .int .i64 x.f2]) (j := 0) hcl hcc (show 3 ≤ 3 from by decide) (x' := x) (k36_mkM _ _ _ x) (fun _ hk => hk)
 rw [Int.toNat_natCast] at HP
 exact HP
set_option maxHeartbeats 8000000 in
set_option maxRecDepth 100000 in
theorem impl_Row_39.calls (P0_ : Nat → Prop) (u9000_ : Value) (l0 : List S36) (w0 w : World) (hB : Below w0.heap.size w0 w) (ho0 : Kd.R k36 36 w w0.heap.size P0_ u9000_ l0) :
  Calls Try.prog 39 #[u9000_] w fun e w' => ∃ v0_ : Value, e = .returned v0_ ∧ Kd.R k36 36 w' w0.heap.size P0_ v0_ (dd l0) ∧ Below w0.heap.size w0 w' := by
 have HO0 := kp ho0
 have HB := kp hB
 clear hB ho0
 by_cases c2 : l0.length < 2
 ·obtain ⟨Ao3, co3, eo3⟩ := Kd.R_slice HO0.out; subst eo3
  have hd : dd l0 = l0 := by
   match l0, c2 with
   | [], _ => rfl
   | [a], _ => rfl
  have HD := kp hd; clear hd; have c2b0 : decide ((l0.length : Int) < 2) = true := decide_eq_true (by omega); have c2b1 : decide (l0.length < 2) = true := decide_eq_true (by omega); clear c2
  go_enter Try.func39, Try.ntmps39
  go_wp2
  repeat (go_quiet (fail); try go_wp2)
  go_ret; exact ⟨_, rfl, by rw [HD.out]; exact HO0.out, HB.out⟩
 ·obtain ⟨g, co, eo, hgb, hgl, _⟩ := Kd.R_form HO0.out (by omega); subst eo; obtain ⟨n, hn⟩ : ∃ n, n = l0.length := ⟨_, rfl⟩; rw [← hn] at HO0; have hco := (Kd.R_reads' HO0.out).2.1; have N2 := kp (show 2 ≤ n from by omega); have NM := kp (show n ≤ 9223372036854775807 from (by have := (Kd.R_reads' HO0.out).2.2.2.1; omega)); have HN := kp hn; have HCO := kp hco; have HGB := kp hgb; have c2b0 : decide ((n : Int) < 2) = false := decide_eq_false (by omega); have c2b1 : decide (n < 2) = false := decide_eq_false (by omega); rw [← hn] ; clear c2 hgb hgl hco hn
  go_enter Try.func39, Try.ntmps39
  go_wp2
  repeat (go_quiet (fail); try go_wp2)
  go_loopg [3] n (fun kq v3 w' => ∃ i : Nat, v3 = .int .i64 (i : Int) ∧ Aside0 (1 ≤ i ∧ i ≤ n ∧ n - i ≤ kq ∧ dd (l0.take i) = l0.take i) ∧ Aside0 (Kd.R k36 36 w' w0.heap.size P0_ (.slice (some ⟨g, 0, none⟩) n co) l0) ∧ Aside0 (Below w0.heap.size w0 w'))
  case atStart => exact ⟨1, rfl, ⟨Nat.le_refl _, by have := N2.out; omega, by omega, by cases l0 <;> rfl⟩, ⟨HO0.out⟩, ⟨HB.out⟩⟩
  case round =>
   clear HB HO0; obtain ⟨i, rfl, HI, HO, HB⟩ := hrel
   by_cases hlt : i < n
   ·have hk1 : 1 ≤ i := HI.out.1; obtain ⟨⟨c0, c1, c2⟩, f0, f1, f2⟩ := rows_at HO.out i hlt; obtain ⟨⟨b0, b1, b2⟩, _, _, _⟩ := rows_at HO.out (i - 1) (by omega); have e1 : IntKind.i64.wrap ((i : Int) - 1) = ((i - 1 : Nat) : Int) := by rw [i64_w]; unfold wrap64; have := NM.out; omega
    have e2 : i - 1 < n := by omega
    have PM := kp (hk1)
    by_cases heq : eqb (l0.getD i z36) (l0.getD (i - 1) z36) = true
    ·have EQ := kp heq; have heq' : ((l0.getD i z36).f0 == (l0.getD (i - 1) z36).f0 && ((l0.getD i z36).f1 == (l0.getD (i - 1) z36).f1 && (l0.getD i z36).f2 == (l0.getD (i - 1) z36).f2)) = true := heq; generalize l0.getD i z36 = x at c0 c1 c2 heq'; generalize l0.getD (i - 1) z36 = y at b0 b1 b2 heq'; clear heq; obtain ⟨i036, hi036, _, hsz36, _⟩ := info_parts info36; have hcut := cut_from (P := Try.prog) 25 36 .i64 Try.underlying25 hi036 3 hsz36 (some ⟨g, 0, none⟩) n co (i : Int) (by omega) (by omega); rw [Int.toNat_natCast, if_neg (by have := HCO.out; omega), show (Option.map (fun x : Addr => x.add (i * 3)) (some ⟨g, 0, none⟩)) = some ⟨g, i * 3, none⟩ from by rw [Option.map_some, add_plain]] at hcut; obtain ⟨c4, hc4⟩ : ∃ c4, c4 = co - i := ⟨_, rfl⟩; obtain ⟨n4, hn4⟩ : ∃ n4, n4 = n - i := ⟨_, rfl⟩; rw [← hc4, ← hn4] at hcut; have N4 := kp hn4; clear hi036 hsz36 hc4 hn4; go_wp2
     go_quiet (fail)
     try go_wp2
     clear c0 c1 c2 b0 b1 b2 heq' hcut
     go_loopg [3, 5] n (fun kq v3 v5 w' => ∃ (m j : Nat) (xs : List S36), v3 = .int .i64 (m : Int) ∧ v5 = .int .i64 (j : Int) ∧ Aside0 (1 ≤ j ∧ i + j ≤ n ∧ n - (i + j) ≤ kq ∧ m < i + j ∧ xs.take m = dd (l0.take (i + j)) ∧ xs.drop (i + j - 1) = l0.drop (i + j - 1) ∧ xs.length = n) ∧ Aside0 (Kd.R k36 36 w' w0.heap.size P0_ (.slice (some ⟨g, 0, none⟩) n co) xs) ∧ Aside0 (Below w0.heap.size w0 w'))
     case atStart => 
      refine ⟨i, 1, l0, rfl, rfl, ⟨Nat.le_refl _, by omega, by omega, by omega, ?_, rfl, HN.out.symm⟩, ⟨(by (with_reducible repeat (first | apply Kd.R_alloc | apply Kd.R_drewN | apply Kd.R_drew)); exact HO.out)⟩, ⟨bb⟩⟩
      rw [dd_take l0 i hk1 (by rw [← HN.out]; exact hlt), if_pos EQ.out, List.append_nil, HI.out.2.2.2]
     case round =>
      clear HB HO; obtain ⟨m, j, xs, rfl, rfl, HJ, HO, HB⟩ := hrel; have hxl := HJ.out.2.2.2.2.2.2
      by_cases hlt2 : i + j < n
      ·have hj1 : 1 ≤ j := HJ.out.1; have hm : m < n := by have := HJ.out.2.2.2.1; omega
       have hj4 : j < n4 := by have := N4.out; omega
       have hj5 : j - 1 < n4 := by omega
       obtain ⟨⟨c0, c1, c2⟩, _, _, _⟩ := rows_at HO.out (i + j) hlt2; obtain ⟨⟨b0, b1, b2⟩, _, _, _⟩ := rows_at HO.out (i + j - 1) (by omega); obtain ⟨⟨d0, d1, d2⟩, f0, f1, f2⟩ := rows_at HO.out m hm; rw [show (i + j) * 3 = i * 3 + j * 3 from by omega] at c0 c1 c2; rw [show (i + j - 1) * 3 = i * 3 + (j - 1) * 3 from by omega] at b0 b1 b2; have e1 : IntKind.i64.wrap ((j : Int) - 1) = ((j - 1 : Nat) : Int) := by rw [i64_w]; unfold wrap64; have := NM.out; omega
       have e3 : IntKind.i64.wrap ((j : Int) + 1) = ((j + 1 : Nat) : Int) := by rw [i64_w]; unfold wrap64; have := NM.out; omega
       have e4 : IntKind.i64.wrap ((m : Int) + 1) = ((m + 1 : Nat) : Int) := by rw [i64_w]; unfold wrap64; have := NM.out; omega
       have gx : xs.getD (i + j) z36 = l0.getD (i + j) z36 := by
        have h_ := congrArg (fun q => q.getD 1 z36) HJ.out.2.2.2.2.2.1; simp only [List.getD_eq_getElem?_getD, List.getElem?_drop, show i + j - 1 + 1 = i + j from by omega] at h_ ⊢; exact h_
       have gy : xs.getD (i + j - 1) z36 = l0.getD (i + j - 1) z36 := by
        have h_ := congrArg (fun q => q.getD 0 z36) HJ.out.2.2.2.2.2.1; simp only [List.getD_eq_getElem?_getD, List.getElem?_drop, Nat.add_zero] at h_ ⊢; exact h_
       have hdt := dd_take l0 (i + j) (by omega) (by rw [← HN.out]; exact hlt2); rw [← gx, ← gy] at hdt; clear gy; have GX := kp gx; have HDT := kp hdt; have HP := fun nn => kp (rows_put (Kd.R_drewN HO.out nn) m hm (xs.getD (i + j) z36))
       clear gx hdt; generalize xs.getD (i + j) z36 = x at c0 c1 c2 GX HDT HP; generalize xs.getD (i + j - 1) z36 = y at b0 b1 b2 HDT; generalize xs.getD m z36 = z at d0 d1 d2; clear hxl
       by_cases heq : eqb x y = true
       ·have heq' : (x.f0 == y.f0 && (x.f1 == y.f1 && x.f2 == y.f2)) = true := heq; have heq2 : (!(x.f0 == y.f0 && (x.f1 == y.f1 && x.f2 == y.f2))) = false := by rw [heq']; rfl
        have EQ := kp heq; clear heq f0 f1 f2; go_wp2
        go_quiet (fail)
        try go_wp2
        go_roundg (n - (i + (j + 1)))
        case measure => have := HJ.out.2.2.1; omega
        case rel =>
         refine ⟨m, j + 1, xs, rfl, by first | rfl | exact congrArg _ e3 | (simp [e3]), ⟨by omega, by omega, by omega, by have := HJ.out.2.2.2.1; omega, ?_, ?_, HJ.out.2.2.2.2.2.2⟩, ⟨(by (with_reducible repeat (first | apply Kd.R_alloc | apply Kd.R_drewN | apply Kd.R_drew)); exact HO.out)⟩, ⟨bb⟩⟩
         ·rw [← Nat.add_assoc, HDT.out, if_pos EQ.out, List.append_nil]; exact HJ.out.2.2.2.2.1
         ·have h_ := congrArg (List.drop 1) HJ.out.2.2.2.2.2.1; rw [List.drop_drop, List.drop_drop] at h_; rw [show i + (j + 1) - 1 = i + j - 1 + 1 from by omega]; exact h_
       ·have heq' : (x.f0 == y.f0 && (x.f1 == y.f1 && x.f2 == y.f2)) = false := by simpa [eqb] using heq
        have heq2 : (!(x.f0 == y.f0 && (x.f1 == y.f1 && x.f2 == y.f2))) = true := by rw [heq']; rfl
        have EQ := kp heq; clear heq; go_wp2
        go_quiet (fail)
        try go_wp2
        go_roundg (n - (i + (j + 1)))
        case measure => have := HJ.out.2.2.1; omega
        case rel =>
         refine ⟨m + 1, j + 1, xs.set m x, by first | rfl | exact congrArg _ e4 | (simp [e4]), by first | rfl | exact congrArg _ e3 | (simp [e3]), ⟨by omega, by omega, by omega, by have := HJ.out.2.2.2.1; omega, ?_, ?_, by rw [List.length_set]; exact HJ.out.2.2.2.2.2.2⟩, ⟨(HP nq).out.1⟩, ⟨(by have q := HGB.out; refine below_set (below_set (below_set (pw_below_drewN HB.out _) q) q) q)⟩⟩
         ·rw [← Nat.add_assoc, HDT.out, if_neg EQ.out, ← HJ.out.2.2.2.2.1, List.take_add_one, List.take_set_of_le (Nat.le_refl _), List.getElem?_set_self (by rw [HJ.out.2.2.2.2.2.2]; exact hm)]; rfl
         ·have h_ := congrArg (List.drop 1) HJ.out.2.2.2.2.2.1; rw [List.drop_drop, List.drop_drop] at h_; rw [show i + (j + 1) - 1 = i + j - 1 + 1 from by omega, List.drop_set_of_lt (by have := HJ.out.2.2.2.1; omega)]; exact h_
      ·have he : i + j = n := by have := HJ.out.2.1; omega
       have hm : m < n := by have := HJ.out.2.2.2.1; omega
       have hmn : ¬ (j < n4) := by have := N4.out; omega
       obtain ⟨i036, hi036, _, hsz36, _⟩ := info_parts info36; have hcut := cut_from (P := Try.prog) 25 36 .i64 Try.underlying25 hi036 3 hsz36 (some ⟨g, 0, none⟩) n co (m : Int) (by omega) (by omega); rw [Int.toNat_natCast, if_neg (by have := HCO.out; omega), show (Option.map (fun x : Addr => x.add (m * 3)) (some ⟨g, 0, none⟩)) = some ⟨g, m * 3, none⟩ from by rw [Option.map_some, add_plain]] at hcut; obtain ⟨w1, ys, hcl, h1, h2, h3, h4⟩ := clear_rows HO.out m hm (co - m); have hcut2 := cut_to (P := Try.prog) 25 36 .i64 Try.underlying25 hi036 (some ⟨g, 0, none⟩) n co (m : Int) (by omega) (by omega) HCO.out; rw [Int.toNat_natCast] at hcut2; have hr := Kd.R_take (m := m) h3 (by omega); rw [h1, HJ.out.2.2.2.2.1, he, HN.out, List.take_length] at hr; have HR := kp hr; have HB2 := kp (HB.out.grown h4 HB.out.size (fun k hk => by injection hk with hk; rw [← hk]; exact HGB.out)); clear hr h1 h2 h3 h4 hi036 hsz36 hxl; obtain ⟨c5, hc5⟩ : ∃ c5, c5 = co - m := ⟨_, rfl⟩; obtain ⟨n5, hn5⟩ : ∃ n5, n5 = n - m := ⟨_, rfl⟩; rw [← hc5, ← hn5] at hcut hcl; clear hc5 hn5; go_wp2; go_ret; exact ⟨_, rfl, HR.out, HB2.out⟩
    ·have EQ := kp heq; have heq' : ((l0.getD i z36).f0 == (l0.getD (i - 1) z36).f0 && ((l0.getD i z36).f1 == (l0.getD (i - 1) z36).f1 && (l0.getD i z36).f2 == (l0.getD (i - 1) z36).f2)) = false := by simpa [eqb] using heq
     generalize l0.getD i z36 = x at c0 c1 c2 heq'; generalize l0.getD (i - 1) z36 = y at b0 b1 b2 heq'; clear heq; have e3 : IntKind.i64.wrap ((i : Int) + 1) = ((i + 1 : Nat) : Int) := by rw [i64_w]; unfold wrap64; have := NM.out; omega
     go_wp2
     go_quiet (fail)
     try go_wp2
     go_roundg (n - (i + 1))
     case measure => have := HI.out.2.2.1; omega
     case rel =>
      refine ⟨i + 1, by first | rfl | exact congrArg _ e3 | (simp [e3]), ⟨by omega, by omega, Nat.le_refl _, ?_⟩, ⟨(by (with_reducible repeat (first | apply Kd.R_alloc | apply Kd.R_drewN | apply Kd.R_drew)); exact HO.out)⟩, ⟨bb⟩⟩
      rw [dd_take l0 i hk1 (by rw [← HN.out]; exact hlt), if_neg EQ.out, HI.out.2.2.2, List.take_add_one, List.getElem?_eq_getElem (by rw [← HN.out]; exact hlt), List.getD_eq_getElem?_getD, List.getElem?_eq_getElem (by rw [← HN.out]; exact hlt)]
      rfl
   ·have he : i = n := by have := HI.out.2.1; omega
    subst he; have HD := kp (show dd l0 = l0 from by have := HI.out.2.2.2; rw [HN.out, List.take_length] at this; exact this); clear hlt; go_wp2
    repeat (go_quiet (fail); try go_wp2)
    go_ret; exact ⟨_, rfl, by rw [HD.out]; exact HO.out, HB.out⟩
end Go.Proofs.Ytbcpfppiaeelbaa.PFnMultisets
