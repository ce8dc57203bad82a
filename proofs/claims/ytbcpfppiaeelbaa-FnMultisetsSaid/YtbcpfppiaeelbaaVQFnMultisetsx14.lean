/- impl.BagDifference, walked by hand: a map of counts, keyed by rows; nothing is claimed here. -/
import Derived.Test.YtbcpfppiaeelbaaVQFnMultisetsx8
import Derived.Test.YtbcpfppiaeelbaaVWMore
import Derived.Carry
import Derived.WideKeyEntry
import Derived.DeepKeys4
import Derived.Test.YtbcpfppiaeelbaaVPress
namespace Go.Proofs.Ytbcpfppiaeelbaa.PFnMultisets
open Go.RowKit Go.Proofs.YtbcpfppiaeelbaaW.PrintWords Go.Proofs.YtbcpfppiaeelbaaW.PrintLast Go.Proofs.YtbcpfppiaeelbaaW.PrintMore Go.Proofs.Ytbcpfppiaeelbaa.Press
set_option linter.unusedVariables false
set_option linter.unusedSimpArgs false
def encR (x : S36) : Value := .agg #[.int .i64 x.f0, .int .i64 x.f1, .int .i64 x.f2]
theorem keyLaw : WideMaps.KeyLaw Try.prog 36 := deep_law_laid (by kernel_rfl) (m := 3) (by decide) (by decide +kernel) (by kernel_rfl) (by kernel_rfl)
def wfR (x : S36) : Bool := (Lit.int .i64 x.f0).wf && ((Lit.int .i64 x.f1).wf && (Lit.int .i64 x.f2).wf)
theorem lits3 (d : Nat) (a : Int) (h : (Lit.int .i64 a).wf = true) : Try.prog.keyLits (d + 1) 3 [.int .i64 a] = some [.int .i64 a] := by
 unfold Program.keyLits
 rw [Try.underlying3]
 simp [h]
theorem keyR (x : S36) (h : wfR x = true) : ∃ l, keyOf Try.prog 36 (encR x) = some l := by
 simp only [wfR, Bool.and_eq_true] at h
 have hc : Try.prog.cellsOf 36 = 3 := by kernel_rfl
 have hc3 : Try.prog.cellsOf 3 = 1 := by kernel_rfl
 obtain ⟨d, hd⟩ : ∃ d, Try.prog.types.size = d + 1 := ⟨Try.prog.types.size - 1, by decide +kernel⟩
 have e : Try.prog.keyLits (Try.prog.types.size + 1) 36 (encR x).cells.toList = some [.int .i64 x.f0, .int .i64 x.f1, .int .i64 x.f2] := by
  rw [hd]
  unfold Program.keyLits
  rw [Try.underlying36]
  simp [encR, Value.cells, hc, hc3, lits3 d _ h.1, lits3 d _ h.2.1, lits3 d _ h.2.2]
 have hf : (encR x).formed Try.prog 36 = true := by
  unfold Value.formed
  rw [Try.underlying36]
  simp [encR, hc]
 unfold keyOf
 rw [Try.underlying36]
 simp only [hf, show Try.prog.keyType 36 = true from by kernel_rfl, Bool.and_self, if_true, e, Option.map_some]
 exact ⟨_, rfl⟩
open Go.ChangeMaps Go.MapKept in
section
open Go.WideElems
def MapIs (w : World) (b : Nat) (f : S36 → Int) : Prop := ∃ (es : Array MapEntry) (clock : Nat), w.heap[b]? = some (.map es clock) ∧ (∀ e ∈ es.toList, e.born < clock) ∧ (es.toList.map (·.born)).Nodup ∧
 (es.toList.map (·.key)).Nodup ∧ (∀ e ∈ es.toList, ∃ x, wfR x = true ∧ e.key = encR x ∧ e.val = .int .i64 (f x)) ∧ ∀ x, wfR x = true → (∀ e ∈ es.toList, e.key ≠ encR x) → f x = 0
theorem encR_inj {x y : S36} (h : encR x = encR y) : x = y := by
 simp only [encR, Value.agg.injEq] at h
 have := congrArg Array.toList h
 simp only [List.cons.injEq, Value.int.injEq, true_and, and_true] at this
 cases x; cases y; simp_all
theorem keys36 {es : List MapEntry} {f : S36 → Int} (h : ∀ e ∈ es, ∃ x, wfR x = true ∧ e.key = encR x ∧ e.val = .int .i64 (f x)) : ∀ e ∈ es, ∃ l, keyOf Try.prog 36 e.key = some l := fun e he => by
 obtain ⟨x, hx, hk, -⟩ := h e he
 rw [hk]; exact keyR x hx
theorem look {w : World} {b : Nat} {f : S36 → Int} {x : S36} (h : MapIs w b f) (hx : wfR x = true) : (Instr.lookup 48 (.map (some b)) (encR x) false).run Try.prog w = .ok (.int .i64 (f x)) w := by
 obtain ⟨es, clock, hb, h1, h2, h3, h4, h5⟩ := h
 obtain ⟨kl, hkey⟩ := keyR x hx
 rcases keyLaw.find w hkey es.toList (keys36 h4) with ⟨g1, g2⟩ | ⟨j, e0, g1, g2, g3⟩
 ·simp [Instr.lookup, run_underlying Try.underlying48, MapKept.run_getObj_map hb, keyLaw.check w _ hkey, g1, Result.andThen, h5 x hx g2]
 ·obtain ⟨y, hy, hk, hv⟩ := h4 e0 (List.mem_of_getElem? g2); have : y = x := encR_inj (hk.symm.trans g3); subst this
  simp [Instr.lookup, run_underlying Try.underlying48, MapKept.run_getObj_map hb, keyLaw.check w _ hkey, g1, Result.andThen, hv]
def upd (f : S36 → Int) (x : S36) (n : Int) : S36 → Int := fun y => if y.f0 = x.f0 ∧ y.f1 = x.f1 ∧ y.f2 = x.f2 then n else f y
theorem upd_same (f : S36 → Int) (x : S36) (n : Int) : upd f x n x = n := by simp [upd]
theorem upd_ne {f : S36 → Int} {x y : S36} (n : Int) (h : y ≠ x) : upd f x n y = f y := by
 unfold upd
 rw [if_neg]
 rintro ⟨h1, h2, h3⟩
 exact h (by cases x; cases y; simp_all)
theorem setBlock_at {w : World} {b : Nat} {o o' : Obj} (hb : w.heap[b]? = some o) : (setBlock w b o').heap[b]? = some o' := by
 obtain ⟨h1, -⟩ := Array.getElem?_eq_some_iff.1 hb
 simp [setBlock, h1]
theorem entry {w : World} {b : Nat} {f : S36 → Int} {x : S36} (h : MapIs w b f) (hx : wfR x = true) :
  ∃ (st : Nat) (es1 : Array MapEntry) (clock1 : Nat), (Instr.mapEntry 48 (.map (some b)) (encR x)).run Try.prog w = .ok (.tuple #[.int .i64 (f x), goInt st]) (setBlock w b (.map es1 clock1)) ∧
   MapIs (setBlock w b (.map es1 clock1)) b f ∧
   ∀ (w2 : World) (n : Int), w2.heap[b]? = some (.map es1 clock1) → ∃ es' clock', (Instr.entryStore 48 (.map (some b)) (goInt st) (.int .i64 n)).run Try.prog w2 = .ok () (setBlock w2 b (.map es' clock')) ∧
    MapIs (setBlock w2 b (.map es' clock')) b (upd f x n) := by
 obtain ⟨es, clock, hb, h1, h2, h3, h4, h5⟩ := h
 obtain ⟨kl, hkey⟩ := keyR x hx
 rcases keyLaw.find w hkey es.toList (keys36 h4) with ⟨g1, g2⟩ | ⟨j, e0, g1, g2, g3⟩
 ·have hf0 := h5 x hx g2
  have nb : ∀ v : Value, ((es.push ⟨encR x, v, clock⟩).toList.map (·.born)).Nodup := fun v => by
   simp only [Array.toList_push, List.map_append, List.map_cons, List.map_nil]
   refine List.nodup_append.2 ⟨h2, by simp, fun a ha c hc e1 => ?_⟩
   simp only [List.mem_singleton] at hc; obtain ⟨y, hy, rfl⟩ := List.mem_map.1 ha; have := h1 y hy
   omega
  have nk : ∀ v : Value, ((es.push ⟨encR x, v, clock⟩).toList.map (·.key)).Nodup := fun v => by
   simp only [Array.toList_push, List.map_append, List.map_cons, List.map_nil]
   refine List.nodup_append.2 ⟨h3, by simp, fun a ha c hc e1 => ?_⟩
   simp only [List.mem_singleton] at hc; obtain ⟨y, hy, rfl⟩ := List.mem_map.1 ha; exact g2 y hy (e1.trans hc)
  have mk : ∀ (w' : World) (n : Int), w'.heap[b]? = some (.map (es.push ⟨encR x, .int .i64 n, clock⟩) (clock + 1)) → MapIs w' b (upd f x n) := fun w' n hw => by
   refine ⟨_, _, hw, fun e he => ?_, nb _, nk _, fun e he => ?_, fun y hy hn => ?_⟩
   ·rw [Array.toList_push] at he
    rcases List.mem_append.1 he with h | h
    ·have := h1 e h; omega
    ·rw [List.mem_singleton.1 h]; exact Nat.lt_succ_self _
   ·rw [Array.toList_push] at he
    rcases List.mem_append.1 he with h | h
    ·obtain ⟨y, hy, hk, hv⟩ := h4 e h
     refine ⟨y, hy, hk, ?_⟩
     rw [upd_ne n (fun e1 => g2 e h (by rw [hk, e1])), hv]
    ·rw [List.mem_singleton.1 h]; exact ⟨x, hx, rfl, by rw [upd_same]⟩
   ·have hyx : y ≠ x := fun e1 => hn _ (by rw [Array.toList_push]; exact List.mem_append_right _ (List.mem_singleton.2 rfl)) (by rw [e1])
    rw [upd_ne n hyx]; exact h5 y hy (fun e he => hn e (by rw [Array.toList_push]; exact List.mem_append_left _ he))
  have same : upd f x 0 = f := by
   funext y
   by_cases hyx : y = x
   ·rw [hyx, upd_same, hf0]
   ·rw [upd_ne 0 hyx]
  refine ⟨clock, es.push ⟨encR x, .int .i64 0, clock⟩, clock + 1, ?_, ?_, fun w2 n hw2 => ⟨es.push ⟨encR x, .int .i64 n, clock⟩, clock + 1, ?_, ?_⟩⟩
  ·simp [Instr.mapEntry, run_underlying Try.underlying48, MapKept.run_getObj_map hb, keyLaw.check w false hkey, g1, MapKept.run_setObj_map _ hb, Result.andThen, setBlock, hf0]
  ·have := mk (setBlock w b (.map (es.push ⟨encR x, .int .i64 0, clock⟩) (clock + 1))) 0 (setBlock_at hb); rw [same] at this; exact this
  ·have hidx : (es.push ⟨encR x, .int .i64 0, clock⟩).findIdx? (fun e => ((e.born : Nat) : Int) == ((clock : Nat) : Int)) = some es.size := by
    rw [findIdx_arr]; exact findIdx_born (l := (es.push ⟨encR x, .int .i64 0, clock⟩).toList) (j := es.size) (e0 := ⟨encR x, .int .i64 0, clock⟩) (nb _) (by simp)
   have hmod : (es.push ⟨encR x, .int .i64 0, clock⟩).modify es.size (fun e => { e with val := .int .i64 n }) = es.push ⟨encR x, .int .i64 n, clock⟩ := by
    apply Array.ext'
    rw [Array.toList_modify, Array.toList_push, Array.toList_push, ← Array.length_toList, modify_last]
   simp [Instr.entryStore, MapKept.run_getObj_map hw2, asInt, asIntOf, goInt, hidx, hmod, MapKept.run_setObj_map _ hw2, Result.andThen, setBlock]
  ·exact mk _ n (setBlock_at hw2)
 ·have hj : es[j]? = some e0 := by simpa using g2
  have hm0 := List.mem_of_getElem? g2; obtain ⟨y0, hy0, hk0, hv0⟩ := h4 e0 hm0; have : y0 = x := encR_inj (hk0.symm.trans g3); subst this
  have hsame : es.modify j (fun e => { e with key := encR y0 }) = es := by
   apply Array.ext'
   rw [Array.toList_modify, modify_eq_set _ _ _ _ g2]; have : ({ e0 with key := encR y0 } : MapEntry) = e0 := by rw [← g3]
   rw [this]; exact set_self _ _ _ g2
  refine ⟨e0.born, es, clock, ?_, ⟨es, clock, setBlock_at hb, h1, h2, h3, h4, h5⟩, fun w2 n hw2 => ⟨es.modify j (fun e => { e with val := .int .i64 n }), clock, ?_, ?_⟩⟩
  ·simp [Instr.mapEntry, run_underlying Try.underlying48, MapKept.run_getObj_map hb, keyLaw.check w false hkey, g1, hj, g3, keyLaw.stays w hkey, hsame, MapKept.run_setObj_map _ hb, Result.andThen, setBlock, hv0]
  ·have hidx : es.findIdx? (fun e => ((e.born : Nat) : Int) == ((e0.born : Nat) : Int)) = some j := by
    rw [findIdx_arr]; exact findIdx_born h2 g2
   simp [Instr.entryStore, MapKept.run_getObj_map hw2, asInt, asIntOf, goInt, hidx, MapKept.run_setObj_map _ hw2, Result.andThen, setBlock]
  ·have hl : (es.modify j (fun e => { e with val := .int .i64 n })).toList = es.toList.set j { e0 with val := .int .i64 n } := by rw [Array.toList_modify, modify_eq_set _ _ _ _ g2]
   have hborn : ((es.modify j (fun e => { e with val := .int .i64 n })).toList.map (·.born)) = es.toList.map (·.born) := by
    rw [hl, List.map_set]; exact set_self _ _ _ (by rw [List.getElem?_map, g2]; rfl)
   have hkeys : ((es.modify j (fun e => { e with val := .int .i64 n })).toList.map (·.key)) = es.toList.map (·.key) := by
    rw [hl, List.map_set]; exact set_self _ _ _ (by rw [List.getElem?_map, g2]; rfl)
   have hjl : j < es.toList.length := (List.getElem?_eq_some_iff.1 g2).1
   refine ⟨_, _, setBlock_at hw2, fun e he => ?_, by rw [hborn]; exact h2, by rw [hkeys]; exact h3, fun e he => ?_, fun y hy hn => ?_⟩
   ·have : e.born ∈ es.toList.map (·.born) := by rw [← hborn]; exact List.mem_map_of_mem he
    obtain ⟨e', he', hb'⟩ := List.mem_map.1 this; rw [← hb']; exact h1 e' he'
   ·rw [hl] at he; obtain ⟨m, hm, he⟩ := List.mem_iff_getElem.1 he; rw [List.length_set] at hm; rw [List.getElem_set] at he
    by_cases hjm : j = m
    ·rw [if_pos hjm] at he; subst he; exact ⟨y0, hy0, g3, by rw [upd_same]⟩
    ·rw [if_neg hjm] at he; subst he; obtain ⟨y, hy, hk, hv⟩ := h4 _ (List.getElem_mem hm)
     refine ⟨y, hy, hk, ?_⟩
     have hyx : y ≠ y0 := fun e1 => by
      have h6 : (es.toList.map (·.key))[m]'(by rw [List.length_map]; exact hm) = (es.toList.map (·.key))[j]'(by rw [List.length_map]; exact hjl) := by
       rw [List.getElem_map, List.getElem_map, hk, e1, ← g3]; have := (List.getElem?_eq_some_iff.1 g2).2; rw [this]
      rcases Nat.lt_or_ge m j with h7 | h7
      ·exact List.pairwise_iff_getElem.1 h3 m j _ _ h7 h6
      ·exact List.pairwise_iff_getElem.1 h3 j m _ _ (by omega) h6.symm
     rw [upd_ne n hyx, hv]
   ·have hn' : ∀ e ∈ es.toList, e.key ≠ encR y := fun e he hk => by
     have : e.key ∈ (es.modify j (fun e => { e with val := .int .i64 n })).toList.map (·.key) := by rw [hkeys]; exact List.mem_map_of_mem he
     obtain ⟨e', he', hk'⟩ := List.mem_map.1 this; exact hn e' he' (hk'.trans hk)
    have hyx : y ≠ y0 := fun e1 => hn' e0 hm0 (by rw [g3, e1])
    rw [upd_ne n hyx]; exact h5 y hy hn'
end
theorem map_event {P : Program} {ops : Array Oper} {rest : List Oper} {o : Oper} {a : Act} {Q : Exit → Act → World → Prop} {W : World} (hgd : o.guard = none) {N : Tmp} (_hd : o.dst = some N)
  (hrun : (execOp a.eval o).run P W = .ok (.value (.map (some W.heap.size))) (W.alloc (.map #[] 0)))
  (h : ∀ g, g = W.heap.size → ∀ w1, w1.heap[g]? = some (.map #[] 0) → Below W.heap.size W w1 → wpList P ops Q rest (a.put o.dst (.map (some g))) w1) : wpList P ops Q (o :: rest) a W :=
 Kd.event_run hgd hrun (h _ rfl _ (blk_new W _) (below_alloc (Below.refl _ _) _))
section
open Go.WideElems Go.ChangeMaps
variable {w w1 W : World} {b g : Nat} {f : S36 → Int}
theorem set_at_block (W : World) (g : Nat) (o : Obj) (k : Nat) (h : k ≠ g) : (setBlock W g o).heap[k]? = W.heap[k]? := by
 simp only [setBlock]; exact Array.getElem?_setIfInBounds_ne (Ne.symm h)
theorem below_block {W : World} {g : Nat} (o : Obj) (h : Below w.heap.size w W) (hg : w.heap.size ≤ g) : Below w.heap.size w (setBlock W g o) :=
 ⟨h.os, h.tape, h.output, by simp only [setBlock, Array.size_setIfInBounds]; exact h.size, fun k hk => (set_at_block W g o k (by omega)).trans (h.block k hk)⟩
theorem MapIs.keep (h : MapIs w b f) (hk : w1.heap[b]? = w.heap[b]?) : MapIs w1 b f := by
 obtain ⟨es, c, hb, h⟩ := h
 exact ⟨es, c, hk.trans hb, h⟩
theorem MapIs.lt (h : MapIs w b f) : b < w.heap.size := by
 obtain ⟨es, c, hb, h⟩ := h
 exact blk_lt hb
theorem MapIs.below (h : MapIs w b f) (hb : Below w.heap.size w w1) : MapIs w1 b f := h.keep (hb.block b h.lt)
theorem MapIs.cell (h : MapIs w b f) {p : Addr} (hp : b ≠ p.block) (u : Value) : MapIs (w.setCell p u) b f := h.keep (Below.heap_setCell w p u b hp)
theorem MapIs.ne (h : MapIs w b f) {t : TypeId} {cs : Array Value} (hg : w.heap[g]? = some (.cells cs t (0, 0))) : b ≠ g := by
 obtain ⟨es, c, hb, h⟩ := h
 rintro rfl
 rw [hg] at hb
 cases hb
theorem MapIs.own {α : Type} {d : Kd α} {e base : Nat} {ok : Nat → Prop} {v : Value} {xs : List α} (h : MapIs w b f) (hr : d.R e w base ok v xs) : some b ≠ v.ownBlock := fun he => by
 obtain ⟨cs, hc⟩ := Kd.R_typed hr b he.symm
 exact h.ne hc rfl
theorem MapIs.grown (h : MapIs w b f) {row : Option Nat} (hg : w.grownBy w1 row) (hne : some b ≠ row) : MapIs w1 b f := h.keep (hg.block b h.lt hne)
theorem R_block {α : Type} {d : Kd α} {e base : Nat} {ok : Nat → Prop} {v : Value} {xs : List α} (h : d.R e W base ok v xs) (hm : MapIs W b f) (o : Obj) : d.R e (setBlock W b o) base ok v xs := by
 refine Kd.R_mono (Kd.R_move (Kd.R_bound h) (fun k hk => set_at_block W b o k ?_)) (fun _ hk => hk.1)
 obtain ⟨_, _, _, q, _, cells, hc⟩ := hk
 rintro rfl
 exact hm.ne hc rfl
theorem blk_block {t : TypeId} {cs : Array Value} (hg : W.heap[g]? = some (.cells cs t (0, 0))) (hm : MapIs W b f) (o : Obj) : (setBlock W b o).heap[g]? = some (.cells cs t (0, 0)) :=
 (set_at_block W b o g (Ne.symm (hm.ne hg))).trans hg
theorem MapIs.new {g : Nat} (h : w.heap[g]? = some (.map #[] 0)) : MapIs w g (fun _ => 0) := ⟨#[], 0, h, by simp, by simp, by simp, by simp, fun _ _ _ => rfl⟩
end
def cnts : List S36 → (S36 → Int) → S36 → Int
 | [], f => f
 | x :: r, f => cnts r (upd f x (wrap64 (f x + 1)))
theorem cnts_snoc (x : S36) : ∀ (l : List S36) (f : S36 → Int), cnts (l ++ [x]) f = upd (cnts l f) x (wrap64 (cnts l f x + 1))
 | [], f => rfl
 | y :: r, f => cnts_snoc x r _
def bagD : List S36 → (S36 → Int) → List S36
 | [], _ => []
 | x :: r, f => if f x > 0 then bagD r (upd f x (wrap64 (f x - 1))) else x :: bagD r f
def impl_BagDifference.f (k : Nat) (l0 l1 : List S36) : Option (List S36) :=
 if l1.all wfR = true then (impl_SortRows.f k l0).bind fun t => if t.all wfR = true ∧ t.length ≤ 1048576 then some (bagD t (cnts l1 (fun _ => 0))) else none else none
set_option maxHeartbeats 8000000 in
set_option maxRecDepth 100000 in
theorem impl_BagDifference.calls (k : Nat) (A0 : Option Addr) (c0 : Nat) (l0 : List S36) (A1 : Option Addr) (c1 : Nat) (l1 : List S36) (r : List S36) (w : World) (hr0 : Kd.C k36 w A0 l0.length l0) (hc0 : l0.length ≤ c0) (hr1 : Kd.C k36 w A1 l1.length l1) (hc1 : l1.length ≤ c1) (h : impl_BagDifference.f k l0 l1 = some r) :
  Calls Try.prog 21 #[.slice A0 l0.length c0, .slice A1 l1.length c1] w fun e w' => ∃ v0_ : Value, e = .returned v0_ ∧ Kd.R k36 36 w' w.heap.size (fun _ => True) v0_ r ∧ Below w.heap.size w w' := by
 have hu36 := Try.underlying36
 have HR0 := kp hr0
 have HC0 := kp hc0
 have HR1 := kp hr1
 have HC1 := kp hc1
 have HM := kp (show l1.length ≤ 9223372036854775807 from by have := hr1.2.1; omega)
 clear hr0 hc0 hr1 hc1
 have HB := kp (Below.refl w.heap.size w)
 unfold impl_BagDifference.f at h
 by_cases hw1 : l1.all wfR = true
 case neg => rw [if_neg hw1] at h; cases h
 rw [if_pos hw1] at h
 obtain ⟨t, AT0, h2⟩ := Option.bind_eq_some_iff.mp h
 by_cases hwt : t.all wfR = true ∧ t.length ≤ 1048576
 case neg => rw [if_neg hwt] at h2; cases h2
 rw [if_pos hwt] at h2
 obtain ⟨F0, hF0⟩ : ∃ F, F = cnts l1 (fun _ => 0) := ⟨_, rfl⟩
 rw [← hF0] at h2
 have HF00 := kp hF0
 obtain rfl := Option.some.inj h2
 have AT := kp AT0
 have W1 := kp (List.all_eq_true.1 hw1)
 have WT := kp (List.all_eq_true.1 hwt.1)
 have LT := kp hwt.2
 clear hF0 AT0 h h2 hw1 hwt
 go_enter Try.func21, Try.ntmps21
 go_wp2_with (first | ((with_reducible refine gate_dst (N := 11) rfl ?_); refine map_event ?hg (N := 11) ?hd ?hr ?_; (case hd => rfl); (case hg => rfl); (case hr => first | (go_simp; done) | (go_simp; rfl)); intro gm hg w1 hmap hb; have n0_ := kp (below_step HB.out hb); have n1_ := kp (MapIs.new hmap); have n2_ := kp ((by rw [hg]; exact below_size HB.out) : w.heap.size ≤ gm); clear HB; have HB := n0_; have HMap := n1_; have GE := n2_; clear n0_ n1_ n2_; clear hb hmap hg))
 go_loopg [14] l1.length (fun kq v14 w' => ∃ i : Nat, v14 = .int .i64 (i : Int) ∧ Aside0 (i ≤ l1.length ∧ l1.length - i ≤ kq) ∧ Aside0 (MapIs w' gm (cnts (l1.take i) (fun _ => 0))) ∧ Aside0 (Below w.heap.size w w'))
 case atStart => exact ⟨0, rfl, ⟨Nat.zero_le _, by omega⟩, ⟨HMap.out⟩, ⟨HB.out⟩⟩
 case round =>
  clear HB HMap; obtain ⟨i, rfl, HI, HMap, HB⟩ := hrel
  by_cases hlt : i < l1.length
  ·have hltb : decide ((i : Int) < (l1.length : Int)) = true := decide_eq_true (by omega); have hltc : decide (i < l1.length) = true := decide_eq_true hlt; obtain ⟨ad, e0, hx0, hx1, hx2⟩ := at_T36 HR1.out (i : Int) (by omega) (by omega); cases e0; rw [Int.toNat_natCast] at hx0 hx1 hx2; replace hx0 := kc HB.out hx0; replace hx1 := kc HB.out hx1; replace hx2 := kc HB.out hx2; have LT1 := kp hlt; have hp := eq_true (show (0 : Int) ≤ (i : Int) from Int.natCast_nonneg i); have hq := eq_true (show (i : Int) < (l1.length : Int) from by omega); clear hlt; obtain ⟨x, hx⟩ : ∃ x, x = rd_T36 l1 (i : Int) := ⟨_, rfl⟩; rw [← hx] at hx0 hx1 hx2; have HX := kp hx; have WX := kp (show wfR x = true from W1.out x (by rw [hx]; unfold rd_T36; rw [Int.toNat_natCast, List.getD_eq_getElem?_getD, List.getElem?_eq_getElem LT1.out]; exact List.getElem_mem _)); clear hx
   go_wp2_with (first | ((with_reducible refine gate_dst (N := 7) rfl ?_); refine bx_ 7 #[.int .i64 0, .int .i64 0, .int .i64 0] 36 ?_; intro gb hg w2 hbox hb; have n0_ := kp (below_step bb hb); have n1_ := kp hbox; have n2_ := kp (MapIs.below HMap.out hb); have n3_ := kp ((by rw [hg]; exact below_size HB.out) : w.heap.size ≤ gb); clear HB HMap; have HB := n0_; have BK := n1_; have HMap := n2_; have GEB := n3_; clear n0_ n1_ n2_ n3_; clear hb hbox hg; have hcz0 : w2.cell? ⟨gb, 0, none⟩ = some (.int .i64 0) := (blk_cell BK.out 0).trans rfl; have hcz1 : w2.cell? ⟨gb, 1, none⟩ = some (.int .i64 0) := (blk_cell BK.out 1).trans rfl; have hcz2 : w2.cell? ⟨gb, 2, none⟩ = some (.int .i64 0) := (blk_cell BK.out 2).trans rfl; have hfz0 := blk_frozen BK.out 0; have hfz1 := blk_frozen BK.out 1; have hfz2 := blk_frozen BK.out 2))
   clear hcz0 hcz1 hcz2 hfz0 hfz1 hfz2 hx0 hx1 hx2; obtain ⟨F, hF⟩ : ∃ F, F = cnts (l1.take i) (fun _ => 0) := ⟨_, rfl⟩; rw [← hF] at HMap; have HF := kp hF; clear hF; have hne := HMap.out.ne BK.out; have n0_ := kp (below_set (below_set (below_set HB.out (j := 0) (v := .int .i64 x.f0) GEB.out) (j := 1) (v := .int .i64 x.f1) GEB.out) (j := 2) (v := .int .i64 x.f2) GEB.out); have n1_ := kp (blk_put (cs' := #[.int .i64 x.f0, .int .i64 x.f1, .int .i64 x.f2]) (blk_put (cs' := #[.int .i64 x.f0, .int .i64 x.f1, .int .i64 0]) (blk_put (cs' := #[.int .i64 x.f0, .int .i64 0, .int .i64 0]) BK.out 0 (.int .i64 x.f0) rfl) 1 (.int .i64 x.f1) rfl) 2 (.int .i64 x.f2) rfl); have n2_ := kp (MapIs.cell (MapIs.cell (MapIs.cell HMap.out (p := ⟨gb, 0, none⟩) hne (.int .i64 x.f0)) (p := ⟨gb, 1, none⟩) hne (.int .i64 x.f1)) (p := ⟨gb, 2, none⟩) hne (.int .i64 x.f2)); clear HB BK HMap hne; have HB := n0_; have BK := n1_; have HMap := n2_; clear n0_ n1_ n2_; generalize ((w2.setCell ⟨gb, 0, none⟩ (.int .i64 x.f0)).setCell ⟨gb, 1, none⟩ (.int .i64 x.f1)).setCell ⟨gb, 2, none⟩ (.int .i64 x.f2) = w3 at *
   refine start_ (n := 7) (S := fun w' => (w'.cell? ⟨gb, 0, none⟩ = some (.int .i64 x.f0) ∧ w'.cell? ⟨gb, 1, none⟩ = some (.int .i64 x.f1) ∧ w'.cell? ⟨gb, 2, none⟩ = some (.int .i64 x.f2)) ∧ MapIs w' gm F) (ds := [6]) #[false, false, false, false, false, false, false] (by kernel_rfl) rfl rfl ⟨⟨(blk_cell BK.out 0).trans rfl, (blk_cell BK.out 1).trans rfl, (blk_cell BK.out 2).trans rfl⟩, HMap.out.keep rfl⟩ (fun hHeld => ?_)
   refine pure_ (i := 0) (N := some 18) (v := ?_) (a' := ?_) #[true, false, false, false, false, false, false] rfl rfl (by kernel_rfl) (fun _ _ _ h => h) (Or.inl ⟨by rfl, ?_⟩) ?_ ?_
   rotate_left
   ·intro w'
    go_simp
    with_reducible rfl
   rotate_left
   ·simp only [Act.put, List.setIfInBounds_toArray, List.set_cons_zero, List.set_cons_succ, i64_w, i32_w]
    rfl
   refine take_ (i := 1) (N := some 19) (v := ?_) (a' := ?_) #[true, true, false, false, false, false, false] rfl rfl (by kernel_rfl) (fun _ _ _ h => h) (Or.inl ⟨by rfl, ?_⟩) hHeld ?_ ?_
   rotate_left
   ·rintro w' ⟨⟨s0, s1, s2⟩, sm⟩
    go_simp
    with_reducible rfl
   rotate_left
   ·simp only [Act.put, List.setIfInBounds_toArray, List.set_cons_zero, List.set_cons_succ, i64_w, i32_w]
    rfl
   refine take_ (i := 2) (N := some 20) (v := ?_) (a' := ?_) #[true, true, true, false, false, false, false] rfl rfl (by kernel_rfl) (fun _ _ _ h => h) (Or.inl ⟨by rfl, ?_⟩) hHeld ?_ ?_
   rotate_left
   ·rintro w' ⟨⟨s0, s1, s2⟩, sm⟩; have hl : (Instr.lookup 48 (.map (some gm)) (.agg #[.int .i64 x.f0, .int .i64 x.f1, .int .i64 x.f2]) false).run Try.prog w' = .ok (.int .i64 (F x)) w' := look sm WX.out
    go_simp
    with_reducible rfl
   rotate_left
   ·simp only [Act.put, List.setIfInBounds_toArray, List.set_cons_zero, List.set_cons_succ, i64_w, i32_w]
    rfl
   refine pure_ (i := 3) (N := some 21) (v := ?_) (a' := ?_) #[true, true, true, true, false, false, false] rfl rfl (by kernel_rfl) (fun _ _ _ h => h) (Or.inl ⟨by rfl, ?_⟩) ?_ ?_
   rotate_left
   ·intro w'
    go_simp
    with_reducible rfl
   rotate_left
   ·simp only [Act.put, List.setIfInBounds_toArray, List.set_cons_zero, List.set_cons_succ, i64_w, i32_w]
    rfl
   obtain ⟨st, es1, cl1, hent0, hM4, hst⟩ := entry hHeld.2 WX.out; have hent : (Instr.mapEntry 48 (.map (some gm)) (.agg #[.int .i64 x.f0, .int .i64 x.f1, .int .i64 x.f2])).run Try.prog _ = .ok (.tuple #[.int .i64 (F x), goInt st]) _ := hent0; clear hent0
   refine one_ (i := 4) (N := some 22) #[true, true, true, true, true, false, false] rfl rfl (by kernel_rfl) (by decide) (fun K hK => ?_)
   refine value_ (v := .tuple #[.int .i64 (F x), goInt st]) (by rfl) rfl (by first | (go_simp; done) | (go_simp; rfl) | (go_simp; exact ⟨rfl, rfl⟩)) ?_
   clear hent; refine hK.out _ _ ⟨⟨(blk_cell (blk_block BK.out (HMap.out.keep rfl) _) 0).trans rfl, (blk_cell (blk_block BK.out (HMap.out.keep rfl) _) 1).trans rfl, (blk_cell (blk_block BK.out (HMap.out.keep rfl) _) 2).trans rfl⟩, hM4⟩ (fun hHeld2 => ?_); have KM4 := kp hM4; clear hK K hM4; refine nm_ (some 22) ?_
   refine pure_ (i := 5) (N := some 23) (v := ?_) (a' := ?_) #[true, true, true, true, true, true, false] rfl rfl (by kernel_rfl) (fun _ _ _ h => h) (Or.inl ⟨by rfl, ?_⟩) ?_ ?_
   rotate_left
   ·intro w'
    go_simp
    with_reducible rfl
   rotate_left
   ·simp only [Act.put, List.setIfInBounds_toArray, List.set_cons_zero, List.set_cons_succ, i64_w, i32_w]
    rfl
   obtain ⟨_, _, hb_, _⟩ := hHeld.2; obtain ⟨es2, cl2, hst2, hM5⟩ := hst _ (wrap64 (F x + 1)) (setBlock_at hb_); replace hst2 : (Instr.entryStore 48 (.map (some gm)) (.int .i64 (st : Int)) (.int .i64 (wrap64 (F x + 1)))).run Try.prog _ = .ok () _ := hst2
   refine last_ (i := 6) (N := none) #[true, true, true, true, true, true, true] rfl rfl (by kernel_rfl) (by decide) (fun K hK => ?_)
   refine skip_ (by rfl) rfl (by first | (go_simp; done) | (go_simp; rfl)) ?_
   refine hK.out _ _ ?_; clear hK K hst hst2 hHeld2; refine done_ (by kernel_rfl) ?_; have n0_ := kp (below_block (.map es2 cl2) (below_block (.map es1 cl1) (below_drew1 HB.out) GE.out) GE.out); have n1_ := kp hM5; clear HB HMap BK KM4 hHeld hb_ hM5; have HB := n0_; have HMap := n1_; clear n0_ n1_; generalize Go.ChangeMaps.setBlock (Go.ChangeMaps.setBlock w3.drew gm (.map es1 cl1)) gm (.map es2 cl2) = w6 at *; have e3 : IntKind.i64.wrap ((i : Int) + 1) = ((i + 1 : Nat) : Int) := by rw [i64_w]; unfold wrap64; have := HM.out; have := LT1.out; omega
   go_wp2
   go_roundg (l1.length - (i + 1))
   case measure => have := HI.out.2; have := LT1.out; omega
   case rel =>
    refine ⟨i + 1, by first | rfl | exact congrArg _ e3 | (simp [e3]), ⟨LT1.out, Nat.le_refl _⟩, ⟨?_⟩, HB⟩
    have e := cnts_snoc x (l1.take i) (fun _ => 0); rw [← HF.out, show l1.take i ++ [x] = l1.take (i + 1) from by rw [HX.out]; unfold rd_T36; rw [Int.toNat_natCast, List.getD_eq_getElem?_getD, List.take_add_one, List.getElem?_eq_getElem LT1.out]; rfl] at e; rw [e]; exact HMap.out
  ·have hltb : decide ((i : Int) < (l1.length : Int)) = false := decide_eq_false (by omega); have hltc : decide (i < l1.length) = false := decide_eq_false hlt; have HF0 : Aside0 (MapIs _ gm (cnts l1 (fun _ => 0))) := ⟨by have := HMap.out; rw [List.take_of_length_le (by omega)] at this; exact this⟩; clear hlt HMap HI W1 HM; rw [← HF00.out] at HF0
   go_wp2_with (first | ((with_reducible refine gate_dst (N := 25) rfl ?_); refine Kd.R_lit k36 _ 36 ?hg (N := 25) ?hd (xs := ([] : List S36)) (inner := []) (ok := fun _ => True) (okp := fun _ => True) ?hr ?hp (fun _ hk => hk) trivial (Below.refl _ _) (Nat.le_refl _) (by simp) ?_; (case hd => rfl); (case hg => rfl); (case hr => first | (go_simp; done) | (go_simp; rfl)); (case hp => exact (Reps.none _ _)); intro v25 w2 ho hb hg_ hnew_; clear hg_ hnew_; have n0_ := kp (Kd.R_lower ho (below_size HB.out)); have n1_ := kp (below_step HB.out hb); have n2_ := kp (MapIs.below HF0.out hb); clear HB HF0; have HO := n0_; have HB := n1_; have HMap := n2_; clear n0_ n1_ n2_; clear hb ho))
   (with_reducible refine (impl_SortRows.calls k _ _ l0 t _ ?side1 ?side2 AT.out).mono ?_)
   case side1 => exact (Kd.C_below HR0.out HB.out)
   case side2 => exact HC0.out
   rintro e w3 ⟨v27, rfl, ho, hb⟩; have n0_ := kp (Kd.R_mono (Kd.R_elder' HO.out (Kd.R_base ho) hb) (fun _ hk => hk.2)); have n1_ := kp (Kd.R_mono (Kd.R_lower (Kd.R_new' ho (Kd.R_lt HO.out)) (below_size HB.out)) (fun _ hk => hk.2)); have n2_ := kp (below_step HB.out hb); have n3_ := kp (MapIs.below HMap.out hb); clear HB HMap HO ho hb; have HO := n0_; have HS := n1_; have HB := n2_; have HMap := n3_; clear n0_ n1_ n2_ n3_; obtain ⟨A27, c27, e27⟩ := Kd.R_slice HS.out; subst e27; go_wp2
   go_loopg [8, 29] t.length (fun kq v8 v29 w' => ∃ (i : Nat) (xs : List S36) (F : S36 → Int), v29 = .int .i64 (i : Int) ∧ Aside0 (i ≤ t.length ∧ t.length - i ≤ kq ∧ xs.length ≤ i ∧ xs ++ bagD (t.drop i) F = bagD t F0) ∧ Aside0 (MapIs w' gm F) ∧ Aside0 (Kd.R k36 36 w' w.heap.size (fun k_ => some k_ ≠ (.slice A27 t.length c27 : Value).ownBlock) v8 xs) ∧ Aside0 (Kd.R k36 36 w' w.heap.size (fun k_ => some k_ ≠ (v8 : Value).ownBlock) (.slice A27 t.length c27) t) ∧ Aside0 (Below w.heap.size w w'))
   case atStart => exact ⟨0, [], F0, rfl, ⟨Nat.zero_le _, by omega, Nat.le_refl _, rfl⟩, HMap, HO, HS, HB⟩
   case round =>
    clear HB HMap HO HS; obtain ⟨j, xs, F, rfl, HJ, HMap, HO, HS, HB⟩ := hrel
    by_cases hlt : j < t.length
    ·have hltb : decide ((j : Int) < (t.length : Int)) = true := decide_eq_true (by omega); have hltc : decide (j < t.length) = true := decide_eq_true hlt; obtain ⟨A8, c8, e8⟩ := Kd.R_slice HO.out; subst e8; obtain ⟨ad, e0, hx0, hx1, hx2⟩ := at_T36 (Kd.R_reads' HS.out).2.2 (j : Int) (by omega) (by omega); cases e0; rw [Int.toNat_natCast] at hx0 hx1 hx2; have LT1 := kp hlt; have hp := eq_true (show (0 : Int) ≤ (j : Int) from Int.natCast_nonneg j); have hq := eq_true (show (j : Int) < (t.length : Int) from by omega); clear hlt; obtain ⟨x, hx⟩ : ∃ x, x = rd_T36 t (j : Int) := ⟨_, rfl⟩; rw [← hx] at hx0 hx1 hx2; have hx' : x = t[j]'LT1.out := by rw [hx]; unfold rd_T36; rw [Int.toNat_natCast, List.getD_eq_getElem?_getD, List.getElem?_eq_getElem LT1.out]; rfl
     have HX := kp (show t.drop j = x :: t.drop (j + 1) from by rw [hx']; exact List.drop_eq_getElem_cons LT1.out); have WX := kp (show wfR x = true from WT.out x (by rw [hx']; exact List.getElem_mem _)); have e3 : IntKind.i64.wrap ((j : Int) + 1) = ((j + 1 : Nat) : Int) := by rw [i64_w]; unfold wrap64; have := LT.out; have := LT1.out; omega
     clear hx hx'
     by_cases hF : F x > 0
     ·have hFb : decide (F x > 0) = true := decide_eq_true hF; have hFc : decide (0 < F x) = true := decide_eq_true hF; have HFx := kp hF; clear hF
      go_wp2_with (first | ((with_reducible refine gate_dst (N := 10) rfl ?_); refine bx_ 10 #[.int .i64 0, .int .i64 0, .int .i64 0] 36 ?_; intro gb hg w2 hbox hb; have n0_ := kp (below_step HB.out hb); have n1_ := kp hbox; have n2_ := kp (MapIs.below HMap.out hb); have n3_ := kp ((by rw [hg]; exact below_size HB.out) : w.heap.size ≤ gb); have n4_ := kp (Kd.R_below (Kd.R_elderB HO.out gb (Nat.le_of_eq hg.symm)) hb); have n5_ := kp (Kd.R_below (Kd.R_elderB HS.out gb (Nat.le_of_eq hg.symm)) hb); clear HB HMap HO HS; have HB := n0_; have BK := n1_; have HMap := n2_; have GEB := n3_; have HO := n4_; have HS := n5_; clear n0_ n1_ n2_ n3_ n4_ n5_; clear hb hbox hg; have hcz0 : w2.cell? ⟨gb, 0, none⟩ = some (.int .i64 0) := (blk_cell BK.out 0).trans rfl; have hcz1 : w2.cell? ⟨gb, 1, none⟩ = some (.int .i64 0) := (blk_cell BK.out 1).trans rfl; have hcz2 : w2.cell? ⟨gb, 2, none⟩ = some (.int .i64 0) := (blk_cell BK.out 2).trans rfl; have hfz0 := blk_frozen BK.out 0; have hfz1 := blk_frozen BK.out 1; have hfz2 := blk_frozen BK.out 2; have hne := HMap.out.ne BK.out; have hl : (Instr.lookup 48 (.map (some gm)) (.agg #[.int .i64 x.f0, .int .i64 x.f1, .int .i64 x.f2]) false).run Try.prog (((w2.setCell ⟨gb, 0, none⟩ (.int .i64 x.f0)).setCell ⟨gb, 1, none⟩ (.int .i64 x.f1)).setCell ⟨gb, 2, none⟩ (.int .i64 x.f2)) = .ok (.int .i64 (F x)) _ := look (MapIs.cell (MapIs.cell (MapIs.cell HMap.out (p := ⟨gb, 0, none⟩) hne (.int .i64 x.f0)) (p := ⟨gb, 1, none⟩) hne (.int .i64 x.f1)) (p := ⟨gb, 2, none⟩) hne (.int .i64 x.f2)) WX.out))
      clear hcz0 hcz1 hcz2 hfz0 hfz1 hfz2 hx0 hx1 hx2 hl; have n0_ := kp (below_set (below_set (below_set HB.out (j := 0) (v := .int .i64 x.f0) GEB.out) (j := 1) (v := .int .i64 x.f1) GEB.out) (j := 2) (v := .int .i64 x.f2) GEB.out); have n1_ := kp (blk_put (cs' := #[.int .i64 x.f0, .int .i64 x.f1, .int .i64 x.f2]) (blk_put (cs' := #[.int .i64 x.f0, .int .i64 x.f1, .int .i64 0]) (blk_put (cs' := #[.int .i64 x.f0, .int .i64 0, .int .i64 0]) BK.out 0 (.int .i64 x.f0) rfl) 1 (.int .i64 x.f1) rfl) 2 (.int .i64 x.f2) rfl); have n2_ := kp (MapIs.cell (MapIs.cell (MapIs.cell HMap.out (p := ⟨gb, 0, none⟩) hne (.int .i64 x.f0)) (p := ⟨gb, 1, none⟩) hne (.int .i64 x.f1)) (p := ⟨gb, 2, none⟩) hne (.int .i64 x.f2)); have n3_ := kp (Kd.R_far (p := ⟨gb, 2, none⟩) (Kd.R_far (p := ⟨gb, 1, none⟩) (Kd.R_far (p := ⟨gb, 0, none⟩) HO.out (fun _ hk => hk.2) (.int .i64 x.f0)) (fun _ hk => hk.2) (.int .i64 x.f1)) (fun _ hk => hk.2) (.int .i64 x.f2)); have n4_ := kp (Kd.R_far (p := ⟨gb, 2, none⟩) (Kd.R_far (p := ⟨gb, 1, none⟩) (Kd.R_far (p := ⟨gb, 0, none⟩) HS.out (fun _ hk => hk.2) (.int .i64 x.f0)) (fun _ hk => hk.2) (.int .i64 x.f1)) (fun _ hk => hk.2) (.int .i64 x.f2)); clear HB BK HMap HO HS; have HB := n0_; have BK := n1_; have HMap := n2_; have HO := n3_; have HS := n4_; clear n0_ n1_ n2_ n3_ n4_; clear hne; generalize ((w2.setCell ⟨gb, 0, none⟩ (.int .i64 x.f0)).setCell ⟨gb, 1, none⟩ (.int .i64 x.f1)).setCell ⟨gb, 2, none⟩ (.int .i64 x.f2) = w3 at *
      refine start_ (n := 7) (S := fun w' => (w'.cell? ⟨gb, 0, none⟩ = some (.int .i64 x.f0) ∧ w'.cell? ⟨gb, 1, none⟩ = some (.int .i64 x.f1) ∧ w'.cell? ⟨gb, 2, none⟩ = some (.int .i64 x.f2)) ∧ MapIs w' gm F) (ds := [6]) #[false, false, false, false, false, false, false] (by kernel_rfl) rfl rfl ⟨⟨(blk_cell BK.out 0).trans rfl, (blk_cell BK.out 1).trans rfl, (blk_cell BK.out 2).trans rfl⟩, HMap.out.keep rfl⟩ (fun hHeld => ?_)
      refine pure_ (i := 0) (N := some 37) (v := ?_) (a' := ?_) #[true, false, false, false, false, false, false] rfl rfl (by kernel_rfl) (fun _ _ _ h => h) (Or.inl ⟨by rfl, ?_⟩) ?_ ?_
      rotate_left
      ·intro w'
       go_simp
       with_reducible rfl
      rotate_left
      ·simp only [Act.put, List.setIfInBounds_toArray, List.set_cons_zero, List.set_cons_succ, i64_w, i32_w]
       rfl
      refine take_ (i := 1) (N := some 38) (v := ?_) (a' := ?_) #[true, true, false, false, false, false, false] rfl rfl (by kernel_rfl) (fun _ _ _ h => h) (Or.inl ⟨by rfl, ?_⟩) hHeld ?_ ?_
      rotate_left
      ·rintro w' ⟨⟨s0, s1, s2⟩, sm⟩
       go_simp
       with_reducible rfl
      rotate_left
      ·simp only [Act.put, List.setIfInBounds_toArray, List.set_cons_zero, List.set_cons_succ, i64_w, i32_w]
       rfl
      refine take_ (i := 2) (N := some 39) (v := ?_) (a' := ?_) #[true, true, true, false, false, false, false] rfl rfl (by kernel_rfl) (fun _ _ _ h => h) (Or.inl ⟨by rfl, ?_⟩) hHeld ?_ ?_
      rotate_left
      ·rintro w' ⟨⟨s0, s1, s2⟩, sm⟩; have hl : (Instr.lookup 48 (.map (some gm)) (.agg #[.int .i64 x.f0, .int .i64 x.f1, .int .i64 x.f2]) false).run Try.prog w' = .ok (.int .i64 (F x)) w' := look sm WX.out
       go_simp
       with_reducible rfl
      rotate_left
      ·simp only [Act.put, List.setIfInBounds_toArray, List.set_cons_zero, List.set_cons_succ, i64_w, i32_w]
       rfl
      refine pure_ (i := 3) (N := some 40) (v := ?_) (a' := ?_) #[true, true, true, true, false, false, false] rfl rfl (by kernel_rfl) (fun _ _ _ h => h) (Or.inl ⟨by rfl, ?_⟩) ?_ ?_
      rotate_left
      ·intro w'
       go_simp
       with_reducible rfl
      rotate_left
      ·simp only [Act.put, List.setIfInBounds_toArray, List.set_cons_zero, List.set_cons_succ, i64_w, i32_w]
       rfl
      obtain ⟨st, es1, cl1, hent0, hM4, hst⟩ := entry hHeld.2 WX.out; have hent : (Instr.mapEntry 48 (.map (some gm)) (.agg #[.int .i64 x.f0, .int .i64 x.f1, .int .i64 x.f2])).run Try.prog _ = .ok (.tuple #[.int .i64 (F x), goInt st]) _ := hent0; clear hent0
      refine one_ (i := 4) (N := some 41) #[true, true, true, true, true, false, false] rfl rfl (by kernel_rfl) (by decide) (fun K hK => ?_)
      refine value_ (v := .tuple #[.int .i64 (F x), goInt st]) (by rfl) rfl (by first | (go_simp; done) | (go_simp; rfl) | (go_simp; exact ⟨rfl, rfl⟩)) ?_
      clear hent; refine hK.out _ _ ⟨⟨(blk_cell (blk_block BK.out (HMap.out.keep rfl) _) 0).trans rfl, (blk_cell (blk_block BK.out (HMap.out.keep rfl) _) 1).trans rfl, (blk_cell (blk_block BK.out (HMap.out.keep rfl) _) 2).trans rfl⟩, hM4⟩ (fun hHeld2 => ?_); have KM4 := kp hM4; clear hK K hM4; refine nm_ (some 41) ?_
      refine pure_ (i := 5) (N := some 42) (v := ?_) (a' := ?_) #[true, true, true, true, true, true, false] rfl rfl (by kernel_rfl) (fun _ _ _ h => h) (Or.inl ⟨by rfl, ?_⟩) ?_ ?_
      rotate_left
      ·intro w'
       go_simp
       with_reducible rfl
      rotate_left
      ·simp only [Act.put, List.setIfInBounds_toArray, List.set_cons_zero, List.set_cons_succ, i64_w, i32_w]
       rfl
      obtain ⟨_, _, hb_, _⟩ := hHeld.2; obtain ⟨es2, cl2, hst2, hM5⟩ := hst _ (wrap64 (F x - 1)) (setBlock_at hb_); replace hst2 : (Instr.entryStore 48 (.map (some gm)) (.int .i64 (st : Int)) (.int .i64 (wrap64 (F x - 1)))).run Try.prog _ = .ok () _ := hst2
      refine last_ (i := 6) (N := none) #[true, true, true, true, true, true, true] rfl rfl (by kernel_rfl) (by decide) (fun K hK => ?_)
      refine skip_ (by rfl) rfl (by first | (go_simp; done) | (go_simp; rfl)) ?_
      refine hK.out _ _ ?_; clear hK K hst hst2 hHeld2; refine done_ (by kernel_rfl) ?_; have n0_ := kp (below_block (.map es2 cl2) (below_block (.map es1 cl1) (below_drew1 HB.out) GE.out) GE.out); have n1_ := kp hM5; have mHO_ := kp (R_block (R_block (Kd.R_drew HO.out) hHeld.2 (.map es1 cl1)) KM4.out (.map es2 cl2)); have mHS_ := kp (R_block (R_block (Kd.R_drew HS.out) hHeld.2 (.map es1 cl1)) KM4.out (.map es2 cl2)); clear HB HMap BK KM4 hHeld hb_ hM5 HO HS; have HB := n0_; have HMap := n1_; have HO := mHO_; have HS := mHS_; clear n0_ n1_ mHO_ mHS_; generalize Go.ChangeMaps.setBlock (Go.ChangeMaps.setBlock w3.drew gm (.map es1 cl1)) gm (.map es2 cl2) = w6 at *; go_wp2
      go_roundg (t.length - (j + 1))
      case measure => have := HJ.out.2.1; have := LT1.out; omega
      case rel =>
       refine ⟨j + 1, xs, upd F x (wrap64 (F x - 1)), by first | rfl | exact congrArg _ e3 | (simp [e3]), ⟨LT1.out, Nat.le_refl _, by have := HJ.out.2.2.1; omega, ?_⟩, HMap, ⟨Kd.R_mono HO.out (fun _ hk => hk.1)⟩, ⟨Kd.R_mono HS.out (fun _ hk => hk.1)⟩, HB⟩
       have := HJ.out.2.2.2; rw [HX.out, bagD, if_pos (by have := HFx.out; omega)] at this; exact this
     ·have hFb : decide (F x > 0) = false := decide_eq_false hF; have hFc : decide (0 < F x) = false := decide_eq_false hF; have HFx := kp hF; clear hF
      go_wp2_with (first | ((with_reducible refine gate_dst (N := 10) rfl ?_); refine bx_ 10 #[.int .i64 0, .int .i64 0, .int .i64 0] 36 ?_; intro gb hg w2 hbox hb; have n0_ := kp (below_step HB.out hb); have n1_ := kp hbox; have n2_ := kp (MapIs.below HMap.out hb); have n3_ := kp ((by rw [hg]; exact below_size HB.out) : w.heap.size ≤ gb); have n4_ := kp (Kd.R_below (Kd.R_elderB HO.out gb (Nat.le_of_eq hg.symm)) hb); have n5_ := kp (Kd.R_below (Kd.R_elderB HS.out gb (Nat.le_of_eq hg.symm)) hb); clear HB HMap HO HS; have HB := n0_; have BK := n1_; have HMap := n2_; have GEB := n3_; have HO := n4_; have HS := n5_; clear n0_ n1_ n2_ n3_ n4_ n5_; clear hb hbox hg; have hcz0 : w2.cell? ⟨gb, 0, none⟩ = some (.int .i64 0) := (blk_cell BK.out 0).trans rfl; have hcz1 : w2.cell? ⟨gb, 1, none⟩ = some (.int .i64 0) := (blk_cell BK.out 1).trans rfl; have hcz2 : w2.cell? ⟨gb, 2, none⟩ = some (.int .i64 0) := (blk_cell BK.out 2).trans rfl; have hfz0 := blk_frozen BK.out 0; have hfz1 := blk_frozen BK.out 1; have hfz2 := blk_frozen BK.out 2; have hne := HMap.out.ne BK.out; have hl : (Instr.lookup 48 (.map (some gm)) (.agg #[.int .i64 x.f0, .int .i64 x.f1, .int .i64 x.f2]) false).run Try.prog (((w2.setCell ⟨gb, 0, none⟩ (.int .i64 x.f0)).setCell ⟨gb, 1, none⟩ (.int .i64 x.f1)).setCell ⟨gb, 2, none⟩ (.int .i64 x.f2)) = .ok (.int .i64 (F x)) _ := look (MapIs.cell (MapIs.cell (MapIs.cell HMap.out (p := ⟨gb, 0, none⟩) hne (.int .i64 x.f0)) (p := ⟨gb, 1, none⟩) hne (.int .i64 x.f1)) (p := ⟨gb, 2, none⟩) hne (.int .i64 x.f2)) WX.out) | ((with_reducible refine gate_builtin (b := .append) (xs := #[.tmp 43, .tmp 45]) rfl ?_); at_builtin; have n0_ := kp (below_set (below_set (below_set HB.out (j := 0) (v := .int .i64 x.f0) GEB.out) (j := 1) (v := .int .i64 x.f1) GEB.out) (j := 2) (v := .int .i64 x.f2) GEB.out); have n1_ := kp (blk_put (cs' := #[.int .i64 x.f0, .int .i64 x.f1, .int .i64 x.f2]) (blk_put (cs' := #[.int .i64 x.f0, .int .i64 x.f1, .int .i64 0]) (blk_put (cs' := #[.int .i64 x.f0, .int .i64 0, .int .i64 0]) BK.out 0 (.int .i64 x.f0) rfl) 1 (.int .i64 x.f1) rfl) 2 (.int .i64 x.f2) rfl); have n2_ := kp (MapIs.cell (MapIs.cell (MapIs.cell HMap.out (p := ⟨gb, 0, none⟩) hne (.int .i64 x.f0)) (p := ⟨gb, 1, none⟩) hne (.int .i64 x.f1)) (p := ⟨gb, 2, none⟩) hne (.int .i64 x.f2)); have n3_ := kp (Kd.R_far (p := ⟨gb, 2, none⟩) (Kd.R_far (p := ⟨gb, 1, none⟩) (Kd.R_far (p := ⟨gb, 0, none⟩) HO.out (fun _ hk => hk.2) (.int .i64 x.f0)) (fun _ hk => hk.2) (.int .i64 x.f1)) (fun _ hk => hk.2) (.int .i64 x.f2)); have n4_ := kp (Kd.R_far (p := ⟨gb, 2, none⟩) (Kd.R_far (p := ⟨gb, 1, none⟩) (Kd.R_far (p := ⟨gb, 0, none⟩) HS.out (fun _ hk => hk.2) (.int .i64 x.f0)) (fun _ hk => hk.2) (.int .i64 x.f1)) (fun _ hk => hk.2) (.int .i64 x.f2)); clear HB BK HMap HO HS; have HB := n0_; have BK := n1_; have HMap := n2_; have HO := n3_; have HS := n4_; clear n0_ n1_ n2_ n3_ n4_; refine Kd.R_append k36 (w0 := w) w.heap.size rfl (.tmp 43) (.tmp 45) 25 36 (.agg #[(.int .i64 0), (.int .i64 0), (.int .i64 0)]) 24 rfl Try.underlying25 info36 rfl (by decide) (by omega) _ xs x [.int .i64 x.f0, .int .i64 x.f1, .int .i64 x.f2] (fun k_ => some k_ ≠ (.slice (some ad) t.length c27 : Value).ownBlock ∧ k_ ≠ gb) (fun _ => False) rfl (by first | rfl | (simp [Act.eval, World.setCell]; done) | (simp [Act.eval]; done)) ?aP (fun _ hk => hk.elim) ?aF ?aO ?aB ?aS ?aL ?_; (case aP => exact k36_mkM _ _ _ x); (case aB => exact HB.out); (case aF => exact (fun k_ hk => ⟨Kd.fresh' (Kd.R_lt HS.out) k_ hk, by have := blk_lt BK.out; omega⟩)); (case aO => exact HO.out); (case aS => exact below_size HB.out); (case aL => have := HJ.out.2.2.1; have := LT1.out; have := LT.out; omega); intro v46 w5 ho hb hg hat; have n0_ := kp (Kd.R_after (Kd.R_mono HS.out (fun _ hk => ⟨hk.2, hk.1⟩)) hg hat); have n1_ := kp hb; have n2_ := kp (MapIs.grown HMap.out hg (HMap.out.own HO.out)); have n3_ := kp ho; clear HB HMap HO HS BK; have HS := n0_; have HB := n1_; have HMap := n2_; have HO := n3_; clear n0_ n1_ n2_ n3_; clear ho hb hg hat))
      go_roundg (t.length - (j + 1))
      case measure => have := HJ.out.2.1; have := LT1.out; omega
      case rel =>
       refine ⟨j + 1, xs ++ [x], F, by first | rfl | exact congrArg _ e3 | (simp [e3]), ⟨LT1.out, Nat.le_refl _, by have := HJ.out.2.2.1; rw [List.length_append]; simp only [List.length_cons, List.length_nil]; omega, ?_⟩, HMap, ⟨Kd.R_mono HO.out (fun _ hk => hk.1)⟩, ⟨Kd.R_mono HS.out (fun _ hk => hk.2)⟩, HB⟩
       have := HJ.out.2.2.2; rw [HX.out, bagD, if_neg (by have := HFx.out; omega)] at this; rw [List.append_assoc]; exact this
    ·have hltb : decide ((j : Int) < (t.length : Int)) = false := decide_eq_false (by omega); have hltc : decide (j < t.length) = false := decide_eq_false hlt; have HE := kp (show xs = bagD t F0 from by have := HJ.out.2.2.2; rw [List.drop_eq_nil_of_le (by omega)] at this; simpa [bagD] using this); clear hlt; go_wp2; go_ret; exact ⟨_, rfl, by rw [← HE.out]; exact Kd.R_mono HO.out (fun _ _ => trivial), HB.out⟩
end Go.Proofs.Ytbcpfppiaeelbaa.PFnMultisets
