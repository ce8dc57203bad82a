/- The program's DecodeHex answers as the reference's does, for all arguments that the statement lets in; no further condition. -/
import Derived.Test.YtdegdgliijcjbaaPFnExactDecodeHexx1
import Derived.Test.YtdegdgliijcjbaaCore
namespace Go.Proofs.Ytdegdgliijcjbaa.Pure
open Go.RowKit Go.Proofs.Ytdegdgliijcjbaa.PFnExactDecodeHex Go.Proofs.YtdegdgliijcjbaaW.PrintWords Go.Proofs.YtdegdgliijcjbaaW.PrintLast Go.Proofs.YtdegdgliijcjbaaW.PrintMore Go.Proofs.Ytdegdgliijcjbaa.Core
set_option linter.unusedVariables false
set_option linter.unusedSimpArgs false

def hexI (n : Int) : Int := if n < 10 then 48 + n else 87 + n
theorem hex_tab (n : Int) (h0 : 0 ≤ n) (h1 : n < 16) : bt (⟨#[48, 49, 50, 51, 52, 53, 54, 55, 56, 57, 97, 98, 99, 100, 101, 102]⟩ : ByteArray) n = hexI n := by
  have : n = 0 ∨ n = 1 ∨ n = 2 ∨ n = 3 ∨ n = 4 ∨ n = 5 ∨ n = 6 ∨ n = 7 ∨ n = 8 ∨ n = 9 ∨ n = 10 ∨ n = 11 ∨ n = 12 ∨ n = 13 ∨ n = 14 ∨ n = 15 := by omega
  rcases this with rfl | rfl | rfl | rfl | rfl | rfl | rfl | rfl | rfl | rfl | rfl | rfl | rfl | rfl | rfl | rfl <;> rfl
def hvF (c : Int) : Nat → Int → Int
  | 0, _ => -1
  | d + 1, i => if hexI i = c then i else hvF c d (i + 1)
@[irreducible] def hexV (c : Int) : Int := hvF c 16 0
theorem hvF_le (c : Int) : ∀ (d : Nat) (i : Int), i + d = 16 → hvF c d i ≤ 15
  | 0, i, h => by unfold hvF; decide
  | d + 1, i, h => by
    unfold hvF
    split
    · omega
    · exact hvF_le c d (i + 1) (by omega)
theorem hexV_le (c : Int) : hexV c ≤ 15 := by unfold hexV; exact hvF_le c 16 0 (by omega)
def dhM : List UInt8 → List Int → ByteArray × Bool
  | [], x => (strOfNums x, true)
  | [_], x => (strOfNums x, true)
  | a :: b :: r, x => if hexV (a.toNat : Int) < 0 then (⟨#[]⟩, false) else if hexV (b.toNat : Int) < 0 then (⟨#[]⟩, false) else dhM r (x ++ [16 * hexV (a.toNat : Int) + hexV (b.toNat : Int)])
theorem hx_join (a b : Int) (h1 : 0 ≤ a) (h2 : a ≤ 15) (h3 : 0 ≤ b) (h4 : b ≤ 15) : (wrap64 ((wrap64 (16 * a)) + b)) % 256 = 16 * a + b := by
  rw [w64 (x := 16 * a) (by omega) (by omega), w64 (by omega) (by omega)]; omega
theorem l1Digit_f (n : Int) (h0 : 0 ≤ n) (h1 : n < 16) : spec_l1Digit.f n = some (hexI n) := by
  unfold spec_l1Digit.f
  rw [if_pos h0, if_pos h1, hex_tab n h0 h1]
theorem spec_hexV_ev (c : Int) : Ev (fun k => spec_l1FromHex.f k c) (hexV c) := by
  have key : ∀ (d : Nat) (i : Int), 0 ≤ i → i + d = 16 → Ev (fun k => spec_l1FromHex.l0 k c i) (hvF c d i) := by
    intro d
    induction d with
    | zero =>
      intro i h0 h
      refine Ev.succ ?_
      simp only [spec_l1FromHex.l0, hvF]
      exact Ev.neg (by omega) (Ev.now _)
    | succ d ih =>
      intro i h0 h
      refine Ev.succ ?_
      simp only [spec_l1FromHex.l0, hvF, l1Digit_f i h0 (by omega), Option.bind_some, w64 (x := i + 1) (by omega) (by omega)]
      refine Ev.pos (by omega) ?_
      by_cases hc : hexI i = c
      · rw [if_pos hc]; exact Ev.pos hc (Ev.now _)
      · rw [if_neg hc]; exact Ev.neg hc (ih (i + 1) (by omega) (by omega))
  unfold hexV
  exact key 16 0 (by omega) (by omega)
def dhR (s : ByteArray) : ByteArray × Bool := if s.size % 2 = 0 then dhM s.data.toList [] else (⟨#[]⟩, false)
theorem spec_dh (s : ByteArray) (hs : s.size ≤ 140737488351232) : ∀ (m : Nat) (l : List UInt8) (i : Nat) (x : List Int), l.length = 2 * m → s.data.toList.drop i = l → x.length + m < 140737488355328 →
    Ev (fun k => spec_DecodeHex.l0 k s x (i : Int)) (dhM l x) := by
  intro m
  induction m with
  | zero =>
    intro l i x hm h hx
    obtain rfl : l = [] := List.eq_nil_of_length_eq_zero (by omega)
    refine Ev.succ ?_
    simp only [spec_DecodeHex.l0]
    exact Ev.neg (dropB_nil h) (Ev.now _)
  | succ m ih =>
    intro l i x hm h hx
    match l, hm with
    | a :: b :: r, hm =>
      obtain ⟨h1, h2, h3⟩ := dropB_cons h
      obtain ⟨h4, h5, h6⟩ := dropB_cons h3
      have e1 : wrap64 ((i : Int) + 1) = ((i + 1 : Nat) : Int) := nx hs h1
      have e2 : wrap64 ((i : Int) + 2) = ((i + 1 + 1 : Nat) : Int) := nx2 hs h4
      refine Ev.succ ?_
      simp only [spec_DecodeHex.l0, e1, e2, h2, h5, dhM]
      clear h2 h5 e1 e2
      refine Ev.pos h1 (Ev.pos (Int.natCast_nonneg _) (Ev.bind (spec_hexV_ev _) (Ev.pos (Int.natCast_nonneg _) (Ev.pos h4 (Ev.bind (spec_hexV_ev _) ?_)))))
      by_cases ha : hexV (a.toNat : Int) < 0
      · rw [if_pos ha]; exact Ev.pos ha (Ev.now _)
      · rw [if_neg ha]
        refine Ev.neg ha ?_
        by_cases hb : hexV (b.toNat : Int) < 0
        · rw [if_pos hb]; exact Ev.pos hb (Ev.now _)
        · rw [if_neg hb]
          have ba := hexV_le (a.toNat : Int)
          have bb := hexV_le (b.toNat : Int)
          simp only [hx_join _ _ (show 0 ≤ hexV (a.toNat : Int) by omega) ba (show 0 ≤ hexV (b.toNat : Int) by omega) bb]
          exact Ev.neg hb (Ev.pos (by omega) (ih r (i + 1 + 1) _ (by simp only [List.length_cons] at hm; omega) h6 (by simp only [List.length_append, List.length_cons, List.length_nil]; omega)))
theorem spec_DecodeHex_ev (s : ByteArray) (hs : s.size ≤ 140737488351232) : Ev (fun k => spec_DecodeHex.f k s) (dhR s) := by
  simp only [spec_DecodeHex.f]
  unfold dhR
  by_cases h : s.size % 2 = 0
  · rw [if_pos h]
    refine Ev.neg (by omega) (spec_dh s hs (s.size / 2) _ 0 [] ?_ rfl (by simp only [List.length_nil]; omega))
    rw [← ba_size]; omega
  · rw [if_neg h]; exact Ev.pos (by omega) (Ev.now _)
theorem impl_hexV_ev (c : Int) : Ev (fun k => impl_hexValue.f k c) (hexV c) := by
  have key : ∀ (d : Nat) (i : Int), 0 ≤ i → i + d = 16 → Ev (fun k => impl_hexValue.l0 k c i) (hvF c d i) := by
    intro d
    induction d with
    | zero =>
      intro i h0 h
      refine Ev.succ ?_
      simp only [impl_hexValue.l0, hvF]
      exact Ev.neg (by omega) (Ev.now _)
    | succ d ih =>
      intro i h0 h
      refine Ev.succ ?_
      simp only [impl_hexValue.l0, hvF, hex_tab i h0 (by omega), w64 (x := i + 1) (by omega) (by omega)]
      refine Ev.pos (by omega) (Ev.pos h0 ?_)
      by_cases hc : hexI i = c
      · rw [if_pos hc]; exact Ev.pos hc (Ev.now _)
      · rw [if_neg hc]; exact Ev.neg hc (ih (i + 1) (by omega) (by omega))
  unfold hexV
  exact key 16 0 (by omega) (by omega)
theorem impl_dh (s : ByteArray) (hs : s.size ≤ 140737488351232) : ∀ (m : Nat) (l : List UInt8) (i : Nat) (x : List Int), l.length = 2 * m → s.data.toList.drop i = l → x.length + m < 140737488355328 →
    Ev (fun k => impl_DecodeHex.l0 k s x (i : Int)) (dhM l x) := by
  intro m
  induction m with
  | zero =>
    intro l i x hm h hx
    obtain rfl : l = [] := List.eq_nil_of_length_eq_zero (by omega)
    refine Ev.succ ?_
    simp only [impl_DecodeHex.l0]
    exact Ev.neg (dropB_nil h) (Ev.now _)
  | succ m ih =>
    intro l i x hm h hx
    match l, hm with
    | a :: b :: r, hm =>
      obtain ⟨h1, h2, h3⟩ := dropB_cons h
      obtain ⟨h4, h5, h6⟩ := dropB_cons h3
      have e1 : wrap64 ((i : Int) + 1) = ((i + 1 : Nat) : Int) := nx hs h1
      have e2 : wrap64 ((i : Int) + 2) = ((i + 1 + 1 : Nat) : Int) := nx2 hs h4
      refine Ev.succ ?_
      simp only [impl_DecodeHex.l0, e1, e2, h2, h5, dhM]
      clear h2 h5 e1 e2
      refine Ev.pos h1 (Ev.pos (Int.natCast_nonneg _) (Ev.bind (impl_hexV_ev _) (Ev.pos (Int.natCast_nonneg _) (Ev.pos h4 (Ev.bind (impl_hexV_ev _) ?_)))))
      by_cases ha : hexV (a.toNat : Int) < 0
      · rw [if_pos ha]; exact Ev.pos ha (Ev.now _)
      · rw [if_neg ha]
        refine Ev.neg ha ?_
        by_cases hb : hexV (b.toNat : Int) < 0
        · rw [if_pos hb]; exact Ev.pos hb (Ev.now _)
        · rw [if_neg hb]
          have ba := hexV_le (a.toNat : Int)
          have bb := hexV_le (b.toNat : Int)
          simp only [hx_join _ _ (show 0 ≤ hexV (a.toNat : Int) by omega) ba (show 0 ≤ hexV (b.toNat : Int) by omega) bb]
          exact Ev.neg hb (Ev.pos (by omega) (ih r (i + 1 + 1) _ (by simp only [List.length_cons] at hm; omega) h6 (by simp only [List.length_append, List.length_cons, List.length_nil]; omega)))
theorem impl_DecodeHex_ev (s : ByteArray) (hs : s.size ≤ 140737488351232) : Ev (fun k => impl_DecodeHex.f k s) (dhR s) := by
  simp only [impl_DecodeHex.f]
  unfold dhR
  by_cases h : s.size % 2 = 0
  · rw [if_pos h]
    refine Ev.pos (by omega) (impl_dh s hs (s.size / 2) _ 0 [] ?_ rfl (by simp only [List.length_nil]; omega))
    rw [← ba_size]; omega
  · rw [if_neg h]; exact Ev.neg (by omega) (Ev.now _)
theorem FnExactDecodeHex : laws_FnExactDecodeHex.Pure := by
  intro s hs
  refine Ev.rounds ?_
  simp only [laws_FnExactDecodeHex.f]
  by_cases h : (s.size : Int) > 1048576
  · exact Ev.pos h (Ev.now _)
  · refine Ev.neg h (Ev.bind (spec_DecodeHex_ev s hs) (Ev.tl (impl_DecodeHex_ev s hs) ?_))
    simp

end Go.Proofs.Ytdegdgliijcjbaa.Pure
