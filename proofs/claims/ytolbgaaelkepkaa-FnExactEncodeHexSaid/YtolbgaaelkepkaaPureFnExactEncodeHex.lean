/- The program's EncodeHex answers as the reference's does, for all arguments that the statement lets in; no further condition. -/
import Derived.Test.YtolbgaaelkepkaaPFnExactEncodeHexx1
import Derived.Test.YtolbgaaelkepkaaCore
namespace Go.Proofs.Ytolbgaaelkepkaa.Pure
open Go.RowKit Go.Proofs.Ytolbgaaelkepkaa.PFnExactEncodeHex Go.Proofs.YtolbgaaelkepkaaW.PrintWords Go.Proofs.YtolbgaaelkepkaaW.PrintLast Go.Proofs.YtolbgaaelkepkaaW.PrintMore Go.Proofs.Ytolbgaaelkepkaa.Core
set_option linter.unusedVariables false
set_option linter.unusedSimpArgs false

def hexI (n : Int) : Int := if n < 10 then 48 + n else 87 + n
def hexL : List UInt8 → List Int
  | [] => []
  | b :: l => hexI ((b.toNat : Int) / 16) :: hexI ((b.toNat : Int) % 16) :: hexL l
theorem hexL_length (l : List UInt8) : (hexL l).length = 2 * l.length := by
  induction l with
  | nil => rfl
  | cons b l ih => simp [hexL, ih]; omega
theorem hex_tab (n : Int) (h0 : 0 ≤ n) (h1 : n < 16) : bt (⟨#[48, 49, 50, 51, 52, 53, 54, 55, 56, 57, 97, 98, 99, 100, 101, 102]⟩ : ByteArray) n = hexI n := by
  have : n = 0 ∨ n = 1 ∨ n = 2 ∨ n = 3 ∨ n = 4 ∨ n = 5 ∨ n = 6 ∨ n = 7 ∨ n = 8 ∨ n = 9 ∨ n = 10 ∨ n = 11 ∨ n = 12 ∨ n = 13 ∨ n = 14 ∨ n = 15 := by omega
  rcases this with rfl | rfl | rfl | rfl | rfl | rfl | rfl | rfl | rfl | rfl | rfl | rfl | rfl | rfl | rfl | rfl <;> rfl
theorem l1Digit_f (n : Int) (h0 : 0 ≤ n) (h1 : n < 16) : spec_l1Digit.f n = some (hexI n) := by
  unfold spec_l1Digit.f
  rw [if_pos h0, if_pos h1, hex_tab n h0 h1]
theorem hx_div (v : Int) (h0 : 0 ≤ v) (h1 : v ≤ 255) : wrap64 (Int.tdiv (wrap64 v) 16) = v / 16 := by
  rw [w64 (x := v) (by omega) (by omega), Int.tdiv_eq_ediv_of_nonneg h0, w64 (by omega) (by omega)]
theorem hx_mod (v : Int) (h0 : 0 ≤ v) (h1 : v ≤ 255) : Int.tmod (wrap64 v) 16 = v % 16 := by
  rw [w64 (x := v) (by omega) (by omega), Int.tmod_eq_emod_of_nonneg h0]
theorem spec_hex (s : ByteArray) (hs : s.size ≤ 140737488351232) : ∀ (l : List UInt8) (i : Nat) (x : List Int), s.data.toList.drop i = l → x.length + 2 * l.length < 140737488355328 →
    Ev (fun k => spec_EncodeHex.l0 k s x (i : Int)) (strOfNums (x ++ hexL l)) := by
  intro l
  induction l with
  | nil =>
    intro i x h hx
    refine Ev.succ ?_
    simp only [spec_EncodeHex.l0, if_neg (dropB_nil h), hexL, List.append_nil]
    exact Ev.now _
  | cons b l ih =>
    intro i x h hx
    obtain ⟨h2, h3, h4⟩ := dropB_cons h
    have hb : (b.toNat : Int) ≤ 255 := by have := bt255 s i; omega
    simp only [List.length_cons] at hx
    refine Ev.succ ?_
    simp only [spec_EncodeHex.l0, if_pos h2, if_pos (Int.natCast_nonneg i), h3, hx_div _ (Int.natCast_nonneg b.toNat) hb, hx_mod _ (Int.natCast_nonneg b.toNat) hb, l1Digit_f ((b.toNat : Int) / 16) (by omega) (by omega), l1Digit_f ((b.toNat : Int) % 16) (by omega) (by omega), Option.bind_some, nx hs h2]
    refine Ev.pos (by simp only [List.length_cons, List.length_nil]; omega) ?_
    have e : x ++ hexL (b :: l) = (x ++ [hexI ((b.toNat : Int) / 16), hexI ((b.toNat : Int) % 16)]) ++ hexL l := by simp [hexL]
    rw [e]
    exact ih (i + 1) _ h4 (by simp only [List.length_append, List.length_cons, List.length_nil]; omega)
theorem impl_hex (s : ByteArray) (hs : s.size ≤ 140737488351232) : ∀ (l : List UInt8) (i : Nat) (x : List Int), s.data.toList.drop i = l → x.length + 2 * l.length < 140737488355328 →
    Ev (fun k => impl_EncodeHex.l0 k s x (s.size : Int) (i : Int)) (strOfNums (x ++ hexL l)) := by
  intro l
  induction l with
  | nil =>
    intro i x h hx
    refine Ev.succ ?_
    simp only [impl_EncodeHex.l0, if_neg (dropB_nil h), hexL, List.append_nil]
    exact Ev.now _
  | cons b l ih =>
    intro i x h hx
    obtain ⟨h2, h3, h4⟩ := dropB_cons h
    have hb : (b.toNat : Int) ≤ 255 := by have := bt255 s i; omega
    simp only [List.length_cons] at hx
    have hm : Go.bits .and .u8 (b.toNat : Int) 15 = (b.toNat : Int) % 16 := u8_and15 _ (Int.natCast_nonneg _) (by omega)
    refine Ev.succ ?_
    simp only [impl_EncodeHex.l0, if_pos h2, if_pos (Int.natCast_nonneg i), h3, hm]
    refine Ev.pos (by omega) (Ev.pos (by omega) (Ev.pos (by omega) (Ev.pos (by omega) ?_)))
    simp only [hex_tab ((b.toNat : Int) / 16) (by omega) (by omega), hex_tab ((b.toNat : Int) % 16) (by omega) (by omega), Option.bind_some, nx hs h2]
    refine Ev.pos (by simp only [List.length_cons, List.length_nil]; omega) ?_
    have e : x ++ hexL (b :: l) = (x ++ [hexI ((b.toNat : Int) / 16), hexI ((b.toNat : Int) % 16)]) ++ hexL l := by simp [hexL]
    rw [e]
    exact ih (i + 1) _ h4 (by simp only [List.length_append, List.length_cons, List.length_nil]; omega)
theorem spec_EncodeHex_ev (s : ByteArray) (hs : 2 * s.size < 140737488355328) : Ev (fun k => spec_EncodeHex.f k s) (strOfNums (hexL s.data.toList)) := by
  have := spec_hex s (by omega) s.data.toList 0 [] rfl (by rw [← ba_size]; simpa using hs)
  rw [List.nil_append] at this
  exact this
theorem impl_EncodeHex_ev (s : ByteArray) (hs : 2 * s.size < 140737488355328) : Ev (fun k => impl_EncodeHex.f k s) (strOfNums (hexL s.data.toList)) := by
  have := impl_hex s (by omega) s.data.toList 0 [] rfl (by rw [← ba_size]; simpa using hs)
  rw [List.nil_append] at this
  exact this
theorem FnExactEncodeHex : laws_FnExactEncodeHex.Pure := by
  intro s hs
  refine Ev.rounds ?_
  simp only [laws_FnExactEncodeHex.f]
  by_cases h : (s.size : Int) > 1048576
  · simp only [if_pos h]; exact Ev.now _
  · simp only [if_neg h]
    refine Ev.bind (spec_EncodeHex_ev s (by omega)) ?_
    refine Ev.tl (impl_EncodeHex_ev s (by omega)) ?_
    simp

end Go.Proofs.Ytolbgaaelkepkaa.Pure
