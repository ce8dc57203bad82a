/- The program's ChecksumOf answers as the reference's does, for all arguments that the statement lets in; no further condition. -/
import Derived.Test.YtolbgaaelkepkaaPFnExactChecksumOfx1
import Derived.Test.YtolbgaaelkepkaaCore
namespace Go.Proofs.Ytolbgaaelkepkaa.Pure
open Go.RowKit Go.Proofs.Ytolbgaaelkepkaa.PFnExactChecksumOf Go.Proofs.YtolbgaaelkepkaaW.PrintWords Go.Proofs.YtolbgaaelkepkaaW.PrintLast Go.Proofs.YtolbgaaelkepkaaW.PrintMore Go.Proofs.Ytolbgaaelkepkaa.Core
set_option linter.unusedVariables false
set_option linter.unusedSimpArgs false

def chkM (l : List UInt8) (x : Int) : Int := l.foldl (fun x b => (x * 37 + (b.toNat : Int) + 1) % 65521) x
theorem chk_step (x : Int) (s : ByteArray) (i : Int) (h0 : 0 ≤ x) (h1 : x < 65521) :
    Int.tmod (wrap64 ((wrap64 ((wrap64 (x * 37)) + (wrap64 (bt s i)))) + 1)) 65521 = (x * 37 + bt s i + 1) % 65521 := by
  have hb := bt_range s i
  rw [bt_w, w64 (x := x * 37) (by omega) (by omega), w64 (x := x * 37 + bt s i) (by omega) (by omega), w64 (by omega) (by omega), Int.tmod_eq_emod_of_nonneg (by omega)]
theorem spec_chk (s : ByteArray) (hs : s.size ≤ 140737488351232) : ∀ (l : List UInt8) (i : Nat) (x : Int), s.data.toList.drop i = l → 0 ≤ x → x < 65521 →
    Ev (fun k => spec_ChecksumOf.l0 k s x (i : Int)) (chkM l x) := by
  intro l
  induction l with
  | nil =>
    intro i x h h0 h1
    refine Ev.succ ?_
    simp only [spec_ChecksumOf.l0, if_neg (dropB_nil h)]
    exact Ev.now _
  | cons b l ih =>
    intro i x h h0 h1
    obtain ⟨h2, h3, h4⟩ := dropB_cons h
    have e := chk_step x s i h0 h1
    rw [h3] at e
    refine Ev.succ ?_
    simp only [spec_ChecksumOf.l0, if_pos h2, if_pos (Int.natCast_nonneg i), h3, e, nx hs h2]
    exact ih (i + 1) _ h4 (by omega) (by omega)
theorem impl_chk (s : ByteArray) (hs : s.size ≤ 140737488351232) : ∀ (l : List UInt8) (i : Nat) (x : Int), s.data.toList.drop i = l → 0 ≤ x → x < 65521 →
    Ev (fun k => impl_ChecksumOf.l0 k s x (s.size : Int) (i : Int)) (chkM l x) := by
  intro l
  induction l with
  | nil =>
    intro i x h h0 h1
    refine Ev.succ ?_
    simp only [impl_ChecksumOf.l0, if_neg (dropB_nil h)]
    exact Ev.now _
  | cons b l ih =>
    intro i x h h0 h1
    obtain ⟨h2, h3, h4⟩ := dropB_cons h
    have e := chk_step x s i h0 h1
    rw [h3] at e
    refine Ev.succ ?_
    simp only [impl_ChecksumOf.l0, if_pos h2, if_pos (Int.natCast_nonneg i), Int.mul_comm 37 x, h3, e, nx hs h2]
    exact ih (i + 1) _ h4 (by omega) (by omega)
theorem spec_ChecksumOf_ev (s : ByteArray) (hs : s.size ≤ 140737488351232) : Ev (fun k => spec_ChecksumOf.f k s) (chkM s.data.toList 11) := spec_chk s hs _ 0 11 rfl (by omega) (by omega)
theorem impl_ChecksumOf_ev (s : ByteArray) (hs : s.size ≤ 140737488351232) : Ev (fun k => impl_ChecksumOf.f k s) (chkM s.data.toList 11) := impl_chk s hs _ 0 11 rfl (by omega) (by omega)
theorem FnExactChecksumOf : laws_FnExactChecksumOf.Pure := by
  intro s hs
  refine Ev.rounds ?_
  simp only [laws_FnExactChecksumOf.f]
  by_cases h : (s.size : Int) > 1048576
  · simp only [if_pos h]; exact Ev.now _
  · simp only [if_neg h]
    refine Ev.bind (spec_ChecksumOf_ev s hs) ?_
    refine Ev.tl (impl_ChecksumOf_ev s hs) ?_
    simp

end Go.Proofs.Ytolbgaaelkepkaa.Pure
