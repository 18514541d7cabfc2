/- The pure statement of the law FnExactDigitOf: at every input that its guards let in the program's answer is the reference's. -/
import Derived.Test.YtnodpgddmkmngaaPFnExactDigitOfx1
import Derived.Test.YtnodpgddmkmngaaLib
import Derived.WalkKit
namespace Go.Proofs.Ytnodpgddmkmngaa.Pure
open Go.RowKit Go.Proofs.Ytnodpgddmkmngaa.PFnExactDigitOf Go.Proofs.YtnodpgddmkmngaaW.PrintWords Go.Proofs.YtnodpgddmkmngaaW.PrintLast Go.Proofs.Ytnodpgddmkmngaa.Lib
set_option linter.unusedVariables false
set_option linter.unusedSimpArgs false

/-! #### within -/
theorem within_eq (a b c : Int) : impl_within.f a b c = some (decide (b ≤ a ∧ a ≤ c)) := by
  unfold impl_within.f
  by_cases h : b ≤ a <;> simp [h]

/-! #### DigitOf -/
/-- The digit of a code point; -1: it is none. -/
def digitV (a : Int) : Int :=
  if 48 ≤ a ∧ a ≤ 57 then a - 48 else if 1632 ≤ a ∧ a ≤ 1641 then a - 1632 else if 1776 ≤ a ∧ a ≤ 1785 then a - 1776 else if 2406 ≤ a ∧ a ≤ 2415 then a - 2406 else if 65296 ≤ a ∧ a ≤ 65305 then a - 65296 else -1
theorem dg_at (b : Int) (hb : 0 ≤ b ∧ b ≤ 70000) : wrap64 (b + 9) = b + 9 := w64 (by omega) (by omega)
theorem dg_sub (a b : Int) (hb : 0 ≤ b ∧ b ≤ 70000) (h : b ≤ a) (h2 : a ≤ b + 9) : wrap64 (a - b) = a - b := w64 (by omega) (by omega)
theorem ev_spec_DigitOf (a : Int) (h : -9223372036854775808 ≤ a ∧ a ≤ 9223372036854775807) : Ev (fun k => spec_DigitOf.f k a) (digitV a) := by
  have key : spec_DigitOf.f 6 a = some (digitV a) := by
    unfold spec_DigitOf.f
    have r0 : rd [48, 1632, 1776, 2406, 65296] 0 = 48 := rfl
    have r1 : rd [48, 1632, 1776, 2406, 65296] 1 = 1632 := rfl
    have r2 : rd [48, 1632, 1776, 2406, 65296] 2 = 1776 := rfl
    have r3 : rd [48, 1632, 1776, 2406, 65296] 3 = 2406 := rfl
    have r4 : rd [48, 1632, 1776, 2406, 65296] 4 = 65296 := rfl
    have w0 : wrap64 (0 + 1) = 1 := w64 (by omega) (by omega)
    have w1 : wrap64 (1 + 1) = 2 := w64 (by omega) (by omega)
    have w2 : wrap64 (2 + 1) = 3 := w64 (by omega) (by omega)
    have w3 : wrap64 (3 + 1) = 4 := w64 (by omega) (by omega)
    have w4 : wrap64 (4 + 1) = 5 := w64 (by omega) (by omega)
    have v0 : wrap64 (48 + 9) = 57 := w64 (by omega) (by omega)
    have v1 : wrap64 (1632 + 9) = 1641 := w64 (by omega) (by omega)
    have v2 : wrap64 (1776 + 9) = 1785 := w64 (by omega) (by omega)
    have v3 : wrap64 (2406 + 9) = 2415 := w64 (by omega) (by omega)
    have v4 : wrap64 (65296 + 9) = 65305 := w64 (by omega) (by omega)
    have hl : (([48, 1632, 1776, 2406, 65296] : List Int).length : Int) = 5 := rfl
    simp only [spec_DigitOf.l0, hl, r0, r1, r2, r3, r4, w0, w1, w2, w3, w4, v0, v1, v2, v3, v4, ge_iff_le, ite2]
    unfold digitV
    simp only [Int.reduceLT, Int.reduceLE, if_true, if_false, ite_false, reduceIte]
    by_cases c0 : 48 ≤ a ∧ a ≤ 57
    · rw [if_pos c0, if_pos c0, w64 (by omega) (by omega)]
    rw [if_neg c0, if_neg c0]
    by_cases c1 : 1632 ≤ a ∧ a ≤ 1641
    · rw [if_pos c1, if_pos c1, w64 (by omega) (by omega)]
    rw [if_neg c1, if_neg c1]
    by_cases c2 : 1776 ≤ a ∧ a ≤ 1785
    · rw [if_pos c2, if_pos c2, w64 (by omega) (by omega)]
    rw [if_neg c2, if_neg c2]
    by_cases c3 : 2406 ≤ a ∧ a ≤ 2415
    · rw [if_pos c3, if_pos c3, w64 (by omega) (by omega)]
    rw [if_neg c3, if_neg c3]
    by_cases c4 : 65296 ≤ a ∧ a ≤ 65305
    · rw [if_pos c4, if_pos c4, w64 (by omega) (by omega)]
    rw [if_neg c4, if_neg c4]
  exact Ev.of (fun k => spec_DigitOf.mono a k) key
theorem ev_impl_DigitOf (a : Int) (h : -9223372036854775808 ≤ a ∧ a ≤ 9223372036854775807) : Ev (fun k => impl_DigitOf.f k a) (digitV a) := by
  have key : impl_DigitOf.f 6 a = some (digitV a) := by
    unfold impl_DigitOf.f
    have r0 : rd [48, 1632, 1776, 2406, 65296] 0 = 48 := rfl
    have r1 : rd [48, 1632, 1776, 2406, 65296] 1 = 1632 := rfl
    have r2 : rd [48, 1632, 1776, 2406, 65296] 2 = 1776 := rfl
    have r3 : rd [48, 1632, 1776, 2406, 65296] 3 = 2406 := rfl
    have r4 : rd [48, 1632, 1776, 2406, 65296] 4 = 65296 := rfl
    have w0 : wrap64 (0 + 1) = 1 := w64 (by omega) (by omega)
    have w1 : wrap64 (1 + 1) = 2 := w64 (by omega) (by omega)
    have w2 : wrap64 (2 + 1) = 3 := w64 (by omega) (by omega)
    have w3 : wrap64 (3 + 1) = 4 := w64 (by omega) (by omega)
    have w4 : wrap64 (4 + 1) = 5 := w64 (by omega) (by omega)
    have v0 : wrap64 (48 + 9) = 57 := w64 (by omega) (by omega)
    have v1 : wrap64 (1632 + 9) = 1641 := w64 (by omega) (by omega)
    have v2 : wrap64 (1776 + 9) = 1785 := w64 (by omega) (by omega)
    have v3 : wrap64 (2406 + 9) = 2415 := w64 (by omega) (by omega)
    have v4 : wrap64 (65296 + 9) = 65305 := w64 (by omega) (by omega)
    have hl : (([48, 1632, 1776, 2406, 65296] : List Int).length : Int) = 5 := rfl
    simp only [Option.bind_some, impl_DigitOf.l0, within_eq, decide_eq_true_eq, hl, r0, r1, r2, r3, r4, w0, w1, w2, w3, w4, v0, v1, v2, v3, v4]
    unfold digitV
    simp only [Int.reduceLT, Int.reduceLE, reduceIte]
    by_cases c0 : 48 ≤ a ∧ a ≤ 57
    · rw [if_pos c0, if_pos c0, w64 (by omega) (by omega)]
    rw [if_neg c0, if_neg c0]
    by_cases c1 : 1632 ≤ a ∧ a ≤ 1641
    · rw [if_pos c1, if_pos c1, w64 (by omega) (by omega)]
    rw [if_neg c1, if_neg c1]
    by_cases c2 : 1776 ≤ a ∧ a ≤ 1785
    · rw [if_pos c2, if_pos c2, w64 (by omega) (by omega)]
    rw [if_neg c2, if_neg c2]
    by_cases c3 : 2406 ≤ a ∧ a ≤ 2415
    · rw [if_pos c3, if_pos c3, w64 (by omega) (by omega)]
    rw [if_neg c3, if_neg c3]
    by_cases c4 : 65296 ≤ a ∧ a ≤ 65305
    · rw [if_pos c4, if_pos c4, w64 (by omega) (by omega)]
    rw [if_neg c4, if_neg c4]
  exact Ev.of (fun k => impl_DigitOf.mono a k) key

/-! #### law_FnExactDigitOf -/
theorem FnExactDigitOf : laws_FnExactDigitOf.Pure := by
  intro a h
  have e : Ev (fun k => laws_FnExactDigitOf.f k a) true := by
    unfold laws_FnExactDigitOf.f
    refine Ev.bind (ev_spec_DigitOf a (wfI h)) (Ev.bind (ev_impl_DigitOf a (wfI h)) ?_)
    simp only [if_true]
    exact Ev.now _
  exact e.rounds

end Go.Proofs.Ytnodpgddmkmngaa.Pure
