/- The pure statement of the law FnExactFlUnpack: at every input that its guards let in the program's answer is the reference's. -/
import Derived.Test.YtnodpgddmkmngaaPFnExactFlUnpackx2
import Derived.Test.YtnodpgddmkmngaaLib
import Derived.WalkKit
namespace Go.Proofs.Ytnodpgddmkmngaa.Pure
open Go.RowKit Go.Proofs.Ytnodpgddmkmngaa.PFnExactFlUnpack Go.Proofs.YtnodpgddmkmngaaW.PrintWords Go.Proofs.YtnodpgddmkmngaaW.PrintLast Go.Proofs.Ytnodpgddmkmngaa.Lib
set_option linter.unusedVariables false
set_option linter.unusedSimpArgs false

/-! #### within -/
theorem within_eq (a b c : Int) : impl_within.f a b c = some (decide (b ≤ a ∧ a ≤ c)) := by
  unfold impl_within.f
  by_cases h : b ≤ a <;> simp [h]

/-! #### FlUnpack -/
/-- What 64 bits in two words tell. -/
def unpackV (a b : Int) : Int × Bool × Int × Int × Bool :=
  if 0 ≤ a ∧ a ≤ 4294967295 ∧ 0 ≤ b ∧ b ≤ 4294967295 then
    if a / 1048576 % 2048 = 2047 then
      if a % 1048576 * 4294967296 + b = 0 then (2, a / 2147483648 == 1, 0, 0, true) else (3, false, 0, 0, true)
    else if a / 1048576 % 2048 = 0 then
      if a % 1048576 * 4294967296 + b = 0 then (0, a / 2147483648 == 1, 0, 0, true) else (1, a / 2147483648 == 1, a % 1048576 * 4294967296 + b, -1074, true)
    else (1, a / 2147483648 == 1, a % 1048576 * 4294967296 + b + 4503599627370496, a / 1048576 % 2048 - 1075, true)
  else (0, false, 0, 0, false)
theorem spec_FlUnpack_3 (a b : Int) : spec_FlUnpack.f 3 a b = some (unpackV a b) := by
  unfold spec_FlUnpack.f unpackV
  simp only [spec_FlUnpack.j0]
  by_cases h : 0 ≤ a ∧ a ≤ 4294967295 ∧ 0 ≤ b ∧ b ≤ 4294967295
  · rw [if_pos h, if_neg (by omega), if_neg (by omega), if_neg (by omega), if_neg (by simp; omega)]
    rw [and_2047 _ (by omega) (by omega), and_20 _ (by omega) (by omega), w64 (x := a % 1048576 * 4294967296) (by omega) (by omega), w64 (x := a % 1048576 * 4294967296 + b) (by omega) (by omega)]
    generalize hF : a % 1048576 * 4294967296 + b = F
    have hF0 : 0 ≤ F ∧ F < 4503599627370496 := by omega
    generalize hE : a / 1048576 % 2048 = E
    have hE0 : 0 ≤ E ∧ E < 2048 := by omega
    by_cases e1 : E = 2047
    · subst e1
      by_cases f1 : F = 0
      · subst f1; simp [spec_FlUnpack.j1]
      · simp [spec_FlUnpack.j1, f1, spec_l5nan.f, show F > 0 by omega]
    · rw [if_neg e1, if_neg e1]
      by_cases e0 : E = 0
      · subst e0
        by_cases f1 : F = 0
        · subst f1; simp [spec_FlUnpack.j1, spec_FlUnpack.j2]
        · simp [spec_FlUnpack.j1, spec_FlUnpack.j2, f1]
      · simp only [spec_FlUnpack.j1, spec_FlUnpack.j2, if_neg e1, if_neg e0, Bool.false_eq_true, if_false]
        rw [w64 (by omega) (by omega), w64 (x := E - 1) (by omega) (by omega), w64 (by omega) (by omega), show E - 1 + -1074 = E - 1075 by omega]
  · rw [if_neg h]
    simp only [if_true]
    by_cases g1 : a < 0
    · rw [if_pos g1]
    rw [if_neg g1]
    by_cases g2 : a ≥ 4294967296
    · rw [if_pos g2]
    rw [if_neg g2]
    by_cases g3 : b < 0
    · rw [if_pos g3]
    rw [if_neg g3, if_pos (by simp; omega)]
theorem impl_FlUnpack_3 (a b : Int) : impl_FlUnpack.f 3 a b = some (unpackV a b) := by
  unfold impl_FlUnpack.f impl_isWord.f unpackV
  simp only [within_eq, Option.bind_some, impl_FlUnpack.j0]
  by_cases h : 0 ≤ a ∧ a ≤ 4294967295 ∧ 0 ≤ b ∧ b ≤ 4294967295
  · rw [if_pos h, if_pos (by simp; omega), if_neg (by simp; omega)]
    rw [and_2047 _ (by omega) (by omega), and_20 _ (by omega) (by omega), w64 (x := a % 1048576 * 4294967296) (by omega) (by omega)]
    rw [or_join 32 (a % 1048576 * 4294967296) b (by omega) (by omega) (by omega) (by omega) (by omega) (by omega)]
    generalize hF : a % 1048576 * 4294967296 + b = F
    have hF0 : 0 ≤ F ∧ F < 4503599627370496 := by omega
    generalize hE : a / 1048576 % 2048 = E
    have hE0 : 0 ≤ E ∧ E < 2048 := by omega
    by_cases e1 : E = 2047
    · subst e1
      by_cases f1 : F = 0
      · subst f1; simp [impl_FlUnpack.j1]
      · simp [impl_FlUnpack.j1, f1, impl_nan.f]
    · rw [if_neg e1, if_neg e1]
      by_cases e0 : E = 0
      · subst e0
        by_cases f1 : F = 0
        · subst f1; simp [impl_FlUnpack.j1]
        · simp [impl_FlUnpack.j1, f1, show 0 < F by omega]
      · simp only [impl_FlUnpack.j1, if_neg e1, if_neg e0, Bool.false_eq_true, if_false]
        rw [if_pos (show E > 0 by omega)]
        rw [show Go.bits .or .i64 F 4503599627370496 = F + 4503599627370496 from by
          rw [bits_or_comm, or_join 52 4503599627370496 F (by omega) (by omega) (by decide) (by omega) (by omega) (by omega)]; omega]
        rw [w64 (x := E + -1074) (by omega) (by omega), w64 (by omega) (by omega), show E + -1074 - 1 = E - 1075 by omega]
  · rw [if_neg h]
    simp only [decide_eq_true_eq]
    by_cases h1 : 0 ≤ a ∧ a ≤ 4294967295
    · rw [if_pos h1, if_pos (by simp; omega)]
    · rw [if_neg h1]; simp

/-! #### eqFl -/
theorem eqFl_same (a : Int) (b : Bool) (c d : Int) : laws_eqFl.f a b c d a b c d = some true := by
  unfold laws_eqFl.f
  simp

/-! #### law_FnExactFlUnpack -/
theorem FnExactFlUnpack : laws_FnExactFlUnpack.Pure := by
  intro a b _ _
  refine ⟨3, ?_⟩
  unfold laws_FnExactFlUnpack.f
  rw [spec_FlUnpack_3, impl_FlUnpack_3]
  simp only [Option.bind_some, eqFl_same]
  simp

end Go.Proofs.Ytnodpgddmkmngaa.Pure
