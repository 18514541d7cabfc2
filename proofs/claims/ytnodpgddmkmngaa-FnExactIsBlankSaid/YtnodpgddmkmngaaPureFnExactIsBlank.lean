/- The pure statement of the law FnExactIsBlank: at every input that its guards let in the program's answer is the reference's. -/
import Derived.Test.YtnodpgddmkmngaaPFnExactIsBlankx1
import Derived.Test.YtnodpgddmkmngaaLib
import Derived.WalkKit
namespace Go.Proofs.Ytnodpgddmkmngaa.Pure
open Go.RowKit Go.Proofs.Ytnodpgddmkmngaa.PFnExactIsBlank Go.Proofs.YtnodpgddmkmngaaW.PrintWords Go.Proofs.YtnodpgddmkmngaaW.PrintLast Go.Proofs.Ytnodpgddmkmngaa.Lib
set_option linter.unusedVariables false
set_option linter.unusedSimpArgs false

/-! #### law_FnExactIsBlank -/
theorem blank_eq (a : Int) : impl_IsBlank.f 6 a = some (a == 9 || a == 32 || a == 160 || a == 8201 || a == 12288) := by
  unfold impl_IsBlank.f slices_Contains_int_int.f slices_Index_int_int.f
  have r0 : rd [9, 32, 160, 8201, 12288] 0 = 9 := rfl
  have r1 : rd [9, 32, 160, 8201, 12288] 1 = 32 := rfl
  have r2 : rd [9, 32, 160, 8201, 12288] 2 = 160 := rfl
  have r3 : rd [9, 32, 160, 8201, 12288] 3 = 8201 := rfl
  have r4 : rd [9, 32, 160, 8201, 12288] 4 = 12288 := rfl
  have w0 : wrap64 (0 + 1) = 1 := w64 (by omega) (by omega)
  have w1 : wrap64 (1 + 1) = 2 := w64 (by omega) (by omega)
  have w2 : wrap64 (2 + 1) = 3 := w64 (by omega) (by omega)
  have w3 : wrap64 (3 + 1) = 4 := w64 (by omega) (by omega)
  have w4 : wrap64 (4 + 1) = 5 := w64 (by omega) (by omega)
  have hl : (([9, 32, 160, 8201, 12288] : List Int).length : Int) = 5 := rfl
  simp only [slices_Index_int_int.l0, hl, r0, r1, r2, r3, r4, w0, w1, w2, w3, w4]
  by_cases h0 : a = 9
  · subst h0; rfl
  by_cases h1 : a = 32
  · subst h1; rfl
  by_cases h2 : a = 160
  · subst h2; rfl
  by_cases h3 : a = 8201
  · subst h3; rfl
  by_cases h4 : a = 12288
  · subst h4; rfl
  simp [h0, h1, h2, h3, h4]
theorem FnExactIsBlank : laws_FnExactIsBlank.Pure := by
  intro a h
  refine ⟨6, ?_⟩
  unfold laws_FnExactIsBlank.f spec_IsBlank.f
  rw [blank_eq]
  repeat' split
  all_goals simp_all

end Go.Proofs.Ytnodpgddmkmngaa.Pure
