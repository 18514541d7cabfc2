/- The pure statement of the law FnExactSignOf: at every input that its guards let in the program's answer is the reference's. -/
import Derived.Test.YtnodpgddmkmngaaPFnExactSignOfx1
import Derived.Test.YtnodpgddmkmngaaLib
import Derived.WalkKit
namespace Go.Proofs.Ytnodpgddmkmngaa.Pure
open Go.RowKit Go.Proofs.Ytnodpgddmkmngaa.PFnExactSignOf Go.Proofs.YtnodpgddmkmngaaW.PrintWords Go.Proofs.YtnodpgddmkmngaaW.PrintLast Go.Proofs.Ytnodpgddmkmngaa.Lib
set_option linter.unusedVariables false
set_option linter.unusedSimpArgs false

/-! #### law_FnExactSignOf -/
theorem FnExactSignOf : laws_FnExactSignOf.Pure := by
  intro a h
  refine ⟨1, ?_⟩
  unfold laws_FnExactSignOf.f spec_SignOf.f impl_SignOf.f
  simp only [spec_SignOf.j0, impl_SignOf.j0]
  repeat' split
  all_goals simp_all

end Go.Proofs.Ytnodpgddmkmngaa.Pure
