/- The pure statement of the law FnExactFlNeg: at every input that its guards let in the program's answer is the reference's. -/
import Derived.Test.YtnodpgddmkmngaaPFnExactFlNegx1
import Derived.Test.YtnodpgddmkmngaaLib
import Derived.WalkKit
namespace Go.Proofs.Ytnodpgddmkmngaa.Pure
open Go.RowKit Go.Proofs.Ytnodpgddmkmngaa.PFnExactFlNeg Go.Proofs.YtnodpgddmkmngaaW.PrintWords Go.Proofs.YtnodpgddmkmngaaW.PrintLast Go.Proofs.Ytnodpgddmkmngaa.Lib
set_option linter.unusedVariables false
set_option linter.unusedSimpArgs false

/-! #### within -/
theorem within_eq (a b c : Int) : impl_within.f a b c = some (decide (b ≤ a ∧ a ≤ c)) := by
  unfold impl_within.f
  by_cases h : b ≤ a <;> simp [h]

/-! #### FlOk -/
/-- Is a float valid? -/
def flOkB (k : Int) (s : Bool) (m e : Int) : Bool :=
  if k = 1 then decide (-1074 ≤ e ∧ e ≤ 971 ∧ 1 ≤ m ∧ m ≤ 9007199254740991 ∧ (4503599627370496 ≤ m ∨ e = -1074))
  else if k = 0 ∨ k = 2 then decide (m = 0 ∧ e = 0) else decide (k = 3 ∧ m = 0 ∧ e = 0 ∧ s = false)
theorem spec_FlOk_1 (k : Int) (s : Bool) (m e : Int) : spec_FlOk.f 1 k s m e = some (flOkB k s m e) := by
  unfold spec_FlOk.f flOkB
  simp only [spec_FlOk.j0]
  by_cases k1 : k = 1
  · subst k1
    simp only [Int.reduceEq, if_false, if_true, Int.reduceBEq, Bool.false_eq_true]
    by_cases h1 : e < -1074
    · rw [if_pos h1]; simp; omega
    rw [if_neg h1]
    by_cases h2 : e > 971
    · rw [if_pos h2]; simp; omega
    rw [if_neg h2]
    by_cases h3 : m < 1
    · rw [if_pos h3]; simp; omega
    rw [if_neg h3]
    by_cases h4 : m ≥ 9007199254740992
    · rw [if_pos h4]; simp; omega
    rw [if_neg h4]
    by_cases h5 : m ≥ 4503599627370496
    · rw [if_pos h5]; simp; omega
    rw [if_neg h5]
    by_cases h6 : e = -1074
    · subst h6; simp; omega
    · rw [show (e == -1074) = false from by simpa using h6]; simp; omega
  · rw [if_neg k1]
    by_cases k0 : k = 0
    · subst k0
      by_cases hm : m = 0 <;> by_cases he : e = 0 <;> simp [hm, he]
    · rw [if_neg k0]
      by_cases k2 : k = 2
      · subst k2
        by_cases hm : m = 0 <;> by_cases he : e = 0 <;> simp [hm, he]
      · by_cases k3 : k = 3
        · subst k3
          by_cases hm : m = 0 <;> by_cases he : e = 0 <;> cases s <;> simp [hm, he]
        · simp [k0, k1, k2, k3]
theorem impl_FlOk_eq (k : Int) (s : Bool) (m e : Int) : impl_FlOk.f k s m e = some (flOkB k s m e) := by
  unfold impl_FlOk.f flOkB
  simp only [within_eq, Option.bind_some, decide_eq_true_eq]
  by_cases k1 : k = 1
  · rw [if_pos k1, if_pos k1]
    by_cases h1 : -1074 ≤ e ∧ e ≤ 971
    · rw [if_pos h1]
      by_cases h2 : 4503599627370496 ≤ m ∧ m ≤ 9007199254740991
      · rw [if_pos h2]; simp; omega
      · rw [if_neg h2]
        by_cases h3 : 1 ≤ m ∧ m ≤ 4503599627370495
        · rw [if_pos h3]
          by_cases h6 : e = -1074
          · subst h6; simp; omega
          · rw [show (e == -1074) = false from by simpa using h6]; simp; omega
        · rw [if_neg h3]; simp; omega
    · rw [if_neg h1]; simp; omega
  · rw [if_neg k1, if_neg k1]
    by_cases k0 : k = 0
    · subst k0
      by_cases hm : m = 0 <;> by_cases he : e = 0 <;> simp [hm, he]
    · rw [if_neg k0]
      by_cases k2 : k = 2
      · subst k2
        by_cases hm : m = 0 <;> by_cases he : e = 0 <;> simp [hm, he]
      · rw [if_neg k2]
        by_cases k3 : k = 3
        · subst k3
          by_cases hm : m = 0 <;> by_cases he : e = 0 <;> cases s <;> simp [hm, he]
        · simp [k0, k2, k3]
theorem ev_spec_FlOk (k : Int) (s : Bool) (m e : Int) : Ev (fun n => spec_FlOk.f n k s m e) (flOkB k s m e) := Ev.of (fun n => spec_FlOk.mono k s m e n) (spec_FlOk_1 k s m e)

/-! #### eqFl -/
theorem eqFl_same (a : Int) (b : Bool) (c d : Int) : laws_eqFl.f a b c d a b c d = some true := by
  unfold laws_eqFl.f
  simp

/-! #### law_FnExactFlNeg -/
theorem FnExactFlNeg : laws_FnExactFlNeg.Pure := by
  intro k s m e _ _ _
  refine ⟨1, ?_⟩
  unfold laws_FnExactFlNeg.f laws_toFl.f
  simp only [Option.bind_some]
  have h : spec_FlNeg.f 1 k s m e = impl_FlNeg.f k s m e := by
    unfold spec_FlNeg.f impl_FlNeg.f
    rw [spec_FlOk_1, impl_FlOk_eq]
    rfl
  have g : ∃ r, impl_FlNeg.f k s m e = some r := by
    unfold impl_FlNeg.f
    rw [impl_FlOk_eq]
    simp only [Option.bind_some]
    unfold impl_Fl_negated.f impl_nan.f
    split
    · split <;> exact ⟨_, rfl⟩
    · exact ⟨_, rfl⟩
  obtain ⟨r, hr⟩ := g
  rw [h, hr]
  simp only [Option.bind_some, eqFl_same]
  simp

end Go.Proofs.Ytnodpgddmkmngaa.Pure
