/- The pure statement of the law FnExactFlNext: at every input that its guards let in the program's answer is the reference's. -/
import Derived.Test.YtjfafkjffjgenaaPFnExactFlNextx4
import Derived.Test.YtjfafkjffjgenaaLib
import Derived.WalkKit
namespace Go.Proofs.Ytjfafkjffjgenaa.Pure
open Go.RowKit Go.Proofs.Ytjfafkjffjgenaa.PFnExactFlNext Go.Proofs.YtjfafkjffjgenaaW.PrintWords Go.Proofs.YtjfafkjffjgenaaW.PrintLast Go.Proofs.Ytjfafkjffjgenaa.Lib
set_option linter.unusedVariables false
set_option linter.unusedSimpArgs false

/-! #### within -/
theorem within_eq (a b c : Int) : impl_within.f a b c = some (decide (b ≤ a ∧ a ≤ c)) := by
  unfold impl_within.f
  by_cases h : b ≤ a <;> simp [h]

/-! #### FlOk -/
/-- Is a float valid? -/
def flOkB (k : Int) (s : Bool) (m e : Int) : Bool :=
  if k = 1 then decide (-1074 ≤ e ∧ e ≤ 971 ∧ 1 ≤ m ∧ m ≤ 9007199254740991 ∧ (4503599627370496 ≤ m ∨ e = -1074))
  else if k = 0 ∨ k = 2 then decide (m = 0 ∧ e = 0) else decide (k = 3 ∧ m = 0 ∧ e = 0 ∧ s = false)
theorem spec_FlOk_1 (k : Int) (s : Bool) (m e : Int) : spec_FlOk.f 1 k s m e = some (flOkB k s m e) := by
  unfold spec_FlOk.f flOkB
  simp only [spec_FlOk.j0]
  by_cases k1 : k = 1
  · subst k1
    simp only [Int.reduceEq, if_false, if_true, Int.reduceBEq, Bool.false_eq_true]
    by_cases h1 : e < -1074
    · rw [if_pos h1]; simp; omega
    rw [if_neg h1]
    by_cases h2 : e > 971
    · rw [if_pos h2]; simp; omega
    rw [if_neg h2]
    by_cases h3 : m < 1
    · rw [if_pos h3]; simp; omega
    rw [if_neg h3]
    by_cases h4 : m ≥ 9007199254740992
    · rw [if_pos h4]; simp; omega
    rw [if_neg h4]
    by_cases h5 : m ≥ 4503599627370496
    · rw [if_pos h5]; simp; omega
    rw [if_neg h5]
    by_cases h6 : e = -1074
    · subst h6; simp; omega
    · rw [show (e == -1074) = false from by simpa using h6]; simp; omega
  · rw [if_neg k1]
    by_cases k0 : k = 0
    · subst k0
      by_cases hm : m = 0 <;> by_cases he : e = 0 <;> simp [hm, he]
    · rw [if_neg k0]
      by_cases k2 : k = 2
      · subst k2
        by_cases hm : m = 0 <;> by_cases he : e = 0 <;> simp [hm, he]
      · by_cases k3 : k = 3
        · subst k3
          by_cases hm : m = 0 <;> by_cases he : e = 0 <;> cases s <;> simp [hm, he]
        · simp [k0, k1, k2, k3]
theorem impl_FlOk_eq (k : Int) (s : Bool) (m e : Int) : impl_FlOk.f k s m e = some (flOkB k s m e) := by
  unfold impl_FlOk.f flOkB
  simp only [within_eq, Option.bind_some, decide_eq_true_eq]
  by_cases k1 : k = 1
  · rw [if_pos k1, if_pos k1]
    by_cases h1 : -1074 ≤ e ∧ e ≤ 971
    · rw [if_pos h1]
      by_cases h2 : 4503599627370496 ≤ m ∧ m ≤ 9007199254740991
      · rw [if_pos h2]; simp; omega
      · rw [if_neg h2]
        by_cases h3 : 1 ≤ m ∧ m ≤ 4503599627370495
        · rw [if_pos h3]
          by_cases h6 : e = -1074
          · subst h6; simp; omega
          · rw [show (e == -1074) = false from by simpa using h6]; simp; omega
        · rw [if_neg h3]; simp; omega
    · rw [if_neg h1]; simp; omega
  · rw [if_neg k1, if_neg k1]
    by_cases k0 : k = 0
    · subst k0
      by_cases hm : m = 0 <;> by_cases he : e = 0 <;> simp [hm, he]
    · rw [if_neg k0]
      by_cases k2 : k = 2
      · subst k2
        by_cases hm : m = 0 <;> by_cases he : e = 0 <;> simp [hm, he]
      · rw [if_neg k2]
        by_cases k3 : k = 3
        · subst k3
          by_cases hm : m = 0 <;> by_cases he : e = 0 <;> cases s <;> simp [hm, he]
        · simp [k0, k2, k3]
theorem ev_spec_FlOk (k : Int) (s : Bool) (m e : Int) : Ev (fun n => spec_FlOk.f n k s m e) (flOkB k s m e) := Ev.of (fun n => spec_FlOk.mono k s m e n) (spec_FlOk_1 k s m e)

/-! #### FlOkM -/
theorem flOk_num {s : Bool} {m e : Int} (h : flOkB 1 s m e = true) : -1074 ≤ e ∧ e ≤ 971 ∧ 1 ≤ m ∧ m ≤ 9007199254740991 ∧ (4503599627370496 ≤ m ∨ e = -1074) := by
  simpa [flOkB] using h
theorem flOk_kind {k : Int} {s : Bool} {m e : Int} (h : flOkB k s m e = true) : k = 0 ∨ k = 1 ∨ k = 2 ∨ k = 3 := by
  unfold flOkB at h
  by_cases k1 : k = 1
  · exact .inr (.inl k1)
  rw [if_neg k1] at h
  by_cases k2 : k = 0 ∨ k = 2
  · omega
  rw [if_neg k2] at h
  simp at h; omega
theorem flOk_zero {k : Int} {s : Bool} {m e : Int} (h : flOkB k s m e = true) (hk : k ≠ 1) : m = 0 ∧ e = 0 ∧ (k = 3 → s = false) := by
  unfold flOkB at h
  rw [if_neg hk] at h
  by_cases k2 : k = 0 ∨ k = 2
  · rw [if_pos k2] at h
    simp at h
    exact ⟨h.1, h.2, fun e => by omega⟩
  rw [if_neg k2] at h
  simp at h
  exact ⟨h.2.1, h.2.2.1, fun _ => h.2.2.2⟩

/-! #### eqFl -/
theorem eqFl_same (a : Int) (b : Bool) (c d : Int) : laws_eqFl.f a b c d a b c d = some true := by
  unfold laws_eqFl.f
  simp

/-! #### law_FnExactFlNext -/
/-- The next greater float. -/
def nextV (k : Int) (s : Bool) (m e : Int) : Int × Bool × Int × Int :=
  if flOkB k s m e = true then
    if k = 3 ∨ (k = 2 ∧ s = false) then (k, s, m, e)
    else if k = 2 then (1, true, 9007199254740991, 971)
    else if k = 0 then (1, false, 1, -1074)
    else if s = true then
      if m = 4503599627370496 ∧ e > -1074 then (k, s, 9007199254740991, e - 1)
      else if m = 1 then (0, true, 0, 0) else (k, s, m - 1, e)
    else if m < 9007199254740991 then (k, s, m + 1, e) else if e < 971 then (k, s, 4503599627370496, e + 1) else (2, false, 0, 0)
  else (3, false, 0, 0)
theorem ev_spec_FlNext (k : Int) (s : Bool) (m e : Int) : Ev (fun n => spec_FlNext.f n k s m e) (nextV k s m e) := by
  unfold spec_FlNext.f nextV
  refine Ev.bind (ev_spec_FlOk k s m e) ?_
  by_cases h : flOkB k s m e = true
  · simp only [if_pos h]
    rcases flOk_kind h with rfl | rfl | rfl | rfl
    · simp only [Int.reduceEq, if_false]
      refine Ev.step (fun n => by simp only [spec_FlNext.j0]; rfl) ?_
      simp
      exact Ev.now _
    · have hn := flOk_num h
      simp only [Int.reduceEq, if_false, false_and, or_self]
      refine Ev.step (fun n => by simp only [spec_FlNext.j0]; rfl) ?_
      simp only [Bool.false_eq_true, if_false, Int.reduceEq]
      cases s
      · simp only [Bool.false_eq_true, if_false]
        rw [w64 (x := m + 1) (by omega) (by omega), w64 (x := e + 1) (by omega) (by omega)]
        by_cases h1 : m < 9007199254740991
        · rw [if_pos h1, if_neg (by omega), if_neg (by omega)]; exact Ev.now _
        · rw [if_neg h1, if_pos (by omega)]
          by_cases h2 : e < 971
          · rw [if_pos h2, if_neg (by omega)]; exact Ev.now _
          · rw [if_neg h2, if_pos (by omega)]; exact Ev.now _
      · simp only [if_true]
        by_cases h1 : m = 4503599627370496
        · simp only [if_pos h1]
          by_cases h2 : e > -1074
          · rw [if_pos ⟨h1, h2⟩]
            refine Ev.step (fun n => by simp only [spec_FlNext.j1]; rfl) ?_
            simp only [h2, decide_true, if_true]
            rw [w64 (x := e - 1) (by omega) (by omega)]
            exact Ev.now _
          · rw [if_neg (fun z => h2 z.2), if_neg (by omega)]
            refine Ev.step (fun n => by simp only [spec_FlNext.j1]; rfl) ?_
            simp only [h2, decide_false, Bool.false_eq_true, if_false]
            rw [w64 (x := m - 1) (by omega) (by omega), if_neg (by omega)]
            exact Ev.now _
        · simp only [if_neg h1]
          rw [if_neg (fun z => h1 z.1)]
          refine Ev.step (fun n => by simp only [spec_FlNext.j1]; rfl) ?_
          simp only [Bool.false_eq_true, if_false]
          rw [w64 (x := m - 1) (by omega) (by omega)]
          by_cases h3 : m = 1
          · rw [if_pos h3, if_pos (by omega)]; exact Ev.now _
          · rw [if_neg h3, if_neg (by omega)]; exact Ev.now _
    · simp only [Int.reduceEq, if_false, if_true]
      refine Ev.step (fun n => by simp only [spec_FlNext.j0]; rfl) ?_
      cases s
      · simp; exact Ev.now _
      · simp [spec_l5most.f]; exact Ev.now _
    · simp only [Int.reduceEq, if_false, if_true]
      refine Ev.step (fun n => by simp only [spec_FlNext.j0]; rfl) ?_
      simp; exact Ev.now _
  · simp only [if_neg h]
    exact Ev.now _
theorem ev_impl_FlNext (k : Int) (s : Bool) (m e : Int) : Ev (fun n => impl_FlNext.f n k s m e) (nextV k s m e) := by
  unfold impl_FlNext.f nextV
  refine ev_bind0 (impl_FlOk_eq k s m e) ?_
  by_cases h : flOkB k s m e = true
  · simp only [if_pos h]
    rcases flOk_kind h with rfl | rfl | rfl | rfl
    · simp only [Int.reduceEq, if_false]
      refine Ev.step (fun n => by simp only [impl_FlNext.j0]; rfl) ?_
      simp
      exact Ev.now _
    · have hn := flOk_num h
      simp only [Int.reduceEq, if_false, false_and, or_self]
      refine Ev.step (fun n => by simp only [impl_FlNext.j0]; rfl) ?_
      simp only [Bool.false_eq_true, if_false, Int.reduceEq]
      cases s
      · simp only [Bool.false_eq_true, if_false]
        unfold impl_Fl_away.f impl_infinity.f
        rw [w64 (x := m + 1) (by omega) (by omega), w64 (x := e + 1) (by omega) (by omega)]
        by_cases h1 : m < 9007199254740991
        · rw [if_pos h1, if_pos h1]; exact Ev.now _
        · rw [if_neg h1, if_neg h1]
          by_cases h2 : e < 971
          · rw [if_pos h2, if_pos h2]; exact Ev.now _
          · rw [if_neg h2, if_neg h2]; exact Ev.now _
      · simp only [if_true]
        unfold impl_Fl_toward.f
        simp only [Int.reduceEq, if_false]
        by_cases h1 : m > 4503599627370496
        · simp only [if_pos h1]
          rw [if_neg (by omega), if_neg (by omega)]
          refine Ev.bind (a := (1, true, m - 1, e)) (Ev.step (fun n => by simp only [impl_Fl_toward.j0]; rfl) ?_) (Ev.now _)
          simp only [if_true]
          rw [w64 (x := m - 1) (by omega) (by omega)]; exact Ev.now _
        · simp only [if_neg h1]
          by_cases h2 : e = -1074
          · simp only [if_pos h2]
            rw [if_neg (by omega)]
            by_cases h3 : m = 1
            · rw [if_pos h3]
              refine Ev.bind (a := (0, true, 0, 0)) (Ev.step (fun n => by simp only [impl_Fl_toward.j0]; rfl) ?_) (Ev.now _)
              simp [h3, h2, impl_zero.f]; exact Ev.now _
            · rw [if_neg h3]
              refine Ev.bind (a := (1, true, m - 1, e)) (Ev.step (fun n => by simp only [impl_Fl_toward.j0]; rfl) ?_) (Ev.now _)
              have h4 : m > 1 := by omega
              simp only [h4, decide_true, if_true]
              rw [w64 (x := m - 1) (by omega) (by omega)]; exact Ev.now _
          · simp only [if_neg h2]
            rw [if_pos (by omega)]
            refine Ev.bind (a := (1, true, 9007199254740991, e - 1)) (Ev.step (fun n => by simp only [impl_Fl_toward.j0]; rfl) ?_) (Ev.now _)
            simp only [Bool.false_eq_true, if_false]
            rw [if_pos (by omega), w64 (x := e - 1) (by omega) (by omega)]; exact Ev.now _
    · simp only [Int.reduceEq, if_false, if_true]
      refine Ev.step (fun n => by simp only [impl_FlNext.j0]; rfl) ?_
      cases s
      · simp; exact Ev.now _
      · simp [impl_Fl_toward.f]; exact Ev.now _
    · simp only [Int.reduceEq, if_false, if_true]
      refine Ev.step (fun n => by simp only [impl_FlNext.j0]; rfl) ?_
      simp; exact Ev.now _
  · simp only [if_neg h]
    exact Ev.now _
theorem FnExactFlNext : laws_FnExactFlNext.Pure := by
  intro k s m e _ _ _
  have g : Ev (fun n => laws_FnExactFlNext.f n k s m e) true := by
    unfold laws_FnExactFlNext.f laws_toFl.f
    simp only [Option.bind_some]
    refine Ev.bind (ev_spec_FlNext k s m e) (Ev.bind (ev_impl_FlNext k s m e) (ev_bind0 (eqFl_same _ _ _ _) ?_))
    simp only [if_true]
    exact Ev.now _
  exact g.rounds

end Go.Proofs.Ytjfafkjffjgenaa.Pure
