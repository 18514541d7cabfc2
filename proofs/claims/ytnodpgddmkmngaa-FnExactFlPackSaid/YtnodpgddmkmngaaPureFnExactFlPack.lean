/- The pure statement of the law FnExactFlPack: at every input that its guards let in the program's answer is the reference's. -/
import Derived.Test.YtnodpgddmkmngaaPFnExactFlPackx2
import Derived.Test.YtnodpgddmkmngaaLib
import Derived.WalkKit
namespace Go.Proofs.Ytnodpgddmkmngaa.Pure
open Go.RowKit Go.Proofs.Ytnodpgddmkmngaa.PFnExactFlPack Go.Proofs.YtnodpgddmkmngaaW.PrintWords Go.Proofs.YtnodpgddmkmngaaW.PrintLast Go.Proofs.Ytnodpgddmkmngaa.Lib
set_option linter.unusedVariables false
set_option linter.unusedSimpArgs false

/-! #### within -/
theorem within_eq (a b c : Int) : impl_within.f a b c = some (decide (b ≤ a ∧ a ≤ c)) := by
  unfold impl_within.f
  by_cases h : b ≤ a <;> simp [h]

/-! #### FlOk -/
/-- Is a float valid? -/
def flOkB (k : Int) (s : Bool) (m e : Int) : Bool :=
  if k = 1 then decide (-1074 ≤ e ∧ e ≤ 971 ∧ 1 ≤ m ∧ m ≤ 9007199254740991 ∧ (4503599627370496 ≤ m ∨ e = -1074))
  else if k = 0 ∨ k = 2 then decide (m = 0 ∧ e = 0) else decide (k = 3 ∧ m = 0 ∧ e = 0 ∧ s = false)
theorem spec_FlOk_1 (k : Int) (s : Bool) (m e : Int) : spec_FlOk.f 1 k s m e = some (flOkB k s m e) := by
  unfold spec_FlOk.f flOkB
  simp only [spec_FlOk.j0]
  by_cases k1 : k = 1
  · subst k1
    simp only [Int.reduceEq, if_false, if_true, Int.reduceBEq, Bool.false_eq_true]
    by_cases h1 : e < -1074
    · rw [if_pos h1]; simp; omega
    rw [if_neg h1]
    by_cases h2 : e > 971
    · rw [if_pos h2]; simp; omega
    rw [if_neg h2]
    by_cases h3 : m < 1
    · rw [if_pos h3]; simp; omega
    rw [if_neg h3]
    by_cases h4 : m ≥ 9007199254740992
    · rw [if_pos h4]; simp; omega
    rw [if_neg h4]
    by_cases h5 : m ≥ 4503599627370496
    · rw [if_pos h5]; simp; omega
    rw [if_neg h5]
    by_cases h6 : e = -1074
    · subst h6; simp; omega
    · rw [show (e == -1074) = false from by simpa using h6]; simp; omega
  · rw [if_neg k1]
    by_cases k0 : k = 0
    · subst k0
      by_cases hm : m = 0 <;> by_cases he : e = 0 <;> simp [hm, he]
    · rw [if_neg k0]
      by_cases k2 : k = 2
      · subst k2
        by_cases hm : m = 0 <;> by_cases he : e = 0 <;> simp [hm, he]
      · by_cases k3 : k = 3
        · subst k3
          by_cases hm : m = 0 <;> by_cases he : e = 0 <;> cases s <;> simp [hm, he]
        · simp [k0, k1, k2, k3]
theorem impl_FlOk_eq (k : Int) (s : Bool) (m e : Int) : impl_FlOk.f k s m e = some (flOkB k s m e) := by
  unfold impl_FlOk.f flOkB
  simp only [within_eq, Option.bind_some, decide_eq_true_eq]
  by_cases k1 : k = 1
  · rw [if_pos k1, if_pos k1]
    by_cases h1 : -1074 ≤ e ∧ e ≤ 971
    · rw [if_pos h1]
      by_cases h2 : 4503599627370496 ≤ m ∧ m ≤ 9007199254740991
      · rw [if_pos h2]; simp; omega
      · rw [if_neg h2]
        by_cases h3 : 1 ≤ m ∧ m ≤ 4503599627370495
        · rw [if_pos h3]
          by_cases h6 : e = -1074
          · subst h6; simp; omega
          · rw [show (e == -1074) = false from by simpa using h6]; simp; omega
        · rw [if_neg h3]; simp; omega
    · rw [if_neg h1]; simp; omega
  · rw [if_neg k1, if_neg k1]
    by_cases k0 : k = 0
    · subst k0
      by_cases hm : m = 0 <;> by_cases he : e = 0 <;> simp [hm, he]
    · rw [if_neg k0]
      by_cases k2 : k = 2
      · subst k2
        by_cases hm : m = 0 <;> by_cases he : e = 0 <;> simp [hm, he]
      · rw [if_neg k2]
        by_cases k3 : k = 3
        · subst k3
          by_cases hm : m = 0 <;> by_cases he : e = 0 <;> cases s <;> simp [hm, he]
        · simp [k0, k2, k3]
theorem ev_spec_FlOk (k : Int) (s : Bool) (m e : Int) : Ev (fun n => spec_FlOk.f n k s m e) (flOkB k s m e) := Ev.of (fun n => spec_FlOk.mono k s m e n) (spec_FlOk_1 k s m e)

/-! #### FlPack -/
/-- A float's bits in two words. -/
def packV (k : Int) (s : Bool) (m e : Int) : Int × Int × Bool :=
  if flOkB k s m e = true then
    if k = 0 then (if s = true then 2147483648 else 0, 0, true)
    else if k = 2 then ((if s = true then 2147483648 else 0) + 2146435072, 0, true)
    else if k = 3 then (2146959360, 0, true)
    else if m < 4503599627370496 then ((if s = true then 2147483648 else 0) + m / 4294967296, m % 4294967296, true)
    else ((if s = true then 2147483648 else 0) + (e + 1075) * 1048576 + (m - 4503599627370496) / 4294967296, (m - 4503599627370496) % 4294967296, true)
  else (0, 0, false)
theorem flOk_num {s : Bool} {m e : Int} (h : flOkB 1 s m e = true) : -1074 ≤ e ∧ e ≤ 971 ∧ 1 ≤ m ∧ m ≤ 9007199254740991 ∧ (4503599627370496 ≤ m ∨ e = -1074) := by
  simpa [flOkB] using h
theorem flOk_kind {k : Int} {s : Bool} {m e : Int} (h : flOkB k s m e = true) : k = 0 ∨ k = 1 ∨ k = 2 ∨ k = 3 := by
  unfold flOkB at h
  by_cases k1 : k = 1
  · exact .inr (.inl k1)
  rw [if_neg k1] at h
  by_cases k2 : k = 0 ∨ k = 2
  · omega
  rw [if_neg k2] at h
  simp at h; omega
theorem flOk_zero {k : Int} {s : Bool} {m e : Int} (h : flOkB k s m e = true) (hk : k ≠ 1) : m = 0 ∧ e = 0 ∧ (k = 3 → s = false) := by
  unfold flOkB at h
  rw [if_neg hk] at h
  by_cases k2 : k = 0 ∨ k = 2
  · rw [if_pos k2] at h
    simp at h
    exact ⟨h.1, h.2, fun e => by omega⟩
  rw [if_neg k2] at h
  simp at h
  exact ⟨h.2.1, h.2.2.1, fun _ => h.2.2.2⟩
theorem spec_FlPack_1 (k : Int) (s : Bool) (m e : Int) : spec_FlPack.f 1 k s m e = some (packV k s m e) := by
  unfold spec_FlPack.f packV
  rw [spec_FlOk_1]
  simp only [Option.bind_some, spec_FlPack.j0]
  by_cases h : flOkB k s m e = true
  · rw [if_pos h, if_pos h]
    rcases flOk_kind h with rfl | rfl | rfl | rfl
    · cases s <;> simp
    · have hn := flOk_num h
      by_cases hm : m < 4503599627370496
      · cases s
        · simp only [Int.reduceEq, if_false, Bool.false_eq_true, hm, if_true]
          rw [and_32 _ (by omega) (by omega), w64 (by omega) (by omega)]
        · simp only [Int.reduceEq, if_false, hm, if_true]
          rw [and_32 _ (by omega) (by omega), w64 (by omega) (by omega)]
      · cases s
        · simp only [Int.reduceEq, if_false, Bool.false_eq_true, hm]
          rw [w64 (x := m - 4503599627370496) (by omega) (by omega), and_32 _ (by omega) (by omega), w64 (x := e - -1074) (by omega) (by omega), w64 (x := e - -1074 + 1) (by omega) (by omega), w64 (x := (e - -1074 + 1) * 1048576) (by omega) (by omega), w64 (x := 0 + (e - -1074 + 1) * 1048576) (by omega) (by omega), w64 (by omega) (by omega), show e - -1074 + 1 = e + 1075 by omega]
        · simp only [Int.reduceEq, if_false, hm, if_true]
          rw [w64 (x := m - 4503599627370496) (by omega) (by omega), and_32 _ (by omega) (by omega), w64 (x := e - -1074) (by omega) (by omega), w64 (x := e - -1074 + 1) (by omega) (by omega), w64 (x := (e - -1074 + 1) * 1048576) (by omega) (by omega), w64 (x := 2147483648 + (e - -1074 + 1) * 1048576) (by omega) (by omega), w64 (by omega) (by omega), show e - -1074 + 1 = e + 1075 by omega]
    · cases s
      · simp [w64]
      · simp [w64]
    · cases s <;> simp
  · rw [if_neg h, if_neg h]
theorem or_top (x : Int) (h0 : 0 ≤ x) (h1 : x < 2147483648) : Go.bits .or .i64 x 2147483648 = 2147483648 + x := by
  rw [bits_or_comm, or_join 31 2147483648 x (by omega) (by omega) (by decide) (by omega) (by omega) (by omega)]
theorem impl_FlPack_1 (k : Int) (s : Bool) (m e : Int) : impl_FlPack.f 1 k s m e = some (packV k s m e) := by
  unfold impl_FlPack.f packV
  rw [impl_FlOk_eq]
  simp only [Option.bind_some, impl_FlPack.j0]
  by_cases h : flOkB k s m e = true
  · rw [if_pos h, if_pos h]
    have o1 : Go.bits .or .i64 2146435072 524288 = 2146959360 := by
      rw [or_join 20 2146435072 524288 (by decide) (by decide) (by decide) (by decide) (by decide) (by decide)]; rfl
    have o2 : Go.bits .or .i64 2146435072 0 = 2146435072 := by
      rw [or_join 20 2146435072 0 (by decide) (by decide) (by decide) (by decide) (by decide) (by decide)]; rfl
    have z1 : wrap64 0 = 0 := w64 (by omega) (by omega)
    have o3 : Go.bits .or .i64 0 0 = 0 := by
      rw [or_join 20 0 0 (by decide) (by decide) (by decide) (by decide) (by decide) (by decide)]; rfl
    have z0 : wrap64 (0 * 1048576) = 0 := w64 (by omega) (by omega)
    have a0 : Go.bits .and .i64 0 4294967295 = 0 := by rw [and_32 _ (by omega) (by omega)]; rfl
    have a1 : Go.bits .and .i64 2251799813685248 4294967295 = 0 := by rw [and_32 _ (by omega) (by omega)]; rfl
    rcases flOk_kind h with rfl | rfl | rfl | rfl
    · cases s
      · simp [z0, z1, o3, a0]
      · simp [z0, z1, o3, a0, or_top]
    · have hn := flOk_num h
      simp only [Int.reduceEq, if_false, if_true, Int.reduceBEq, Bool.false_eq_true, z0]
      rw [and_52 _ (by omega) (by omega)]
      by_cases hm : m < 4503599627370496
      · rw [if_neg (show ¬ m ≥ 4503599627370496 by omega), if_pos hm, show m % 4503599627370496 = m by omega, and_32 _ (by omega) (by omega)]
        rw [or_join 20 0 (m / 4294967296) (by omega) (by omega) (by decide) (by omega) (by omega) (by omega), or_top _ (by omega) (by omega)]
        cases s <;> simp
      · rw [if_pos (show m ≥ 4503599627370496 by omega), if_neg hm, show m % 4503599627370496 = m - 4503599627370496 by omega, and_32 _ (by omega) (by omega)]
        rw [w64 (x := e - -1074) (by omega) (by omega), w64 (x := e - -1074 + 1) (by omega) (by omega), w64 (x := (e - -1074 + 1) * 1048576) (by omega) (by omega)]
        rw [or_join 20 ((e - -1074 + 1) * 1048576) ((m - 4503599627370496) / 4294967296) (by omega) (by omega) (by omega) (by omega) (by omega) (by omega), or_top _ (by omega) (by omega), show e - -1074 + 1 = e + 1075 by omega]
        cases s
        · simp
        · simp; omega
    · cases s
      · simp [o2, a0]
      · simp [o2, a0, or_top]
    · have hz := flOk_zero h (by decide)
      have := hz.2.2 rfl
      subst this
      simp [o1, a1]
  · rw [if_neg h, if_neg h]

/-! #### law_FnExactFlPack -/
theorem FnExactFlPack : laws_FnExactFlPack.Pure := by
  intro k s m e _ _ _
  refine ⟨1, ?_⟩
  unfold laws_FnExactFlPack.f laws_toFl.f
  simp only [Option.bind_some]
  rw [spec_FlPack_1, impl_FlPack_1]
  simp

end Go.Proofs.Ytnodpgddmkmngaa.Pure
