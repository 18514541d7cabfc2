/- The pure statement of the law FnExactPlain: at every input that its guards let in the program's answer is the reference's. -/
import Derived.Test.YtlefbfdeelldjaaPFnExactPlainx6
import Derived.Test.YtlefbfdeelldjaaLib
import Derived.WalkKit
namespace Go.Proofs.Ytlefbfdeelldjaa.Pure
open Go.RowKit Go.Proofs.Ytlefbfdeelldjaa.PFnExactPlain Go.Proofs.YtlefbfdeelldjaaW.PrintWords Go.Proofs.YtlefbfdeelldjaaW.PrintLast Go.Proofs.Ytlefbfdeelldjaa.Lib
set_option linter.unusedVariables false
set_option linter.unusedSimpArgs false

/-! #### within -/
theorem within_eq (a b c : Int) : impl_within.f a b c = some (decide (b ≤ a ∧ a ≤ c)) := by
  unfold impl_within.f
  by_cases h : b ≤ a <;> simp [h]

/-! #### may -/
theorem spec_l1may_eq (r : Int) : spec_l1may.f r = some (mayB r) := by
  unfold spec_l1may.f mayB
  by_cases h0 : r ≥ 0
  · rw [if_pos h0]
    by_cases h1 : r ≤ 1114111
    · rw [if_pos h1]
      by_cases h2 : r < 55296
      · rw [if_pos h2]; simp; omega
      · rw [if_neg h2]; exact congrArg some (decide_eq_decide.mpr (by omega))
    · rw [if_neg h1]; simp; omega
  · rw [if_neg h0]; simp; omega
theorem impl_isPoint_eq (r : Int) : impl_isPoint.f r = some (mayB r) := by
  unfold impl_isPoint.f mayB
  simp only [within_eq, Option.bind_some, decide_eq_true_eq]
  by_cases h : 0 ≤ r ∧ r ≤ 1114111
  · rw [if_pos h, ← decide_not]; exact congrArg some (decide_eq_decide.mpr (by omega))
  · rw [if_neg h]; simp; omega

/-! #### rune -/
theorem spec_l1tail_eq (l : List Int) (i : Int) (hb : Bytes l) (h0 : 0 ≤ i) (hl : l.length ≤ 2000000) : spec_l1tail.f l i = some (if 128 ≤ rd l i ∧ rd l i ≤ 191 then rd l i % 64 else -1) := by
  unfold spec_l1tail.f
  have h := hb.at_ i
  by_cases h1 : i ≥ (l.length : Int)
  · have z : rd l i = 0 := by
      have := rd_out l i.toNat (by omega)
      rwa [Int.toNat_of_nonneg h0] at this
    rw [if_pos h1, z]; rfl
  · rw [if_neg h1, if_pos h0, if_pos (by omega)]
    by_cases h2 : rd l i < 128
    · rw [if_pos h2, if_neg (by omega)]
    · rw [if_neg h2]
      by_cases h3 : rd l i > 191
      · rw [if_pos h3, if_neg (by omega)]
      · rw [if_neg h3, if_pos (by omega), w64 (by omega) (by omega), and_63 _ h.1 (by omega)]
theorem fin_eq (r least n : Int) : (if r < least then (some ((65533 : Int), (1 : Int))) else ((spec_l1may.f r).bind fun t => (if t = true then (some (r, n)) else (some (65533, 1))))) = some (finV r least n) := by
  rw [spec_l1may_eq]
  unfold finV
  by_cases h : r < least
  · rw [if_pos h, if_pos (.inl h)]
  · rw [if_neg h]
    simp only [Option.bind_some]
    by_cases g : mayB r = true
    · rw [if_pos g, if_neg (by simp [g]; omega)]
    · rw [if_neg g, if_pos (.inr (by simpa using g))]
theorem drop_getD (l : List Int) (i j : Nat) : (l.drop i).getD j 0 = rd l ((i : Int) + j) := by
  rw [show (i : Int) + (j : Int) = ((i + j : Nat) : Int) by omega, rd_nat, List.getD_eq_getElem?_getD, List.getD_eq_getElem?_getD, List.getElem?_drop]
theorem ev_spec_l1rune (l : List Int) (i : Nat) (hb : Bytes l) (hi : i < l.length) (hl : l.length ≤ 2000000) : Ev (fun k => spec_l1rune.f k l (i : Int)) (decV (l.drop i)) := by
  have key : spec_l1rune.f 9 l (i : Int) = some (decV (l.drop i)) := by
    unfold spec_l1rune.f decV dec4
    rw [drop_getD, drop_getD, drop_getD, drop_getD]
    rw [if_pos (by omega), if_pos (by omega), show (i : Int) + ((0 : Nat) : Int) = (i : Int) by omega, show ((1 : Nat) : Int) = 1 from rfl, show ((2 : Nat) : Int) = 2 from rfl, show ((3 : Nat) : Int) = 3 from rfl]
    have hx := hb.at_ (i : Int)
    have t1 := spec_l1tail_eq l ((i : Int) + 1) hb (by omega) hl
    have t2 := spec_l1tail_eq l ((i : Int) + 2) hb (by omega) hl
    have t3 := spec_l1tail_eq l ((i : Int) + 3) hb (by omega) hl
    have h1 := hb.at_ ((i : Int) + 1)
    have h2 := hb.at_ ((i : Int) + 2)
    have h3 := hb.at_ ((i : Int) + 3)
    rw [w64 (x := rd l (i : Int)) (by omega) (by omega)]
    generalize rd l (i : Int) = x at *
    generalize rd l ((i : Int) + 1) = c1 at *
    generalize rd l ((i : Int) + 2) = c2 at *
    generalize rd l ((i : Int) + 3) = c3 at *
    by_cases a0 : x < 128
    · rw [if_pos a0, if_pos a0]
    rw [if_neg a0, if_neg a0]
    have w1 : wrap64 ((i : Int) + 1) = (i : Int) + 1 := w64 (by omega) (by omega)
    have w2 : wrap64 ((i : Int) + 2) = (i : Int) + 2 := w64 (by omega) (by omega)
    have w3 : wrap64 ((i : Int) + 3) = (i : Int) + 3 := w64 (by omega) (by omega)
    have v1 : wrap64 (1 + 1) = 2 := w64 (by omega) (by omega)
    have v2 : wrap64 (2 + 1) = 3 := w64 (by omega) (by omega)
    have v3 : wrap64 (3 + 1) = 4 := w64 (by omega) (by omega)
    by_cases a1 : x ≥ 194 ∧ x ≤ 223
    · have d : decide (x ≤ 223) = true := by simp; omega
      rw [if_pos a1.1, if_pos (by omega), d]
      simp only [spec_l1rune.j0, if_true, spec_l1rune.j2, spec_l1rune.l0, w1, t1, Option.bind_some, v1, Int.reduceLT, if_false]
      rw [and_31 _ (by omega) (by omega)]
      by_cases g1 : 128 ≤ c1 ∧ c1 ≤ 191
      · rw [if_pos g1, if_pos g1, if_neg (by omega), w64 (x := x % 32 * 64) (by omega) (by omega), w64 (x := x % 32 * 64 + c1 % 64) (by omega) (by omega)]
        exact fin_eq _ _ _
      · rw [if_neg g1, if_neg g1]; rfl
    by_cases a2 : x ≥ 224 ∧ x ≤ 239
    · have d : decide (x ≤ 239) = true := by simp; omega
      have d2 : decide (x ≤ 223) = false := by simp; omega
      rw [if_pos (by omega), if_neg (by omega), if_pos (by omega), d2]
      simp only [spec_l1rune.j0, Bool.false_eq_true, if_false, if_pos a2.1, d, spec_l1rune.j1, if_true, spec_l1rune.j2, spec_l1rune.l0, w1, t1, Option.bind_some, v1, Int.reduceLT, w2, t2, v2]
      rw [and_15 _ (by omega) (by omega)]
      by_cases g1 : 128 ≤ c1 ∧ c1 ≤ 191
      · rw [if_pos g1, if_neg (show ¬ c1 % 64 < 0 by omega), w64 (x := x % 16 * 64) (by omega) (by omega), w64 (x := x % 16 * 64 + c1 % 64) (by omega) (by omega)]
        by_cases g2 : 128 ≤ c2 ∧ c2 ≤ 191
        · rw [if_pos g2, if_pos (And.intro g1 g2), if_neg (by omega), w64 (x := (x % 16 * 64 + c1 % 64) * 64) (by omega) (by omega), w64 (x := (x % 16 * 64 + c1 % 64) * 64 + c2 % 64) (by omega) (by omega)]
          exact fin_eq _ _ _
        · rw [if_neg g2, if_neg (show ¬ ((128 ≤ c1 ∧ c1 ≤ 191) ∧ 128 ≤ c2 ∧ c2 ≤ 191) from fun z => g2 z.2)]; rfl
      · rw [if_neg g1, if_neg (show ¬ ((128 ≤ c1 ∧ c1 ≤ 191) ∧ 128 ≤ c2 ∧ c2 ≤ 191) from fun z => g1 z.1)]; rfl
    by_cases a3 : x ≥ 240 ∧ x ≤ 244
    · have d2 : decide (x ≤ 223) = false := by simp; omega
      have d3 : decide (x ≤ 239) = false := by simp; omega
      rw [if_pos (by omega), if_neg (by omega), if_neg (by omega), if_pos (by omega), d2]
      simp only [spec_l1rune.j0, Bool.false_eq_true, if_false, if_pos (show x ≥ 224 by omega), d3, spec_l1rune.j1, if_pos a3.1, if_pos a3.2, spec_l1rune.j2, spec_l1rune.l0, w1, t1, Option.bind_some, v1, Int.reduceLT, if_true, w2, t2, v2, w3, t3, v3]
      rw [and_7 _ (by omega) (by omega)]
      by_cases g1 : 128 ≤ c1 ∧ c1 ≤ 191
      · rw [if_pos g1, if_neg (show ¬ c1 % 64 < 0 by omega), w64 (x := x % 8 * 64) (by omega) (by omega), w64 (x := x % 8 * 64 + c1 % 64) (by omega) (by omega)]
        by_cases g2 : 128 ≤ c2 ∧ c2 ≤ 191
        · rw [if_pos g2, if_neg (show ¬ c2 % 64 < 0 by omega), w64 (x := (x % 8 * 64 + c1 % 64) * 64) (by omega) (by omega), w64 (x := (x % 8 * 64 + c1 % 64) * 64 + c2 % 64) (by omega) (by omega)]
          by_cases g3 : 128 ≤ c3 ∧ c3 ≤ 191
          · rw [if_pos g3, if_pos (And.intro g1 (And.intro g2 g3)), if_neg (by omega), w64 (x := ((x % 8 * 64 + c1 % 64) * 64 + c2 % 64) * 64) (by omega) (by omega), w64 (x := ((x % 8 * 64 + c1 % 64) * 64 + c2 % 64) * 64 + c3 % 64) (by omega) (by omega)]
            exact fin_eq _ _ _
          · rw [if_neg g3, if_neg (show ¬ ((128 ≤ c1 ∧ c1 ≤ 191) ∧ (128 ≤ c2 ∧ c2 ≤ 191) ∧ 128 ≤ c3 ∧ c3 ≤ 191) from fun z => g3 z.2.2)]; rfl
        · rw [if_neg g2, if_neg (show ¬ ((128 ≤ c1 ∧ c1 ≤ 191) ∧ (128 ≤ c2 ∧ c2 ≤ 191) ∧ 128 ≤ c3 ∧ c3 ≤ 191) from fun z => g2 z.2.1)]; rfl
      · rw [if_neg g1, if_neg (show ¬ ((128 ≤ c1 ∧ c1 ≤ 191) ∧ (128 ≤ c2 ∧ c2 ≤ 191) ∧ 128 ≤ c3 ∧ c3 ≤ 191) from fun z => g1 z.1)]; rfl
    -- no first byte of a rune; or one whose runes all are bad
    have bad : (if 192 ≤ x ∧ x ≤ 223 then (if 128 ≤ c1 ∧ c1 ≤ 191 then finV (x % 32 * 64 + c1 % 64) 128 2 else (65533, 1))
        else if 224 ≤ x ∧ x ≤ 239 then (if (128 ≤ c1 ∧ c1 ≤ 191) ∧ 128 ≤ c2 ∧ c2 ≤ 191 then finV ((x % 16 * 64 + c1 % 64) * 64 + c2 % 64) 2048 3 else (65533, 1))
        else if 240 ≤ x ∧ x ≤ 247 then (if (128 ≤ c1 ∧ c1 ≤ 191) ∧ (128 ≤ c2 ∧ c2 ≤ 191) ∧ 128 ≤ c3 ∧ c3 ≤ 191 then finV (((x % 8 * 64 + c1 % 64) * 64 + c2 % 64) * 64 + c3 % 64) 65536 4 else (65533, 1))
        else (65533, 1)) = ((65533 : Int), (1 : Int)) := by
      by_cases b1 : 192 ≤ x ∧ x ≤ 223
      · rw [if_pos b1]
        by_cases g1 : 128 ≤ c1 ∧ c1 ≤ 191
        · rw [if_pos g1]; unfold finV; rw [if_pos (.inl (by omega))]
        · rw [if_neg g1]
      · rw [if_neg b1, if_neg (by omega)]
        by_cases b2 : 240 ≤ x ∧ x ≤ 247
        · rw [if_pos b2]
          by_cases g1 : (128 ≤ c1 ∧ c1 ≤ 191) ∧ (128 ≤ c2 ∧ c2 ≤ 191) ∧ 128 ≤ c3 ∧ c3 ≤ 191
          · rw [if_pos g1]; unfold finV; rw [if_pos (.inr (by unfold mayB; simp; omega))]
          · rw [if_neg g1]
        · rw [if_neg b2]
    rw [bad]
    by_cases a4 : x ≥ 194
    · have d2 : decide (x ≤ 223) = false := by simp; omega
      have d3 : decide (x ≤ 239) = false := by simp; omega
      rw [if_pos a4, d2]
      simp only [spec_l1rune.j0, Bool.false_eq_true, if_false, if_pos (show x ≥ 224 by omega), d3, spec_l1rune.j1, if_pos (show x ≥ 240 by omega), if_neg (show ¬ x ≤ 244 by omega)]
    · rw [if_neg a4]
      simp only [spec_l1rune.j0, Bool.false_eq_true, if_false, if_neg (show ¬ x ≥ 224 by omega), spec_l1rune.j1, if_neg (show ¬ x ≥ 240 by omega)]
  exact Ev.of (fun k => spec_l1rune.mono l i k) key

/-! #### runeAt -/
theorem impl_sizeOf_eq (r : Int) : impl_sizeOf.f r = some (if r < 128 then 1 else if r < 2048 then 2 else if r < 65536 then 3 else 4) := by
  unfold impl_sizeOf.f
  by_cases h1 : r < 128
  · rw [if_pos h1, if_pos h1]
  rw [if_neg h1, if_neg h1]
  by_cases h2 : r < 2048
  · rw [if_pos h2, if_pos h2]
  rw [if_neg h2, if_neg h2]
  by_cases h3 : r < 65536
  · rw [if_pos h3, if_pos h3]
  · rw [if_neg h3, if_neg h3]
theorem impl_leadSize_eq (x : Int) (h0 : 0 ≤ x) (h1 : x ≤ 255) : impl_leadSize.f x = some (if 192 ≤ x ∧ x ≤ 223 then (2, x % 32) else if 224 ≤ x ∧ x ≤ 239 then (3, x % 16) else if 240 ≤ x ∧ x ≤ 247 then (4, x % 8) else (0, 0)) := by
  unfold impl_leadSize.f
  simp only [within_eq, Option.bind_some, decide_eq_true_eq]
  rw [and_31 _ h0 (by omega), and_15 _ h0 (by omega), and_7 _ h0 (by omega)]
  by_cases a : 192 ≤ x ∧ x ≤ 223
  · rw [if_pos a, if_pos a]
  rw [if_neg a, if_neg a]
  by_cases b : 224 ≤ x ∧ x ≤ 239
  · rw [if_pos b, if_pos b]
  rw [if_neg b, if_neg b]
  by_cases c : 240 ≤ x ∧ x ≤ 247
  · rw [if_pos c, if_pos c]
  · rw [if_neg c, if_neg c]
/-- What a rune's bytes told, looked at last. -/
theorem impl_fin_eq (r least n : Int) (h : (if r < 128 then (1 : Int) else if r < 2048 then 2 else if r < 65536 then 3 else 4) = n ↔ ¬ r < least) :
    ((impl_isPoint.f r).bind fun t126 => (if t126 = true then ((impl_sizeOf.f r).bind fun t127 => (if t127 = n then (some (r, n)) else (some (65533, 1)))) else (some ((65533 : Int), (1 : Int))))) = some (finV r least n) := by
  rw [impl_isPoint_eq, impl_sizeOf_eq]
  simp only [Option.bind_some]
  unfold finV
  by_cases a : mayB r = true
  · rw [if_pos a]
    by_cases b : r < least
    · rw [if_neg (fun z => (h.1 z) b), if_pos (.inl b)]
    · rw [if_pos (h.2 b), if_neg (by simp [a]; omega)]
  · rw [if_neg a, if_pos (.inr (by simpa using a))]
theorem impl_step (k : Nat) (n r : Int) (q : List Int) (i : Nat) (hi : i < q.length) (hq : Bytes q) (hl : q.length ≤ 3) (r0 : 0 ≤ r) (r1 : r ≤ 1000000) :
    impl_runeAt.l0 (k + 1) n r q (q.length : Int) (i : Int) = if 128 ≤ rd q i ∧ rd q i ≤ 191 then impl_runeAt.l0 k n (r * 64 + rd q i % 64) q (q.length : Int) ((i + 1 : Nat) : Int) else some (65533, 1) := by
  have hx := hq.at_ (i : Int)
  simp only [impl_runeAt.l0]
  rw [if_pos (by omega), if_pos (by omega), if_pos (by omega), orc _ _ r0 r1 hx.1 hx.2, w64 (x := (i : Int) + 1) (by omega) (by omega)]
  by_cases h : 128 ≤ rd q i ∧ rd q i ≤ 191
  · rw [if_pos h, if_pos (by omega)]; rfl
  · rw [if_neg h, if_neg (by omega)]
theorem impl_stop (k : Nat) (n r : Int) (q : List Int) : impl_runeAt.l0 (k + 1) n r q (q.length : Int) (q.length : Int) = ((impl_isPoint.f r).bind fun t126 => (if t126 = true then ((impl_sizeOf.f r).bind fun t127 => (if t127 = n then (some (r, n)) else (some (65533, 1)))) else (some (65533, 1)))) := by
  simp only [impl_runeAt.l0]
  rw [if_neg (by omega)]
theorem ev_impl_runeAt (l : List Int) (hb : Bytes l) (h : 0 < l.length) : Ev (fun k => impl_runeAt.f k l) (decV l) := by
  have key : impl_runeAt.f 9 l = some (decV l) := by
    rcases l with _ | ⟨x, l⟩
    · cases h
    have hx := hb.head
    have hb := hb.tail
    unfold impl_runeAt.f decV
    rw [if_pos (by simp only [List.length_cons]; omega), show rd (x :: l) 0 = x from rfl, w64 (x := x) (by omega) (by omega), impl_leadSize_eq x hx.1 hx.2, Option.bind_some]
    show _ = some (dec4 x (l.getD 0 0) (l.getD 1 0) (l.getD 2 0))
    unfold dec4
    by_cases a0 : x < 128
    · rw [if_pos a0, if_pos a0]
    rw [if_neg a0, if_neg a0]
    by_cases a1 : 192 ≤ x ∧ x ≤ 223
    · rw [if_pos a1, if_pos a1, if_neg (by simp)]
      rcases l with _ | ⟨c1, l⟩
      · rfl
      have b1 := hb.head
      have hq : Bytes [c1] := Bytes.cons b1.1 b1.2 Bytes.nil
      have e : ((x :: c1 :: l).take ((2 : Int)).toNat).drop 1 = [c1] := rfl
      simp only [impl_runeAt.j0]
      rw [if_neg (by simp; omega), if_pos (by decide), if_pos (by simp only [List.length_cons]; omega), e, show (0 : Int) = ((0 : Nat) : Int) from rfl, impl_step 7 2 _ _ 0 (by simp) hq (by simp) (by omega) (by omega), show rd [c1] ((0 : Nat) : Int) = c1 from rfl]
      show _ = some (if 128 ≤ c1 ∧ c1 ≤ 191 then _ else _)
      by_cases g1 : 128 ≤ c1 ∧ c1 ≤ 191
      · rw [if_pos g1, if_pos g1]
        refine (impl_stop 6 2 _ [c1]).trans (impl_fin_eq _ _ _ ?_)
        omega
      · rw [if_neg g1, if_neg g1]
    rw [if_neg a1, if_neg a1]
    by_cases a2 : 224 ≤ x ∧ x ≤ 239
    · rw [if_pos a2, if_pos a2, if_neg (by simp)]
      rcases l with _ | ⟨c1, _ | ⟨c2, l⟩⟩
      · rfl
      · show some _ = some (if (128 ≤ c1 ∧ c1 ≤ 191) ∧ (128 ≤ (0 : Int) ∧ (0 : Int) ≤ 191) then _ else _)
        rw [if_neg (by omega)]
      have b1 := hb.head
      have b2 := hb.tail.head
      have hq : Bytes [c1, c2] := Bytes.cons b1.1 b1.2 (Bytes.cons b2.1 b2.2 Bytes.nil)
      have e : ((x :: c1 :: c2 :: l).take ((3 : Int)).toNat).drop 1 = [c1, c2] := rfl
      simp only [impl_runeAt.j0]
      rw [if_neg (by simp; omega), if_pos (by decide), if_pos (by simp only [List.length_cons]; omega), e, show (0 : Int) = ((0 : Nat) : Int) from rfl, impl_step 7 3 _ _ 0 (by simp) hq (by simp) (by omega) (by omega), show rd [c1, c2] ((0 : Nat) : Int) = c1 from rfl]
      show _ = some (if (128 ≤ c1 ∧ c1 ≤ 191) ∧ (128 ≤ c2 ∧ c2 ≤ 191) then _ else _)
      by_cases g1 : 128 ≤ c1 ∧ c1 ≤ 191
      · rw [if_pos g1, impl_step 6 3 _ _ 1 (by simp) hq (by simp) (by omega) (by omega), show rd [c1, c2] ((1 : Nat) : Int) = c2 from rfl]
        by_cases g2 : 128 ≤ c2 ∧ c2 ≤ 191
        · rw [if_pos g2, if_pos ⟨g1, g2⟩]
          refine (impl_stop 5 3 _ [c1, c2]).trans (impl_fin_eq _ _ _ ?_)
          omega
        · rw [if_neg g2, if_neg (fun z => g2 z.2)]
      · rw [if_neg g1, if_neg (fun z => g1 z.1)]
    rw [if_neg a2, if_neg a2]
    by_cases a3 : 240 ≤ x ∧ x ≤ 247
    · rw [if_pos a3, if_pos a3, if_neg (by simp)]
      rcases l with _ | ⟨c1, _ | ⟨c2, _ | ⟨c3, l⟩⟩⟩
      · rfl
      · show some _ = some (if (128 ≤ c1 ∧ c1 ≤ 191) ∧ (128 ≤ (0 : Int) ∧ (0 : Int) ≤ 191) ∧ (128 ≤ (0 : Int) ∧ (0 : Int) ≤ 191) then _ else _)
        rw [if_neg (by omega)]
      · show some _ = some (if (128 ≤ c1 ∧ c1 ≤ 191) ∧ (128 ≤ c2 ∧ c2 ≤ 191) ∧ (128 ≤ (0 : Int) ∧ (0 : Int) ≤ 191) then _ else _)
        rw [if_neg (by omega)]
      have b1 := hb.head
      have b2 := hb.tail.head
      have b3 := hb.tail.tail.head
      have hq : Bytes [c1, c2, c3] := Bytes.cons b1.1 b1.2 (Bytes.cons b2.1 b2.2 (Bytes.cons b3.1 b3.2 Bytes.nil))
      have e : ((x :: c1 :: c2 :: c3 :: l).take ((4 : Int)).toNat).drop 1 = [c1, c2, c3] := rfl
      simp only [impl_runeAt.j0]
      rw [if_neg (by simp; omega), if_pos (by decide), if_pos (by simp only [List.length_cons]; omega), e, show (0 : Int) = ((0 : Nat) : Int) from rfl, impl_step 7 4 _ _ 0 (by simp) hq (by simp) (by omega) (by omega), show rd [c1, c2, c3] ((0 : Nat) : Int) = c1 from rfl]
      show _ = some (if (128 ≤ c1 ∧ c1 ≤ 191) ∧ (128 ≤ c2 ∧ c2 ≤ 191) ∧ (128 ≤ c3 ∧ c3 ≤ 191) then _ else _)
      by_cases g1 : 128 ≤ c1 ∧ c1 ≤ 191
      · rw [if_pos g1, impl_step 6 4 _ _ 1 (by simp) hq (by simp) (by omega) (by omega), show rd [c1, c2, c3] ((1 : Nat) : Int) = c2 from rfl]
        by_cases g2 : 128 ≤ c2 ∧ c2 ≤ 191
        · rw [if_pos g2, impl_step 5 4 _ _ 2 (by simp) hq (by simp) (by omega) (by omega), show rd [c1, c2, c3] ((2 : Nat) : Int) = c3 from rfl]
          by_cases g3 : 128 ≤ c3 ∧ c3 ≤ 191
          · rw [if_pos g3, if_pos ⟨g1, g2, g3⟩]
            refine (impl_stop 4 4 _ [c1, c2, c3]).trans (impl_fin_eq _ _ _ ?_)
            omega
          · rw [if_neg g3, if_neg (fun z => g3 z.2.2)]
        · rw [if_neg g2, if_neg (fun z => g2 z.2.1)]
      · rw [if_neg g1, if_neg (fun z => g1 z.1)]
    · rw [if_neg a3, if_neg a3, if_pos rfl]
      rfl
  exact Ev.of (fun k => impl_runeAt.mono l k) key

/-! #### runesOf -/
theorem finV_snd (r least n : Int) : (finV r least n).2 = 1 ∨ (finV r least n).2 = n := by
  unfold finV
  split <;> simp
/-- A rune takes some bytes, and no more than there are. -/
theorem decV_snd (b : List Int) (h : b ≠ []) : 1 ≤ (decV b).2 ∧ (decV b).2 ≤ b.length := by
  rcases b with _ | ⟨x, l⟩
  · exact absurd rfl h
  have bad : 1 ≤ ((65533 : Int), (1 : Int)).2 ∧ ((65533 : Int), (1 : Int)).2 ≤ ((x :: l).length : Int) := by simp; omega
  show 1 ≤ (dec4 x (l.getD 0 0) (l.getD 1 0) (l.getD 2 0)).2 ∧ (dec4 x (l.getD 0 0) (l.getD 1 0) (l.getD 2 0)).2 ≤ _
  have out : ∀ i : Nat, 128 ≤ l.getD i 0 → i < l.length := by
    intro i hi
    by_cases g : i < l.length
    · exact g
    · rw [List.getD_eq_getElem?_getD, List.getElem?_eq_none (by omega)] at hi
      simp at hi
  unfold dec4
  by_cases a0 : x < 128
  · rw [if_pos a0]; simp; omega
  rw [if_neg a0]
  by_cases a1 : 192 ≤ x ∧ x ≤ 223
  · rw [if_pos a1]
    by_cases g : 128 ≤ l.getD 0 0 ∧ l.getD 0 0 ≤ 191
    · rw [if_pos g]
      have := out 0 g.1
      have hl : ((x :: l).length : Int) = l.length + 1 := by simp
      rcases finV_snd (x % 32 * 64 + l.getD 0 0 % 64) 128 2 with e | e <;> omega
    · rw [if_neg g]; exact bad
  rw [if_neg a1]
  by_cases a2 : 224 ≤ x ∧ x ≤ 239
  · rw [if_pos a2]
    by_cases g : (128 ≤ l.getD 0 0 ∧ l.getD 0 0 ≤ 191) ∧ 128 ≤ l.getD 1 0 ∧ l.getD 1 0 ≤ 191
    · rw [if_pos g]
      have := out 1 g.2.1
      have hl : ((x :: l).length : Int) = l.length + 1 := by simp
      rcases finV_snd ((x % 16 * 64 + l.getD 0 0 % 64) * 64 + l.getD 1 0 % 64) 2048 3 with e | e <;> omega
    · rw [if_neg g]; exact bad
  rw [if_neg a2]
  by_cases a3 : 240 ≤ x ∧ x ≤ 247
  · rw [if_pos a3]
    by_cases g : (128 ≤ l.getD 0 0 ∧ l.getD 0 0 ≤ 191) ∧ (128 ≤ l.getD 1 0 ∧ l.getD 1 0 ≤ 191) ∧ 128 ≤ l.getD 2 0 ∧ l.getD 2 0 ≤ 191
    · rw [if_pos g]
      have := out 2 g.2.2.1
      have hl : ((x :: l).length : Int) = l.length + 1 := by simp
      rcases finV_snd (((x % 8 * 64 + l.getD 0 0 % 64) * 64 + l.getD 1 0 % 64) * 64 + l.getD 2 0 % 64) 65536 4 with e | e <;> omega
    · rw [if_neg g]; exact bad
  rw [if_neg a3]
  exact bad
/-- All runes of bytes (n: at most so many). -/
def runesL : Nat → List Int → List Int
  | 0, _ => []
  | n + 1, b => if b = [] then [] else (decV b).1 :: runesL n (b.drop (decV b).2.toNat)
/-- Is none of them bad with one byte? -/
def cleanL : Nat → List Int → Bool
  | 0, _ => true
  | n + 1, b => if b = [] then true else !(decide ((decV b).1 = 65533) && decide ((decV b).2 = 1)) && cleanL n (b.drop (decV b).2.toNat)
theorem runesL_len (n : Nat) : ∀ b : List Int, (runesL n b).length ≤ n := by
  induction n with
  | zero => intro b; simp [runesL]
  | succ n ih =>
    intro b
    unfold runesL
    split
    · simp
    · simp only [List.length_cons]; have := ih (b.drop (decV b).2.toNat); omega
theorem ev_impl_runesOf (n : Nat) : ∀ (b acc : List Int) (fl : Bool), Bytes b → b.length ≤ n → acc.length + n ≤ 1000 → Ev (fun k => impl_runesOf.l0 k b acc fl) (acc ++ runesL n b, fl && cleanL n b) := by
  induction n with
  | zero =>
    intro b acc fl hb hl ha
    obtain rfl : b = [] := List.length_eq_zero_iff.1 (by omega)
    refine Ev.step (f := fun _ => some (acc ++ runesL 0 [], fl && cleanL 0 [])) (fun k => ?_) (Ev.now _)
    simp [impl_runesOf.l0, runesL, cleanL]
  | succ n ih =>
    intro b acc fl hb hl ha
    by_cases h : b = []
    · subst h
      refine Ev.step (f := fun _ => some (acc ++ runesL (n + 1) [], fl && cleanL (n + 1) [])) (fun k => ?_) (Ev.now _)
      simp [impl_runesOf.l0, runesL, cleanL]
    have hp : 0 < b.length := List.length_pos_iff.2 h
    have hs := decV_snd b h
    have hd : (b.drop (decV b).2.toNat).length ≤ n := by rw [List.length_drop]; omega
    have e : (acc ++ runesL (n + 1) b, fl && cleanL (n + 1) b) = ((acc ++ [(decV b).1]) ++ runesL n (b.drop (decV b).2.toNat), (fl && !(decide ((decV b).1 = 65533) && decide ((decV b).2 = 1))) && cleanL n (b.drop (decV b).2.toNat)) := by
      conv => lhs; unfold runesL cleanL
      rw [if_neg h, if_neg h]
      simp [Bool.and_assoc]
    rw [e]
    have next := ih (b.drop (decV b).2.toNat) (acc ++ [(decV b).1]) (fl && !(decide ((decV b).1 = 65533) && decide ((decV b).2 = 1))) (hb.drop _) hd (by simp; omega)
    refine Ev.step (fun k => by simp only [impl_runesOf.l0]; rfl) (ev_if_pos (by omega) (Ev.bind (ev_impl_runeAt b hb hp) ?_))
    have hx : (decV b).2 ≤ (b.length : Int) := hs.2
    cases fl with
    | true =>
      refine ev_if_pos rfl ?_
      by_cases g : (decV b).1 = 65533
      · refine ev_if_pos g (ev_if_pos (by omega) (ev_if_pos (by omega) (ev_if_pos hx ?_)))
        rw [show (!((decV b).2 == 1)) = (true && !(decide ((decV b).1 = 65533) && decide ((decV b).2 = 1))) by simp [g]; rfl]
        exact next
      · refine ev_if_neg g (ev_if_pos (by omega) (ev_if_pos (by omega) (ev_if_pos hx ?_)))
        rw [show (!false) = (true && !(decide ((decV b).1 = 65533) && decide ((decV b).2 = 1))) by simp [g]]
        exact next
    | false =>
      refine ev_if_neg (by decide) (ev_if_pos (by omega) (ev_if_pos (by omega) (ev_if_pos hx ?_)))
      exact next

/-! #### Runes -/
theorem ev_spec_Runes_l (x : List Int) (hb : Bytes x) (hl : x.length ≤ 400) (n : Nat) : ∀ (i : Nat) (acc : List Int), i ≤ x.length → x.length - i ≤ n → acc.length + n ≤ 1000 → Ev (fun k => spec_Runes.l0 k x acc (i : Int)) (acc ++ runesL n (x.drop i)) := by
  induction n with
  | zero =>
    intro i acc hi hd ha
    refine Ev.step (fun k => by simp only [spec_Runes.l0]; rfl) (ev_if_neg (by omega) ?_)
    simp only [runesL, List.append_nil]
    exact Ev.now _
  | succ n ih =>
    intro i acc hi hd ha
    by_cases h : i = x.length
    · subst h
      refine Ev.step (fun k => by simp only [spec_Runes.l0]; rfl) (ev_if_neg (by omega) ?_)
      have : x.drop x.length = [] := by simp
      rw [this]
      simp only [runesL, if_true, List.append_nil]
      exact Ev.now _
    have hne : x.drop i ≠ [] := by
      intro e
      have := congrArg List.length e
      simp at this
      omega
    have hs := decV_snd (x.drop i) hne
    rw [List.length_drop] at hs
    have nx := ih (i + (decV (x.drop i)).2.toNat) (acc ++ [(decV (x.drop i)).1]) (by omega) (by omega) (by simp; omega)
    have e1 : wrap64 ((i : Int) + (decV (x.drop i)).2) = ((i + (decV (x.drop i)).2.toNat : Nat) : Int) := by rw [w64 (by omega) (by omega)]; omega
    have e2 : (x.drop i).drop (decV (x.drop i)).2.toNat = x.drop (i + (decV (x.drop i)).2.toNat) := by rw [List.drop_drop]
    refine Ev.step (fun k => by simp only [spec_Runes.l0]; rfl) (ev_if_pos (by omega) (Ev.bind (ev_spec_l1rune x i hb (by omega) (by omega)) ?_))
    refine ev_if_pos (by omega) ?_
    unfold runesL
    rw [if_neg hne, e2, e1]
    rw [List.append_assoc] at nx
    exact nx
/-- The runes of a text, none of one that is too long. -/
def runesV (l : List Int) : List Int := if l.length ≤ 400 then runesL l.length l else []
theorem runesV_len (l : List Int) : (runesV l).length ≤ 400 := by
  unfold runesV
  split
  · have := runesL_len l.length l; omega
  · simp
theorem ev_spec_Runes (l : List Int) (hb : Bytes l) (hl : l.length ≤ 1048576) : Ev (fun k => spec_Runes.f k l) (runesV l) := by
  unfold spec_Runes.f runesV
  by_cases g : l.length ≤ 400
  · rw [if_pos g]
    exact ev_if_neg (by omega) (ev_spec_Runes_l l hb g l.length 0 [] (by omega) (by omega) (by simp; omega))
  · rw [if_neg g]
    exact ev_if_pos (by omega) (Ev.now _)
theorem ev_impl_Runes (l : List Int) (hb : Bytes l) (hl : l.length ≤ 1048576) : Ev (fun k => impl_Runes.f k l) (runesV l) := by
  unfold impl_Runes.f runesV impl_runesOf.f
  by_cases g : l.length ≤ 400
  · rw [if_pos g]
    exact ev_if_neg (by omega) (Ev.bind (ev_impl_runesOf l.length l [] true hb (by omega) (by simp; omega)) (Ev.now _))
  · rw [if_neg g]
    exact ev_if_pos (by omega) (Ev.now _)

/-! #### blank -/
theorem blank_eq (a : Int) : impl_IsBlank.f 6 a = some (a == 9 || a == 32 || a == 160 || a == 8201 || a == 12288) := by
  unfold impl_IsBlank.f slices_Contains_int_int.f slices_Index_int_int.f
  have r0 : rd [9, 32, 160, 8201, 12288] 0 = 9 := rfl
  have r1 : rd [9, 32, 160, 8201, 12288] 1 = 32 := rfl
  have r2 : rd [9, 32, 160, 8201, 12288] 2 = 160 := rfl
  have r3 : rd [9, 32, 160, 8201, 12288] 3 = 8201 := rfl
  have r4 : rd [9, 32, 160, 8201, 12288] 4 = 12288 := rfl
  have w0 : wrap64 (0 + 1) = 1 := w64 (by omega) (by omega)
  have w1 : wrap64 (1 + 1) = 2 := w64 (by omega) (by omega)
  have w2 : wrap64 (2 + 1) = 3 := w64 (by omega) (by omega)
  have w3 : wrap64 (3 + 1) = 4 := w64 (by omega) (by omega)
  have w4 : wrap64 (4 + 1) = 5 := w64 (by omega) (by omega)
  have hl : (([9, 32, 160, 8201, 12288] : List Int).length : Int) = 5 := rfl
  simp only [slices_Index_int_int.l0, hl, r0, r1, r2, r3, r4, w0, w1, w2, w3, w4]
  by_cases h0 : a = 9
  · subst h0; rfl
  by_cases h1 : a = 32
  · subst h1; rfl
  by_cases h2 : a = 160
  · subst h2; rfl
  by_cases h3 : a = 8201
  · subst h3; rfl
  by_cases h4 : a = 12288
  · subst h4; rfl
  simp [h0, h1, h2, h3, h4]
theorem ev_impl_IsBlank (a : Int) : Ev (fun k => impl_IsBlank.f k a) (a == 9 || a == 32 || a == 160 || a == 8201 || a == 12288) := Ev.of (fun k => impl_IsBlank.mono a k) (blank_eq a)
theorem spec_IsBlank_eq (a : Int) : spec_IsBlank.f a = some (a == 9 || a == 32 || a == 160 || a == 8201 || a == 12288) := by
  unfold spec_IsBlank.f
  repeat' split
  all_goals simp_all

/-! #### sign -/
/-- The sign of a code point. -/
def signV (a : Int) : Int := if a = 43 ∨ a = 65291 then 1 else if a = 45 ∨ a = 8722 ∨ a = 65293 then -1 else 0
theorem ev_spec_SignOf (a : Int) : Ev (fun k => spec_SignOf.f k a) (signV a) := by
  refine Ev.of (fun k => spec_SignOf.mono a k) (k := 1) ?_
  unfold spec_SignOf.f signV
  simp only [spec_SignOf.j0]
  repeat' split
  all_goals simp_all
theorem ev_impl_SignOf (a : Int) : Ev (fun k => impl_SignOf.f k a) (signV a) := by
  refine Ev.of (fun k => impl_SignOf.mono a k) (k := 1) ?_
  unfold impl_SignOf.f signV
  simp only [impl_SignOf.j0]
  repeat' split
  all_goals simp_all

/-! #### DigitOf -/
/-- The digit of a code point; -1: it is none. -/
def digitV (a : Int) : Int :=
  if 48 ≤ a ∧ a ≤ 57 then a - 48 else if 1632 ≤ a ∧ a ≤ 1641 then a - 1632 else if 1776 ≤ a ∧ a ≤ 1785 then a - 1776 else if 2406 ≤ a ∧ a ≤ 2415 then a - 2406 else if 65296 ≤ a ∧ a ≤ 65305 then a - 65296 else -1
theorem dg_at (b : Int) (hb : 0 ≤ b ∧ b ≤ 70000) : wrap64 (b + 9) = b + 9 := w64 (by omega) (by omega)
theorem dg_sub (a b : Int) (hb : 0 ≤ b ∧ b ≤ 70000) (h : b ≤ a) (h2 : a ≤ b + 9) : wrap64 (a - b) = a - b := w64 (by omega) (by omega)
theorem ev_spec_DigitOf (a : Int) (h : -9223372036854775808 ≤ a ∧ a ≤ 9223372036854775807) : Ev (fun k => spec_DigitOf.f k a) (digitV a) := by
  have key : spec_DigitOf.f 6 a = some (digitV a) := by
    unfold spec_DigitOf.f
    have r0 : rd [48, 1632, 1776, 2406, 65296] 0 = 48 := rfl
    have r1 : rd [48, 1632, 1776, 2406, 65296] 1 = 1632 := rfl
    have r2 : rd [48, 1632, 1776, 2406, 65296] 2 = 1776 := rfl
    have r3 : rd [48, 1632, 1776, 2406, 65296] 3 = 2406 := rfl
    have r4 : rd [48, 1632, 1776, 2406, 65296] 4 = 65296 := rfl
    have w0 : wrap64 (0 + 1) = 1 := w64 (by omega) (by omega)
    have w1 : wrap64 (1 + 1) = 2 := w64 (by omega) (by omega)
    have w2 : wrap64 (2 + 1) = 3 := w64 (by omega) (by omega)
    have w3 : wrap64 (3 + 1) = 4 := w64 (by omega) (by omega)
    have w4 : wrap64 (4 + 1) = 5 := w64 (by omega) (by omega)
    have v0 : wrap64 (48 + 9) = 57 := w64 (by omega) (by omega)
    have v1 : wrap64 (1632 + 9) = 1641 := w64 (by omega) (by omega)
    have v2 : wrap64 (1776 + 9) = 1785 := w64 (by omega) (by omega)
    have v3 : wrap64 (2406 + 9) = 2415 := w64 (by omega) (by omega)
    have v4 : wrap64 (65296 + 9) = 65305 := w64 (by omega) (by omega)
    have hl : (([48, 1632, 1776, 2406, 65296] : List Int).length : Int) = 5 := rfl
    simp only [spec_DigitOf.l0, hl, r0, r1, r2, r3, r4, w0, w1, w2, w3, w4, v0, v1, v2, v3, v4, ge_iff_le, ite2]
    unfold digitV
    simp only [Int.reduceLT, Int.reduceLE, if_true, if_false, ite_false, reduceIte]
    by_cases c0 : 48 ≤ a ∧ a ≤ 57
    · rw [if_pos c0, if_pos c0, w64 (by omega) (by omega)]
    rw [if_neg c0, if_neg c0]
    by_cases c1 : 1632 ≤ a ∧ a ≤ 1641
    · rw [if_pos c1, if_pos c1, w64 (by omega) (by omega)]
    rw [if_neg c1, if_neg c1]
    by_cases c2 : 1776 ≤ a ∧ a ≤ 1785
    · rw [if_pos c2, if_pos c2, w64 (by omega) (by omega)]
    rw [if_neg c2, if_neg c2]
    by_cases c3 : 2406 ≤ a ∧ a ≤ 2415
    · rw [if_pos c3, if_pos c3, w64 (by omega) (by omega)]
    rw [if_neg c3, if_neg c3]
    by_cases c4 : 65296 ≤ a ∧ a ≤ 65305
    · rw [if_pos c4, if_pos c4, w64 (by omega) (by omega)]
    rw [if_neg c4, if_neg c4]
  exact Ev.of (fun k => spec_DigitOf.mono a k) key
theorem ev_impl_DigitOf (a : Int) (h : -9223372036854775808 ≤ a ∧ a ≤ 9223372036854775807) : Ev (fun k => impl_DigitOf.f k a) (digitV a) := by
  have key : impl_DigitOf.f 6 a = some (digitV a) := by
    unfold impl_DigitOf.f
    have r0 : rd [48, 1632, 1776, 2406, 65296] 0 = 48 := rfl
    have r1 : rd [48, 1632, 1776, 2406, 65296] 1 = 1632 := rfl
    have r2 : rd [48, 1632, 1776, 2406, 65296] 2 = 1776 := rfl
    have r3 : rd [48, 1632, 1776, 2406, 65296] 3 = 2406 := rfl
    have r4 : rd [48, 1632, 1776, 2406, 65296] 4 = 65296 := rfl
    have w0 : wrap64 (0 + 1) = 1 := w64 (by omega) (by omega)
    have w1 : wrap64 (1 + 1) = 2 := w64 (by omega) (by omega)
    have w2 : wrap64 (2 + 1) = 3 := w64 (by omega) (by omega)
    have w3 : wrap64 (3 + 1) = 4 := w64 (by omega) (by omega)
    have w4 : wrap64 (4 + 1) = 5 := w64 (by omega) (by omega)
    have v0 : wrap64 (48 + 9) = 57 := w64 (by omega) (by omega)
    have v1 : wrap64 (1632 + 9) = 1641 := w64 (by omega) (by omega)
    have v2 : wrap64 (1776 + 9) = 1785 := w64 (by omega) (by omega)
    have v3 : wrap64 (2406 + 9) = 2415 := w64 (by omega) (by omega)
    have v4 : wrap64 (65296 + 9) = 65305 := w64 (by omega) (by omega)
    have hl : (([48, 1632, 1776, 2406, 65296] : List Int).length : Int) = 5 := rfl
    simp only [Option.bind_some, impl_DigitOf.l0, within_eq, decide_eq_true_eq, hl, r0, r1, r2, r3, r4, w0, w1, w2, w3, w4, v0, v1, v2, v3, v4]
    unfold digitV
    simp only [Int.reduceLT, Int.reduceLE, reduceIte]
    by_cases c0 : 48 ≤ a ∧ a ≤ 57
    · rw [if_pos c0, if_pos c0, w64 (by omega) (by omega)]
    rw [if_neg c0, if_neg c0]
    by_cases c1 : 1632 ≤ a ∧ a ≤ 1641
    · rw [if_pos c1, if_pos c1, w64 (by omega) (by omega)]
    rw [if_neg c1, if_neg c1]
    by_cases c2 : 1776 ≤ a ∧ a ≤ 1785
    · rw [if_pos c2, if_pos c2, w64 (by omega) (by omega)]
    rw [if_neg c2, if_neg c2]
    by_cases c3 : 2406 ≤ a ∧ a ≤ 2415
    · rw [if_pos c3, if_pos c3, w64 (by omega) (by omega)]
    rw [if_neg c3, if_neg c3]
    by_cases c4 : 65296 ≤ a ∧ a ≤ 65305
    · rw [if_pos c4, if_pos c4, w64 (by omega) (by omega)]
    rw [if_neg c4, if_neg c4]
  exact Ev.of (fun k => impl_DigitOf.mono a k) key

/-! #### RuneBytes -/
/-- The bytes of a code point. -/
def runeV (r : Int) : List Int :=
  if mayB r = true then
    if r < 128 then [r] else if r < 2048 then [192 + r / 64, 128 + r % 64]
    else if r < 65536 then [224 + r / 4096, 128 + r / 64 % 64, 128 + r % 64]
    else [240 + r / 262144, 128 + r / 4096 % 64, 128 + r / 64 % 64, 128 + r % 64]
  else []
theorem spec_RuneBytes_eq (r : Int) : spec_RuneBytes.f r = some (runeV r) := by
  unfold spec_RuneBytes.f runeV
  rw [spec_l1may_eq]
  simp only [Option.bind_some]
  by_cases h : mayB r = true
  · rw [if_pos h, if_pos h]
    have hr : 0 ≤ r ∧ r ≤ 1114111 := by unfold mayB at h; simp at h; omega
    by_cases h1 : r < 128
    · rw [if_pos h1, if_pos h1, show r % 256 = r by omega]
    rw [if_neg h1, if_neg h1, td _ 64 (by omega), tm r 64 (by omega), td _ 4096 (by omega), td _ 262144 (by omega), w64 (x := r / 64) (by omega) (by omega), w64 (x := r / 4096) (by omega) (by omega), w64 (x := r / 262144) (by omega) (by omega), tm (r / 64) 64 (by omega), tm (r / 4096) 64 (by omega)]
    by_cases h2 : r < 2048
    · rw [if_pos h2, if_pos h2, w64 (by omega) (by omega), w64 (by omega) (by omega), show (192 + r / 64) % 256 = 192 + r / 64 by omega, show (128 + r % 64) % 256 = 128 + r % 64 by omega]
    rw [if_neg h2, if_neg h2]
    by_cases h3 : r < 65536
    · rw [if_pos h3, if_pos h3, w64 (by omega) (by omega), w64 (by omega) (by omega), w64 (by omega) (by omega), show (224 + r / 4096) % 256 = 224 + r / 4096 by omega, show (128 + r / 64 % 64) % 256 = 128 + r / 64 % 64 by omega, show (128 + r % 64) % 256 = 128 + r % 64 by omega]
    rw [if_neg h3, if_neg h3, w64 (by omega) (by omega), w64 (by omega) (by omega), w64 (by omega) (by omega), w64 (by omega) (by omega), show (240 + r / 262144) % 256 = 240 + r / 262144 by omega, show (128 + r / 4096 % 64) % 256 = 128 + r / 4096 % 64 by omega, show (128 + r / 64 % 64) % 256 = 128 + r / 64 % 64 by omega, show (128 + r % 64) % 256 = 128 + r % 64 by omega]
  · rw [if_neg h, if_neg h]
theorem lowByte (r : Int) (h0 : 0 ≤ r) (h1 : r ≤ 1114111) : Go.bits .or .i64 128 (Go.bits .and .i64 r 63) % 256 = 128 + r % 64 := by
  rw [and_63 _ h0 (by omega), or_join 6 128 (r % 64) (by decide) (by decide) (by decide) (by omega) (by omega) (by omega)]
  omega
theorem ev_impl_RuneBytes (r : Int) : Ev (fun k => impl_RuneBytes.f k r) (runeV r) := by
  have key : impl_RuneBytes.f 4 r = some (runeV r) := by
    unfold impl_RuneBytes.f runeV impl_sizeOf.f
    rw [impl_isPoint_eq]
    simp only [Option.bind_some]
    by_cases h : mayB r = true
    · rw [if_pos h, if_pos h]
      have hr : 0 ≤ r ∧ r ≤ 1114111 := by unfold mayB at h; simp at h; omega
      by_cases h1 : r < 128
      · rw [if_pos h1, if_pos h1]
        simp only [Option.bind_some, if_true]
        rw [show r % 256 = r by omega]
      rw [if_neg h1, if_neg h1]
      have y2 : rd [0, 0, 192, 224, 240] 2 = 192 := rfl
      have y3 : rd [0, 0, 192, 224, 240] 3 = 224 := rfl
      have y4 : rd [0, 0, 192, 224, 240] 4 = 240 := rfl
      have v2 : wrap64 (2 - 1) = 1 := w64 (by omega) (by omega)
      have v3 : wrap64 (3 - 1) = 2 := w64 (by omega) (by omega)
      have v4 : wrap64 (4 - 1) = 3 := w64 (by omega) (by omega)
      have v1 : wrap64 (1 - 1) = 0 := w64 (by omega) (by omega)
      by_cases h2 : r < 2048
      · rw [if_pos h2, if_pos h2]
        have o : Go.bits .or .i64 192 (r / 64) % 256 = 192 + r / 64 := by
          rw [or_join 5 192 (r / 64) (by decide) (by decide) (by decide) (by omega) (by omega) (by omega)]; omega
        have rep : List.replicate (2 : Int).toNat (0 : Int) = [0, 0] := rfl
        simp only [Option.bind_some, rep, v2, impl_RuneBytes.l0, v1, lowByte r hr.1 hr.2]
        simp [y2, o]
      rw [if_neg h2, if_neg h2]
      by_cases h3 : r < 65536
      · rw [if_pos h3, if_pos h3]
        have o : Go.bits .or .i64 224 (r / 64 / 64) % 256 = 224 + r / 4096 := by
          rw [or_join 4 224 (r / 64 / 64) (by decide) (by decide) (by decide) (by omega) (by omega) (by omega)]; omega
        have rep : List.replicate (3 : Int).toNat (0 : Int) = [0, 0, 0] := rfl
        simp only [Option.bind_some, rep, v3, impl_RuneBytes.l0, v2, v1, lowByte r hr.1 hr.2, lowByte (r / 64) (by omega) (by omega)]
        simp [y3, o]
      rw [if_neg h3, if_neg h3]
      have o : Go.bits .or .i64 240 (r / 64 / 64 / 64) % 256 = 240 + r / 262144 := by
        rw [or_join 3 240 (r / 64 / 64 / 64) (by decide) (by decide) (by decide) (by omega) (by omega) (by omega)]; omega
      have rep : List.replicate (4 : Int).toNat (0 : Int) = [0, 0, 0, 0] := rfl
      simp only [Option.bind_some, rep, v4, impl_RuneBytes.l0, v3, v2, v1, lowByte r hr.1 hr.2, lowByte (r / 64) (by omega) (by omega), lowByte (r / 64 / 64) (by omega) (by omega)]
      simp [y4, o]
      omega
    · rw [if_neg h, if_neg h]
  exact Ev.of (fun k => impl_RuneBytes.mono r k) key
theorem runeV_len (r : Int) : (runeV r).length ≤ 4 := by
  unfold runeV
  repeat' split
  all_goals simp

/-! #### Plain -/
theorem decV_fst (b : List Int) (hb : Bytes b) : 0 ≤ (decV b).1 ∧ (decV b).1 ≤ 1114111 := by
  have f : ∀ r least n : Int, 0 ≤ (finV r least n).1 ∧ (finV r least n).1 ≤ 1114111 := by
    intro r least n
    unfold finV
    by_cases g : r < least ∨ mayB r = false
    · rw [if_pos g]; decide
    · rw [if_neg g]
      have : mayB r = true := by simp at g; exact g.2
      unfold mayB at this
      simp at this
      exact ⟨this.1, this.2.1⟩
  have x := hb.at_ 0
  have e : b.getD 0 0 = rd b 0 := rfl
  unfold decV dec4
  rw [e]
  repeat' split
  all_goals first | exact f _ _ _ | (simp; omega) | decide
theorem runesL_range (n : Nat) : ∀ b : List Int, Bytes b → ∀ r ∈ runesL n b, 0 ≤ r ∧ r ≤ 1114111 := by
  induction n with
  | zero => intro b hb r hr; simp [runesL] at hr
  | succ n ih =>
    intro b hb r hr
    unfold runesL at hr
    split at hr
    · cases hr
    · rcases List.mem_cons.1 hr with rfl | h
      · exact decV_fst b hb
      · exact ih _ (hb.drop _) r h
theorem runesV_range (l : List Int) (hb : Bytes l) : ∀ r ∈ runesV l, 0 ≤ r ∧ r ≤ 1114111 := by
  unfold runesV
  split
  · exact runesL_range _ l hb
  · intro r h; cases h
/-- What a rune becomes. -/
def plainV (r : Int) : List Int := if digitV r ≥ 0 then [(wrap64 (48 + digitV r)) % 256] else if signV r > 0 then [43] else if signV r < 0 then [45] else if (r == 9 || r == 32 || r == 160 || r == 8201 || r == 12288) = true then [32] else runeV r
theorem plainV_len (r : Int) : (plainV r).length ≤ 4 := by
  have := runeV_len r
  unfold plainV
  repeat' split
  all_goals first | exact this | simp
theorem ev_impl_plainOf (r : Int) (h0 : 0 ≤ r) (h1 : r ≤ 1114111) : Ev (fun k => impl_plainOf.f k r) (plainV r) := by
  unfold impl_plainOf.f plainV
  have hd := ev_impl_DigitOf r (by omega)
  refine Ev.bind hd ?_
  by_cases a : digitV r ≥ 0
  · rw [if_pos a]
    exact ev_if_pos a (Ev.bind hd (Ev.now _))
  rw [if_neg a]
  refine ev_if_neg a (Ev.bind (ev_impl_SignOf r) ?_)
  by_cases b : signV r > 0
  · rw [if_pos b]
    exact ev_if_pos b (Ev.now _)
  rw [if_neg b]
  refine ev_if_neg b (Ev.bind (ev_impl_SignOf r) ?_)
  by_cases c : signV r < 0
  · rw [if_pos c]
    exact ev_if_pos c (Ev.now _)
  rw [if_neg c]
  refine ev_if_neg c (Ev.bind (ev_impl_IsBlank r) ?_)
  by_cases d : (r == 9 || r == 32 || r == 160 || r == 8201 || r == 12288) = true
  · rw [if_pos d]
    exact ev_if_pos d (Ev.now _)
  rw [if_neg d]
  exact ev_if_neg d (Ev.bind (ev_impl_RuneBytes r) (Ev.now _))
theorem ev_impl_Plain_l (l : List Int) (hl : l.length ≤ 400) (hr : ∀ r ∈ l, 0 ≤ r ∧ r ≤ 1114111) (d : Nat) : ∀ (i : Nat) (acc : List Int), i + d = l.length → acc.length ≤ 4 * i → Ev (fun k => impl_Plain.l0 k acc l (l.length : Int) (i : Int)) (acc ++ (l.drop i).flatMap plainV) := by
  induction d with
  | zero =>
    intro i acc hi ha
    refine Ev.step (fun k => by simp only [impl_Plain.l0]; rfl) (ev_if_neg (by omega) ?_)
    rw [List.drop_of_length_le (by omega)]
    simp only [List.flatMap_nil, List.append_nil]
    exact Ev.now _
  | succ d ih =>
    intro i acc hi ha
    have hx := hr _ (List.getElem_mem (show i < l.length by omega))
    have hp := plainV_len l[i]
    have nx := ih (i + 1) (acc ++ plainV l[i]) (by omega) (by simp; omega)
    refine Ev.step (fun k => by simp only [impl_Plain.l0]; rfl) (ev_if_pos (by omega) (ev_if_pos (by omega) (ev_if_pos (by omega) ?_)))
    rw [rd_get _ _ (by omega)]
    refine Ev.bind (ev_impl_plainOf _ hx.1 hx.2) ?_
    refine ev_if_pos (by omega) ?_
    rw [w64 (by omega) (by omega), List.drop_eq_getElem_cons (show i < l.length by omega), List.flatMap_cons, ← List.append_assoc]
    exact nx
theorem ev_spec_Plain_l (l : List Int) (hl : l.length ≤ 400) (hr : ∀ r ∈ l, 0 ≤ r ∧ r ≤ 1114111) (d : Nat) : ∀ (i : Nat) (acc : List Int), i + d = l.length → acc.length ≤ 4 * i → Ev (fun k => spec_Plain.l0 k l acc (i : Int)) (acc ++ (l.drop i).flatMap plainV) := by
  induction d with
  | zero =>
    intro i acc hi ha
    refine Ev.step (fun k => by simp only [spec_Plain.l0]; rfl) (ev_if_neg (by omega) ?_)
    rw [List.drop_of_length_le (by omega)]
    simp only [List.flatMap_nil, List.append_nil]
    exact Ev.now _
  | succ d ih =>
    intro i acc hi ha
    have hx := hr _ (List.getElem_mem (show i < l.length by omega))
    have hp := plainV_len l[i]
    have nx := ih (i + 1) (acc ++ plainV l[i]) (by omega) (by simp; omega)
    refine Ev.step (fun k => by simp only [spec_Plain.l0]; rfl) (ev_if_pos (by omega) (ev_if_pos (by omega) ?_))
    rw [rd_get _ _ (by omega), w64 (x := (i : Int) + 1) (by omega) (by omega), List.drop_eq_getElem_cons (show i < l.length by omega), List.flatMap_cons, ← List.append_assoc]
    generalize l[i] = r at *
    unfold plainV at nx hp ⊢
    refine Ev.bind (ev_spec_DigitOf r (by omega)) ?_
    by_cases a : digitV r ≥ 0
    · rw [if_pos a] at nx ⊢
      refine ev_if_pos a (Ev.bind (ev_spec_DigitOf r (by omega)) ?_)
      exact ev_if_pos (by omega) nx
    rw [if_neg a] at nx hp ⊢
    refine ev_if_neg a (Ev.bind (ev_spec_SignOf r) ?_)
    by_cases b : signV r > 0
    · rw [if_pos b] at nx ⊢
      exact ev_if_pos b (ev_if_pos (by omega) nx)
    rw [if_neg b] at nx hp ⊢
    refine ev_if_neg b (Ev.bind (ev_spec_SignOf r) ?_)
    by_cases c : signV r < 0
    · rw [if_pos c] at nx ⊢
      exact ev_if_pos c (ev_if_pos (by omega) nx)
    rw [if_neg c] at nx hp ⊢
    refine ev_if_neg c (ev_bind0 (spec_IsBlank_eq r) ?_)
    by_cases e : (r == 9 || r == 32 || r == 160 || r == 8201 || r == 12288) = true
    · rw [if_pos e] at nx ⊢
      exact ev_if_pos e (ev_if_pos (by omega) nx)
    rw [if_neg e] at nx hp ⊢
    refine ev_if_neg e (ev_bind0 (spec_RuneBytes_eq r) ?_)
    exact ev_if_pos (by omega) nx
theorem ev_impl_Plain (l : List Int) (hb : Bytes l) (hl : l.length ≤ 1048576) : Ev (fun k => impl_Plain.f k l) ((runesV l).flatMap plainV) := by
  unfold impl_Plain.f
  exact Ev.bind (ev_impl_Runes l hb hl) (ev_impl_Plain_l (runesV l) (runesV_len l) (runesV_range l hb) (runesV l).length 0 [] (by omega) (by simp))
theorem ev_spec_Plain (l : List Int) (hb : Bytes l) (hl : l.length ≤ 1048576) : Ev (fun k => spec_Plain.f k l) ((runesV l).flatMap plainV) := by
  unfold spec_Plain.f
  exact Ev.bind (ev_spec_Runes l hb hl) (ev_spec_Plain_l (runesV l) (runesV_len l) (runesV_range l hb) (runesV l).length 0 [] (by omega) (by simp))
theorem flat_len (l : List Int) : (l.flatMap plainV).length ≤ 4 * l.length := by
  induction l with
  | nil => simp
  | cons r l ih => have := plainV_len r; simp only [List.flatMap_cons, List.length_append, List.length_cons]; omega

/-! #### toByteS -/
theorem ev_toByteS (l : List Int) (hb : l.length ≤ 1048576) : Ev (fun k => laws_toByteS.f k l) l := by
  unfold laws_toByteS.f
  refine ev_if_pos (by omega) (ev_if_pos (by simp; omega) ?_)
  have key : ∀ d i : Nat, ∀ x : List Int, i + d = l.length → x.length = l.length → x.take i = l.take i → Ev (fun k => laws_toByteS.l0 k l x (i : Int)) l := by
    intro d
    induction d with
    | zero =>
      intro i x hi hx ht
      refine Ev.step (f := fun _ => some l) (fun k => ?_) (Ev.now _)
      simp only [laws_toByteS.l0]
      rw [if_neg (by omega)]
      rw [List.take_of_length_le (by omega), List.take_of_length_le (by omega)] at ht
      rw [ht]
    | succ d ih =>
      intro i x hi hx ht
      refine Ev.step (f := fun k => laws_toByteS.l0 k l (x.set i (rd l (i : Int))) ((i + 1 : Nat) : Int)) (fun k => ?_) (ih (i + 1) _ (by omega) (by simpa using hx) ?_)
      · simp only [laws_toByteS.l0]
        rw [if_pos (by omega), if_pos (by omega), if_pos (by omega), w64 (by omega) (by omega)]
        simp only [Int.toNat_natCast, Int.natCast_add, Int.natCast_one]
      · rw [List.take_succ_eq_append_getElem (by simp; omega), List.take_succ_eq_append_getElem (by omega), rd_get _ _ (by omega)]
        rw [List.take_set_of_le (by omega), ht]
        simp
  exact key l.length 0 _ (by omega) (by simp) (by simp)

/-! #### eqByteS -/
theorem ev_eqByteS (l0 l1 : List Int) (hb : l0.length ≤ 9000000000000000000) : Ev (fun k => laws_eqByteS.f k l0 l1) (decide (l0 = l1)) := by
  unfold laws_eqByteS.f
  by_cases hl : (l0.length : Int) = (l1.length : Int)
  · refine ev_if_pos hl ?_
    have key : ∀ d i : Nat, i + d = l0.length → l0.take i = l1.take i → Ev (fun k => laws_eqByteS.l0 k l0 l1 (i : Int)) (decide (l0 = l1)) := by
      intro d
      induction d with
      | zero =>
        intro i hi ht
        have he : l0 = l1 := by rw [List.take_of_length_le (by omega), List.take_of_length_le (by omega)] at ht; exact ht
        refine Ev.step (f := fun _ => some (decide (l0 = l1))) (fun k => ?_) (Ev.now _)
        simp only [laws_eqByteS.l0]
        rw [if_neg (by omega)]; simp [he]
      | succ d ih =>
        intro i hi ht
        by_cases he : rd l0 (i : Int) = rd l1 (i : Int)
        · refine Ev.step (f := fun k => laws_eqByteS.l0 k l0 l1 ((i + 1 : Nat) : Int)) (fun k => ?_) (ih (i + 1) (by omega) ?_)
          · simp only [laws_eqByteS.l0]
            rw [if_pos (by omega), if_pos (by omega), if_pos (by omega), if_pos he, w64 (by omega) (by omega)]
            rfl
          · rw [rd_get _ _ (by omega), rd_get _ _ (by omega)] at he
            rw [List.take_succ_eq_append_getElem (by omega), List.take_succ_eq_append_getElem (by omega), ht, he]
        · refine Ev.step (f := fun _ => some (decide (l0 = l1))) (fun k => ?_) (Ev.now _)
          simp only [laws_eqByteS.l0]
          rw [if_pos (by omega), if_pos (by omega), if_pos (by omega), if_neg he]
          have hne : ¬ l0 = l1 := fun e => he (by rw [e])
          simp [hne]
    exact key l0.length 0 (by omega) (by simp)
  · refine ev_if_neg hl ?_
    have hne : ¬ l0 = l1 := fun e => hl (by rw [e])
    have e : (fun _ : Nat => some false) = fun _ : Nat => some (decide (l0 = l1)) := by simp [hne]
    rw [e]; exact Ev.now _

/-! #### markByteS -/
/-- Marks from a on, as bytes. -/
def bmarks (a : Int) : Nat → List Int
  | 0 => []
  | n + 1 => (a % 256) :: bmarks (a + 1) n
theorem bmarks_length (n : Nat) : ∀ a, (bmarks a n).length = n := by
  induction n with
  | zero => intro a; rfl
  | succ n ih => intro a; simp [bmarks, ih]
theorem bmarks_get (n : Nat) : ∀ a i, i < n → (bmarks a n).getD i 0 = (a + i) % 256 := by
  induction n with
  | zero => intro a i h; omega
  | succ n ih =>
    intro a i h
    cases i with
    | zero => simp [bmarks]
    | succ i =>
      simp only [bmarks, List.getD_cons_succ]
      rw [ih _ _ (by omega)]
      congr 1; omega
theorem ev_markByteS (l : List Int) (a : Int) (h0 : 0 ≤ a) (hb : a + l.length ≤ 9000000000000000000) : Ev (fun k => laws_markByteS.f k l a) (a + l.length, bmarks a l.length) := by
  unfold laws_markByteS.f
  have key : ∀ d i : Nat, ∀ x : List Int, i + d = l.length → x.length = l.length → (∀ j, j < i → x.getD j 0 = (a + j) % 256) →
      Ev (fun k => laws_markByteS.l0 k x (a + i) (i : Int)) (a + l.length, bmarks a l.length) := by
    intro d
    induction d with
    | zero =>
      intro i x hi hx hm
      refine Ev.step (f := fun _ => some (a + l.length, bmarks a l.length)) (fun k => ?_) (Ev.now _)
      simp only [laws_markByteS.l0]
      rw [if_neg (by omega)]
      have e : x = bmarks a l.length := by
        apply List.ext_getElem
        · rw [hx, bmarks_length]
        · intro j h1 h2
          have p := hm j (by omega)
          have q := bmarks_get l.length a j (by omega)
          rw [List.getD_eq_getElem?_getD, List.getElem?_eq_getElem h1, Option.getD_some] at p
          rw [List.getD_eq_getElem?_getD, List.getElem?_eq_getElem h2, Option.getD_some] at q
          omega
      rw [e, show (i : Int) = l.length by omega]
    | succ d ih =>
      intro i x hi hx hm
      refine Ev.step (f := fun k => laws_markByteS.l0 k (x.set i ((a + i) % 256)) (a + ((i + 1 : Nat) : Int)) ((i + 1 : Nat) : Int)) (fun k => ?_) (ih (i + 1) _ (by omega) (by simpa using hx) ?_)
      · simp only [laws_markByteS.l0]
        rw [if_pos (by omega), if_pos (by omega), w64 (x := a + i + 1) (by omega) (by omega), w64 (x := (i : Int) + 1) (by omega) (by omega)]
        simp only [Int.toNat_natCast, Int.natCast_add, Int.natCast_one, Int.add_assoc]
      · intro j hj
        by_cases e : j = i
        · subst e
          simp [List.getD_eq_getElem?_getD, List.getElem?_set, show j < x.length by omega]
        · have := hm j (by omega)
          rw [List.getD_eq_getElem?_getD] at this ⊢
          rw [List.getElem?_set_ne (by omega)]; exact this
  have := key l.length 0 l (by omega) rfl (fun j hj => by omega)
  simpa using this

/-! #### heldByteS -/
theorem ev_heldByteS (n : Nat) (a : Int) (h0 : 0 ≤ a) (hb : a + n ≤ 9000000000000000000) : Ev (fun k => laws_heldByteS.f k (bmarks a n) a) (a + n) := by
  unfold laws_heldByteS.f
  have hl := bmarks_length n a
  have key : ∀ d i : Nat, i + d = n → Ev (fun k => laws_heldByteS.l0 k (bmarks a n) (a + i) (i : Int)) (a + n) := by
    intro d
    induction d with
    | zero =>
      intro i hi
      refine Ev.step (f := fun _ => some (a + n)) (fun k => ?_) (Ev.now _)
      simp only [laws_heldByteS.l0]
      rw [if_neg (by omega), show (i : Int) = n by omega]
    | succ d ih =>
      intro i hi
      refine Ev.step (f := fun k => laws_heldByteS.l0 k (bmarks a n) (a + ((i + 1 : Nat) : Int)) ((i + 1 : Nat) : Int)) (fun k => ?_) (ih (i + 1) (by omega))
      simp only [laws_heldByteS.l0]
      rw [if_pos (by omega), if_pos (by omega), if_pos (by rw [rd_nat, bmarks_get n a i (by omega)]), w64 (x := a + i + 1) (by omega) (by omega), w64 (x := (i : Int) + 1) (by omega) (by omega)]
      simp only [Int.natCast_add, Int.natCast_one, Int.add_assoc]
  have := key n 0 (by omega)
  simpa using this

/-! #### law_FnExactPlain -/
theorem FnExactPlain : laws_FnExactPlain.Pure := by
  intro l hm hm1 hw
  have hb := bytes_of_wf hw
  have e : Ev (fun n => laws_FnExactPlain.f n l) true := by
    unfold laws_FnExactPlain.f
    by_cases hs : l.length ≤ 1048576
    · obtain ⟨r, hr, h1, h2⟩ := show ∃ r : List Int, r.length ≤ 1600 ∧ Ev (fun k => spec_Plain.f k l) r ∧ Ev (fun k => impl_Plain.f k l) r from ⟨(runesV l).flatMap plainV, by have := flat_len (runesV l); have := runesV_len l; omega, ev_spec_Plain l hb hs, ev_impl_Plain l hb hs⟩
      have hmk := ev_markByteS r 1 (by omega) (by omega)
      have hh := ev_heldByteS r.length 1 (by omega) (by omega)
      refine ev_if_neg (by omega) ?_
      refine Ev.bind (ev_toByteS l hs) (Ev.bind h1 (Ev.bind (ev_toByteS l hs) (Ev.bind h2 (Ev.bind (ev_eqByteS r r (by omega)) ?_))))
      simp only [decide_true, if_true]
      refine Ev.bind (ev_toByteS l hs) (Ev.bind (ev_eqByteS l l (by omega)) ?_)
      simp only [decide_true, if_true]
      refine Ev.bind (ev_markByteS l 1 (by omega) (by omega)) (ev_if_neg (by omega) (Ev.bind (ev_eqByteS r r (by omega)) ?_))
      simp only [decide_true, Bool.not_true]
      refine Ev.step (fun n => by simp only [laws_FnExactPlain.j0]; rfl) ?_
      simp only [Bool.false_eq_true, if_false]
      refine Ev.bind hmk (Ev.bind hh (ev_if_neg (by omega) (ev_if_pos rfl (Ev.bind (ev_toByteS l hs) (Ev.bind h2 (Ev.bind (ev_eqByteS r r (by omega)) ?_))))))
      simp only [decide_true, if_true]
      exact Ev.bind hh (ev_if_neg (by omega) (ev_if_pos rfl (Ev.now _)))
    · exact ev_if_pos (by omega) (Ev.now _)
  exact e.rounds

end Go.Proofs.Ytlefbfdeelldjaa.Pure
