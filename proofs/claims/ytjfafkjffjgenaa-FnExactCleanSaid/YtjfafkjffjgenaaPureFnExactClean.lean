/- The pure statement of the law FnExactClean: at every input that its guards let in the program's answer is the reference's. -/
import Derived.Test.YtjfafkjffjgenaaPFnExactCleanx3
import Derived.Test.YtjfafkjffjgenaaLib
import Derived.WalkKit
namespace Go.Proofs.Ytjfafkjffjgenaa.Pure
open Go.RowKit Go.Proofs.Ytjfafkjffjgenaa.PFnExactClean Go.Proofs.YtjfafkjffjgenaaW.PrintWords Go.Proofs.YtjfafkjffjgenaaW.PrintLast Go.Proofs.Ytjfafkjffjgenaa.Lib
set_option linter.unusedVariables false
set_option linter.unusedSimpArgs false

/-! #### within -/
theorem within_eq (a b c : Int) : impl_within.f a b c = some (decide (b ≤ a ∧ a ≤ c)) := by
  unfold impl_within.f
  by_cases h : b ≤ a <;> simp [h]

/-! #### may -/
theorem spec_l1may_eq (r : Int) : spec_l1may.f r = some (mayB r) := by
  unfold spec_l1may.f mayB
  by_cases h0 : r ≥ 0
  · rw [if_pos h0]
    by_cases h1 : r ≤ 1114111
    · rw [if_pos h1]
      by_cases h2 : r < 55296
      · rw [if_pos h2]; simp; omega
      · rw [if_neg h2]; exact congrArg some (decide_eq_decide.mpr (by omega))
    · rw [if_neg h1]; simp; omega
  · rw [if_neg h0]; simp; omega
theorem impl_isPoint_eq (r : Int) : impl_isPoint.f r = some (mayB r) := by
  unfold impl_isPoint.f mayB
  simp only [within_eq, Option.bind_some, decide_eq_true_eq]
  by_cases h : 0 ≤ r ∧ r ≤ 1114111
  · rw [if_pos h, ← decide_not]; exact congrArg some (decide_eq_decide.mpr (by omega))
  · rw [if_neg h]; simp; omega

/-! #### rune -/
theorem spec_l1tail_eq (l : List Int) (i : Int) (hb : Bytes l) (h0 : 0 ≤ i) (hl : l.length ≤ 2000000) : spec_l1tail.f l i = some (if 128 ≤ rd l i ∧ rd l i ≤ 191 then rd l i % 64 else -1) := by
  unfold spec_l1tail.f
  have h := hb.at_ i
  by_cases h1 : i ≥ (l.length : Int)
  · have z : rd l i = 0 := by
      have := rd_out l i.toNat (by omega)
      rwa [Int.toNat_of_nonneg h0] at this
    rw [if_pos h1, z]; rfl
  · rw [if_neg h1, if_pos h0, if_pos (by omega)]
    by_cases h2 : rd l i < 128
    · rw [if_pos h2, if_neg (by omega)]
    · rw [if_neg h2]
      by_cases h3 : rd l i > 191
      · rw [if_pos h3, if_neg (by omega)]
      · rw [if_neg h3, if_pos (by omega), w64 (by omega) (by omega), and_63 _ h.1 (by omega)]
theorem fin_eq (r least n : Int) : (if r < least then (some ((65533 : Int), (1 : Int))) else ((spec_l1may.f r).bind fun t => (if t = true then (some (r, n)) else (some (65533, 1))))) = some (finV r least n) := by
  rw [spec_l1may_eq]
  unfold finV
  by_cases h : r < least
  · rw [if_pos h, if_pos (.inl h)]
  · rw [if_neg h]
    simp only [Option.bind_some]
    by_cases g : mayB r = true
    · rw [if_pos g, if_neg (by simp [g]; omega)]
    · rw [if_neg g, if_pos (.inr (by simpa using g))]
theorem drop_getD (l : List Int) (i j : Nat) : (l.drop i).getD j 0 = rd l ((i : Int) + j) := by
  rw [show (i : Int) + (j : Int) = ((i + j : Nat) : Int) by omega, rd_nat, List.getD_eq_getElem?_getD, List.getD_eq_getElem?_getD, List.getElem?_drop]
theorem ev_spec_l1rune (l : List Int) (i : Nat) (hb : Bytes l) (hi : i < l.length) (hl : l.length ≤ 2000000) : Ev (fun k => spec_l1rune.f k l (i : Int)) (decV (l.drop i)) := by
  have key : spec_l1rune.f 9 l (i : Int) = some (decV (l.drop i)) := by
    unfold spec_l1rune.f decV dec4
    rw [drop_getD, drop_getD, drop_getD, drop_getD]
    rw [if_pos (by omega), if_pos (by omega), show (i : Int) + ((0 : Nat) : Int) = (i : Int) by omega, show ((1 : Nat) : Int) = 1 from rfl, show ((2 : Nat) : Int) = 2 from rfl, show ((3 : Nat) : Int) = 3 from rfl]
    have hx := hb.at_ (i : Int)
    have t1 := spec_l1tail_eq l ((i : Int) + 1) hb (by omega) hl
    have t2 := spec_l1tail_eq l ((i : Int) + 2) hb (by omega) hl
    have t3 := spec_l1tail_eq l ((i : Int) + 3) hb (by omega) hl
    have h1 := hb.at_ ((i : Int) + 1)
    have h2 := hb.at_ ((i : Int) + 2)
    have h3 := hb.at_ ((i : Int) + 3)
    rw [w64 (x := rd l (i : Int)) (by omega) (by omega)]
    generalize rd l (i : Int) = x at *
    generalize rd l ((i : Int) + 1) = c1 at *
    generalize rd l ((i : Int) + 2) = c2 at *
    generalize rd l ((i : Int) + 3) = c3 at *
    by_cases a0 : x < 128
    · rw [if_pos a0, if_pos a0]
    rw [if_neg a0, if_neg a0]
    have w1 : wrap64 ((i : Int) + 1) = (i : Int) + 1 := w64 (by omega) (by omega)
    have w2 : wrap64 ((i : Int) + 2) = (i : Int) + 2 := w64 (by omega) (by omega)
    have w3 : wrap64 ((i : Int) + 3) = (i : Int) + 3 := w64 (by omega) (by omega)
    have v1 : wrap64 (1 + 1) = 2 := w64 (by omega) (by omega)
    have v2 : wrap64 (2 + 1) = 3 := w64 (by omega) (by omega)
    have v3 : wrap64 (3 + 1) = 4 := w64 (by omega) (by omega)
    by_cases a1 : x ≥ 194 ∧ x ≤ 223
    · have d : decide (x ≤ 223) = true := by simp; omega
      rw [if_pos a1.1, if_pos (by omega), d]
      simp only [spec_l1rune.j0, if_true, spec_l1rune.j2, spec_l1rune.l0, w1, t1, Option.bind_some, v1, Int.reduceLT, if_false]
      rw [and_31 _ (by omega) (by omega)]
      by_cases g1 : 128 ≤ c1 ∧ c1 ≤ 191
      · rw [if_pos g1, if_pos g1, if_neg (by omega), w64 (x := x % 32 * 64) (by omega) (by omega), w64 (x := x % 32 * 64 + c1 % 64) (by omega) (by omega)]
        exact fin_eq _ _ _
      · rw [if_neg g1, if_neg g1]; rfl
    by_cases a2 : x ≥ 224 ∧ x ≤ 239
    · have d : decide (x ≤ 239) = true := by simp; omega
      have d2 : decide (x ≤ 223) = false := by simp; omega
      rw [if_pos (by omega), if_neg (by omega), if_pos (by omega), d2]
      simp only [spec_l1rune.j0, Bool.false_eq_true, if_false, if_pos a2.1, d, spec_l1rune.j1, if_true, spec_l1rune.j2, spec_l1rune.l0, w1, t1, Option.bind_some, v1, Int.reduceLT, w2, t2, v2]
      rw [and_15 _ (by omega) (by omega)]
      by_cases g1 : 128 ≤ c1 ∧ c1 ≤ 191
      · rw [if_pos g1, if_neg (show ¬ c1 % 64 < 0 by omega), w64 (x := x % 16 * 64) (by omega) (by omega), w64 (x := x % 16 * 64 + c1 % 64) (by omega) (by omega)]
        by_cases g2 : 128 ≤ c2 ∧ c2 ≤ 191
        · rw [if_pos g2, if_pos (And.intro g1 g2), if_neg (by omega), w64 (x := (x % 16 * 64 + c1 % 64) * 64) (by omega) (by omega), w64 (x := (x % 16 * 64 + c1 % 64) * 64 + c2 % 64) (by omega) (by omega)]
          exact fin_eq _ _ _
        · rw [if_neg g2, if_neg (show ¬ ((128 ≤ c1 ∧ c1 ≤ 191) ∧ 128 ≤ c2 ∧ c2 ≤ 191) from fun z => g2 z.2)]; rfl
      · rw [if_neg g1, if_neg (show ¬ ((128 ≤ c1 ∧ c1 ≤ 191) ∧ 128 ≤ c2 ∧ c2 ≤ 191) from fun z => g1 z.1)]; rfl
    by_cases a3 : x ≥ 240 ∧ x ≤ 244
    · have d2 : decide (x ≤ 223) = false := by simp; omega
      have d3 : decide (x ≤ 239) = false := by simp; omega
      rw [if_pos (by omega), if_neg (by omega), if_neg (by omega), if_pos (by omega), d2]
      simp only [spec_l1rune.j0, Bool.false_eq_true, if_false, if_pos (show x ≥ 224 by omega), d3, spec_l1rune.j1, if_pos a3.1, if_pos a3.2, spec_l1rune.j2, spec_l1rune.l0, w1, t1, Option.bind_some, v1, Int.reduceLT, if_true, w2, t2, v2, w3, t3, v3]
      rw [and_7 _ (by omega) (by omega)]
      by_cases g1 : 128 ≤ c1 ∧ c1 ≤ 191
      · rw [if_pos g1, if_neg (show ¬ c1 % 64 < 0 by omega), w64 (x := x % 8 * 64) (by omega) (by omega), w64 (x := x % 8 * 64 + c1 % 64) (by omega) (by omega)]
        by_cases g2 : 128 ≤ c2 ∧ c2 ≤ 191
        · rw [if_pos g2, if_neg (show ¬ c2 % 64 < 0 by omega), w64 (x := (x % 8 * 64 + c1 % 64) * 64) (by omega) (by omega), w64 (x := (x % 8 * 64 + c1 % 64) * 64 + c2 % 64) (by omega) (by omega)]
          by_cases g3 : 128 ≤ c3 ∧ c3 ≤ 191
          · rw [if_pos g3, if_pos (And.intro g1 (And.intro g2 g3)), if_neg (by omega), w64 (x := ((x % 8 * 64 + c1 % 64) * 64 + c2 % 64) * 64) (by omega) (by omega), w64 (x := ((x % 8 * 64 + c1 % 64) * 64 + c2 % 64) * 64 + c3 % 64) (by omega) (by omega)]
            exact fin_eq _ _ _
          · rw [if_neg g3, if_neg (show ¬ ((128 ≤ c1 ∧ c1 ≤ 191) ∧ (128 ≤ c2 ∧ c2 ≤ 191) ∧ 128 ≤ c3 ∧ c3 ≤ 191) from fun z => g3 z.2.2)]; rfl
        · rw [if_neg g2, if_neg (show ¬ ((128 ≤ c1 ∧ c1 ≤ 191) ∧ (128 ≤ c2 ∧ c2 ≤ 191) ∧ 128 ≤ c3 ∧ c3 ≤ 191) from fun z => g2 z.2.1)]; rfl
      · rw [if_neg g1, if_neg (show ¬ ((128 ≤ c1 ∧ c1 ≤ 191) ∧ (128 ≤ c2 ∧ c2 ≤ 191) ∧ 128 ≤ c3 ∧ c3 ≤ 191) from fun z => g1 z.1)]; rfl
    -- no first byte of a rune; or one whose runes all are bad
    have bad : (if 192 ≤ x ∧ x ≤ 223 then (if 128 ≤ c1 ∧ c1 ≤ 191 then finV (x % 32 * 64 + c1 % 64) 128 2 else (65533, 1))
        else if 224 ≤ x ∧ x ≤ 239 then (if (128 ≤ c1 ∧ c1 ≤ 191) ∧ 128 ≤ c2 ∧ c2 ≤ 191 then finV ((x % 16 * 64 + c1 % 64) * 64 + c2 % 64) 2048 3 else (65533, 1))
        else if 240 ≤ x ∧ x ≤ 247 then (if (128 ≤ c1 ∧ c1 ≤ 191) ∧ (128 ≤ c2 ∧ c2 ≤ 191) ∧ 128 ≤ c3 ∧ c3 ≤ 191 then finV (((x % 8 * 64 + c1 % 64) * 64 + c2 % 64) * 64 + c3 % 64) 65536 4 else (65533, 1))
        else (65533, 1)) = ((65533 : Int), (1 : Int)) := by
      by_cases b1 : 192 ≤ x ∧ x ≤ 223
      · rw [if_pos b1]
        by_cases g1 : 128 ≤ c1 ∧ c1 ≤ 191
        · rw [if_pos g1]; unfold finV; rw [if_pos (.inl (by omega))]
        · rw [if_neg g1]
      · rw [if_neg b1, if_neg (by omega)]
        by_cases b2 : 240 ≤ x ∧ x ≤ 247
        · rw [if_pos b2]
          by_cases g1 : (128 ≤ c1 ∧ c1 ≤ 191) ∧ (128 ≤ c2 ∧ c2 ≤ 191) ∧ 128 ≤ c3 ∧ c3 ≤ 191
          · rw [if_pos g1]; unfold finV; rw [if_pos (.inr (by unfold mayB; simp; omega))]
          · rw [if_neg g1]
        · rw [if_neg b2]
    rw [bad]
    by_cases a4 : x ≥ 194
    · have d2 : decide (x ≤ 223) = false := by simp; omega
      have d3 : decide (x ≤ 239) = false := by simp; omega
      rw [if_pos a4, d2]
      simp only [spec_l1rune.j0, Bool.false_eq_true, if_false, if_pos (show x ≥ 224 by omega), d3, spec_l1rune.j1, if_pos (show x ≥ 240 by omega), if_neg (show ¬ x ≤ 244 by omega)]
    · rw [if_neg a4]
      simp only [spec_l1rune.j0, Bool.false_eq_true, if_false, if_neg (show ¬ x ≥ 224 by omega), spec_l1rune.j1, if_neg (show ¬ x ≥ 240 by omega)]
  exact Ev.of (fun k => spec_l1rune.mono l i k) key

/-! #### runeAt -/
theorem impl_sizeOf_eq (r : Int) : impl_sizeOf.f r = some (if r < 128 then 1 else if r < 2048 then 2 else if r < 65536 then 3 else 4) := by
  unfold impl_sizeOf.f
  by_cases h1 : r < 128
  · rw [if_pos h1, if_pos h1]
  rw [if_neg h1, if_neg h1]
  by_cases h2 : r < 2048
  · rw [if_pos h2, if_pos h2]
  rw [if_neg h2, if_neg h2]
  by_cases h3 : r < 65536
  · rw [if_pos h3, if_pos h3]
  · rw [if_neg h3, if_neg h3]
theorem impl_leadSize_eq (x : Int) (h0 : 0 ≤ x) (h1 : x ≤ 255) : impl_leadSize.f x = some (if 192 ≤ x ∧ x ≤ 223 then (2, x % 32) else if 224 ≤ x ∧ x ≤ 239 then (3, x % 16) else if 240 ≤ x ∧ x ≤ 247 then (4, x % 8) else (0, 0)) := by
  unfold impl_leadSize.f
  simp only [within_eq, Option.bind_some, decide_eq_true_eq]
  rw [and_31 _ h0 (by omega), and_15 _ h0 (by omega), and_7 _ h0 (by omega)]
  by_cases a : 192 ≤ x ∧ x ≤ 223
  · rw [if_pos a, if_pos a]
  rw [if_neg a, if_neg a]
  by_cases b : 224 ≤ x ∧ x ≤ 239
  · rw [if_pos b, if_pos b]
  rw [if_neg b, if_neg b]
  by_cases c : 240 ≤ x ∧ x ≤ 247
  · rw [if_pos c, if_pos c]
  · rw [if_neg c, if_neg c]
/-- What a rune's bytes told, looked at last. -/
theorem impl_fin_eq (r least n : Int) (h : (if r < 128 then (1 : Int) else if r < 2048 then 2 else if r < 65536 then 3 else 4) = n ↔ ¬ r < least) :
    ((impl_isPoint.f r).bind fun t126 => (if t126 = true then ((impl_sizeOf.f r).bind fun t127 => (if t127 = n then (some (r, n)) else (some (65533, 1)))) else (some ((65533 : Int), (1 : Int))))) = some (finV r least n) := by
  rw [impl_isPoint_eq, impl_sizeOf_eq]
  simp only [Option.bind_some]
  unfold finV
  by_cases a : mayB r = true
  · rw [if_pos a]
    by_cases b : r < least
    · rw [if_neg (fun z => (h.1 z) b), if_pos (.inl b)]
    · rw [if_pos (h.2 b), if_neg (by simp [a]; omega)]
  · rw [if_neg a, if_pos (.inr (by simpa using a))]
theorem impl_step (k : Nat) (n r : Int) (q : List Int) (i : Nat) (hi : i < q.length) (hq : Bytes q) (hl : q.length ≤ 3) (r0 : 0 ≤ r) (r1 : r ≤ 1000000) :
    impl_runeAt.l0 (k + 1) n r q (q.length : Int) (i : Int) = if 128 ≤ rd q i ∧ rd q i ≤ 191 then impl_runeAt.l0 k n (r * 64 + rd q i % 64) q (q.length : Int) ((i + 1 : Nat) : Int) else some (65533, 1) := by
  have hx := hq.at_ (i : Int)
  simp only [impl_runeAt.l0]
  rw [if_pos (by omega), if_pos (by omega), if_pos (by omega), orc _ _ r0 r1 hx.1 hx.2, w64 (x := (i : Int) + 1) (by omega) (by omega)]
  by_cases h : 128 ≤ rd q i ∧ rd q i ≤ 191
  · rw [if_pos h, if_pos (by omega)]; rfl
  · rw [if_neg h, if_neg (by omega)]
theorem impl_stop (k : Nat) (n r : Int) (q : List Int) : impl_runeAt.l0 (k + 1) n r q (q.length : Int) (q.length : Int) = ((impl_isPoint.f r).bind fun t126 => (if t126 = true then ((impl_sizeOf.f r).bind fun t127 => (if t127 = n then (some (r, n)) else (some (65533, 1)))) else (some (65533, 1)))) := by
  simp only [impl_runeAt.l0]
  rw [if_neg (by omega)]
theorem ev_impl_runeAt (l : List Int) (hb : Bytes l) (h : 0 < l.length) : Ev (fun k => impl_runeAt.f k l) (decV l) := by
  have key : impl_runeAt.f 9 l = some (decV l) := by
    rcases l with _ | ⟨x, l⟩
    · cases h
    have hx := hb.head
    have hb := hb.tail
    unfold impl_runeAt.f decV
    rw [if_pos (by simp only [List.length_cons]; omega), show rd (x :: l) 0 = x from rfl, w64 (x := x) (by omega) (by omega), impl_leadSize_eq x hx.1 hx.2, Option.bind_some]
    show _ = some (dec4 x (l.getD 0 0) (l.getD 1 0) (l.getD 2 0))
    unfold dec4
    by_cases a0 : x < 128
    · rw [if_pos a0, if_pos a0]
    rw [if_neg a0, if_neg a0]
    by_cases a1 : 192 ≤ x ∧ x ≤ 223
    · rw [if_pos a1, if_pos a1, if_neg (by simp)]
      rcases l with _ | ⟨c1, l⟩
      · rfl
      have b1 := hb.head
      have hq : Bytes [c1] := Bytes.cons b1.1 b1.2 Bytes.nil
      have e : ((x :: c1 :: l).take ((2 : Int)).toNat).drop 1 = [c1] := rfl
      simp only [impl_runeAt.j0]
      rw [if_neg (by simp; omega), if_pos (by decide), if_pos (by simp only [List.length_cons]; omega), e, show (0 : Int) = ((0 : Nat) : Int) from rfl, impl_step 7 2 _ _ 0 (by simp) hq (by simp) (by omega) (by omega), show rd [c1] ((0 : Nat) : Int) = c1 from rfl]
      show _ = some (if 128 ≤ c1 ∧ c1 ≤ 191 then _ else _)
      by_cases g1 : 128 ≤ c1 ∧ c1 ≤ 191
      · rw [if_pos g1, if_pos g1]
        refine (impl_stop 6 2 _ [c1]).trans (impl_fin_eq _ _ _ ?_)
        omega
      · rw [if_neg g1, if_neg g1]
    rw [if_neg a1, if_neg a1]
    by_cases a2 : 224 ≤ x ∧ x ≤ 239
    · rw [if_pos a2, if_pos a2, if_neg (by simp)]
      rcases l with _ | ⟨c1, _ | ⟨c2, l⟩⟩
      · rfl
      · show some _ = some (if (128 ≤ c1 ∧ c1 ≤ 191) ∧ (128 ≤ (0 : Int) ∧ (0 : Int) ≤ 191) then _ else _)
        rw [if_neg (by omega)]
      have b1 := hb.head
      have b2 := hb.tail.head
      have hq : Bytes [c1, c2] := Bytes.cons b1.1 b1.2 (Bytes.cons b2.1 b2.2 Bytes.nil)
      have e : ((x :: c1 :: c2 :: l).take ((3 : Int)).toNat).drop 1 = [c1, c2] := rfl
      simp only [impl_runeAt.j0]
      rw [if_neg (by simp; omega), if_pos (by decide), if_pos (by simp only [List.length_cons]; omega), e, show (0 : Int) = ((0 : Nat) : Int) from rfl, impl_step 7 3 _ _ 0 (by simp) hq (by simp) (by omega) (by omega), show rd [c1, c2] ((0 : Nat) : Int) = c1 from rfl]
      show _ = some (if (128 ≤ c1 ∧ c1 ≤ 191) ∧ (128 ≤ c2 ∧ c2 ≤ 191) then _ else _)
      by_cases g1 : 128 ≤ c1 ∧ c1 ≤ 191
      · rw [if_pos g1, impl_step 6 3 _ _ 1 (by simp) hq (by simp) (by omega) (by omega), show rd [c1, c2] ((1 : Nat) : Int) = c2 from rfl]
        by_cases g2 : 128 ≤ c2 ∧ c2 ≤ 191
        · rw [if_pos g2, if_pos ⟨g1, g2⟩]
          refine (impl_stop 5 3 _ [c1, c2]).trans (impl_fin_eq _ _ _ ?_)
          omega
        · rw [if_neg g2, if_neg (fun z => g2 z.2)]
      · rw [if_neg g1, if_neg (fun z => g1 z.1)]
    rw [if_neg a2, if_neg a2]
    by_cases a3 : 240 ≤ x ∧ x ≤ 247
    · rw [if_pos a3, if_pos a3, if_neg (by simp)]
      rcases l with _ | ⟨c1, _ | ⟨c2, _ | ⟨c3, l⟩⟩⟩
      · rfl
      · show some _ = some (if (128 ≤ c1 ∧ c1 ≤ 191) ∧ (128 ≤ (0 : Int) ∧ (0 : Int) ≤ 191) ∧ (128 ≤ (0 : Int) ∧ (0 : Int) ≤ 191) then _ else _)
        rw [if_neg (by omega)]
      · show some _ = some (if (128 ≤ c1 ∧ c1 ≤ 191) ∧ (128 ≤ c2 ∧ c2 ≤ 191) ∧ (128 ≤ (0 : Int) ∧ (0 : Int) ≤ 191) then _ else _)
        rw [if_neg (by omega)]
      have b1 := hb.head
      have b2 := hb.tail.head
      have b3 := hb.tail.tail.head
      have hq : Bytes [c1, c2, c3] := Bytes.cons b1.1 b1.2 (Bytes.cons b2.1 b2.2 (Bytes.cons b3.1 b3.2 Bytes.nil))
      have e : ((x :: c1 :: c2 :: c3 :: l).take ((4 : Int)).toNat).drop 1 = [c1, c2, c3] := rfl
      simp only [impl_runeAt.j0]
      rw [if_neg (by simp; omega), if_pos (by decide), if_pos (by simp only [List.length_cons]; omega), e, show (0 : Int) = ((0 : Nat) : Int) from rfl, impl_step 7 4 _ _ 0 (by simp) hq (by simp) (by omega) (by omega), show rd [c1, c2, c3] ((0 : Nat) : Int) = c1 from rfl]
      show _ = some (if (128 ≤ c1 ∧ c1 ≤ 191) ∧ (128 ≤ c2 ∧ c2 ≤ 191) ∧ (128 ≤ c3 ∧ c3 ≤ 191) then _ else _)
      by_cases g1 : 128 ≤ c1 ∧ c1 ≤ 191
      · rw [if_pos g1, impl_step 6 4 _ _ 1 (by simp) hq (by simp) (by omega) (by omega), show rd [c1, c2, c3] ((1 : Nat) : Int) = c2 from rfl]
        by_cases g2 : 128 ≤ c2 ∧ c2 ≤ 191
        · rw [if_pos g2, impl_step 5 4 _ _ 2 (by simp) hq (by simp) (by omega) (by omega), show rd [c1, c2, c3] ((2 : Nat) : Int) = c3 from rfl]
          by_cases g3 : 128 ≤ c3 ∧ c3 ≤ 191
          · rw [if_pos g3, if_pos ⟨g1, g2, g3⟩]
            refine (impl_stop 4 4 _ [c1, c2, c3]).trans (impl_fin_eq _ _ _ ?_)
            omega
          · rw [if_neg g3, if_neg (fun z => g3 z.2.2)]
        · rw [if_neg g2, if_neg (fun z => g2 z.2.1)]
      · rw [if_neg g1, if_neg (fun z => g1 z.1)]
    · rw [if_neg a3, if_neg a3, if_pos rfl]
      rfl
  exact Ev.of (fun k => impl_runeAt.mono l k) key

/-! #### runesOf -/
theorem finV_snd (r least n : Int) : (finV r least n).2 = 1 ∨ (finV r least n).2 = n := by
  unfold finV
  split <;> simp
/-- A rune takes some bytes, and no more than there are. -/
theorem decV_snd (b : List Int) (h : b ≠ []) : 1 ≤ (decV b).2 ∧ (decV b).2 ≤ b.length := by
  rcases b with _ | ⟨x, l⟩
  · exact absurd rfl h
  have bad : 1 ≤ ((65533 : Int), (1 : Int)).2 ∧ ((65533 : Int), (1 : Int)).2 ≤ ((x :: l).length : Int) := by simp; omega
  show 1 ≤ (dec4 x (l.getD 0 0) (l.getD 1 0) (l.getD 2 0)).2 ∧ (dec4 x (l.getD 0 0) (l.getD 1 0) (l.getD 2 0)).2 ≤ _
  have out : ∀ i : Nat, 128 ≤ l.getD i 0 → i < l.length := by
    intro i hi
    by_cases g : i < l.length
    · exact g
    · rw [List.getD_eq_getElem?_getD, List.getElem?_eq_none (by omega)] at hi
      simp at hi
  unfold dec4
  by_cases a0 : x < 128
  · rw [if_pos a0]; simp; omega
  rw [if_neg a0]
  by_cases a1 : 192 ≤ x ∧ x ≤ 223
  · rw [if_pos a1]
    by_cases g : 128 ≤ l.getD 0 0 ∧ l.getD 0 0 ≤ 191
    · rw [if_pos g]
      have := out 0 g.1
      have hl : ((x :: l).length : Int) = l.length + 1 := by simp
      rcases finV_snd (x % 32 * 64 + l.getD 0 0 % 64) 128 2 with e | e <;> omega
    · rw [if_neg g]; exact bad
  rw [if_neg a1]
  by_cases a2 : 224 ≤ x ∧ x ≤ 239
  · rw [if_pos a2]
    by_cases g : (128 ≤ l.getD 0 0 ∧ l.getD 0 0 ≤ 191) ∧ 128 ≤ l.getD 1 0 ∧ l.getD 1 0 ≤ 191
    · rw [if_pos g]
      have := out 1 g.2.1
      have hl : ((x :: l).length : Int) = l.length + 1 := by simp
      rcases finV_snd ((x % 16 * 64 + l.getD 0 0 % 64) * 64 + l.getD 1 0 % 64) 2048 3 with e | e <;> omega
    · rw [if_neg g]; exact bad
  rw [if_neg a2]
  by_cases a3 : 240 ≤ x ∧ x ≤ 247
  · rw [if_pos a3]
    by_cases g : (128 ≤ l.getD 0 0 ∧ l.getD 0 0 ≤ 191) ∧ (128 ≤ l.getD 1 0 ∧ l.getD 1 0 ≤ 191) ∧ 128 ≤ l.getD 2 0 ∧ l.getD 2 0 ≤ 191
    · rw [if_pos g]
      have := out 2 g.2.2.1
      have hl : ((x :: l).length : Int) = l.length + 1 := by simp
      rcases finV_snd (((x % 8 * 64 + l.getD 0 0 % 64) * 64 + l.getD 1 0 % 64) * 64 + l.getD 2 0 % 64) 65536 4 with e | e <;> omega
    · rw [if_neg g]; exact bad
  rw [if_neg a3]
  exact bad
/-- All runes of bytes (n: at most so many). -/
def runesL : Nat → List Int → List Int
  | 0, _ => []
  | n + 1, b => if b = [] then [] else (decV b).1 :: runesL n (b.drop (decV b).2.toNat)
/-- Is none of them bad with one byte? -/
def cleanL : Nat → List Int → Bool
  | 0, _ => true
  | n + 1, b => if b = [] then true else !(decide ((decV b).1 = 65533) && decide ((decV b).2 = 1)) && cleanL n (b.drop (decV b).2.toNat)
theorem runesL_len (n : Nat) : ∀ b : List Int, (runesL n b).length ≤ n := by
  induction n with
  | zero => intro b; simp [runesL]
  | succ n ih =>
    intro b
    unfold runesL
    split
    · simp
    · simp only [List.length_cons]; have := ih (b.drop (decV b).2.toNat); omega
theorem ev_impl_runesOf (n : Nat) : ∀ (b acc : List Int) (fl : Bool), Bytes b → b.length ≤ n → acc.length + n ≤ 1000 → Ev (fun k => impl_runesOf.l0 k b acc fl) (acc ++ runesL n b, fl && cleanL n b) := by
  induction n with
  | zero =>
    intro b acc fl hb hl ha
    obtain rfl : b = [] := List.length_eq_zero_iff.1 (by omega)
    refine Ev.step (f := fun _ => some (acc ++ runesL 0 [], fl && cleanL 0 [])) (fun k => ?_) (Ev.now _)
    simp [impl_runesOf.l0, runesL, cleanL]
  | succ n ih =>
    intro b acc fl hb hl ha
    by_cases h : b = []
    · subst h
      refine Ev.step (f := fun _ => some (acc ++ runesL (n + 1) [], fl && cleanL (n + 1) [])) (fun k => ?_) (Ev.now _)
      simp [impl_runesOf.l0, runesL, cleanL]
    have hp : 0 < b.length := List.length_pos_iff.2 h
    have hs := decV_snd b h
    have hd : (b.drop (decV b).2.toNat).length ≤ n := by rw [List.length_drop]; omega
    have e : (acc ++ runesL (n + 1) b, fl && cleanL (n + 1) b) = ((acc ++ [(decV b).1]) ++ runesL n (b.drop (decV b).2.toNat), (fl && !(decide ((decV b).1 = 65533) && decide ((decV b).2 = 1))) && cleanL n (b.drop (decV b).2.toNat)) := by
      conv => lhs; unfold runesL cleanL
      rw [if_neg h, if_neg h]
      simp [Bool.and_assoc]
    rw [e]
    have next := ih (b.drop (decV b).2.toNat) (acc ++ [(decV b).1]) (fl && !(decide ((decV b).1 = 65533) && decide ((decV b).2 = 1))) (hb.drop _) hd (by simp; omega)
    refine Ev.step (fun k => by simp only [impl_runesOf.l0]; rfl) (ev_if_pos (by omega) (Ev.bind (ev_impl_runeAt b hb hp) ?_))
    have hx : (decV b).2 ≤ (b.length : Int) := hs.2
    cases fl with
    | true =>
      refine ev_if_pos rfl ?_
      by_cases g : (decV b).1 = 65533
      · refine ev_if_pos g (ev_if_pos (by omega) (ev_if_pos (by omega) (ev_if_pos hx ?_)))
        rw [show (!((decV b).2 == 1)) = (true && !(decide ((decV b).1 = 65533) && decide ((decV b).2 = 1))) by simp [g]; rfl]
        exact next
      · refine ev_if_neg g (ev_if_pos (by omega) (ev_if_pos (by omega) (ev_if_pos hx ?_)))
        rw [show (!false) = (true && !(decide ((decV b).1 = 65533) && decide ((decV b).2 = 1))) by simp [g]]
        exact next
    | false =>
      refine ev_if_neg (by decide) (ev_if_pos (by omega) (ev_if_pos (by omega) (ev_if_pos hx ?_)))
      exact next

/-! #### specClean -/
theorem ev_spec_Clean_l (x : List Int) (hb : Bytes x) (hl : x.length ≤ 400) (n : Nat) : ∀ i : Nat, i ≤ x.length → x.length - i ≤ n → Ev (fun k => spec_Clean.l0 k x (i : Int)) (cleanL n (x.drop i)) := by
  induction n with
  | zero =>
    intro i hi hd
    refine Ev.step (fun k => by simp only [spec_Clean.l0]; rfl) (ev_if_neg (by omega) ?_)
    exact Ev.now _
  | succ n ih =>
    intro i hi hd
    by_cases h : i = x.length
    · subst h
      refine Ev.step (fun k => by simp only [spec_Clean.l0]; rfl) (ev_if_neg (by omega) ?_)
      have : x.drop x.length = [] := by simp
      rw [this]
      exact Ev.now _
    have hne : x.drop i ≠ [] := by
      intro e
      have := congrArg List.length e
      simp at this
      omega
    have hs := decV_snd (x.drop i) hne
    rw [List.length_drop] at hs
    have nx := ih (i + (decV (x.drop i)).2.toNat) (by omega) (by omega)
    have e1 : wrap64 ((i : Int) + (decV (x.drop i)).2) = ((i + (decV (x.drop i)).2.toNat : Nat) : Int) := by rw [w64 (by omega) (by omega)]; omega
    have e2 : (x.drop i).drop (decV (x.drop i)).2.toNat = x.drop (i + (decV (x.drop i)).2.toNat) := by rw [List.drop_drop]
    refine Ev.step (fun k => by simp only [spec_Clean.l0]; rfl) (ev_if_pos (by omega) (Ev.bind (ev_spec_l1rune x i hb (by omega) (by omega)) ?_))
    unfold cleanL
    rw [if_neg hne, e2, e1]
    by_cases g : (decV (x.drop i)).1 = 65533
    · refine ev_if_pos g ?_
      by_cases g2 : (decV (x.drop i)).2 = 1
      · refine ev_if_pos g2 ?_
        simp only [g, g2, decide_true, Bool.and_self, Bool.not_true, Bool.false_and]
        exact Ev.now _
      · refine ev_if_neg g2 ?_
        simp only [g2, decide_false, Bool.and_false, Bool.not_false, Bool.true_and]
        exact nx
    · refine ev_if_neg g ?_
      simp only [g, decide_false, Bool.false_and, Bool.not_false, Bool.true_and]
      exact nx

/-! #### toByteS -/
theorem ev_toByteS (l : List Int) (hb : l.length ≤ 1048576) : Ev (fun k => laws_toByteS.f k l) l := by
  unfold laws_toByteS.f
  refine ev_if_pos (by omega) (ev_if_pos (by simp; omega) ?_)
  have key : ∀ d i : Nat, ∀ x : List Int, i + d = l.length → x.length = l.length → x.take i = l.take i → Ev (fun k => laws_toByteS.l0 k l x (i : Int)) l := by
    intro d
    induction d with
    | zero =>
      intro i x hi hx ht
      refine Ev.step (f := fun _ => some l) (fun k => ?_) (Ev.now _)
      simp only [laws_toByteS.l0]
      rw [if_neg (by omega)]
      rw [List.take_of_length_le (by omega), List.take_of_length_le (by omega)] at ht
      rw [ht]
    | succ d ih =>
      intro i x hi hx ht
      refine Ev.step (f := fun k => laws_toByteS.l0 k l (x.set i (rd l (i : Int))) ((i + 1 : Nat) : Int)) (fun k => ?_) (ih (i + 1) _ (by omega) (by simpa using hx) ?_)
      · simp only [laws_toByteS.l0]
        rw [if_pos (by omega), if_pos (by omega), if_pos (by omega), w64 (by omega) (by omega)]
        simp only [Int.toNat_natCast, Int.natCast_add, Int.natCast_one]
      · rw [List.take_succ_eq_append_getElem (by simp; omega), List.take_succ_eq_append_getElem (by omega), rd_get _ _ (by omega)]
        rw [List.take_set_of_le (by omega), ht]
        simp
  exact key l.length 0 _ (by omega) (by simp) (by simp)

/-! #### eqByteS -/
theorem ev_eqByteS (l0 l1 : List Int) (hb : l0.length ≤ 9000000000000000000) : Ev (fun k => laws_eqByteS.f k l0 l1) (decide (l0 = l1)) := by
  unfold laws_eqByteS.f
  by_cases hl : (l0.length : Int) = (l1.length : Int)
  · refine ev_if_pos hl ?_
    have key : ∀ d i : Nat, i + d = l0.length → l0.take i = l1.take i → Ev (fun k => laws_eqByteS.l0 k l0 l1 (i : Int)) (decide (l0 = l1)) := by
      intro d
      induction d with
      | zero =>
        intro i hi ht
        have he : l0 = l1 := by rw [List.take_of_length_le (by omega), List.take_of_length_le (by omega)] at ht; exact ht
        refine Ev.step (f := fun _ => some (decide (l0 = l1))) (fun k => ?_) (Ev.now _)
        simp only [laws_eqByteS.l0]
        rw [if_neg (by omega)]; simp [he]
      | succ d ih =>
        intro i hi ht
        by_cases he : rd l0 (i : Int) = rd l1 (i : Int)
        · refine Ev.step (f := fun k => laws_eqByteS.l0 k l0 l1 ((i + 1 : Nat) : Int)) (fun k => ?_) (ih (i + 1) (by omega) ?_)
          · simp only [laws_eqByteS.l0]
            rw [if_pos (by omega), if_pos (by omega), if_pos (by omega), if_pos he, w64 (by omega) (by omega)]
            rfl
          · rw [rd_get _ _ (by omega), rd_get _ _ (by omega)] at he
            rw [List.take_succ_eq_append_getElem (by omega), List.take_succ_eq_append_getElem (by omega), ht, he]
        · refine Ev.step (f := fun _ => some (decide (l0 = l1))) (fun k => ?_) (Ev.now _)
          simp only [laws_eqByteS.l0]
          rw [if_pos (by omega), if_pos (by omega), if_pos (by omega), if_neg he]
          have hne : ¬ l0 = l1 := fun e => he (by rw [e])
          simp [hne]
    exact key l0.length 0 (by omega) (by simp)
  · refine ev_if_neg hl ?_
    have hne : ¬ l0 = l1 := fun e => hl (by rw [e])
    have e : (fun _ : Nat => some false) = fun _ : Nat => some (decide (l0 = l1)) := by simp [hne]
    rw [e]; exact Ev.now _

/-! #### law_FnExactClean -/
theorem FnExactClean : laws_FnExactClean.Pure := by
  intro l hm hm1 hw
  have hb := bytes_of_wf hw
  have e : Ev (fun k => laws_FnExactClean.f k l) true := by
    unfold laws_FnExactClean.f
    by_cases hs : l.length ≤ 1048576
    · have main : ∃ r : Bool, Ev (fun k => spec_Clean.f k l) r ∧ Ev (fun k => impl_Clean.f k l) r := by
        by_cases g : l.length ≤ 400
        · refine ⟨cleanL l.length l, ?_, ?_⟩
          · unfold spec_Clean.f
            exact ev_if_neg (by omega) (ev_spec_Clean_l l hb g l.length 0 (by omega) (by omega))
          · unfold impl_Clean.f impl_runesOf.f
            exact ev_if_neg (by omega) (Ev.bind (ev_impl_runesOf l.length l [] true hb (by omega) (by simp; omega)) (Ev.now _))
        · refine ⟨false, ?_, ?_⟩
          · unfold spec_Clean.f
            exact ev_if_pos (by omega) (Ev.now _)
          · unfold impl_Clean.f
            exact ev_if_pos (by omega) (Ev.now _)
      obtain ⟨r, h1, h2⟩ := main
      refine ev_if_neg (by omega) (Ev.bind (ev_toByteS l hs) (Ev.bind h1 (Ev.bind (ev_toByteS l hs) (Ev.bind h2 (ev_if_neg (by simp) (Ev.bind (ev_toByteS l hs) (Ev.bind (ev_eqByteS l l (by omega)) ?_)))))))
      simp only [decide_true, if_true]
      exact Ev.now _
    · exact ev_if_pos (by omega) (Ev.now _)
  exact e.rounds

end Go.Proofs.Ytjfafkjffjgenaa.Pure
