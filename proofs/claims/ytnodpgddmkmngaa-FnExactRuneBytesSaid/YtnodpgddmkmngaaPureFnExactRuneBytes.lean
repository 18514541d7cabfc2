/- The pure statement of the law FnExactRuneBytes: at every input that its guards let in the program's answer is the reference's. -/
import Derived.Test.YtnodpgddmkmngaaPFnExactRuneBytesx2
import Derived.Test.YtnodpgddmkmngaaLib
import Derived.WalkKit
namespace Go.Proofs.Ytnodpgddmkmngaa.Pure
open Go.RowKit Go.Proofs.Ytnodpgddmkmngaa.PFnExactRuneBytes Go.Proofs.YtnodpgddmkmngaaW.PrintWords Go.Proofs.YtnodpgddmkmngaaW.PrintLast Go.Proofs.Ytnodpgddmkmngaa.Lib
set_option linter.unusedVariables false
set_option linter.unusedSimpArgs false

/-! #### within -/
theorem within_eq (a b c : Int) : impl_within.f a b c = some (decide (b ≤ a ∧ a ≤ c)) := by
  unfold impl_within.f
  by_cases h : b ≤ a <;> simp [h]

/-! #### RuneBytes -/
/-- Is a number a code point? -/
def mayB (r : Int) : Bool := decide (0 ≤ r ∧ r ≤ 1114111 ∧ ¬ (55296 ≤ r ∧ r ≤ 57343))
/-- The bytes of a code point. -/
def runeV (r : Int) : List Int :=
  if mayB r = true then
    if r < 128 then [r] else if r < 2048 then [192 + r / 64, 128 + r % 64]
    else if r < 65536 then [224 + r / 4096, 128 + r / 64 % 64, 128 + r % 64]
    else [240 + r / 262144, 128 + r / 4096 % 64, 128 + r / 64 % 64, 128 + r % 64]
  else []
theorem spec_l1may_eq (r : Int) : spec_l1may.f r = some (mayB r) := by
  unfold spec_l1may.f mayB
  by_cases h0 : r ≥ 0
  · rw [if_pos h0]
    by_cases h1 : r ≤ 1114111
    · rw [if_pos h1]
      by_cases h2 : r < 55296
      · rw [if_pos h2]; simp; omega
      · rw [if_neg h2]; exact congrArg some (decide_eq_decide.mpr (by omega))
    · rw [if_neg h1]; simp; omega
  · rw [if_neg h0]; simp; omega
theorem impl_isPoint_eq (r : Int) : impl_isPoint.f r = some (mayB r) := by
  unfold impl_isPoint.f mayB
  simp only [within_eq, Option.bind_some, decide_eq_true_eq]
  by_cases h : 0 ≤ r ∧ r ≤ 1114111
  · rw [if_pos h, ← decide_not]; exact congrArg some (decide_eq_decide.mpr (by omega))
  · rw [if_neg h]; simp; omega
theorem spec_RuneBytes_eq (r : Int) : spec_RuneBytes.f r = some (runeV r) := by
  unfold spec_RuneBytes.f runeV
  rw [spec_l1may_eq]
  simp only [Option.bind_some]
  by_cases h : mayB r = true
  · rw [if_pos h, if_pos h]
    have hr : 0 ≤ r ∧ r ≤ 1114111 := by unfold mayB at h; simp at h; omega
    by_cases h1 : r < 128
    · rw [if_pos h1, if_pos h1, show r % 256 = r by omega]
    rw [if_neg h1, if_neg h1, td _ 64 (by omega), tm r 64 (by omega), td _ 4096 (by omega), td _ 262144 (by omega), w64 (x := r / 64) (by omega) (by omega), w64 (x := r / 4096) (by omega) (by omega), w64 (x := r / 262144) (by omega) (by omega), tm (r / 64) 64 (by omega), tm (r / 4096) 64 (by omega)]
    by_cases h2 : r < 2048
    · rw [if_pos h2, if_pos h2, w64 (by omega) (by omega), w64 (by omega) (by omega), show (192 + r / 64) % 256 = 192 + r / 64 by omega, show (128 + r % 64) % 256 = 128 + r % 64 by omega]
    rw [if_neg h2, if_neg h2]
    by_cases h3 : r < 65536
    · rw [if_pos h3, if_pos h3, w64 (by omega) (by omega), w64 (by omega) (by omega), w64 (by omega) (by omega), show (224 + r / 4096) % 256 = 224 + r / 4096 by omega, show (128 + r / 64 % 64) % 256 = 128 + r / 64 % 64 by omega, show (128 + r % 64) % 256 = 128 + r % 64 by omega]
    rw [if_neg h3, if_neg h3, w64 (by omega) (by omega), w64 (by omega) (by omega), w64 (by omega) (by omega), w64 (by omega) (by omega), show (240 + r / 262144) % 256 = 240 + r / 262144 by omega, show (128 + r / 4096 % 64) % 256 = 128 + r / 4096 % 64 by omega, show (128 + r / 64 % 64) % 256 = 128 + r / 64 % 64 by omega, show (128 + r % 64) % 256 = 128 + r % 64 by omega]
  · rw [if_neg h, if_neg h]
theorem lowByte (r : Int) (h0 : 0 ≤ r) (h1 : r ≤ 1114111) : Go.bits .or .i64 128 (Go.bits .and .i64 r 63) % 256 = 128 + r % 64 := by
  rw [and_63 _ h0 (by omega), or_join 6 128 (r % 64) (by decide) (by decide) (by decide) (by omega) (by omega) (by omega)]
  omega
theorem ev_impl_RuneBytes (r : Int) : Ev (fun k => impl_RuneBytes.f k r) (runeV r) := by
  have key : impl_RuneBytes.f 4 r = some (runeV r) := by
    unfold impl_RuneBytes.f runeV impl_sizeOf.f
    rw [impl_isPoint_eq]
    simp only [Option.bind_some]
    by_cases h : mayB r = true
    · rw [if_pos h, if_pos h]
      have hr : 0 ≤ r ∧ r ≤ 1114111 := by unfold mayB at h; simp at h; omega
      by_cases h1 : r < 128
      · rw [if_pos h1, if_pos h1]
        simp only [Option.bind_some, if_true]
        rw [show r % 256 = r by omega]
      rw [if_neg h1, if_neg h1]
      have y2 : rd [0, 0, 192, 224, 240] 2 = 192 := rfl
      have y3 : rd [0, 0, 192, 224, 240] 3 = 224 := rfl
      have y4 : rd [0, 0, 192, 224, 240] 4 = 240 := rfl
      have v2 : wrap64 (2 - 1) = 1 := w64 (by omega) (by omega)
      have v3 : wrap64 (3 - 1) = 2 := w64 (by omega) (by omega)
      have v4 : wrap64 (4 - 1) = 3 := w64 (by omega) (by omega)
      have v1 : wrap64 (1 - 1) = 0 := w64 (by omega) (by omega)
      by_cases h2 : r < 2048
      · rw [if_pos h2, if_pos h2]
        have o : Go.bits .or .i64 192 (r / 64) % 256 = 192 + r / 64 := by
          rw [or_join 5 192 (r / 64) (by decide) (by decide) (by decide) (by omega) (by omega) (by omega)]; omega
        have rep : List.replicate (2 : Int).toNat (0 : Int) = [0, 0] := rfl
        simp only [Option.bind_some, rep, v2, impl_RuneBytes.l0, v1, lowByte r hr.1 hr.2]
        simp [y2, o]
      rw [if_neg h2, if_neg h2]
      by_cases h3 : r < 65536
      · rw [if_pos h3, if_pos h3]
        have o : Go.bits .or .i64 224 (r / 64 / 64) % 256 = 224 + r / 4096 := by
          rw [or_join 4 224 (r / 64 / 64) (by decide) (by decide) (by decide) (by omega) (by omega) (by omega)]; omega
        have rep : List.replicate (3 : Int).toNat (0 : Int) = [0, 0, 0] := rfl
        simp only [Option.bind_some, rep, v3, impl_RuneBytes.l0, v2, v1, lowByte r hr.1 hr.2, lowByte (r / 64) (by omega) (by omega)]
        simp [y3, o]
      rw [if_neg h3, if_neg h3]
      have o : Go.bits .or .i64 240 (r / 64 / 64 / 64) % 256 = 240 + r / 262144 := by
        rw [or_join 3 240 (r / 64 / 64 / 64) (by decide) (by decide) (by decide) (by omega) (by omega) (by omega)]; omega
      have rep : List.replicate (4 : Int).toNat (0 : Int) = [0, 0, 0, 0] := rfl
      simp only [Option.bind_some, rep, v4, impl_RuneBytes.l0, v3, v2, v1, lowByte r hr.1 hr.2, lowByte (r / 64) (by omega) (by omega), lowByte (r / 64 / 64) (by omega) (by omega)]
      simp [y4, o]
      omega
    · rw [if_neg h, if_neg h]
  exact Ev.of (fun k => impl_RuneBytes.mono r k) key
theorem runeV_len (r : Int) : (runeV r).length ≤ 4 := by
  unfold runeV
  repeat' split
  all_goals simp

/-! #### eqByteS -/
theorem ev_eqByteS (l0 l1 : List Int) (hb : l0.length ≤ 9000000000000000000) : Ev (fun k => laws_eqByteS.f k l0 l1) (decide (l0 = l1)) := by
  unfold laws_eqByteS.f
  by_cases hl : (l0.length : Int) = (l1.length : Int)
  · refine ev_if_pos hl ?_
    have key : ∀ d i : Nat, i + d = l0.length → l0.take i = l1.take i → Ev (fun k => laws_eqByteS.l0 k l0 l1 (i : Int)) (decide (l0 = l1)) := by
      intro d
      induction d with
      | zero =>
        intro i hi ht
        have he : l0 = l1 := by rw [List.take_of_length_le (by omega), List.take_of_length_le (by omega)] at ht; exact ht
        refine Ev.step (f := fun _ => some (decide (l0 = l1))) (fun k => ?_) (Ev.now _)
        simp only [laws_eqByteS.l0]
        rw [if_neg (by omega)]; simp [he]
      | succ d ih =>
        intro i hi ht
        by_cases he : rd l0 (i : Int) = rd l1 (i : Int)
        · refine Ev.step (f := fun k => laws_eqByteS.l0 k l0 l1 ((i + 1 : Nat) : Int)) (fun k => ?_) (ih (i + 1) (by omega) ?_)
          · simp only [laws_eqByteS.l0]
            rw [if_pos (by omega), if_pos (by omega), if_pos (by omega), if_pos he, w64 (by omega) (by omega)]
            rfl
          · rw [rd_get _ _ (by omega), rd_get _ _ (by omega)] at he
            rw [List.take_succ_eq_append_getElem (by omega), List.take_succ_eq_append_getElem (by omega), ht, he]
        · refine Ev.step (f := fun _ => some (decide (l0 = l1))) (fun k => ?_) (Ev.now _)
          simp only [laws_eqByteS.l0]
          rw [if_pos (by omega), if_pos (by omega), if_pos (by omega), if_neg he]
          have hne : ¬ l0 = l1 := fun e => he (by rw [e])
          simp [hne]
    exact key l0.length 0 (by omega) (by simp)
  · refine ev_if_neg hl ?_
    have hne : ¬ l0 = l1 := fun e => hl (by rw [e])
    have e : (fun _ : Nat => some false) = fun _ : Nat => some (decide (l0 = l1)) := by simp [hne]
    rw [e]; exact Ev.now _

/-! #### markByteS -/
/-- Marks from a on, as bytes. -/
def bmarks (a : Int) : Nat → List Int
  | 0 => []
  | n + 1 => (a % 256) :: bmarks (a + 1) n
theorem bmarks_length (n : Nat) : ∀ a, (bmarks a n).length = n := by
  induction n with
  | zero => intro a; rfl
  | succ n ih => intro a; simp [bmarks, ih]
theorem bmarks_get (n : Nat) : ∀ a i, i < n → (bmarks a n).getD i 0 = (a + i) % 256 := by
  induction n with
  | zero => intro a i h; omega
  | succ n ih =>
    intro a i h
    cases i with
    | zero => simp [bmarks]
    | succ i =>
      simp only [bmarks, List.getD_cons_succ]
      rw [ih _ _ (by omega)]
      congr 1; omega
theorem ev_markByteS (l : List Int) (a : Int) (h0 : 0 ≤ a) (hb : a + l.length ≤ 9000000000000000000) : Ev (fun k => laws_markByteS.f k l a) (a + l.length, bmarks a l.length) := by
  unfold laws_markByteS.f
  have key : ∀ d i : Nat, ∀ x : List Int, i + d = l.length → x.length = l.length → (∀ j, j < i → x.getD j 0 = (a + j) % 256) →
      Ev (fun k => laws_markByteS.l0 k x (a + i) (i : Int)) (a + l.length, bmarks a l.length) := by
    intro d
    induction d with
    | zero =>
      intro i x hi hx hm
      refine Ev.step (f := fun _ => some (a + l.length, bmarks a l.length)) (fun k => ?_) (Ev.now _)
      simp only [laws_markByteS.l0]
      rw [if_neg (by omega)]
      have e : x = bmarks a l.length := by
        apply List.ext_getElem
        · rw [hx, bmarks_length]
        · intro j h1 h2
          have p := hm j (by omega)
          have q := bmarks_get l.length a j (by omega)
          rw [List.getD_eq_getElem?_getD, List.getElem?_eq_getElem h1, Option.getD_some] at p
          rw [List.getD_eq_getElem?_getD, List.getElem?_eq_getElem h2, Option.getD_some] at q
          omega
      rw [e, show (i : Int) = l.length by omega]
    | succ d ih =>
      intro i x hi hx hm
      refine Ev.step (f := fun k => laws_markByteS.l0 k (x.set i ((a + i) % 256)) (a + ((i + 1 : Nat) : Int)) ((i + 1 : Nat) : Int)) (fun k => ?_) (ih (i + 1) _ (by omega) (by simpa using hx) ?_)
      · simp only [laws_markByteS.l0]
        rw [if_pos (by omega), if_pos (by omega), w64 (x := a + i + 1) (by omega) (by omega), w64 (x := (i : Int) + 1) (by omega) (by omega)]
        simp only [Int.toNat_natCast, Int.natCast_add, Int.natCast_one, Int.add_assoc]
      · intro j hj
        by_cases e : j = i
        · subst e
          simp [List.getD_eq_getElem?_getD, List.getElem?_set, show j < x.length by omega]
        · have := hm j (by omega)
          rw [List.getD_eq_getElem?_getD] at this ⊢
          rw [List.getElem?_set_ne (by omega)]; exact this
  have := key l.length 0 l (by omega) rfl (fun j hj => by omega)
  simpa using this
theorem ev_heldByteS (n : Nat) (a : Int) (h0 : 0 ≤ a) (hb : a + n ≤ 9000000000000000000) : Ev (fun k => laws_heldByteS.f k (bmarks a n) a) (a + n) := by
  unfold laws_heldByteS.f
  have hl := bmarks_length n a
  have key : ∀ d i : Nat, i + d = n → Ev (fun k => laws_heldByteS.l0 k (bmarks a n) (a + i) (i : Int)) (a + n) := by
    intro d
    induction d with
    | zero =>
      intro i hi
      refine Ev.step (f := fun _ => some (a + n)) (fun k => ?_) (Ev.now _)
      simp only [laws_heldByteS.l0]
      rw [if_neg (by omega), show (i : Int) = n by omega]
    | succ d ih =>
      intro i hi
      refine Ev.step (f := fun k => laws_heldByteS.l0 k (bmarks a n) (a + ((i + 1 : Nat) : Int)) ((i + 1 : Nat) : Int)) (fun k => ?_) (ih (i + 1) (by omega))
      simp only [laws_heldByteS.l0]
      rw [if_pos (by omega), if_pos (by omega), if_pos (by rw [rd_nat, bmarks_get n a i (by omega)]), w64 (x := a + i + 1) (by omega) (by omega), w64 (x := (i : Int) + 1) (by omega) (by omega)]
      simp only [Int.natCast_add, Int.natCast_one, Int.add_assoc]
  have := key n 0 (by omega)
  simpa using this

/-! #### law_FnExactRuneBytes -/
theorem FnExactRuneBytes : laws_FnExactRuneBytes.Pure := by
  intro r hr
  have hl := runeV_len r
  have hm := ev_markByteS (runeV r) 1 (by omega) (by omega)
  have hh := ev_heldByteS (runeV r).length 1 (by omega) (by omega)
  have e : Ev (fun k => laws_FnExactRuneBytes.f k r) true := by
    unfold laws_FnExactRuneBytes.f
    refine ev_bind0 (spec_RuneBytes_eq r) (Ev.bind (ev_impl_RuneBytes r) (Ev.bind (ev_eqByteS _ _ (by omega)) ?_))
    simp only [decide_true, if_true]
    refine Ev.bind hm (Ev.bind hh (ev_if_neg (by omega) (ev_if_pos rfl (Ev.bind (ev_impl_RuneBytes r) (Ev.bind (ev_eqByteS _ _ (by omega)) ?_)))))
    simp only [decide_true, if_true]
    exact Ev.bind hh (ev_if_neg (by omega) (ev_if_pos rfl (Ev.now _)))
  exact e.rounds

end Go.Proofs.Ytnodpgddmkmngaa.Pure
