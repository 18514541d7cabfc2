/- The pure statement of the law FnExactNatOf: at every input that its guards let in the program's answer is the reference's. -/
import Derived.Test.YtnodpgddmkmngaaPFnExactNatOfx2
import Derived.Test.YtnodpgddmkmngaaLib
import Derived.WalkKit
namespace Go.Proofs.Ytnodpgddmkmngaa.Pure
open Go.RowKit Go.Proofs.Ytnodpgddmkmngaa.PFnExactNatOf Go.Proofs.YtnodpgddmkmngaaW.PrintWords Go.Proofs.YtnodpgddmkmngaaW.PrintLast Go.Proofs.Ytnodpgddmkmngaa.Lib
set_option linter.unusedVariables false
set_option linter.unusedSimpArgs false

/-! #### l2of -/
theorem ev_spec_l2of (n : Int) (h1 : n ≤ 9223372036854775807) : Ev (fun k => spec_l2of.f k n) (dig n) := by
  unfold spec_l2of.f dig
  have key : ∀ f : Nat, ∀ x : Int, ∀ acc : List Int, x < pw f → x ≤ 9223372036854775807 → acc.length + f < 1000 → Ev (fun k => spec_l2of.l0 k x acc) (acc ++ digF f x) := by
    intro f
    induction f with
    | zero =>
      intro x acc hx hb ha
      simp [pw] at hx
      refine Ev.step (f := fun _ => some (acc ++ digF 0 x)) (fun k => ?_) (Ev.now _)
      simp only [spec_l2of.l0]
      rw [if_neg (by omega)]; simp [digF]
    | succ f ih =>
      intro x acc hx hb ha
      by_cases h : x ≤ 0
      · refine Ev.step (f := fun _ => some (acc ++ digF (f + 1) x)) (fun k => ?_) (Ev.now _)
        simp only [spec_l2of.l0]
        rw [if_neg (by omega)]; simp [digF, h]
      · have e : acc ++ digF (f + 1) x = (acc ++ [x % 65536]) ++ digF f (x / 65536) := by
          simp [digF, h]
        rw [e]
        simp only [pw] at hx
        refine Ev.step (f := fun k => spec_l2of.l0 k (x / 65536) (acc ++ [x % 65536])) (fun k => ?_) (ih _ _ (by omega) (by omega) (by simp; omega))
        simp only [spec_l2of.l0]
        rw [if_pos (by omega), if_pos (by omega), td _ _ (by omega), tm _ _ (by omega), w64 (by omega) (by omega)]
  have := key 4 n [] (by rw [pw4]; omega) h1 (by simp)
  simpa using this

/-! #### small -/
theorem ev_impl_small (n : Int) (h1 : n ≤ 9223372036854775807) : Ev (fun k => impl_small.f k n) (dig n) := by
  unfold impl_small.f dig
  have key : ∀ f : Nat, ∀ x : Int, ∀ acc : List Int, x < pw f → x ≤ 9223372036854775807 → acc.length + f < 1000 → Ev (fun k => impl_small.l0 k x acc) (acc ++ digF f x) := by
    intro f
    induction f with
    | zero =>
      intro x acc hx hb ha
      simp [pw] at hx
      refine Ev.step (f := fun _ => some (acc ++ digF 0 x)) (fun k => ?_) (Ev.now _)
      simp only [impl_small.l0]
      rw [if_neg (by omega)]; simp [digF]
    | succ f ih =>
      intro x acc hx hb ha
      by_cases h : x ≤ 0
      · refine Ev.step (f := fun _ => some (acc ++ digF (f + 1) x)) (fun k => ?_) (Ev.now _)
        simp only [impl_small.l0]
        rw [if_neg (by omega)]; simp [digF, h]
      · have e : acc ++ digF (f + 1) x = (acc ++ [x % 65536]) ++ digF f (x / 65536) := by
          simp [digF, h]
        rw [e]
        simp only [pw] at hx
        refine Ev.step (f := fun k => impl_small.l0 k (x / 65536) (acc ++ [x % 65536])) (fun k => ?_) (ih _ _ (by omega) (by omega) (by simp; omega))
        simp only [impl_small.l0]
        rw [if_pos (by omega), if_pos (by omega), td _ _ (by omega), tm _ _ (by omega), w64 (by omega) (by omega)]
  have := key 4 n [] (by rw [pw4]; omega) h1 (by simp)
  simpa using this

/-! #### natOf -/
theorem impl_natOf_eq (l : List Int) : impl_natOf.f l = some (if l.length ≤ 100 then (l, true) else ([], false)) := by
  unfold impl_natOf.f slices_Clone_int_int.f
  by_cases h : l.length ≤ 100
  · rw [if_neg (by omega), if_pos (by omega), if_pos h]; rfl
  · rw [if_pos (by omega), if_neg h]

/-! #### eqIntS -/
theorem ev_eqIntS (l0 l1 : List Int) (hb : l0.length ≤ 9000000000000000000) : Ev (fun k => laws_eqIntS.f k l0 l1) (decide (l0 = l1)) := by
  unfold laws_eqIntS.f
  by_cases hl : (l0.length : Int) = (l1.length : Int)
  · refine ev_if_pos hl ?_
    have key : ∀ d i : Nat, i + d = l0.length → l0.take i = l1.take i → Ev (fun k => laws_eqIntS.l0 k l0 l1 (i : Int)) (decide (l0 = l1)) := by
      intro d
      induction d with
      | zero =>
        intro i hi ht
        have he : l0 = l1 := by rw [List.take_of_length_le (by omega), List.take_of_length_le (by omega)] at ht; exact ht
        refine Ev.step (f := fun _ => some (decide (l0 = l1))) (fun k => ?_) (Ev.now _)
        simp only [laws_eqIntS.l0]
        rw [if_neg (by omega)]; simp [he]
      | succ d ih =>
        intro i hi ht
        by_cases he : rd l0 (i : Int) = rd l1 (i : Int)
        · refine Ev.step (f := fun k => laws_eqIntS.l0 k l0 l1 ((i + 1 : Nat) : Int)) (fun k => ?_) (ih (i + 1) (by omega) ?_)
          · simp only [laws_eqIntS.l0]
            rw [if_pos (by omega), if_pos (by omega), if_pos (by omega), if_pos he, w64 (by omega) (by omega)]
            rfl
          · rw [rd_get _ _ (by omega), rd_get _ _ (by omega)] at he
            rw [List.take_succ_eq_append_getElem (by omega), List.take_succ_eq_append_getElem (by omega), ht, he]
        · refine Ev.step (f := fun _ => some (decide (l0 = l1))) (fun k => ?_) (Ev.now _)
          simp only [laws_eqIntS.l0]
          rw [if_pos (by omega), if_pos (by omega), if_pos (by omega), if_neg he]
          have hne : ¬ l0 = l1 := fun e => he (by rw [e])
          simp [hne]
    exact key l0.length 0 (by omega) (by simp)
  · refine ev_if_neg hl ?_
    have hne : ¬ l0 = l1 := fun e => hl (by rw [e])
    have e : (fun _ : Nat => some false) = fun _ : Nat => some (decide (l0 = l1)) := by simp [hne]
    rw [e]; exact Ev.now _

/-! #### eqNat -/
theorem ev_eqNat (l0 l1 : List Int) (hb : l0.length ≤ 9000000000000000000) : Ev (fun k => laws_eqNat.f k l0 l1) (decide (l0 = l1)) := by
  unfold laws_eqNat.f
  refine Ev.bind (ev_eqIntS l0 l1 hb) ?_
  by_cases h : l0 = l1
  · simp only [h, decide_true, if_true]; exact Ev.now _
  · simp only [h, decide_false]; exact Ev.now _

/-! #### markIntS -/
/-- Marks from a on. -/
def marks (a : Int) : Nat → List Int
  | 0 => []
  | n + 1 => a :: marks (a + 1) n
theorem marks_length (n : Nat) : ∀ a, (marks a n).length = n := by
  induction n with
  | zero => intro a; rfl
  | succ n ih => intro a; simp [marks, ih]
theorem marks_get (n : Nat) : ∀ a i, i < n → (marks a n).getD i 0 = a + i := by
  induction n with
  | zero => intro a i h; omega
  | succ n ih =>
    intro a i h
    cases i with
    | zero => simp [marks]
    | succ i => simp only [marks, List.getD_cons_succ]; rw [ih _ _ (by omega)]; omega
theorem ev_markIntS (l : List Int) (a : Int) (h0 : 0 ≤ a) (hb : a + l.length ≤ 9000000000000000000) : Ev (fun k => laws_markIntS.f k l a) (a + l.length, marks a l.length) := by
  unfold laws_markIntS.f
  have key : ∀ d i : Nat, ∀ x : List Int, i + d = l.length → x.length = l.length → (∀ j, j < i → x.getD j 0 = a + j) →
      Ev (fun k => laws_markIntS.l0 k x (a + i) (i : Int)) (a + l.length, marks a l.length) := by
    intro d
    induction d with
    | zero =>
      intro i x hi hx hm
      refine Ev.step (f := fun _ => some (a + l.length, marks a l.length)) (fun k => ?_) (Ev.now _)
      simp only [laws_markIntS.l0]
      rw [if_neg (by omega)]
      have e : x = marks a l.length := by
        apply List.ext_getElem
        · rw [hx, marks_length]
        · intro j h1 h2
          have p := hm j (by omega)
          have q := marks_get l.length a j (by omega)
          rw [List.getD_eq_getElem?_getD, List.getElem?_eq_getElem h1, Option.getD_some] at p
          rw [List.getD_eq_getElem?_getD, List.getElem?_eq_getElem h2, Option.getD_some] at q
          omega
      rw [e, show (i : Int) = l.length by omega]
    | succ d ih =>
      intro i x hi hx hm
      refine Ev.step (f := fun k => laws_markIntS.l0 k (x.set i (a + i)) (a + ((i + 1 : Nat) : Int)) ((i + 1 : Nat) : Int)) (fun k => ?_) (ih (i + 1) _ (by omega) (by simpa using hx) ?_)
      · simp only [laws_markIntS.l0]
        rw [if_pos (by omega), if_pos (by omega), w64 (x := a + i + 1) (by omega) (by omega), w64 (x := (i : Int) + 1) (by omega) (by omega)]
        simp only [Int.toNat_natCast, Int.natCast_add, Int.natCast_one, Int.add_assoc]
      · intro j hj
        by_cases e : j = i
        · subst e
          simp [List.getD_eq_getElem?_getD, List.getElem?_set, show j < x.length by omega]
        · have := hm j (by omega)
          rw [List.getD_eq_getElem?_getD] at this ⊢
          rw [List.getElem?_set_ne (by omega)]; exact this
  have := key l.length 0 l (by omega) rfl (fun j hj => by omega)
  simpa using this
theorem ev_heldIntS (n : Nat) (a : Int) (h0 : 0 ≤ a) (hb : a + n ≤ 9000000000000000000) : Ev (fun k => laws_heldIntS.f k (marks a n) a) (a + n) := by
  unfold laws_heldIntS.f
  have hl := marks_length n a
  have key : ∀ d i : Nat, i + d = n → Ev (fun k => laws_heldIntS.l0 k (marks a n) (a + i) (i : Int)) (a + n) := by
    intro d
    induction d with
    | zero =>
      intro i hi
      refine Ev.step (f := fun _ => some (a + n)) (fun k => ?_) (Ev.now _)
      simp only [laws_heldIntS.l0]
      rw [if_neg (by omega), show (i : Int) = n by omega]
    | succ d ih =>
      intro i hi
      refine Ev.step (f := fun k => laws_heldIntS.l0 k (marks a n) (a + ((i + 1 : Nat) : Int)) ((i + 1 : Nat) : Int)) (fun k => ?_) (ih (i + 1) (by omega))
      simp only [laws_heldIntS.l0]
      rw [if_pos (by omega), if_pos (by omega), if_pos (by rw [rd_nat, marks_get n a i (by omega)]), w64 (x := a + i + 1) (by omega) (by omega), w64 (x := (i : Int) + 1) (by omega) (by omega)]
      simp only [Int.natCast_add, Int.natCast_one, Int.add_assoc]
  have := key n 0 (by omega)
  simpa using this

/-! #### markNat -/
theorem ev_markNat (l : List Int) (a : Int) (h0 : 0 ≤ a) (hb : a + l.length ≤ 9000000000000000000) : Ev (fun k => laws_markNat.f k l a) (a + l.length, marks a l.length) := by
  unfold laws_markNat.f
  exact Ev.bind (ev_markIntS l a h0 hb) (Ev.now _)
theorem ev_heldNat (n : Nat) (a : Int) (h0 : 0 ≤ a) (hb : a + n ≤ 9000000000000000000) : Ev (fun k => laws_heldNat.f k (marks a n) a) (a + n) := by
  unfold laws_heldNat.f
  refine Ev.bind (ev_heldIntS n a h0 hb) ?_
  rw [if_neg (by omega)]
  exact Ev.now _

/-! #### law_FnExactNatOf -/
/-- What NatOf answers. -/
def natOfV (n : Int) : List Int × Bool := if n < 0 then ([], false) else (dig n, true)
theorem ev_spec_NatOf (n : Int) (h1 : n ≤ 9223372036854775807) : Ev (fun k => spec_NatOf.f k n) (natOfV n) := by
  unfold spec_NatOf.f natOfV
  by_cases h : n < 0
  · rw [if_pos h]; exact ev_if_pos h (Ev.now _)
  · rw [if_neg h]; exact ev_if_neg h (Ev.bind (ev_spec_l2of n h1) (Ev.now _))
theorem ev_impl_NatOf (n : Int) (h1 : n ≤ 9223372036854775807) : Ev (fun k => impl_NatOf.f k n) (natOfV n) := by
  unfold impl_NatOf.f natOfV
  by_cases h : n < 0
  · rw [if_pos h]; exact ev_if_pos h (Ev.now _)
  · rw [if_neg h]
    refine ev_if_neg h (Ev.bind (ev_impl_small n h1) (ev_bind0 (impl_natOf_eq _) ?_))
    rw [if_pos (by have := dig_len n; omega)]
    exact Ev.now _
theorem FnExactNatOf : laws_FnExactNatOf.Pure := by
  intro n hn
  have h1 := (wfI hn).2
  have hl : (natOfV n).1.length ≤ 4 := by
    unfold natOfV
    by_cases h : n < 0
    · rw [if_pos h]; simp
    · rw [if_neg h]; exact dig_len n
  have hm := ev_markNat (natOfV n).1 1 (by omega) (by omega)
  have hh := ev_heldNat (natOfV n).1.length 1 (by omega) (by omega)
  have e : Ev (fun k => laws_FnExactNatOf.f k n) true := by
    unfold laws_FnExactNatOf.f
    refine Ev.bind (ev_spec_NatOf n h1) (Ev.bind (ev_impl_NatOf n h1) (Ev.bind (ev_eqNat _ _ (by omega)) ?_))
    simp only [decide_true, if_true, bne_self_eq_false]
    refine Ev.step (fun k => by simp only [laws_FnExactNatOf.j0]; rfl) ?_
    simp only [Bool.false_eq_true, if_false]
    refine Ev.bind hm (Ev.bind hh (ev_if_neg (by omega) (ev_if_pos rfl (Ev.bind (ev_impl_NatOf n h1) (Ev.bind (ev_eqNat _ _ (by omega)) ?_)))))
    simp only [decide_true, if_true, bne_self_eq_false]
    refine Ev.step (fun k => by simp only [laws_FnExactNatOf.j1]; rfl) ?_
    simp only [Bool.false_eq_true, if_false]
    exact Ev.bind hh (ev_if_neg (by omega) (ev_if_pos rfl (Ev.now _)))
  exact e.rounds

end Go.Proofs.Ytnodpgddmkmngaa.Pure
