/- The pure statement of the law FnExactDyCmp: at every input that its guards let in the program's answer is the reference's. -/
import Derived.Test.YtgjpahofopoflaaPFnExactDyCmpx11
import Derived.Test.YtgjpahofopoflaaVFnExactDyCmpb
import Derived.WalkKit
namespace Go.Proofs.Ytgjpahofopoflaa.Pure
open Go.RowKit Go.Proofs.Ytgjpahofopoflaa.PFnExactDyCmp Go.Proofs.YtgjpahofopoflaaW.PrintWords Go.Proofs.YtgjpahofopoflaaW.PrintLast Go.Proofs.Ytgjpahofopoflaa.Lib
set_option linter.unusedVariables false
set_option linter.unusedSimpArgs false

/-! #### NatOk -/
theorem getLast_rd (l : List Int) (h : 0 < l.length) : l.getLast? = some (rd l ((l.length : Int) - 1)) := by
  rw [show (l.length : Int) - 1 = ((l.length - 1 : Nat) : Int) by omega, rd_get _ _ (by omega), List.getLast?_eq_getElem?, List.getElem?_eq_getElem]
theorem ev_spec_NatOk (l : List Int) (hb : l.length ≤ 9000000000000000000) : Ev (fun k => spec_NatOk.f k l) (okB l) := by
  unfold spec_NatOk.f
  by_cases hl : (l.length : Int) > 100
  · refine ev_if_pos hl ?_
    have e : okB l = false := by
      have : ¬ l.length ≤ 100 := by omega
      simp [okB, this]
    rw [e]; exact Ev.now _
  · refine ev_if_neg hl ?_
    have hl' : l.length ≤ 100 := by omega
    have key : ∀ d i : Nat, i + d = l.length → (∀ j, j < i → 0 ≤ l.getD j 0 ∧ l.getD j 0 ≤ 65535) → Ev (fun k => spec_NatOk.l0 k (i : Int) l) (okB l) := by
      intro d
      induction d with
      | zero =>
        intro i hi hj
        refine Ev.step (f := fun _ => some (okB l)) (fun k => ?_) (Ev.now _)
        have hall : l.all (fun x => decide (0 ≤ x) && decide (x ≤ 65535)) = true := by
          rw [List.all_eq_true]
          intro x hx
          obtain ⟨j, hjl, rfl⟩ := List.getElem_of_mem hx
          have := hj j (by omega)
          rw [List.getD_eq_getElem?_getD, List.getElem?_eq_getElem hjl, Option.getD_some] at this
          simp; exact this
        simp only [spec_NatOk.l0]
        rw [if_neg (by omega)]
        by_cases h0 : (l.length : Int) = 0
        · rw [if_pos h0]
          have : l = [] := List.eq_nil_of_length_eq_zero (by omega)
          subst this; rfl
        · rw [if_neg h0, w64 (by omega) (by omega), if_pos (by omega), if_pos (by omega)]
          have hlast := getLast_rd l (by omega)
          have hr := hj (l.length - 1) (by omega)
          rw [← rd_nat, show ((l.length - 1 : Nat) : Int) = (l.length : Int) - 1 by omega] at hr
          simp only [okB, hall, hlast, hl', decide_true, Bool.true_and]
          by_cases hz : rd l ((l.length : Int) - 1) = 0
          · simp [hz]
          · have : rd l ((l.length : Int) - 1) > 0 := by omega
            simp [hz, this]
      | succ d ih =>
        intro i hi hj
        by_cases hx : 0 ≤ rd l (i : Int) ∧ rd l (i : Int) ≤ 65535
        · refine Ev.step (f := fun k => spec_NatOk.l0 k ((i + 1 : Nat) : Int) l) (fun k => ?_) (ih (i + 1) (by omega) ?_)
          · simp only [spec_NatOk.l0]
            rw [if_pos (by omega), if_pos (by omega), if_neg (by omega), if_neg (by omega), w64 (by omega) (by omega)]
            rfl
          · intro j hj'
            by_cases e : j = i
            · subst e; rw [rd_nat] at hx; exact hx
            · exact hj j (by omega)
        · refine Ev.step (f := fun _ => some (okB l)) (fun k => ?_) (Ev.now _)
          have hall : l.all (fun x => decide (0 ≤ x) && decide (x ≤ 65535)) = false := by
            rw [List.all_eq_false]
            rw [rd_get _ _ (by omega)] at hx
            exact ⟨l[i], List.getElem_mem (by omega), by simp; omega⟩
          simp only [spec_NatOk.l0]
          rw [if_pos (by omega), if_pos (by omega)]
          have e : okB l = false := by simp [okB, hall]
          rw [e]
          by_cases h1 : rd l (i : Int) < 0
          · rw [if_pos h1]
          · rw [if_neg h1, if_pos (by omega)]
    exact key l.length 0 (by omega) (fun j hj => by omega)
theorem impl_NatOk_eq (l : List Int) : impl_NatOk.f l = some (okB l) := by
  unfold impl_NatOk.f impl_areAll_int.f
  by_cases hl : (l.length : Int) ≤ 100
  · have hl' : l.length ≤ 100 := by omega
    rw [if_pos hl]
    simp only [Option.bind_some]
    have ep : l.all impl_areAll_int.p = l.all (fun x => decide (0 ≤ x) && decide (x ≤ 65535)) := rfl
    rw [ep]
    by_cases hall : l.all (fun x => decide (0 ≤ x) && decide (x ≤ 65535)) = true
    · rw [if_pos hall]
      by_cases h0 : (l.length : Int) = 0
      · rw [if_pos h0]
        have : l = [] := List.eq_nil_of_length_eq_zero (by omega)
        subst this; rfl
      · rw [if_neg h0, w64 (by omega) (by omega), if_pos (by omega), if_pos (by omega)]
        have hlast := getLast_rd l (by omega)
        simp only [okB, hall, hlast, hl', decide_true, Bool.true_and]
        by_cases hz : rd l ((l.length : Int) - 1) = 0
        · simp [hz]
        · have e1 : (rd l ((l.length : Int) - 1) != 0) = true := by simpa using hz
          have e2 : (some (rd l ((l.length : Int) - 1)) != some 0) = true := by simpa using hz
          rw [e1, e2]
    · rw [if_neg hall]
      simp [okB, hall]
  · rw [if_neg hl]
    have : ¬ l.length ≤ 100 := by omega
    simp [okB, this]

/-! #### wDef -/
/-- Is an integer valid? -/
def wOkB (s : Bool) (l : List Int) : Bool := okB l && !(s && l.isEmpty)
theorem wOkB_nat {s : Bool} {l : List Int} (h : wOkB s l = true) : l.length ≤ 100 ∧ Norm l := by
  unfold wOkB at h
  rw [Bool.and_eq_true] at h
  exact (okB_iff l).1 h.1

/-! #### WholeOk -/
theorem ev_spec_WholeOk (s : Bool) (l : List Int) (hb : l.length ≤ 9000000000000000000) : Ev (fun k => spec_WholeOk.f k s l) (wOkB s l) := by
  unfold spec_WholeOk.f
  refine Ev.bind (ev_spec_NatOk l hb) ?_
  unfold wOkB
  by_cases h : okB l = true
  · refine ev_if_pos h ?_
    cases s
    · simp [h]; exact Ev.now _
    · cases l
      · simp; exact Ev.now _
      · simp [h]; first | exact Ev.now _ | (refine ev_if_pos (by omega) (Ev.now _))
  · have h' : okB l = false := by simpa using h
    refine ev_if_neg h ?_
    rw [h']; exact Ev.now _
theorem impl_WholeOk_eq (s : Bool) (l : List Int) : impl_WholeOk.f s l = some (wOkB s l) := by
  unfold impl_WholeOk.f wOkB
  rw [impl_NatOk_eq]
  simp only [Option.bind_some]
  by_cases h : okB l = true
  · rw [if_pos h]
    cases s
    · simp [h]
    · cases l
      · simp
      · simp [h]; try omega
  · rw [if_neg h]; simp [h]

/-! #### dyDef -/
/-- The lowest bit. -/
def bit0 (l : List Int) : Int := l.headD 0 % 2
/-- Is a dyadic number valid? -/
def dyOkB (s : Bool) (l : List Int) (e : Int) : Bool := wOkB s l && decide (-3000 ≤ e ∧ e ≤ 3000) && (if l = [] then decide (e = 0) else decide (bit0 l = 1))
theorem rd_zero_cons (x : Int) (l : List Int) : rd (x :: l) 0 = x := rfl

/-! #### specDyOk -/
theorem spec_bit0 (l : List Int) (h : Limbs l) : spec_l2bit.f l 0 = some (bit0 l) := by
  unfold spec_l2bit.f bit0
  have z : Int.tdiv 0 16 = 0 := rfl
  have z2 : Int.tmod 0 16 = 0 := rfl
  rw [if_neg (by omega), z, z2, w64 (x := 0) (by omega) (by omega)]
  cases l with
  | nil => rfl
  | cons x l =>
    rw [if_neg (by simp only [List.length_cons]; omega), if_pos (by omega), if_pos (by simp only [List.length_cons]; omega), if_pos (by omega), rd_zero_cons]
    have hx := h.head
    have sh : shr .i64 x 0 = x := by simp [shr]
    rw [sh, and_1 _ hx.1 (by omega)]; rfl
theorem ev_spec_DyOk (s : Bool) (l : List Int) (e : Int) (hb : l.length ≤ 9000000000000000000) : Ev (fun k => spec_DyOk.f k s l e) (dyOkB s l e) := by
  unfold spec_DyOk.f
  refine Ev.bind (ev_spec_WholeOk s l hb) ?_
  unfold dyOkB
  by_cases h : wOkB s l = true
  · have hn := wOkB_nat h
    simp only [if_pos h]
    have tail : ∀ b : Bool, b = decide (¬ (-3000 ≤ e ∧ e ≤ 3000)) → Ev (fun k => spec_DyOk.j0 k b s l e) (wOkB s l && decide (-3000 ≤ e ∧ e ≤ 3000) && (if l = [] then decide (e = 0) else decide (bit0 l = 1))) := by
      intro b hb'
      refine Ev.step (fun k => by simp only [spec_DyOk.j0]; rfl) ?_
      by_cases he : -3000 ≤ e ∧ e ≤ 3000
      · have : b = false := by rw [hb']; simpa using he
        subst this
        simp only [Bool.false_eq_true, if_false, h, he, and_self, decide_true, Bool.true_and]
        by_cases hl : l = []
        · subst hl; simp; exact Ev.now _
        · have : ¬ (l.length : Int) = 0 := by
            intro z; exact hl (List.eq_nil_of_length_eq_zero (by omega))
          rw [if_neg hl]
          refine ev_if_neg this ?_
          rw [spec_bit0 l hn.2.1]
          have : (bit0 l == 1) = decide (bit0 l = 1) := by
            by_cases g : bit0 l = 1 <;> simp [g]
          simp only [Option.bind_some, this]
          exact Ev.now _
      · have : b = true := by rw [hb']; exact decide_eq_true he
        subst this
        simp only [if_true, he, decide_false, Bool.and_false, Bool.false_and]
        exact Ev.now _
    by_cases he : e < -3000
    · simp only [if_pos he]; exact tail true (by simp; omega)
    · simp only [if_neg he]; exact tail _ (decide_eq_decide.mpr (by omega))
  · simp only [if_neg h]
    refine Ev.step (fun k => by simp only [spec_DyOk.j0]; rfl) ?_
    simp [h]; exact Ev.now _

/-! #### within -/
theorem within_eq (a b c : Int) : impl_within.f a b c = some (decide (b ≤ a ∧ a ≤ c)) := by
  unfold impl_within.f
  by_cases h : b ≤ a <;> simp [h]

/-! #### DyOk -/
theorem impl_bit0 (l : List Int) (h : Limbs l) : impl_bitOf.f l 0 = some (bit0 l) := by
  unfold impl_bitOf.f bit0
  have z : Int.tdiv 0 16 = 0 := rfl
  have z2 : Int.tmod 0 16 = 0 := rfl
  rw [if_neg (by omega), z, z2, w64 (x := 0) (by omega) (by omega)]
  cases l with
  | nil => rfl
  | cons x l =>
    rw [if_neg (by simp only [List.length_cons]; omega), if_pos (by omega), if_pos (by simp only [List.length_cons]; omega), if_pos (by omega), rd_zero_cons]
    have hx := h.head
    have sh : shr .i64 x 0 = x := by simp [shr]
    rw [sh, and_1 _ hx.1 (by omega)]; rfl
theorem impl_DyOk_eq (s : Bool) (l : List Int) (e : Int) : impl_DyOk.f s l e = some (dyOkB s l e) := by
  unfold impl_DyOk.f dyOkB
  rw [impl_WholeOk_eq]
  simp only [Option.bind_some, within_eq]
  by_cases h : wOkB s l = true
  · have hn := wOkB_nat h
    rw [if_pos h]
    by_cases he : -3000 ≤ e ∧ e ≤ 3000
    · simp only [he, and_self, decide_true, if_true]
      rw [impl_bit0 l hn.2.1]
      simp only [Option.bind_some, h, Bool.true_and]
      by_cases hl : l = []
      · subst hl
        have g : (e == 0) = decide (e = 0) := by by_cases z : e = 0 <;> simp [z]
        simp [bit0, g]
      · have : ¬ (l.length : Int) = 0 := by
          intro z; exact hl (List.eq_nil_of_length_eq_zero (by omega))
        rw [if_neg hl, if_neg this]
        by_cases g : bit0 l = 1 <;> simp [g]
    · simp [he]
  · rw [if_neg h]; simp [h]

/-! #### toNat -/
theorem ev_toIntS (l : List Int) (hb : l.length ≤ 1048576) : Ev (fun k => laws_toIntS.f k l) l := by
  unfold laws_toIntS.f
  refine ev_if_pos (by omega) (ev_if_pos (by simp; omega) ?_)
  have key : ∀ d i : Nat, ∀ x : List Int, i + d = l.length → x.length = l.length → x.take i = l.take i → Ev (fun k => laws_toIntS.l0 k l x (i : Int)) l := by
    intro d
    induction d with
    | zero =>
      intro i x hi hx ht
      refine Ev.step (f := fun _ => some l) (fun k => ?_) (Ev.now _)
      simp only [laws_toIntS.l0]
      rw [if_neg (by omega)]
      rw [List.take_of_length_le (by omega), List.take_of_length_le (by omega)] at ht
      rw [ht]
    | succ d ih =>
      intro i x hi hx ht
      refine Ev.step (f := fun k => laws_toIntS.l0 k l (x.set i (rd l (i : Int))) ((i + 1 : Nat) : Int)) (fun k => ?_) (ih (i + 1) _ (by omega) (by simpa using hx) ?_)
      · simp only [laws_toIntS.l0]
        rw [if_pos (by omega), if_pos (by omega), if_pos (by omega), w64 (by omega) (by omega)]
        simp only [Int.toNat_natCast, Int.natCast_add, Int.natCast_one]
      · rw [List.take_succ_eq_append_getElem (by simp; omega), List.take_succ_eq_append_getElem (by omega), rd_get _ _ (by omega)]
        rw [List.take_set_of_le (by omega), ht]
        simp
  exact key l.length 0 _ (by omega) (by simp) (by simp)
theorem ev_toNat (l : List Int) (hb : l.length ≤ 1048576) : Ev (fun k => laws_toNat.f k l) l := by
  unfold laws_toNat.f
  exact Ev.bind (ev_toIntS l hb) (Ev.now _)
theorem szNat_small (l : List Int) (n : Nat) (hn : n ≤ 1048576) (h : l.length ≤ n) : laws_szNat.f l n = some ((n - l.length : Nat) : Int) := by
  unfold laws_szNat.f laws_szIntS.f
  rw [w64 (by omega) (by omega), if_neg (by omega)]
  simp only [Option.bind_some]
  rw [if_neg (by omega)]
  congr 1; omega
theorem szNat_big (l : List Int) (n : Nat) (hn : n ≤ 1048576) (hm : l.length ≤ maxLen) (h : n < l.length) : laws_szNat.f l n = some (-1) := by
  unfold maxLen at hm
  unfold laws_szNat.f laws_szIntS.f
  rw [w64 (by omega) (by omega), if_pos (by omega)]
  rfl

/-! #### eqIntS -/
theorem ev_eqIntS (l0 l1 : List Int) (hb : l0.length ≤ 9000000000000000000) : Ev (fun k => laws_eqIntS.f k l0 l1) (decide (l0 = l1)) := by
  unfold laws_eqIntS.f
  by_cases hl : (l0.length : Int) = (l1.length : Int)
  · refine ev_if_pos hl ?_
    have key : ∀ d i : Nat, i + d = l0.length → l0.take i = l1.take i → Ev (fun k => laws_eqIntS.l0 k l0 l1 (i : Int)) (decide (l0 = l1)) := by
      intro d
      induction d with
      | zero =>
        intro i hi ht
        have he : l0 = l1 := by rw [List.take_of_length_le (by omega), List.take_of_length_le (by omega)] at ht; exact ht
        refine Ev.step (f := fun _ => some (decide (l0 = l1))) (fun k => ?_) (Ev.now _)
        simp only [laws_eqIntS.l0]
        rw [if_neg (by omega)]; simp [he]
      | succ d ih =>
        intro i hi ht
        by_cases he : rd l0 (i : Int) = rd l1 (i : Int)
        · refine Ev.step (f := fun k => laws_eqIntS.l0 k l0 l1 ((i + 1 : Nat) : Int)) (fun k => ?_) (ih (i + 1) (by omega) ?_)
          · simp only [laws_eqIntS.l0]
            rw [if_pos (by omega), if_pos (by omega), if_pos (by omega), if_pos he, w64 (by omega) (by omega)]
            rfl
          · rw [rd_get _ _ (by omega), rd_get _ _ (by omega)] at he
            rw [List.take_succ_eq_append_getElem (by omega), List.take_succ_eq_append_getElem (by omega), ht, he]
        · refine Ev.step (f := fun _ => some (decide (l0 = l1))) (fun k => ?_) (Ev.now _)
          simp only [laws_eqIntS.l0]
          rw [if_pos (by omega), if_pos (by omega), if_pos (by omega), if_neg he]
          have hne : ¬ l0 = l1 := fun e => he (by rw [e])
          simp [hne]
    exact key l0.length 0 (by omega) (by simp)
  · refine ev_if_neg hl ?_
    have hne : ¬ l0 = l1 := fun e => hl (by rw [e])
    have e : (fun _ : Nat => some false) = fun _ : Nat => some (decide (l0 = l1)) := by simp [hne]
    rw [e]; exact Ev.now _

/-! #### eqNat -/
theorem ev_eqNat (l0 l1 : List Int) (hb : l0.length ≤ 9000000000000000000) : Ev (fun k => laws_eqNat.f k l0 l1) (decide (l0 = l1)) := by
  unfold laws_eqNat.f
  refine Ev.bind (ev_eqIntS l0 l1 hb) ?_
  by_cases h : l0 = l1
  · simp only [h, decide_true, if_true]; exact Ev.now _
  · simp only [h, decide_false]; exact Ev.now _

/-! #### toWhole -/
theorem ev_toWhole (s : Bool) (l : List Int) (hb : l.length ≤ 1048576) : Ev (fun k => laws_toWhole.f k s l) (s, l) := by
  unfold laws_toWhole.f
  exact Ev.bind (ev_toNat l hb) (Ev.now _)
theorem szWhole_small (s : Bool) (l : List Int) (n : Nat) (hn : n ≤ 1048576) (h : l.length ≤ n) : laws_szWhole.f s l n = some ((n - l.length : Nat) : Int) := by
  unfold laws_szWhole.f
  rw [szNat_small l n hn h]
  simp only [Option.bind_some]
  rw [if_neg (by omega)]
theorem szWhole_big (s : Bool) (l : List Int) (n : Nat) (hn : n ≤ 1048576) (hm : l.length ≤ maxLen) (h : n < l.length) : laws_szWhole.f s l n = some (-1) := by
  unfold laws_szWhole.f
  rw [szNat_big l n hn hm h]
  rfl

/-! #### eqWhole -/
theorem ev_eqWhole (s : Bool) (l : List Int) (hb : l.length ≤ 9000000000000000000) : Ev (fun k => laws_eqWhole.f k s l s l) true := by
  unfold laws_eqWhole.f
  simp only [bne_self_eq_false, Bool.false_eq_true, if_false]
  refine Ev.bind (ev_eqNat l l hb) ?_
  simp only [decide_true, if_true]
  exact Ev.now _

/-! #### eqDy -/
theorem ev_eqDy (s : Bool) (l : List Int) (e : Int) (hb : l.length ≤ 9000000000000000000) : Ev (fun k => laws_eqDy.f k s l e s l e) true := by
  unfold laws_eqDy.f
  refine Ev.bind (ev_eqWhole s l hb) ?_
  simp only [if_true]
  exact Ev.now _

/-! #### DyH -/
theorem ev_toDy (s : Bool) (l : List Int) (e : Int) (hb : l.length ≤ 1048576) : Ev (fun k => laws_toDy.f k s l e) (s, l, e) := by
  unfold laws_toDy.f
  exact Ev.bind (ev_toWhole s l hb) (Ev.now _)
theorem szDy_small (s : Bool) (l : List Int) (e : Int) (n : Nat) (hn : n ≤ 1048576) (h : l.length ≤ n) : laws_szDy.f s l e n = some ((n - l.length : Nat) : Int) := by
  unfold laws_szDy.f
  rw [szWhole_small s l n hn h]
  simp only [Option.bind_some]
  rw [if_neg (by omega)]
theorem szDy_big (s : Bool) (l : List Int) (e : Int) (n : Nat) (hn : n ≤ 1048576) (hm : l.length ≤ maxLen) (h : n < l.length) : laws_szDy.f s l e n = some (-1) := by
  unfold laws_szDy.f
  rw [szWhole_big s l n hn hm h]
  rfl

/-! #### l2norm -/
theorem ev_spec_l2norm (l : List Int) (hb : l.length ≤ 1000000000) : Ev (fun k => spec_l2norm.f k l) (strip l) := by
  unfold spec_l2norm.f
  have key : ∀ n : Nat, n ≤ l.length → strip (l.take n) = strip l → Ev (fun k => spec_l2norm.l0 k l (n : Int)) (strip l) := by
    intro n
    induction n with
    | zero =>
      intro _ hs
      refine Ev.step (f := fun _ => some (strip l)) (fun k => ?_) (Ev.now _)
      simp only [spec_l2norm.l0, Option.bind_some]
      rw [if_neg (by omega), if_pos (by omega), if_pos (by omega), if_pos (by simp)]
      simpa [strip] using hs
    | succ n ih =>
      intro hn hs
      by_cases h0 : l[n] = 0
      · refine Ev.step (f := fun k => spec_l2norm.l0 k l (n : Int)) (fun k => ?_) (ih (by omega) ?_)
        · simp only [spec_l2norm.l0]
          rw [show ((n + 1 : Nat) : Int) - 1 = (n : Int) by omega, w64 (x := (n : Int)) (by omega) (by omega), if_pos (by omega), if_pos (by omega), if_pos (by omega), rd_get _ _ (by omega), if_pos h0]
        · rw [← hs, strip_take_zero (by omega) h0]
      · refine Ev.step (f := fun _ => some (strip l)) (fun k => ?_) (Ev.now _)
        simp only [spec_l2norm.l0, Option.bind_some]
        rw [show ((n + 1 : Nat) : Int) - 1 = (n : Int) by omega, w64 (x := (n : Int)) (by omega) (by omega), if_pos (by omega), if_pos (by omega), if_pos (by omega), rd_get _ _ (by omega), if_neg h0, if_pos (by omega), if_pos (by omega), if_pos (by simp; omega)]
        rw [← hs, strip_take_ne (by omega) h0]
        simp
  have := key l.length (Nat.le_refl _) (by simp)
  exact this

/-! #### l2mul -/
theorem mul_step (S P y t c p V : Int) (h : S + c * P = V) (ht : t = y + p + c) : S + (t % 65536 - y) * P + (t / 65536) * (65536 * P) = V + p * P := by
  have e := Int.mul_ediv_add_emod t 65536
  generalize t / 65536 = q at *
  generalize t % 65536 = r at *
  grind
theorem val_set (l : List Int) (i : Nat) (x : Int) (h : i < l.length) : val (l.set i x) = val l + (x - rd l (i : Int)) * pw i := by
  have h1 := val_take_drop (l.set i x) i (by simp; omega)
  have h2 := val_take_drop l i (by omega)
  rw [val_set_drop l i x h, List.take_set_of_le (by omega)] at h1
  rw [val_drop_at h] at h2
  rw [h1, h2]
  grind
theorem rd_set (l : List Int) (i j : Nat) (x : Int) (h : i < l.length) : rd (l.set i x) (j : Int) = if i = j then x else rd l (j : Int) := by
  rw [rd_nat, rd_nat, List.getD_eq_getElem?_getD, List.getD_eq_getElem?_getD, List.getElem?_set]
  by_cases e : i = j
  · subst e; simp [h]
  · simp [e]
theorem val_take_succ (l : List Int) (k : Nat) (h : k < l.length) : val (l.take (k + 1)) = val (l.take k) + pw k * rd l (k : Int) := by
  rw [take_snoc h, val_snoc, List.length_take, Nat.min_eq_left (by omega), rd_get _ _ h]
theorem mul_bound {x y : Int} (hx : 0 ≤ x ∧ x ≤ 65535) (hy : 0 ≤ y ∧ y ≤ 65535) : 0 ≤ x * y ∧ x * y ≤ 4294836225 := by
  refine ⟨Int.mul_nonneg hx.1 hy.1, ?_⟩
  exact Int.le_trans (Int.mul_le_mul hx.2 hy.2 hy.1 (by omega)) (by omega)
theorem spec_mul_row (a b : List Int) (ha : Limbs a) (hb : Limbs b) (hl : a.length ≤ 1000000) (hl2 : b.length ≤ 1000000) (i : Nat) (hi : i < a.length) (V0 : Int) (d : Nat) :
    ∀ (k : Nat) (out : List Int) (c : Int), k + d = b.length → out.length = a.length + b.length → Limbs out → 0 ≤ c → c ≤ 65535 → (∀ j : Nat, i + b.length ≤ j → rd out (j : Int) = 0) → val out + c * pw (i + k) = V0 + rd a (i : Int) * val (b.take k) * pw i →
      ∃ out' : List Int, out'.length = a.length + b.length ∧ Limbs out' ∧ (∀ j : Nat, i + 1 + b.length ≤ j → rd out' (j : Int) = 0) ∧ val out' = V0 + rd a (i : Int) * val b * pw i ∧
        ∀ r, Ev (fun n => spec_l2mul.l0 n out' ((i + 1 : Nat) : Int) a b) r → Ev (fun n => spec_l2mul.l1 n out (i : Int) c (k : Int) a b) r := by
  induction d with
  | zero =>
    intro k out c hk hlen ho c0 c1 hz hv
    have hkk : k = b.length := by omega
    subst hkk
    have w : wrap64 ((i : Int) + (b.length : Int)) = ((i + b.length : Nat) : Int) := by rw [w64 (by omega) (by omega)]; omega
    have z := hz (i + b.length) (Nat.le_refl _)
    refine ⟨out.set (i + b.length) c, by simpa using hlen, ho.set _ c0 c1, ?_, ?_, ?_⟩
    · intro j hj
      rw [rd_set _ _ _ _ (by omega), if_neg (by omega)]
      exact hz j (by omega)
    · rw [val_set _ _ _ (by omega), z, Int.sub_zero, hv, List.take_length]
    · intro r hr
      refine Ev.step (fun n => by simp only [spec_l2mul.l1]; rfl) (ev_if_neg (by omega) ?_)
      rw [w, z, w64 (x := 0 + c) (by omega) (by omega), w64 (x := (i : Int) + 1) (by omega) (by omega), Int.zero_add]
      exact ev_if_pos (by omega) (ev_if_pos (by omega) hr)
  | succ d ih =>
    intro k out c hk hlen ho c0 c1 hz hv
    have w : wrap64 ((i : Int) + (k : Int)) = ((i + k : Nat) : Int) := by rw [w64 (by omega) (by omega)]; omega
    have hik : i + k < out.length := by
      clear hv hz
      omega
    have hkb : k < b.length := by
      clear hv hz
      omega
    have x1 := rd_limb ha (i : Int)
    have x2 := rd_limb hb (k : Int)
    have x3 := rd_limb ho ((i + k : Nat) : Int)
    have mb := mul_bound x1 x2
    have tb : 0 ≤ rd out ((i + k : Nat) : Int) + rd a (i : Int) * rd b (k : Int) + c ∧ rd out ((i + k : Nat) : Int) + rd a (i : Int) * rd b (k : Int) + c ≤ 4294967295 := by omega
    generalize ht : rd out ((i + k : Nat) : Int) + rd a (i : Int) * rd b (k : Int) + c = t at *
    have tq : (0 ≤ t % 65536 ∧ t % 65536 ≤ 65535) ∧ 0 ≤ t / 65536 ∧ t / 65536 ≤ 65535 := by
      clear hv hz ih mb
      omega
    have nlen : (out.set (i + k) (t % 65536)).length = a.length + b.length := by simpa using hlen
    have nz : ∀ j : Nat, i + b.length ≤ j → rd (out.set (i + k) (t % 65536)) (j : Int) = 0 := by
      intro j hj
      have hne : ¬ i + k = j := by
        clear hv hz ih tq tb mb x1 x2 x3
        omega
      rw [rd_set _ _ _ _ hik, if_neg hne]
      exact hz j hj
    have nv : val (out.set (i + k) (t % 65536)) + t / 65536 * pw (i + (k + 1)) = V0 + rd a (i : Int) * val (b.take (k + 1)) * pw i := by
      have ht' : t = rd out ((i + k : Nat) : Int) + rd a (i : Int) * rd b (k : Int) + c := ht.symm
      have hs := mul_step (val out) (pw (i + k)) (rd out ((i + k : Nat) : Int)) t c (rd a (i : Int) * rd b (k : Int)) _ hv ht'
      rw [val_set _ _ _ hik, val_take_succ _ _ hkb, show i + (k + 1) = (i + k) + 1 from rfl, show pw (i + k + 1) = 65536 * pw (i + k) from rfl, hs, pw_add]
      clear hs hv hz nz ih tb tq
      grind
    have hkd : k + 1 + d = b.length := by
      clear hv hz nv nz mb tb tq ih
      omega
    clear hv hz
    obtain ⟨out', g1, g2, g3, g4, g5⟩ := ih (k + 1) _ _ hkd nlen (ho.set _ tq.1.1 tq.1.2) tq.2.1 tq.2.2 nz nv
    have g4_ := g4
    clear ih nv nz g4
    refine ⟨out', g1, g2, g3, g4_, fun r hr => ?_⟩
    refine Ev.step (fun n => by simp only [spec_l2mul.l1]; rfl) (ev_if_pos (by omega) ?_)
    rw [w, w64 (x := rd a (i : Int) * rd b (k : Int)) (by omega) (by omega), w64 (x := rd out ((i + k : Nat) : Int) + rd a (i : Int) * rd b (k : Int)) (by omega) (by omega), ht, w64 (x := t) (by omega) (by omega), td t _ (by omega), tm t _ (by omega), w64 (x := t / 65536) (by omega) (by omega), w64 (x := (k : Int) + 1) (by omega) (by omega)]
    exact ev_if_pos (by omega) (ev_if_pos (by omega) (ev_if_pos (by omega) (ev_if_pos (by omega) (ev_if_pos (by omega) (g5 r hr)))))
theorem spec_mul_rows (a b : List Int) (ha : Limbs a) (hb : Limbs b) (hl : a.length ≤ 1000000) (hl2 : b.length ≤ 1000000) (d : Nat) :
    ∀ (i : Nat) (out : List Int), i + d = a.length → out.length = a.length + b.length → Limbs out → (∀ j : Nat, i + b.length ≤ j → rd out (j : Int) = 0) → val out = val (a.take i) * val b →
      ∃ q : List Int, Ev (fun n => spec_l2mul.l0 n out (i : Int) a b) q ∧ Norm q ∧ val q = val a * val b ∧ q.length ≤ a.length + b.length := by
  induction d with
  | zero =>
    intro i out hi hlen ho hz hv
    have hii : i = a.length := by omega
    subst hii
    refine ⟨strip out, ?_, strip_norm ho, by rw [val_strip, hv, List.take_length], by have := strip_len out; omega⟩
    refine Ev.step (fun n => by simp only [spec_l2mul.l0]; rfl) (ev_if_neg (by omega) ?_)
    exact Ev.bind (ev_spec_l2norm out (by omega)) (Ev.now _)
  | succ d ih =>
    intro i out hi hlen ho hz hv
    obtain ⟨out', g1, g2, g3, g4, g5⟩ := spec_mul_row a b ha hb hl hl2 i (by omega) (val out) b.length 0 out 0 (by omega) hlen ho (by omega) (by omega) hz (by simp [val])
    obtain ⟨q, q1, q2, q3, q4⟩ := ih (i + 1) out' (by omega) g1 g2 g3 (by
      rw [g4, hv, val_take_succ _ _ (by omega)]
      grind)
    refine ⟨q, ?_, q2, q3, q4⟩
    refine Ev.step (fun n => by simp only [spec_l2mul.l0]; rfl) (ev_if_pos (by omega) ?_)
    exact g5 q q1
theorem ev_spec_l2mul (a b : List Int) (ha : Limbs a) (hb : Limbs b) (hl : a.length ≤ 1000000) (hl2 : b.length ≤ 1000000) : ∃ q : List Int, Ev (fun n => spec_l2mul.f n a b) q ∧ Norm q ∧ val q = val a * val b ∧ q.length ≤ a.length + b.length := by
  obtain ⟨q, q1, q2, q3, q4⟩ := spec_mul_rows a b ha hb hl hl2 a.length 0 (List.replicate (a.length + b.length) 0) (by omega) (by simp) (Limbs.zeros _) (by
    intro j _
    rw [rd_nat, List.getD_eq_getElem?_getD, List.getElem?_replicate]
    split <;> rfl) (by rw [val_zeros]; simp [val])
  refine ⟨q, ?_, q2, q3, q4⟩
  unfold spec_l2mul.f
  have w : wrap64 ((a.length : Int) + (b.length : Int)) = ((a.length + b.length : Nat) : Int) := by rw [w64 (by omega) (by omega)]; omega
  rw [w]
  refine ev_if_pos (by omega) (ev_if_pos (by omega) ?_)
  rw [Int.toNat_natCast]
  exact q1

/-! #### l2of -/
theorem ev_spec_l2of (n : Int) (h1 : n ≤ 9223372036854775807) : Ev (fun k => spec_l2of.f k n) (dig n) := by
  unfold spec_l2of.f dig
  have key : ∀ f : Nat, ∀ x : Int, ∀ acc : List Int, x < pw f → x ≤ 9223372036854775807 → acc.length + f < 1000 → Ev (fun k => spec_l2of.l0 k x acc) (acc ++ digF f x) := by
    intro f
    induction f with
    | zero =>
      intro x acc hx hb ha
      simp [pw] at hx
      refine Ev.step (f := fun _ => some (acc ++ digF 0 x)) (fun k => ?_) (Ev.now _)
      simp only [spec_l2of.l0]
      rw [if_neg (by omega)]; simp [digF]
    | succ f ih =>
      intro x acc hx hb ha
      by_cases h : x ≤ 0
      · refine Ev.step (f := fun _ => some (acc ++ digF (f + 1) x)) (fun k => ?_) (Ev.now _)
        simp only [spec_l2of.l0]
        rw [if_neg (by omega)]; simp [digF, h]
      · have e : acc ++ digF (f + 1) x = (acc ++ [x % 65536]) ++ digF f (x / 65536) := by
          simp [digF, h]
        rw [e]
        simp only [pw] at hx
        refine Ev.step (f := fun k => spec_l2of.l0 k (x / 65536) (acc ++ [x % 65536])) (fun k => ?_) (ih _ _ (by omega) (by omega) (by simp; omega))
        simp only [spec_l2of.l0]
        rw [if_pos (by omega), if_pos (by omega), td _ _ (by omega), tm _ _ (by omega), w64 (by omega) (by omega)]
  have := key 4 n [] (by rw [pw4]; omega) h1 (by simp)
  simpa using this

/-! #### trim -/
theorem ev_impl_trim (l : List Int) (hb : l.length ≤ 1000000000) : Ev (fun k => impl_trim.f k l) (strip l) := by
  unfold impl_trim.f
  have key : ∀ n : Nat, n ≤ l.length → strip (l.take n) = strip l → Ev (fun k => impl_trim.l0 k (l.take n)) (strip l) := by
    intro n
    induction n with
    | zero =>
      intro _ hs
      refine Ev.step (f := fun _ => some (strip l)) (fun k => ?_) (Ev.now _)
      simp only [impl_trim.l0]
      rw [if_neg (by simp)]
      simpa [strip] using hs
    | succ n ih =>
      intro hn hs
      have hlen : (l.take (n + 1)).length = n + 1 := by simp; omega
      have hrd : rd (l.take (n + 1)) (n : Int) = l[n] := by
        rw [rd_get _ _ (by omega)]; simp
      by_cases h0 : l[n] = 0
      · refine Ev.step (f := fun k => impl_trim.l0 k (l.take n)) (fun k => ?_) (ih (by omega) ?_)
        · simp only [impl_trim.l0]
          rw [hlen, show ((n + 1 : Nat) : Int) - 1 = (n : Int) by omega, w64 (x := (n : Int)) (by omega) (by omega), if_pos (by omega), if_pos (by omega), if_pos (by omega), hrd, if_pos h0, if_pos (by omega)]
          rw [Int.toNat_natCast, List.take_take, Nat.min_eq_left (by omega)]
        · rw [← hs, strip_take_zero (by omega) h0]
      · refine Ev.step (f := fun _ => some (strip l)) (fun k => ?_) (Ev.now _)
        simp only [impl_trim.l0]
        rw [hlen, show ((n + 1 : Nat) : Int) - 1 = (n : Int) by omega, w64 (x := (n : Int)) (by omega) (by omega), if_pos (by omega), if_pos (by omega), if_pos (by omega), hrd, if_neg h0]
        rw [← hs, strip_take_ne (by omega) h0]
  have := key l.length (Nat.le_refl _) (by simp)
  rw [List.take_length] at this
  exact this

/-! #### up -/
/-- The value of a number shifted to the left. -/
def shlI (l : List Int) (k : Int) : Int := pw (k / 16).toNat * (val l * 2 ^ (k % 16).toNat)
theorem up_step (O P c x R A T : Int) (h : O + P * (c + (x + 65536 * A) * R) = T) : O + P * ((c + x * R) % 65536) + 65536 * P * ((c + x * R) / 65536 + A * R) = T := by
  have e := Int.mul_ediv_add_emod (c + x * R) 65536
  have e2 : c + (x + 65536 * A) * R = (c + x * R) % 65536 + 65536 * ((c + x * R) / 65536 + A * R) := by
    rw [Int.add_mul, Int.mul_assoc]; omega
  rw [e2, Int.mul_add, ← Int.mul_assoc, Int.mul_comm P 65536] at h
  omega
theorem ev_impl_up (a : List Int) (k : Int) (ha : Limbs a) (hb : a.length ≤ 1000000) (h0 : 0 ≤ k) (h1 : k ≤ 10000000) :
    ∃ q : List Int, Ev (fun n => impl_up.f n a k) q ∧ Norm q ∧ val q = shlI a k := by
  unfold impl_up.f shlI
  rw [td _ _ h0, w64 (x := k / 16) (by omega) (by omega)]
  by_cases hl : (a.length : Int) = 0
  · have e : a = [] := List.eq_nil_of_length_eq_zero (by omega)
    subst e
    exact ⟨[], ev_if_pos hl (Ev.now _), Norm.nil, by simp [val]⟩
  · have hr : (k % 16).toNat < 16 := by omega
    have hp := two_pow_bd hr
    rw [w64 (x := k / 16 + (a.length : Int)) (by omega) (by omega), w64 (by omega) (by omega)]
    generalize hR : (2 : Int) ^ (k % 16).toNat = R at *
    have key : ∀ d i : Nat, i + d = a.length → ∀ (out : List Int) (c : Int), out.length = (k / 16).toNat + i → Limbs out → 0 ≤ c → c ≤ 65535 →
        val out + pw ((k / 16).toNat + i) * (c + val (a.drop i) * R) = pw (k / 16).toNat * (val a * R) →
        ∃ q : List Int, Ev (fun n => impl_up.l0 n k out c a (a.length : Int) (i : Int)) q ∧ Norm q ∧ val q = pw (k / 16).toNat * (val a * R) := by
      intro d
      induction d with
      | zero =>
        intro i hi out c ho hlim hc0 hc1 hv
        rw [List.drop_eq_nil_of_le (by omega)] at hv
        simp only [val, Int.zero_mul, Int.add_zero] at hv
        refine ⟨strip (out ++ [c]), ?_, strip_norm (hlim.append (Limbs.cons hc0 hc1 Limbs.nil)), by rw [val_strip, val_snoc, ho]; exact hv⟩
        refine Ev.step (f := fun n => (impl_trim.f n (out ++ [c])).bind fun t => some t) (fun n => ?_) ?_
        · simp only [impl_up.l0]
          rw [if_neg (by omega), if_pos (by omega)]
        · exact Ev.bind (ev_impl_trim _ (by simp; omega)) (Ev.now _)
      | succ d ih =>
        intro i hi out c ho hlim hc0 hc1 hv
        have hx := rd_limb ha (i : Int)
        rw [val_drop_at (by omega)] at hv
        have hs := up_step _ _ _ _ _ _ _ hv
        have hxr : 0 ≤ rd a (i : Int) * R := Int.mul_nonneg hx.1 (by omega)
        have hxr2 : rd a (i : Int) * R ≤ 65535 * 32768 := Int.mul_le_mul hx.2 hp.2 (by omega) (by omega)
        have hxr3 : (c + rd a (i : Int) * R) / 65536 ≤ 65535 := by omega
        have hm : 0 ≤ (c + rd a (i : Int) * R) % 65536 ∧ (c + rd a (i : Int) * R) % 65536 ≤ 65535 := by omega
        obtain ⟨q, hq, hrest⟩ := ih (i + 1) (by omega) (out ++ [(c + rd a (i : Int) * R) % 65536]) ((c + rd a (i : Int) * R) / 65536) (by simp; omega) (hlim.append (Limbs.cons hm.1 hm.2 Limbs.nil)) (by omega) hxr3 (by
          rw [val_snoc, ho, show (k / 16).toNat + (i + 1) = ((k / 16).toNat + i) + 1 by omega]; simp only [pw]; exact hs)
        refine ⟨q, Ev.step (fun n => ?_) hq, hrest⟩
        simp only [impl_up.l0]
        rw [tm _ _ h0, if_pos (by omega), if_pos (by omega), if_pos (by omega), if_pos (by omega), if_pos (by omega), shl_in (by omega) (by omega) hx.1 hx.2, hR, w64 (x := c + rd a (i : Int) * R) (by omega) (by omega), tm _ _ (by omega), td _ _ (by omega), w64 (by omega) (by omega), w64 (by omega) (by omega)]
        rfl
    obtain ⟨q, hq, h2⟩ := key a.length 0 (by omega) (List.replicate (k / 16).toNat 0) 0 (by simp) (Limbs.zeros _) (by omega) (by omega) (by rw [val_zeros]; simp)
    refine ⟨q, ?_, h2⟩
    refine ev_if_neg hl (ev_if_pos (by omega) (ev_if_pos (by omega) (ev_if_pos (by omega) ?_)))
    exact hq

/-! #### l2shl -/
theorem ev_spec_l2shl (a : List Int) (k : Int) (ha : Limbs a) (hb : a.length ≤ 900000) (h0 : 0 ≤ k) (h1 : k ≤ 1000000) : ∃ q : List Int, Ev (fun n => spec_l2shl.f n a k) q ∧ Norm q ∧ val q = shlI a k ∧ (a ≠ [] → q.length ≤ (k / 16).toNat + a.length + 4) := by
  unfold spec_l2shl.f shlI
  by_cases hl : (a.length : Int) = 0
  · have e : a = [] := List.eq_nil_of_length_eq_zero (by omega)
    subst e
    exact ⟨[], ev_if_pos hl (Ev.now _), Norm.nil, by simp [val], by simp⟩
  · have hr : (k % 16).toNat < 16 := by omega
    have hp := two_pow_bd hr
    have e2 : shl .i64 1 (k % 16) = 2 ^ (k % 16).toNat := by rw [shl_in (by omega) (by omega) (by omega) (by omega)]; omega
    have zl : (List.replicate (k / 16).toNat (0 : Int)).length = (k / 16).toNat := by simp
    have al : (List.replicate (k / 16).toNat (0 : Int) ++ a).length = (k / 16).toNat + a.length := by simp
    have dl := dig_len (2 ^ (k % 16).toNat)
    obtain ⟨q, q1, q2, q3, q4⟩ := ev_spec_l2mul (List.replicate (k / 16).toNat 0 ++ a) (dig (2 ^ (k % 16).toNat)) (Limbs.append (Limbs.zeros _) ha) (dig_norm (by omega) (by omega)).1 (by omega) (by omega)
    refine ⟨q, ?_, q2, ?_, fun _ => by omega⟩
    · rw [td _ _ h0, tm _ _ h0, w64 (x := k / 16) (by omega) (by omega)]
      refine ev_if_neg hl (ev_if_pos (by omega) (ev_if_pos (by omega) (ev_bind0 rfl (ev_if_pos (by omega) (ev_if_pos (by omega) ?_)))))
      rw [e2]
      exact Ev.bind (ev_spec_l2of _ (by omega)) (Ev.bind q1 (Ev.now _))
    · rw [q3, val_append, val_zeros, zl, dig_val (by omega) (by omega)]
      grind

/-! #### l3make -/
theorem ev_spec_l3make (s : Bool) (l : List Int) (h : Norm l) (hb : l.length ≤ 1000000) : Ev (fun n => spec_l3make.f n s l) (s && !l.isEmpty, l) := by
  unfold spec_l3make.f
  have e := ev_spec_l2norm l (by omega)
  rw [strip_of_norm h] at e
  cases s
  · simp only [Bool.false_eq_true, if_false]
    exact Ev.bind e (Ev.now _)
  · simp only [if_true]
    refine Ev.bind e ?_
    cases l
    · exact Ev.now _
    · simp; exact Ev.now _

/-! #### cmp -/
theorem ev_spec_l2cmp (a b : List Int) (ha : Norm a) (hb : Norm b) (hl : a.length ≤ 1000000) (hl2 : b.length ≤ 1000000) : Ev (fun k => spec_l2cmp.f k a b) (cmpI (val a) (val b)) := by
  unfold spec_l2cmp.f
  by_cases he : (a.length : Int) = (b.length : Int)
  · refine ev_if_pos he ?_
    rw [w64 (by omega) (by omega)]
    have key : ∀ d : Nat, d ≤ a.length → val (a.drop d) = val (b.drop d) → Ev (fun k => spec_l2cmp.l0 k ((d : Int) - 1) a b) (cmpI (val a) (val b)) := by
      intro d
      induction d with
      | zero =>
        intro _ hv
        simp at hv
        rw [cmpI_eq hv]
        refine Ev.step (f := fun _ => some 0) (fun k => ?_) (Ev.now _)
        simp only [spec_l2cmp.l0]
        rw [if_neg (by omega)]
      | succ d ih =>
        intro hd hv
        rw [show ((d + 1 : Nat) : Int) - 1 = (d : Int) by omega]
        by_cases h1 : rd a (d : Int) < rd b (d : Int)
        · have hlt : val a < val b := val_lt_at ha.1 hb.1 (i := d) (by omega) (by omega) hv (by rwa [rd_get _ _ (by omega), rd_get _ _ (by omega)] at h1)
          rw [cmpI_lt hlt]
          refine Ev.step (f := fun _ => some (-1)) (fun k => ?_) (Ev.now _)
          simp only [spec_l2cmp.l0]
          rw [if_pos (by omega), if_pos (by omega), if_pos (by omega), if_pos (by omega), if_pos h1]
        · by_cases h2 : rd a (d : Int) > rd b (d : Int)
          · have hlt : val b < val a := val_lt_at hb.1 ha.1 (i := d) (by omega) (by omega) hv.symm (by rwa [gt_iff_lt, rd_get _ _ (by omega), rd_get _ _ (by omega)] at h2)
            rw [cmpI_gt hlt]
            refine Ev.step (f := fun _ => some 1) (fun k => ?_) (Ev.now _)
            simp only [spec_l2cmp.l0]
            rw [if_pos (by omega), if_pos (by omega), if_pos (by omega), if_pos (by omega), if_neg h1, if_pos h2]
          · refine Ev.step (f := fun k => spec_l2cmp.l0 k ((d : Int) - 1) a b) (fun k => ?_) (ih (by omega) ?_)
            · simp only [spec_l2cmp.l0]
              rw [if_pos (by omega), if_pos (by omega), if_pos (by omega), if_pos (by omega), if_neg h1, if_neg h2, w64 (by omega) (by omega)]
            · have e : rd a (d : Int) = rd b (d : Int) := by omega
              rw [rd_get _ _ (by omega), rd_get _ _ (by omega)] at e
              rw [List.drop_eq_getElem_cons (show d < a.length by omega), List.drop_eq_getElem_cons (show d < b.length by omega)]
              simp only [val, e, hv]
    exact key a.length (Nat.le_refl _) (by rw [List.drop_length, show a.length = b.length by omega, List.drop_length])
  · refine ev_if_neg he ?_
    by_cases h : (a.length : Int) < (b.length : Int)
    · rw [cmpI_lt (val_lt_len ha.1 hb (by omega))]; exact ev_if_pos h (Ev.now _)
    · rw [cmpI_gt (val_lt_len hb.1 ha (by omega))]; exact ev_if_neg h (Ev.now _)
theorem cmp_Compare_eq (a b : Int) : cmp_Compare_int.f a b = some (cmpI a b) := by
  unfold cmp_Compare_int.f cmp_isNaN_int.f cmpI
  simp only [Option.bind_some, bne_self_eq_false, Bool.false_eq_true, if_false]
  by_cases h : a < b
  · rw [if_pos h, if_pos h]
  · rw [if_neg h, if_neg h]
    by_cases h2 : a > b
    · rw [if_pos h2, if_pos h2]
    · rw [if_neg h2, if_neg h2]
theorem ev_impl_compare (a b : List Int) (ha : Norm a) (hb : Norm b) (hl : a.length ≤ 1000000) (hl2 : b.length ≤ 1000000) : Ev (fun k => impl_compare.f k a b) (cmpI (val a) (val b)) := by
  unfold impl_compare.f
  simp only [cmp_Compare_eq, Option.bind_some]
  by_cases he : (a.length : Int) = (b.length : Int)
  · refine ev_if_pos he ?_
    rw [w64 (by omega) (by omega)]
    have key : ∀ d : Nat, d ≤ a.length → val (a.drop d) = val (b.drop d) → Ev (fun k => impl_compare.l0 k a b ((d : Int) - 1)) (cmpI (val a) (val b)) := by
      intro d
      induction d with
      | zero =>
        intro _ hv
        simp at hv
        rw [cmpI_eq hv]
        refine Ev.step (f := fun _ => some 0) (fun k => ?_) (Ev.now _)
        simp only [impl_compare.l0]
        rw [if_neg (by omega)]
      | succ d ih =>
        intro hd hv
        rw [show ((d + 1 : Nat) : Int) - 1 = (d : Int) by omega]
        by_cases h0 : rd a (d : Int) = rd b (d : Int)
        · refine Ev.step (f := fun k => impl_compare.l0 k a b ((d : Int) - 1)) (fun k => ?_) (ih (by omega) ?_)
          · simp only [impl_compare.l0]
            rw [if_pos (by omega), if_pos (by omega), if_pos (by omega), if_pos (by omega), if_pos h0, w64 (by omega) (by omega)]
          · rw [rd_get _ _ (by omega), rd_get _ _ (by omega)] at h0
            rw [List.drop_eq_getElem_cons (show d < a.length by omega), List.drop_eq_getElem_cons (show d < b.length by omega)]
            simp only [val, h0, hv]
        · have e : cmpI (rd a (d : Int)) (rd b (d : Int)) = cmpI (val a) (val b) := by
            by_cases h1 : rd a (d : Int) < rd b (d : Int)
            · rw [cmpI_lt h1, cmpI_lt (val_lt_at ha.1 hb.1 (i := d) (by omega) (by omega) hv (by rwa [rd_get _ _ (by omega), rd_get _ _ (by omega)] at h1))]
            · have h2 : rd b (d : Int) < rd a (d : Int) := by omega
              rw [cmpI_gt h2, cmpI_gt (val_lt_at hb.1 ha.1 (i := d) (by omega) (by omega) hv.symm (by rwa [rd_get _ _ (by omega), rd_get _ _ (by omega)] at h2))]
          rw [← e]
          refine Ev.step (f := fun _ => some (cmpI (rd a (d : Int)) (rd b (d : Int)))) (fun k => ?_) (Ev.now _)
          simp only [impl_compare.l0, cmp_Compare_eq, Option.bind_some]
          rw [if_pos (by omega), if_pos (by omega), if_pos (by omega), if_pos (by omega), if_neg h0]
    exact key a.length (Nat.le_refl _) (by rw [List.drop_length, show a.length = b.length by omega, List.drop_length])
  · refine ev_if_neg he ?_
    have e : cmpI (a.length : Int) (b.length : Int) = cmpI (val a) (val b) := by
      by_cases h : (a.length : Int) < (b.length : Int)
      · rw [cmpI_lt h, cmpI_lt (val_lt_len ha.1 hb (by omega))]
      · rw [cmpI_gt (show (b.length : Int) < (a.length : Int) by omega), cmpI_gt (val_lt_len hb.1 ha (by omega))]
    rw [e]; exact Ev.now _

/-! #### scmp0 -/
/-- Two numbers with signs, compared. -/
def sCmp (s : Bool) (a : List Int) (t : Bool) (b : List Int) : Int := if (s != t) = true then (if s = true then -1 else 1) else if s = true then cmpI (val b) (val a) else cmpI (val a) (val b)
theorem ev_spec_l3cmp (s : Bool) (a : List Int) (t : Bool) (b : List Int) (ha : Norm a) (hb : Norm b) (hl : a.length ≤ 1000000) (hl2 : b.length ≤ 1000000) : Ev (fun k => spec_l3cmp.f k s a t b) (sCmp s a t b) := by
  unfold spec_l3cmp.f sCmp
  by_cases h : (s != t) = true
  · simp only [if_pos h]
    cases s
    · exact ev_if_neg (by simp) (Ev.now _)
    · exact ev_if_pos (by trivial) (Ev.now _)
  · simp only [if_neg h]
    cases s
    · exact ev_if_neg (by simp) (Ev.bind (ev_spec_l2cmp a b ha hb hl hl2) (Ev.now _))
    · exact ev_if_pos (by trivial) (Ev.bind (ev_spec_l2cmp b a hb ha hl2 hl) (Ev.now _))
theorem ev_impl_signedCompare (s : Bool) (a : List Int) (t : Bool) (b : List Int) (ha : Norm a) (hb : Norm b) (hl : a.length ≤ 1000000) (hl2 : b.length ≤ 1000000) : Ev (fun k => impl_signedCompare.f k s a t b) (sCmp s a t b) := by
  unfold impl_signedCompare.f sCmp
  cases s <;> cases t
  · refine ev_if_neg (by simp) (Ev.step (fun k => by simp only [impl_signedCompare.j0]; rfl) (ev_if_neg (by simp) (ev_if_neg (by simp) ?_)))
    refine Ev.step (fun k => by simp only [impl_signedCompare.j1]; rfl) (ev_if_neg (by simp) (ev_if_neg (by simp) ?_))
    exact Ev.bind (ev_impl_compare a b ha hb hl hl2) (Ev.now _)
  · refine ev_if_neg (by simp) (Ev.step (fun k => by simp only [impl_signedCompare.j0]; rfl) (ev_if_neg (by simp) (ev_if_neg (by simp) ?_)))
    exact Ev.step (fun k => by simp only [impl_signedCompare.j1]; rfl) (ev_if_pos (by trivial) (Ev.now _))
  · refine ev_if_pos (by trivial) (Ev.step (fun k => by simp only [impl_signedCompare.j0]; rfl) ?_)
    exact ev_if_pos (by trivial) (Ev.now _)
  · refine ev_if_pos (by trivial) (Ev.step (fun k => by simp only [impl_signedCompare.j0]; rfl) (ev_if_neg (by simp) (ev_if_pos (by trivial) ?_)))
    refine Ev.step (fun k => by simp only [impl_signedCompare.j1]; rfl) (ev_if_neg (by simp) (ev_if_pos (by trivial) ?_))
    exact Ev.bind (ev_impl_compare b a hb ha hl2 hl) (Ev.now _)

/-! #### scmpV -/
theorem sCmp_sg (s : Bool) (a : List Int) (t : Bool) (b : List Int) (ha : Norm a) (hb : Norm b) (hs : s = true → a ≠ []) (ht : t = true → b ≠ []) : sCmp s a t b = cmpI (sg s (val a)) (sg t (val b)) := by
  have a0 := val_nonneg ha.1
  have b0 := val_nonneg hb.1
  unfold sCmp
  cases s <;> cases t
  · rfl
  · have := hb.pos (ht rfl)
    simp only [sg]
    rw [if_pos (by decide), if_neg (by decide), cmpI_gt (by simp; omega)]
  · have := ha.pos (hs rfl)
    simp only [sg]
    rw [if_pos (by decide), if_pos trivial, cmpI_lt (by simp; omega)]
  · simp only [sg]
    rw [if_neg (by decide), if_pos trivial, if_pos trivial, if_pos trivial]
    unfold cmpI
    by_cases h : val b < val a
    · rw [if_pos h, if_pos (by omega)]
    · by_cases h2 : val b > val a
      · rw [if_neg h, if_pos h2, if_neg (by omega), if_pos (by omega)]
      · rw [if_neg h, if_neg h2, if_neg (by omega), if_neg (by omega)]

/-! #### aligned -/
theorem shlI_two (l : List Int) (k : Int) (h0 : 0 ≤ k) : shlI l k = val l * 2 ^ k.toNat := by
  unfold shlI
  rw [← pw_two_toNat k h0, ← Int.mul_assoc, ← Int.mul_assoc, Int.mul_comm (pw _) (val l)]
theorem mx_sub (x z : Int) (hx : x ≤ 30000) (hx0 : -30000 ≤ x) (hz : z ≤ 30000) (hz0 : -30000 ≤ z) : mx (wrap64 (x - z)) 0 = if x < z then 0 else x - z := by
  rw [w64 (by omega) (by omega)]
  unfold mx
  by_cases h : x < z
  · rw [if_pos h, if_pos (by omega)]
  · rw [if_neg h, if_neg (by omega)]
/-- One of two numbers, brought to a power of two that isn't greater than its own (or it is 0). -/
theorem up_side (a : List Int) (x z : Int) (ha : Norm a) (hl : a.length ≤ 1000) (hx : x ≤ 20000) (hx0 : -20000 ≤ x) (hz : z ≤ 20000) (hz0 : -20000 ≤ z) (h : a = [] ∨ z ≤ x) :
    ∃ p : List Int, Ev (fun k => impl_up.f k a (mx (wrap64 (x - z)) 0)) p ∧ Norm p ∧ p.length ≤ 50000 ∧ (a ≠ [] → p ≠ []) ∧ ∀ s : Bool, xv s (val a) x = sg s (val p) * 2 ^ (z + 20000).toNat := by
  rw [mx_sub x z (by omega) (by omega) (by omega) (by omega)]
  obtain ⟨p, p1, p2, p3⟩ := ev_impl_up a (if x < z then 0 else x - z) ha.1 (by omega) (by split <;> omega) (by split <;> omega)
  have k0 : 0 ≤ (if x < z then 0 else x - z) := by split <;> omega
  have k1 : (if x < z then 0 else x - z) ≤ 40000 := by split <;> omega
  rw [shlI_two a _ k0] at p3
  have hlen := len_shl ha.1 p2 _ p3
  refine ⟨p, p1, p2, by omega, ?_, fun s => ?_⟩
  · intro hn e
    have h1 := ha.pos hn
    rw [e] at p3
    simp only [val] at p3
    have h2 := two_pos (if x < z then 0 else x - z).toNat
    have h3 : 1 * 1 ≤ val a * 2 ^ (if x < z then 0 else x - z).toNat := Int.mul_le_mul h1 h2 (by omega) (by omega)
    omega
  · unfold xv
    rw [p3, ← sg_mul]
    rcases h with h | h
    · subst h
      simp [val]
    · rw [if_neg (by omega), Int.mul_assoc, ← two_add]
      congr 3
      omega
theorem ev_impl_exact_compare (s : Bool) (a : List Int) (x : Int) (t : Bool) (b : List Int) (y : Int) (ha : Norm a) (hb : Norm b) (hl : a.length ≤ 1000) (hl2 : b.length ≤ 1000) (hx : x ≤ 20000) (hx0 : -20000 ≤ x) (hy : y ≤ 20000) (hy0 : -20000 ≤ y)
    (hs : s = true → a ≠ []) (ht : t = true → b ≠ []) : Ev (fun k => impl_exact_compare.f k s a x t b y) (cmpI (xv s (val a) x) (xv t (val b) y)) := by
  have fin : ∀ z : Int, z ≤ 20000 → -20000 ≤ z → (a = [] ∨ z ≤ x) → (b = [] ∨ z ≤ y) →
      (∀ p q : List Int, Ev (fun k => (impl_up.f k a (mx (wrap64 (x - z)) 0)).bind fun u => ((impl_up.f k b (mx (wrap64 (y - z)) 0)).bind fun v => (some (u, v, z)))) (p, q, z) → Ev (fun k => impl_aligned.f k s a x t b y) (p, q, z)) →
      Ev (fun k => impl_exact_compare.f k s a x t b y) (cmpI (xv s (val a) x) (xv t (val b) y)) := by
    intro z z1 z0 h1 h2 hev
    obtain ⟨u, pu⟩ := up_side a x z ha hl hx hx0 z1 z0 h1
    obtain ⟨v, qv⟩ := up_side b y z hb hl2 hy hy0 z1 z0 h2
    rw [pu.2.2.2.2 s, qv.2.2.2.2 t, cmpI_scale _ _ _ (two_pos _), ← sCmp_sg s u t v pu.2.1 qv.2.1 (fun e => pu.2.2.2.1 (hs e)) (fun e => qv.2.2.2.1 (ht e))]
    unfold impl_exact_compare.f
    exact Ev.bind (hev u v (Ev.bind pu.1 (Ev.bind qv.1 (Ev.now _)))) (Ev.bind (ev_impl_signedCompare s u t v pu.2.1 qv.2.1 (by omega) (by omega)) (Ev.now _))
  have nil_iff : ∀ l : List Int, (l.length : Int) = 0 ↔ l = [] := fun l => ⟨fun h => List.eq_nil_of_length_eq_zero (by omega), fun h => by subst h; rfl⟩
  by_cases e1 : a = []
  · by_cases e2 : b = []
    · refine fin x hx hx0 (.inl e1) (.inl e2) (fun p q hpq => ?_)
      unfold impl_aligned.f
      refine ev_if_pos ((nil_iff a).2 e1) (Ev.step (fun n => by simp only [impl_aligned.j0]; rfl) (ev_if_pos ((nil_iff b).2 e2) ?_))
      exact hpq
    · refine fin y hy hy0 (.inl e1) (.inr (Int.le_refl _)) (fun p q hpq => ?_)
      unfold impl_aligned.f
      refine ev_if_pos ((nil_iff a).2 e1) (Ev.step (fun n => by simp only [impl_aligned.j0]; rfl) (ev_if_neg (fun h => e2 ((nil_iff b).1 h)) ?_))
      exact hpq
  · by_cases e2 : b = []
    · refine fin x hx hx0 (.inr (Int.le_refl _)) (.inl e2) (fun p q hpq => ?_)
      unfold impl_aligned.f
      refine ev_if_neg (fun h => e1 ((nil_iff a).1 h)) (Ev.step (fun n => by simp only [impl_aligned.j0]; rfl) (ev_if_pos ((nil_iff b).2 e2) ?_))
      exact hpq
    · have m1 : mn x y ≤ x := by unfold mn; split <;> omega
      have m2 : mn x y ≤ y := by unfold mn; split <;> omega
      have m3 : -20000 ≤ mn x y := by unfold mn; split <;> omega
      refine fin (mn x y) (by omega) m3 (.inr m1) (.inr m2) (fun p q hpq => ?_)
      unfold impl_aligned.f
      refine ev_if_neg (fun h => e1 ((nil_iff a).1 h)) (Ev.step (fun n => by simp only [impl_aligned.j0]; rfl) (ev_if_neg (fun h => e2 ((nil_iff b).1 h)) ?_))
      exact hpq

/-! #### l4cmp -/
/-- The reference's side: a number brought to a lesser power of two. -/
theorem shl_side (t : Bool) (b : List Int) (y z : Int) (hb : Norm b) (hl : b.length ≤ 1000) (hn : b ≠ []) (hy : y ≤ 20000) (hz0 : -20000 ≤ z) (h : z ≤ y) :
    ∃ q : List Int, Ev (fun k => spec_l2shl.f k b (wrap64 (y - z))) q ∧ Ev (fun k => spec_l3make.f k t q) (t, q) ∧ Norm q ∧ q.length ≤ 50000 ∧ q ≠ [] ∧ ∀ s : Bool, xv s (val b) y = sg s (val q) * 2 ^ (z + 20000).toNat := by
  rw [w64 (by omega) (by omega)]
  obtain ⟨q, q1, q2, q3, q4⟩ := ev_spec_l2shl b (y - z) hb.1 (by omega) (by omega) (by omega)
  rw [shlI_two b _ (by omega)] at q3
  have hlen := len_shl hb.1 q2 _ q3
  have hne : q ≠ [] := by
    intro e
    have h1 := hb.pos hn
    rw [e] at q3
    simp only [val] at q3
    have h2 := two_pos (y - z).toNat
    have h3 : 1 * 1 ≤ val b * 2 ^ (y - z).toNat := Int.mul_le_mul h1 h2 (by omega) (by omega)
    omega
  have hm := ev_spec_l3make t q q2 (by omega)
  have ht : (t && !q.isEmpty) = t := by
    cases hq : q with
    | nil => exact absurd hq hne
    | cons c q => simp
  rw [ht] at hm
  refine ⟨q, q1, hm, q2, by omega, hne, fun s => ?_⟩
  unfold xv
  rw [q3, ← sg_mul, Int.mul_assoc, ← two_add]
  congr 3
  omega
theorem xv_own (s : Bool) (m z : Int) : xv s m z = sg s m * 2 ^ (z + 20000).toNat := by unfold xv; rw [sg_mul]
theorem ev_spec_l4cmp (s : Bool) (a : List Int) (x : Int) (t : Bool) (b : List Int) (y : Int) (ha : Norm a) (hb : Norm b) (hl : a.length ≤ 1000) (hl2 : b.length ≤ 1000) (hx : x ≤ 20000) (hx0 : -20000 ≤ x) (hy : y ≤ 20000) (hy0 : -20000 ≤ y)
    (hs : s = true → a ≠ []) (ht : t = true → b ≠ []) : Ev (fun k => spec_l4cmp.f k s a x t b y) (cmpI (xv s (val a) x) (xv t (val b) y)) := by
  have nil_iff : ∀ l : List Int, (l.length : Int) = 0 ↔ l = [] := fun l => ⟨fun h => List.eq_nil_of_length_eq_zero (by omega), fun h => by subst h; rfl⟩
  have fin : ∀ (u v : List Int) (z : Int), Norm u → Norm v → u.length ≤ 50000 → v.length ≤ 50000 → (a ≠ [] → u ≠ []) → (b ≠ [] → v ≠ []) → xv s (val a) x = sg s (val u) * 2 ^ (z + 20000).toNat → xv t (val b) y = sg t (val v) * 2 ^ (z + 20000).toNat →
      Ev (fun k => spec_l4align.f k s a x t b y) (s, u, t, v, z) → Ev (fun k => spec_l4cmp.f k s a x t b y) (cmpI (xv s (val a) x) (xv t (val b) y)) := by
    intro u v z hu hv lu lv nu nv e1 e2 hev
    rw [e1, e2, cmpI_scale _ _ _ (two_pos _), ← sCmp_sg s u t v hu hv (fun e => nu (hs e)) (fun e => nv (ht e))]
    unfold spec_l4cmp.f
    exact Ev.bind hev (Ev.bind (ev_spec_l3cmp s u t v hu hv (by omega) (by omega)) (Ev.now _))
  by_cases e1 : a = []
  · refine fin a b y ha hb (by omega) (by omega) id id ?_ (xv_own _ _ _) ?_
    · subst e1
      rw [show val [] = 0 from rfl, xv_zero]
      cases s <;> simp [sg]
    · unfold spec_l4align.f
      exact ev_if_pos ((nil_iff a).2 e1) (Ev.now _)
  · by_cases e2 : b = []
    · refine fin a b x ha hb (by omega) (by omega) id id (xv_own _ _ _) ?_ ?_
      · subst e2
        rw [show val [] = 0 from rfl, xv_zero]
        cases t <;> simp [sg]
      · unfold spec_l4align.f
        exact ev_if_neg (fun h => e1 ((nil_iff a).1 h)) (ev_if_pos ((nil_iff b).2 e2) (Ev.now _))
    · by_cases h : x ≤ y
      · obtain ⟨q, q1, q2, q3, q4, q5, q6⟩ := shl_side t b y x hb hl2 e2 hy hx0 h
        refine fin a q x ha q3 (by omega) q4 id (fun _ => q5) (xv_own _ _ _) (q6 t) ?_
        unfold spec_l4align.f
        exact ev_if_neg (fun h => e1 ((nil_iff a).1 h)) (ev_if_neg (fun h => e2 ((nil_iff b).1 h)) (ev_if_pos h (Ev.bind q1 (Ev.bind q2 (Ev.now _)))))
      · obtain ⟨q, q1, q2, q3, q4, q5, q6⟩ := shl_side s a x y ha hl e1 hx hy0 (by omega)
        refine fin q b y q3 hb q4 (by omega) (fun _ => q5) id (q6 s) (xv_own _ _ _) ?_
        unfold spec_l4align.f
        exact ev_if_neg (fun h => e1 ((nil_iff a).1 h)) (ev_if_neg (fun h => e2 ((nil_iff b).1 h)) (ev_if_neg h (Ev.bind q1 (Ev.bind q2 (Ev.now _)))))

/-! #### law_FnExactDyCmp -/
theorem dyOk_parts {s : Bool} {l : List Int} {e : Int} (h : dyOkB s l e = true) : l.length ≤ 100 ∧ Norm l ∧ -3000 ≤ e ∧ e ≤ 3000 ∧ (s = true → l ≠ []) := by
  unfold dyOkB at h
  simp only [Bool.and_eq_true, decide_eq_true_eq] at h
  obtain ⟨⟨h1, h2⟩, h3⟩ := h
  have hn := wOkB_nat h1
  refine ⟨hn.1, hn.2, h2.1, h2.2, fun hs e => ?_⟩
  unfold wOkB at h1
  rw [hs, e] at h1
  simp at h1
theorem dyCmp_agree (s : Bool) (l : List Int) (e : Int) (t : Bool) (m : List Int) (f : Int) (hl : l.length ≤ 1048576) (hm : m.length ≤ 1048576) : ∃ r : Int, Ev (fun k => spec_DyCmp.f k s l e t m f) r ∧ Ev (fun k => impl_DyCmp.f k s l e t m f) r := by
  have areDys : impl_areDys.f [(⟨⟨s, ⟨l⟩⟩, e⟩ : S42), (⟨⟨t, ⟨m⟩⟩, f⟩ : S42)] = some (dyOkB s l e && dyOkB t m f) := by
    unfold impl_areDys.f
    simp only [impl_Dy_94.f, impl_Dy_94.p, impl_DyOk_eq, Option.bind_some]
    cases dyOkB s l e <;> cases dyOkB t m f <;> rfl
  by_cases h : dyOkB s l e = true
  · by_cases h' : dyOkB t m f = true
    · have p := dyOk_parts h
      have q := dyOk_parts h'
      have c1 := ev_spec_l4cmp s l e t m f p.2.1 q.2.1 (by omega) (by omega) (by omega) (by omega) (by omega) (by omega) p.2.2.2.2 q.2.2.2.2
      have c2 := ev_impl_exact_compare s l e t m f p.2.1 q.2.1 (by omega) (by omega) (by omega) (by omega) (by omega) (by omega) p.2.2.2.2 q.2.2.2.2
      refine ⟨cmpI (xv s (val l) e) (xv t (val m) f), ?_, ?_⟩
      · unfold spec_DyCmp.f
        exact Ev.bind (ev_spec_DyOk s l e (by omega)) (ev_if_pos h (Ev.bind (ev_spec_DyOk t m f (by omega)) (ev_if_pos h' (Ev.bind c1 (Ev.now _)))))
      · unfold impl_DyCmp.f
        exact ev_bind0 areDys (ev_if_pos (by rw [h, h']; rfl) (ev_bind0 rfl (ev_bind0 rfl (Ev.bind c2 (Ev.now _)))))
    · refine ⟨0, ?_, ?_⟩
      · unfold spec_DyCmp.f
        exact Ev.bind (ev_spec_DyOk s l e (by omega)) (ev_if_pos h (Ev.bind (ev_spec_DyOk t m f (by omega)) (ev_if_neg h' (Ev.now _))))
      · unfold impl_DyCmp.f
        exact ev_bind0 areDys (ev_if_neg (by simp [h']) (Ev.now _))
  · refine ⟨0, ?_, ?_⟩
    · unfold spec_DyCmp.f
      exact Ev.bind (ev_spec_DyOk s l e (by omega)) (ev_if_neg h (Ev.now _))
    · unfold impl_DyCmp.f
      exact ev_bind0 areDys (ev_if_neg (by simp [h]) (Ev.now _))
theorem FnExactDyCmp : laws_FnExactDyCmp.Pure := by
  intro s l e t m f hm hw he hm' hw' hf
  have g : Ev (fun k => laws_FnExactDyCmp.f k s l e t m f) true := by
    unfold laws_FnExactDyCmp.f
    by_cases hs : l.length ≤ 1048576
    · refine ev_bind0 (szDy_small s l e 1048576 (Nat.le_refl _) hs) (ev_if_neg (by omega) ?_)
      by_cases hs' : m.length ≤ 1048576 - l.length
      · refine ev_bind0 (szDy_small t m f (1048576 - l.length) (by omega) hs') (ev_if_neg (by omega) ?_)
        obtain ⟨r, h1, h2⟩ := dyCmp_agree s l e t m f hs (by omega)
        have a1 := ev_toDy s l e hs
        have a2 := ev_toDy t m f (show m.length ≤ 1048576 by omega)
        refine Ev.bind a1 (Ev.bind a2 (Ev.bind h1 (Ev.bind a1 (Ev.bind a2 (Ev.bind h2 (ev_if_pos rfl ?_))))))
        refine Ev.bind a1 (Ev.bind (ev_eqDy s l e (by omega)) ?_)
        simp only [if_true]
        refine Ev.bind a2 (Ev.bind (ev_eqDy t m f (by omega)) ?_)
        simp only [if_true]
        exact Ev.now _
      · refine ev_bind0 (szDy_big t m f (1048576 - l.length) (by omega) hm' (by omega)) (ev_if_pos (by omega) (Ev.now _))
    · refine ev_bind0 (szDy_big s l e 1048576 (Nat.le_refl _) hm (by omega)) (ev_if_pos (by omega) (Ev.now _))
  exact g.rounds

end Go.Proofs.Ytgjpahofopoflaa.Pure
