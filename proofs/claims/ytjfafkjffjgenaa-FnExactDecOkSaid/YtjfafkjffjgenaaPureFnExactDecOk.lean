/- The pure statement of the law FnExactDecOk: at every input that its guards let in the program's answer is the reference's. -/
import Derived.Test.YtjfafkjffjgenaaPFnExactDecOkx3
import Derived.Test.YtjfafkjffjgenaaLib
import Derived.WalkKit
namespace Go.Proofs.Ytjfafkjffjgenaa.Pure
open Go.RowKit Go.Proofs.Ytjfafkjffjgenaa.PFnExactDecOk Go.Proofs.YtjfafkjffjgenaaW.PrintWords Go.Proofs.YtjfafkjffjgenaaW.PrintLast Go.Proofs.Ytjfafkjffjgenaa.Lib
set_option linter.unusedVariables false
set_option linter.unusedSimpArgs false

/-! #### NatOk -/
theorem getLast_rd (l : List Int) (h : 0 < l.length) : l.getLast? = some (rd l ((l.length : Int) - 1)) := by
  rw [show (l.length : Int) - 1 = ((l.length - 1 : Nat) : Int) by omega, rd_get _ _ (by omega), List.getLast?_eq_getElem?, List.getElem?_eq_getElem]
theorem ev_spec_NatOk (l : List Int) (hb : l.length ≤ 9000000000000000000) : Ev (fun k => spec_NatOk.f k l) (okB l) := by
  unfold spec_NatOk.f
  by_cases hl : (l.length : Int) > 100
  · refine ev_if_pos hl ?_
    have e : okB l = false := by
      have : ¬ l.length ≤ 100 := by omega
      simp [okB, this]
    rw [e]; exact Ev.now _
  · refine ev_if_neg hl ?_
    have hl' : l.length ≤ 100 := by omega
    have key : ∀ d i : Nat, i + d = l.length → (∀ j, j < i → 0 ≤ l.getD j 0 ∧ l.getD j 0 ≤ 65535) → Ev (fun k => spec_NatOk.l0 k (i : Int) l) (okB l) := by
      intro d
      induction d with
      | zero =>
        intro i hi hj
        refine Ev.step (f := fun _ => some (okB l)) (fun k => ?_) (Ev.now _)
        have hall : l.all (fun x => decide (0 ≤ x) && decide (x ≤ 65535)) = true := by
          rw [List.all_eq_true]
          intro x hx
          obtain ⟨j, hjl, rfl⟩ := List.getElem_of_mem hx
          have := hj j (by omega)
          rw [List.getD_eq_getElem?_getD, List.getElem?_eq_getElem hjl, Option.getD_some] at this
          simp; exact this
        simp only [spec_NatOk.l0]
        rw [if_neg (by omega)]
        by_cases h0 : (l.length : Int) = 0
        · rw [if_pos h0]
          have : l = [] := List.eq_nil_of_length_eq_zero (by omega)
          subst this; rfl
        · rw [if_neg h0, w64 (by omega) (by omega), if_pos (by omega), if_pos (by omega)]
          have hlast := getLast_rd l (by omega)
          have hr := hj (l.length - 1) (by omega)
          rw [← rd_nat, show ((l.length - 1 : Nat) : Int) = (l.length : Int) - 1 by omega] at hr
          simp only [okB, hall, hlast, hl', decide_true, Bool.true_and]
          by_cases hz : rd l ((l.length : Int) - 1) = 0
          · simp [hz]
          · have : rd l ((l.length : Int) - 1) > 0 := by omega
            simp [hz, this]
      | succ d ih =>
        intro i hi hj
        by_cases hx : 0 ≤ rd l (i : Int) ∧ rd l (i : Int) ≤ 65535
        · refine Ev.step (f := fun k => spec_NatOk.l0 k ((i + 1 : Nat) : Int) l) (fun k => ?_) (ih (i + 1) (by omega) ?_)
          · simp only [spec_NatOk.l0]
            rw [if_pos (by omega), if_pos (by omega), if_neg (by omega), if_neg (by omega), w64 (by omega) (by omega)]
            rfl
          · intro j hj'
            by_cases e : j = i
            · subst e; rw [rd_nat] at hx; exact hx
            · exact hj j (by omega)
        · refine Ev.step (f := fun _ => some (okB l)) (fun k => ?_) (Ev.now _)
          have hall : l.all (fun x => decide (0 ≤ x) && decide (x ≤ 65535)) = false := by
            rw [List.all_eq_false]
            rw [rd_get _ _ (by omega)] at hx
            exact ⟨l[i], List.getElem_mem (by omega), by simp; omega⟩
          simp only [spec_NatOk.l0]
          rw [if_pos (by omega), if_pos (by omega)]
          have e : okB l = false := by simp [okB, hall]
          rw [e]
          by_cases h1 : rd l (i : Int) < 0
          · rw [if_pos h1]
          · rw [if_neg h1, if_pos (by omega)]
    exact key l.length 0 (by omega) (fun j hj => by omega)
theorem impl_NatOk_eq (l : List Int) : impl_NatOk.f l = some (okB l) := by
  unfold impl_NatOk.f impl_areAll_int.f
  by_cases hl : (l.length : Int) ≤ 100
  · have hl' : l.length ≤ 100 := by omega
    rw [if_pos hl]
    simp only [Option.bind_some]
    have ep : l.all impl_areAll_int.p = l.all (fun x => decide (0 ≤ x) && decide (x ≤ 65535)) := rfl
    rw [ep]
    by_cases hall : l.all (fun x => decide (0 ≤ x) && decide (x ≤ 65535)) = true
    · rw [if_pos hall]
      by_cases h0 : (l.length : Int) = 0
      · rw [if_pos h0]
        have : l = [] := List.eq_nil_of_length_eq_zero (by omega)
        subst this; rfl
      · rw [if_neg h0, w64 (by omega) (by omega), if_pos (by omega), if_pos (by omega)]
        have hlast := getLast_rd l (by omega)
        simp only [okB, hall, hlast, hl', decide_true, Bool.true_and]
        by_cases hz : rd l ((l.length : Int) - 1) = 0
        · simp [hz]
        · have e1 : (rd l ((l.length : Int) - 1) != 0) = true := by simpa using hz
          have e2 : (some (rd l ((l.length : Int) - 1)) != some 0) = true := by simpa using hz
          rw [e1, e2]
    · rw [if_neg hall]
      simp [okB, hall]
  · rw [if_neg hl]
    have : ¬ l.length ≤ 100 := by omega
    simp [okB, this]

/-! #### within -/
theorem within_eq (a b c : Int) : impl_within.f a b c = some (decide (b ≤ a ∧ a ≤ c)) := by
  unfold impl_within.f
  by_cases h : b ≤ a <;> simp [h]

/-! #### l2norm -/
theorem ev_spec_l2norm (l : List Int) (hb : l.length ≤ 1000000000) : Ev (fun k => spec_l2norm.f k l) (strip l) := by
  unfold spec_l2norm.f
  have key : ∀ n : Nat, n ≤ l.length → strip (l.take n) = strip l → Ev (fun k => spec_l2norm.l0 k l (n : Int)) (strip l) := by
    intro n
    induction n with
    | zero =>
      intro _ hs
      refine Ev.step (f := fun _ => some (strip l)) (fun k => ?_) (Ev.now _)
      simp only [spec_l2norm.l0, Option.bind_some]
      rw [if_neg (by omega), if_pos (by omega), if_pos (by omega), if_pos (by simp)]
      simpa [strip] using hs
    | succ n ih =>
      intro hn hs
      by_cases h0 : l[n] = 0
      · refine Ev.step (f := fun k => spec_l2norm.l0 k l (n : Int)) (fun k => ?_) (ih (by omega) ?_)
        · simp only [spec_l2norm.l0]
          rw [show ((n + 1 : Nat) : Int) - 1 = (n : Int) by omega, w64 (x := (n : Int)) (by omega) (by omega), if_pos (by omega), if_pos (by omega), if_pos (by omega), rd_get _ _ (by omega), if_pos h0]
        · rw [← hs, strip_take_zero (by omega) h0]
      · refine Ev.step (f := fun _ => some (strip l)) (fun k => ?_) (Ev.now _)
        simp only [spec_l2norm.l0, Option.bind_some]
        rw [show ((n + 1 : Nat) : Int) - 1 = (n : Int) by omega, w64 (x := (n : Int)) (by omega) (by omega), if_pos (by omega), if_pos (by omega), if_pos (by omega), rd_get _ _ (by omega), if_neg h0, if_pos (by omega), if_pos (by omega), if_pos (by simp; omega)]
        rw [← hs, strip_take_ne (by omega) h0]
        simp
  have := key l.length (Nat.le_refl _) (by simp)
  exact this

/-! #### small2 -/
theorem ev_spec_l2small (a : List Int) (D : Int) (ha : Limbs a) (hb : a.length ≤ 1000000) (hD : 1 ≤ D) (hD2 : D ≤ 65536) :
    ∃ q : List Int, Ev (fun k => spec_l2small.f k a D) (q, val a % D) ∧ Norm q ∧ val q = val a / D ∧ q.length ≤ a.length := by
  unfold spec_l2small.f
  have key : ∀ d : Nat, d ≤ a.length → ∀ (x : List Int) (r : Int), x.length = a.length → Limbs x → 0 ≤ r → r < D → val (a.drop d) = val (x.drop d) * D + r →
      ∃ q : List Int, Ev (fun k => spec_l2small.l0 k D x r ((d : Int) - 1) a) (q, val a % D) ∧ Norm q ∧ val q = val a / D ∧ q.length ≤ a.length := by
    intro d
    induction d with
    | zero =>
      intro _ x r hx hl h0 h1 hv
      simp only [List.drop_zero] at hv
      obtain ⟨e1, e2⟩ := div_unique hD hv h0 h1
      refine ⟨strip x, ?_, strip_norm hl, by rw [val_strip]; exact e1, by have := strip_len x; omega⟩
      have hn := ev_spec_l2norm x (by omega)
      refine Ev.step (f := fun k => (spec_l2norm.f k x).bind fun t => some (t, r)) (fun k => ?_) ?_
      · simp only [spec_l2small.l0]
        rw [if_neg (by omega)]
      · rw [← e2]; exact Ev.bind hn (Ev.now _)
    | succ d ih =>
      intro hd x r hx hl h0 h1 hv
      have hy := rd_limb ha (d : Int)
      have hdg := small_digit D r (rd a (d : Int)) hD h0 h1 hy.1 hy.2
      have hm0 := Int.emod_nonneg (r * 65536 + rd a (d : Int)) (show D ≠ 0 by omega)
      have hm1 := Int.emod_lt_of_pos (r * 65536 + rd a (d : Int)) (show 0 < D by omega)
      obtain ⟨q, hq, hrest⟩ := ih (by omega) (x.set d ((r * 65536 + rd a (d : Int)) / D)) ((r * 65536 + rd a (d : Int)) % D) (by simpa using hx) (hl.set d hdg.1 hdg.2) hm0 hm1 (by
        rw [val_set_drop _ _ _ (by omega), val_drop_at (by omega)]
        exact small_step D r _ _ _ hD hv)
      refine ⟨q, Ev.step (fun k => ?_) hq, hrest⟩
      simp only [spec_l2small.l0]
      rw [show ((d + 1 : Nat) : Int) - 1 = (d : Int) by omega]
      rw [if_pos (by omega), if_pos (by omega), if_pos (by omega), if_neg (by omega), if_pos (by omega), w64 (x := r * 65536) (by omega) (by omega), w64 (x := r * 65536 + rd a (d : Int)) (by omega) (by omega), td _ _ (by omega), tm _ _ (by omega), w64 (by omega) (by omega), w64 (by omega) (by omega), Int.toNat_natCast]
  obtain ⟨q, hq, h2⟩ := key a.length (Nat.le_refl _) (List.replicate a.length 0) 0 (by simp) (Limbs.zeros _) (by omega) (by omega) (by rw [List.drop_length]; simp [val])
  refine ⟨q, ?_, h2⟩
  refine ev_if_pos (by omega) (ev_if_pos (by omega) ?_)
  rw [w64 (by omega) (by omega), Int.toNat_natCast]
  exact hq

/-! #### trim -/
theorem ev_impl_trim (l : List Int) (hb : l.length ≤ 1000000000) : Ev (fun k => impl_trim.f k l) (strip l) := by
  unfold impl_trim.f
  have key : ∀ n : Nat, n ≤ l.length → strip (l.take n) = strip l → Ev (fun k => impl_trim.l0 k (l.take n)) (strip l) := by
    intro n
    induction n with
    | zero =>
      intro _ hs
      refine Ev.step (f := fun _ => some (strip l)) (fun k => ?_) (Ev.now _)
      simp only [impl_trim.l0]
      rw [if_neg (by simp)]
      simpa [strip] using hs
    | succ n ih =>
      intro hn hs
      have hlen : (l.take (n + 1)).length = n + 1 := by simp; omega
      have hrd : rd (l.take (n + 1)) (n : Int) = l[n] := by
        rw [rd_get _ _ (by omega)]; simp
      by_cases h0 : l[n] = 0
      · refine Ev.step (f := fun k => impl_trim.l0 k (l.take n)) (fun k => ?_) (ih (by omega) ?_)
        · simp only [impl_trim.l0]
          rw [hlen, show ((n + 1 : Nat) : Int) - 1 = (n : Int) by omega, w64 (x := (n : Int)) (by omega) (by omega), if_pos (by omega), if_pos (by omega), if_pos (by omega), hrd, if_pos h0, if_pos (by omega)]
          rw [Int.toNat_natCast, List.take_take, Nat.min_eq_left (by omega)]
        · rw [← hs, strip_take_zero (by omega) h0]
      · refine Ev.step (f := fun _ => some (strip l)) (fun k => ?_) (Ev.now _)
        simp only [impl_trim.l0]
        rw [hlen, show ((n + 1 : Nat) : Int) - 1 = (n : Int) by omega, w64 (x := (n : Int)) (by omega) (by omega), if_pos (by omega), if_pos (by omega), if_pos (by omega), hrd, if_neg h0]
        rw [← hs, strip_take_ne (by omega) h0]
  have := key l.length (Nat.le_refl _) (by simp)
  rw [List.take_length] at this
  exact this

/-! #### divideSmall -/
theorem ev_impl_divideSmall (a : List Int) (D : Int) (ha : Limbs a) (hb : a.length ≤ 1000000) (hD : 1 ≤ D) (hD2 : D ≤ 65536) :
    ∃ q : List Int, Ev (fun k => impl_divideSmall.f k a D) (q, val a % D) ∧ Norm q ∧ val q = val a / D ∧ q.length ≤ a.length := by
  unfold impl_divideSmall.f
  have key : ∀ d : Nat, d ≤ a.length → ∀ (x : List Int) (r : Int), x.length = a.length → Limbs x → 0 ≤ r → r < D → val (a.drop d) = val (x.drop d) * D + r →
      ∃ q : List Int, Ev (fun k => impl_divideSmall.l0 k a D x r ((d : Int) - 1)) (q, val a % D) ∧ Norm q ∧ val q = val a / D ∧ q.length ≤ a.length := by
    intro d
    induction d with
    | zero =>
      intro _ x r hx hl h0 h1 hv
      simp only [List.drop_zero] at hv
      obtain ⟨e1, e2⟩ := div_unique hD hv h0 h1
      refine ⟨strip x, ?_, strip_norm hl, by rw [val_strip]; exact e1, by have := strip_len x; omega⟩
      have hn := ev_impl_trim x (by omega)
      refine Ev.step (f := fun k => (impl_trim.f k x).bind fun t => some (t, r)) (fun k => ?_) ?_
      · simp only [impl_divideSmall.l0]
        rw [if_neg (by omega)]
      · rw [← e2]; exact Ev.bind hn (Ev.now _)
    | succ d ih =>
      intro hd x r hx hl h0 h1 hv
      have hy := rd_limb ha (d : Int)
      have hdg := small_digit D r (rd a (d : Int)) hD h0 h1 hy.1 hy.2
      have hm0 := Int.emod_nonneg (r * 65536 + rd a (d : Int)) (show D ≠ 0 by omega)
      have hm1 := Int.emod_lt_of_pos (r * 65536 + rd a (d : Int)) (show 0 < D by omega)
      obtain ⟨q, hq, hrest⟩ := ih (by omega) (x.set d ((r * 65536 + rd a (d : Int)) / D)) ((r * 65536 + rd a (d : Int)) % D) (by simpa using hx) (hl.set d hdg.1 hdg.2) hm0 hm1 (by
        rw [val_set_drop _ _ _ (by omega), val_drop_at (by omega)]
        exact small_step D r _ _ _ hD hv)
      refine ⟨q, Ev.step (fun k => ?_) hq, hrest⟩
      simp only [impl_divideSmall.l0]
      rw [show ((d + 1 : Nat) : Int) - 1 = (d : Int) by omega]
      rw [if_pos (by omega), if_pos (by omega), if_pos (by omega), if_neg (by omega), if_pos (by omega), w64 (x := r * 65536) (by omega) (by omega), w64 (x := r * 65536 + rd a (d : Int)) (by omega) (by omega), td _ _ (by omega), tm _ _ (by omega), w64 (by omega) (by omega), w64 (by omega) (by omega), Int.toNat_natCast]
  obtain ⟨q, hq, h2⟩ := key a.length (Nat.le_refl _) (List.replicate a.length 0) 0 (by simp) (Limbs.zeros _) (by omega) (by omega) (by rw [List.drop_length]; simp [val])
  refine ⟨q, ?_, h2⟩
  refine ev_if_pos (by omega) (ev_if_pos (by omega) ?_)
  rw [w64 (by omega) (by omega), Int.toNat_natCast]
  exact hq

/-! #### DecOk -/
/-- Is a decimal number valid? -/
def decOkB (l : List Int) (e : Int) : Bool := okB l && decide (-800 ≤ e ∧ e ≤ 800) && (if l = [] then decide (e = 0) else decide (val l % 10 ≠ 0))
theorem ev_spec_DecOk (s : Bool) (l : List Int) (e : Int) (hb : l.length ≤ 1048576) : Ev (fun k => spec_DecOk.f k s l e) (decOkB l e) := by
  unfold spec_DecOk.f
  refine Ev.bind (ev_spec_NatOk l (by omega)) ?_
  unfold decOkB
  by_cases h : okB l = true
  · have hn := (okB_iff l).1 h
    simp only [if_pos h]
    have tail : ∀ b : Bool, b = decide (¬ (-800 ≤ e ∧ e ≤ 800)) → Ev (fun k => spec_DecOk.j0 k b s l e) (okB l && decide (-800 ≤ e ∧ e ≤ 800) && (if l = [] then decide (e = 0) else decide (val l % 10 ≠ 0))) := by
      intro b hb'
      refine Ev.step (fun k => by simp only [spec_DecOk.j0]; rfl) ?_
      by_cases he : -800 ≤ e ∧ e ≤ 800
      · have : b = false := by rw [hb']; simpa using he
        subst this
        simp only [Bool.false_eq_true, if_false, h, he, and_self, decide_true, Bool.true_and]
        by_cases hl : l = []
        · subst hl; simp; exact Ev.now _
        · have : ¬ (l.length : Int) = 0 := by
            intro z; exact hl (List.eq_nil_of_length_eq_zero (by omega))
          rw [if_neg hl]
          refine ev_if_neg this ?_
          obtain ⟨q, hq, _⟩ := ev_spec_l2small l 10 hn.2.1 (by omega) (by omega) (by omega)
          refine Ev.bind hq ?_
          have : decide (val l % 10 > 0) = decide (val l % 10 ≠ 0) := decide_eq_decide.mpr (by omega)
          simp only [this]
          exact Ev.now _
      · have : b = true := by rw [hb']; exact decide_eq_true he
        subst this
        simp only [if_true, he, decide_false, Bool.and_false, Bool.false_and]
        exact Ev.now _
    by_cases he : e < -800
    · simp only [if_pos he]; exact tail true (by simp; omega)
    · simp only [if_neg he]; exact tail _ (decide_eq_decide.mpr (by omega))
  · simp only [if_neg h]
    refine Ev.step (fun k => by simp only [spec_DecOk.j0]; rfl) ?_
    simp [h]; exact Ev.now _
theorem ev_impl_DecOk (s : Bool) (l : List Int) (e : Int) : Ev (fun k => impl_DecOk.f k s l e) (decOkB l e) := by
  unfold impl_DecOk.f decOkB
  refine ev_bind0 (impl_NatOk_eq l) ?_
  simp only [Option.bind_some, within_eq]
  by_cases h : okB l = true
  · have hn := (okB_iff l).1 h
    simp only [if_pos h]
    by_cases he : -800 ≤ e ∧ e ≤ 800
    · simp only [he, and_self, decide_true, if_true, h, Bool.true_and]
      obtain ⟨q, hq, _⟩ := ev_impl_divideSmall l 10 hn.2.1 (by omega) (by omega) (by omega)
      refine Ev.bind hq ?_
      by_cases hl : l = []
      · subst hl
        simp [val]; exact Ev.now _
      · have : ¬ (l.length : Int) = 0 := by
          intro z; exact hl (List.eq_nil_of_length_eq_zero (by omega))
        rw [if_neg hl]
        by_cases g : val l % 10 = 0
        · simp only [g, if_true, if_neg this]; simp; exact Ev.now _
        · simp only [g, if_false, ne_eq, not_false_eq_true, decide_true]; exact Ev.now _
    · simp only [he, decide_false, Bool.false_eq_true, if_false, Bool.and_false, Bool.false_and]; exact Ev.now _
  · simp only [if_neg h]; simp [h]; exact Ev.now _

/-! #### toNat -/
theorem ev_toIntS (l : List Int) (hb : l.length ≤ 1048576) : Ev (fun k => laws_toIntS.f k l) l := by
  unfold laws_toIntS.f
  refine ev_if_pos (by omega) (ev_if_pos (by simp; omega) ?_)
  have key : ∀ d i : Nat, ∀ x : List Int, i + d = l.length → x.length = l.length → x.take i = l.take i → Ev (fun k => laws_toIntS.l0 k l x (i : Int)) l := by
    intro d
    induction d with
    | zero =>
      intro i x hi hx ht
      refine Ev.step (f := fun _ => some l) (fun k => ?_) (Ev.now _)
      simp only [laws_toIntS.l0]
      rw [if_neg (by omega)]
      rw [List.take_of_length_le (by omega), List.take_of_length_le (by omega)] at ht
      rw [ht]
    | succ d ih =>
      intro i x hi hx ht
      refine Ev.step (f := fun k => laws_toIntS.l0 k l (x.set i (rd l (i : Int))) ((i + 1 : Nat) : Int)) (fun k => ?_) (ih (i + 1) _ (by omega) (by simpa using hx) ?_)
      · simp only [laws_toIntS.l0]
        rw [if_pos (by omega), if_pos (by omega), if_pos (by omega), w64 (by omega) (by omega)]
        simp only [Int.toNat_natCast, Int.natCast_add, Int.natCast_one]
      · rw [List.take_succ_eq_append_getElem (by simp; omega), List.take_succ_eq_append_getElem (by omega), rd_get _ _ (by omega)]
        rw [List.take_set_of_le (by omega), ht]
        simp
  exact key l.length 0 _ (by omega) (by simp) (by simp)
theorem ev_toNat (l : List Int) (hb : l.length ≤ 1048576) : Ev (fun k => laws_toNat.f k l) l := by
  unfold laws_toNat.f
  exact Ev.bind (ev_toIntS l hb) (Ev.now _)
theorem szNat_small (l : List Int) (n : Nat) (hn : n ≤ 1048576) (h : l.length ≤ n) : laws_szNat.f l n = some ((n - l.length : Nat) : Int) := by
  unfold laws_szNat.f laws_szIntS.f
  rw [w64 (by omega) (by omega), if_neg (by omega)]
  simp only [Option.bind_some]
  rw [if_neg (by omega)]
  congr 1; omega
theorem szNat_big (l : List Int) (n : Nat) (hn : n ≤ 1048576) (hm : l.length ≤ maxLen) (h : n < l.length) : laws_szNat.f l n = some (-1) := by
  unfold maxLen at hm
  unfold laws_szNat.f laws_szIntS.f
  rw [w64 (by omega) (by omega), if_pos (by omega)]
  rfl

/-! #### eqIntS -/
theorem ev_eqIntS (l0 l1 : List Int) (hb : l0.length ≤ 9000000000000000000) : Ev (fun k => laws_eqIntS.f k l0 l1) (decide (l0 = l1)) := by
  unfold laws_eqIntS.f
  by_cases hl : (l0.length : Int) = (l1.length : Int)
  · refine ev_if_pos hl ?_
    have key : ∀ d i : Nat, i + d = l0.length → l0.take i = l1.take i → Ev (fun k => laws_eqIntS.l0 k l0 l1 (i : Int)) (decide (l0 = l1)) := by
      intro d
      induction d with
      | zero =>
        intro i hi ht
        have he : l0 = l1 := by rw [List.take_of_length_le (by omega), List.take_of_length_le (by omega)] at ht; exact ht
        refine Ev.step (f := fun _ => some (decide (l0 = l1))) (fun k => ?_) (Ev.now _)
        simp only [laws_eqIntS.l0]
        rw [if_neg (by omega)]; simp [he]
      | succ d ih =>
        intro i hi ht
        by_cases he : rd l0 (i : Int) = rd l1 (i : Int)
        · refine Ev.step (f := fun k => laws_eqIntS.l0 k l0 l1 ((i + 1 : Nat) : Int)) (fun k => ?_) (ih (i + 1) (by omega) ?_)
          · simp only [laws_eqIntS.l0]
            rw [if_pos (by omega), if_pos (by omega), if_pos (by omega), if_pos he, w64 (by omega) (by omega)]
            rfl
          · rw [rd_get _ _ (by omega), rd_get _ _ (by omega)] at he
            rw [List.take_succ_eq_append_getElem (by omega), List.take_succ_eq_append_getElem (by omega), ht, he]
        · refine Ev.step (f := fun _ => some (decide (l0 = l1))) (fun k => ?_) (Ev.now _)
          simp only [laws_eqIntS.l0]
          rw [if_pos (by omega), if_pos (by omega), if_pos (by omega), if_neg he]
          have hne : ¬ l0 = l1 := fun e => he (by rw [e])
          simp [hne]
    exact key l0.length 0 (by omega) (by simp)
  · refine ev_if_neg hl ?_
    have hne : ¬ l0 = l1 := fun e => hl (by rw [e])
    have e : (fun _ : Nat => some false) = fun _ : Nat => some (decide (l0 = l1)) := by simp [hne]
    rw [e]; exact Ev.now _

/-! #### eqNat -/
theorem ev_eqNat (l0 l1 : List Int) (hb : l0.length ≤ 9000000000000000000) : Ev (fun k => laws_eqNat.f k l0 l1) (decide (l0 = l1)) := by
  unfold laws_eqNat.f
  refine Ev.bind (ev_eqIntS l0 l1 hb) ?_
  by_cases h : l0 = l1
  · simp only [h, decide_true, if_true]; exact Ev.now _
  · simp only [h, decide_false]; exact Ev.now _

/-! #### DecH -/
theorem ev_toDec (s : Bool) (l : List Int) (e : Int) (hb : l.length ≤ 1048576) : Ev (fun k => laws_toDec.f k s l e) (s, l, e) := by
  unfold laws_toDec.f
  exact Ev.bind (ev_toNat l hb) (Ev.now _)
theorem szDec_small (s : Bool) (l : List Int) (e : Int) (n : Nat) (hn : n ≤ 1048576) (h : l.length ≤ n) : laws_szDec.f s l e n = some ((n - l.length : Nat) : Int) := by
  unfold laws_szDec.f
  rw [szNat_small l n hn h]
  simp only [Option.bind_some]
  rw [if_neg (by omega)]
theorem szDec_big (s : Bool) (l : List Int) (e : Int) (n : Nat) (hn : n ≤ 1048576) (hm : l.length ≤ maxLen) (h : n < l.length) : laws_szDec.f s l e n = some (-1) := by
  unfold laws_szDec.f
  rw [szNat_big l n hn hm h]
  rfl
theorem ev_eqDec (s : Bool) (l : List Int) (e : Int) (hb : l.length ≤ 9000000000000000000) : Ev (fun k => laws_eqDec.f k s l e s l e) true := by
  unfold laws_eqDec.f
  simp only [bne_self_eq_false, Bool.false_eq_true, if_false]
  refine Ev.bind (ev_eqNat l l hb) ?_
  simp only [decide_true, if_true]
  exact Ev.now _

/-! #### law_FnExactDecOk -/
theorem FnExactDecOk : laws_FnExactDecOk.Pure := by
  intro s l e hm hw he
  have g : Ev (fun k => laws_FnExactDecOk.f k s l e) true := by
    unfold laws_FnExactDecOk.f
    by_cases hs : l.length ≤ 1048576
    · refine ev_bind0 (szDec_small s l e 1048576 (Nat.le_refl _) hs) (ev_if_neg (by omega) ?_)
      refine Ev.bind (ev_toDec s l e hs) (Ev.bind (ev_spec_DecOk s l e (by omega)) (Ev.bind (ev_toDec s l e hs) (Ev.bind (ev_impl_DecOk s l e) ?_)))
      refine ev_if_neg (by simp) (Ev.bind (ev_toDec s l e hs) (Ev.bind (ev_eqDec s l e (by omega)) ?_))
      simp only [if_true]
      exact Ev.now _
    · refine ev_bind0 (szDec_big s l e 1048576 (Nat.le_refl _) hm (by omega)) (ev_if_pos (by omega) (Ev.now _))
  exact g.rounds

end Go.Proofs.Ytjfafkjffjgenaa.Pure
