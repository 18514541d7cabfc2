/- The pure statement of the law FnExactNatBits: at every input that its guards let in the program's answer is the reference's. -/
import Derived.Test.YtjfafkjffjgenaaPFnExactNatBitsx2
import Derived.Test.YtjfafkjffjgenaaLib
import Derived.WalkKit
namespace Go.Proofs.Ytjfafkjffjgenaa.Pure
open Go.RowKit Go.Proofs.Ytjfafkjffjgenaa.PFnExactNatBits Go.Proofs.YtjfafkjffjgenaaW.PrintWords Go.Proofs.YtjfafkjffjgenaaW.PrintLast Go.Proofs.Ytjfafkjffjgenaa.Lib
set_option linter.unusedVariables false
set_option linter.unusedSimpArgs false

/-! #### NatOk -/
theorem getLast_rd (l : List Int) (h : 0 < l.length) : l.getLast? = some (rd l ((l.length : Int) - 1)) := by
  rw [show (l.length : Int) - 1 = ((l.length - 1 : Nat) : Int) by omega, rd_get _ _ (by omega), List.getLast?_eq_getElem?, List.getElem?_eq_getElem]
theorem ev_spec_NatOk (l : List Int) (hb : l.length ≤ 9000000000000000000) : Ev (fun k => spec_NatOk.f k l) (okB l) := by
  unfold spec_NatOk.f
  by_cases hl : (l.length : Int) > 100
  · refine ev_if_pos hl ?_
    have e : okB l = false := by
      have : ¬ l.length ≤ 100 := by omega
      simp [okB, this]
    rw [e]; exact Ev.now _
  · refine ev_if_neg hl ?_
    have hl' : l.length ≤ 100 := by omega
    have key : ∀ d i : Nat, i + d = l.length → (∀ j, j < i → 0 ≤ l.getD j 0 ∧ l.getD j 0 ≤ 65535) → Ev (fun k => spec_NatOk.l0 k (i : Int) l) (okB l) := by
      intro d
      induction d with
      | zero =>
        intro i hi hj
        refine Ev.step (f := fun _ => some (okB l)) (fun k => ?_) (Ev.now _)
        have hall : l.all (fun x => decide (0 ≤ x) && decide (x ≤ 65535)) = true := by
          rw [List.all_eq_true]
          intro x hx
          obtain ⟨j, hjl, rfl⟩ := List.getElem_of_mem hx
          have := hj j (by omega)
          rw [List.getD_eq_getElem?_getD, List.getElem?_eq_getElem hjl, Option.getD_some] at this
          simp; exact this
        simp only [spec_NatOk.l0]
        rw [if_neg (by omega)]
        by_cases h0 : (l.length : Int) = 0
        · rw [if_pos h0]
          have : l = [] := List.eq_nil_of_length_eq_zero (by omega)
          subst this; rfl
        · rw [if_neg h0, w64 (by omega) (by omega), if_pos (by omega), if_pos (by omega)]
          have hlast := getLast_rd l (by omega)
          have hr := hj (l.length - 1) (by omega)
          rw [← rd_nat, show ((l.length - 1 : Nat) : Int) = (l.length : Int) - 1 by omega] at hr
          simp only [okB, hall, hlast, hl', decide_true, Bool.true_and]
          by_cases hz : rd l ((l.length : Int) - 1) = 0
          · simp [hz]
          · have : rd l ((l.length : Int) - 1) > 0 := by omega
            simp [hz, this]
      | succ d ih =>
        intro i hi hj
        by_cases hx : 0 ≤ rd l (i : Int) ∧ rd l (i : Int) ≤ 65535
        · refine Ev.step (f := fun k => spec_NatOk.l0 k ((i + 1 : Nat) : Int) l) (fun k => ?_) (ih (i + 1) (by omega) ?_)
          · simp only [spec_NatOk.l0]
            rw [if_pos (by omega), if_pos (by omega), if_neg (by omega), if_neg (by omega), w64 (by omega) (by omega)]
            rfl
          · intro j hj'
            by_cases e : j = i
            · subst e; rw [rd_nat] at hx; exact hx
            · exact hj j (by omega)
        · refine Ev.step (f := fun _ => some (okB l)) (fun k => ?_) (Ev.now _)
          have hall : l.all (fun x => decide (0 ≤ x) && decide (x ≤ 65535)) = false := by
            rw [List.all_eq_false]
            rw [rd_get _ _ (by omega)] at hx
            exact ⟨l[i], List.getElem_mem (by omega), by simp; omega⟩
          simp only [spec_NatOk.l0]
          rw [if_pos (by omega), if_pos (by omega)]
          have e : okB l = false := by simp [okB, hall]
          rw [e]
          by_cases h1 : rd l (i : Int) < 0
          · rw [if_pos h1]
          · rw [if_neg h1, if_pos (by omega)]
    exact key l.length 0 (by omega) (fun j hj => by omega)
theorem impl_NatOk_eq (l : List Int) : impl_NatOk.f l = some (okB l) := by
  unfold impl_NatOk.f impl_areAll_int.f
  by_cases hl : (l.length : Int) ≤ 100
  · have hl' : l.length ≤ 100 := by omega
    rw [if_pos hl]
    simp only [Option.bind_some]
    have ep : l.all impl_areAll_int.p = l.all (fun x => decide (0 ≤ x) && decide (x ≤ 65535)) := rfl
    rw [ep]
    by_cases hall : l.all (fun x => decide (0 ≤ x) && decide (x ≤ 65535)) = true
    · rw [if_pos hall]
      by_cases h0 : (l.length : Int) = 0
      · rw [if_pos h0]
        have : l = [] := List.eq_nil_of_length_eq_zero (by omega)
        subst this; rfl
      · rw [if_neg h0, w64 (by omega) (by omega), if_pos (by omega), if_pos (by omega)]
        have hlast := getLast_rd l (by omega)
        simp only [okB, hall, hlast, hl', decide_true, Bool.true_and]
        by_cases hz : rd l ((l.length : Int) - 1) = 0
        · simp [hz]
        · have e1 : (rd l ((l.length : Int) - 1) != 0) = true := by simpa using hz
          have e2 : (some (rd l ((l.length : Int) - 1)) != some 0) = true := by simpa using hz
          rw [e1, e2]
    · rw [if_neg hall]
      simp [okB, hall]
  · rw [if_neg hl]
    have : ¬ l.length ≤ 100 := by omega
    simp [okB, this]

/-! #### bits -/
theorem ev_spec_l2bits (l : List Int) (h : Norm l) (hb : l.length ≤ 1000000) : Ev (fun k => spec_l2bits.f k l) (bitsV l) := by
  unfold spec_l2bits.f bitsV
  by_cases hl : 0 < l.length
  · have hne : l ≠ [] := by intro e; subst e; simp at hl
    rw [if_neg hne, getLastD_rd l hl]
    have ht := okB_top h hl
    refine ev_if_neg (by omega) ?_
    rw [w64 (x := (l.length : Int) - 1) (by omega) (by omega)]
    refine ev_if_pos (by omega) (ev_if_pos (by omega) ?_)
    rw [w64 (by omega) (by omega)]
    generalize rd l ((l.length : Int) - 1) = t at *
    have key : ∀ f : Nat, ∀ n x : Int, 0 ≤ x → x < (2 : Int) ^ f → f ≤ 16 → 0 ≤ n → n + f ≤ 1000000000 → Ev (fun k => spec_l2bits.l0 k n x) (n + Go.Lib.bitLen x.toNat) := by
      intro f
      induction f with
      | zero =>
        intro n x h0 h1 _ hn hn2
        refine Ev.step (f := fun _ => some (n + Go.Lib.bitLen x.toNat)) (fun k => ?_) (Ev.now _)
        simp only [spec_l2bits.l0]
        have e : x = 0 := by simp at h1; omega
        subst e
        rw [if_neg (by omega)]; simp [bitLen_zero]
      | succ f ih =>
        intro n x h0 h1 hf hn hn2
        have h2 : (2 : Int) ^ (f + 1) = 2 * 2 ^ f := by rw [Int.pow_succ, Int.mul_comm]
        have h3 : (2 : Int) ^ f ≤ 65536 := by
          have := Nat.pow_le_pow_right (show 0 < 2 by decide) (show f ≤ 16 by omega)
          have e : ((2 ^ f : Nat) : Int) = (2 : Int) ^ f := by simp
          omega
        rw [h2] at h1
        by_cases hx : x > 0
        · rw [bitLen_half_int x hx (by omega), ← Int.add_assoc]
          refine Ev.step (f := fun k => spec_l2bits.l0 k (n + 1) (x / 2)) (fun k => ?_) (ih (n + 1) (x / 2) (by omega) (by omega) (by omega) (by omega) (by omega))
          simp only [spec_l2bits.l0]
          rw [if_pos hx, td _ _ (by omega), w64 (by omega) (by omega), w64 (by omega) (by omega)]
        · refine Ev.step (f := fun _ => some (n + Go.Lib.bitLen x.toNat)) (fun k => ?_) (Ev.now _)
          simp only [spec_l2bits.l0]
          have e : x = 0 := by omega
          subst e
          rw [if_neg (by omega)]; simp [bitLen_zero]
    exact key 16 (16 * ((l.length : Int) - 1)) t (by omega) (by omega) (by omega) (by omega) (by omega)
  · have e : l = [] := List.eq_nil_of_length_eq_zero (by omega)
    subst e; exact Ev.now _
theorem impl_bitsOf_eq (l : List Int) (h : Norm l) (hb : l.length ≤ 1000000) : impl_bitsOf.f l = some (bitsV l) := by
  unfold impl_bitsOf.f bitsV bits_Len.f bits_Len64.f
  by_cases hl : 0 < l.length
  · have hne : l ≠ [] := by intro e; subst e; simp at hl
    rw [if_neg hne, getLastD_rd l hl]
    have ht := okB_top h hl
    rw [if_neg (by omega), w64 (x := (l.length : Int) - 1) (by omega) (by omega), if_pos (by omega), if_pos (by omega)]
    rw [u64_in (by omega) (by omega), if_pos (by omega), w64 (x := 16 * ((l.length : Int) - 1)) (by omega) (by omega)]
    have hle : Go.Lib.bitLen (rd l ((l.length : Int) - 1)).toNat ≤ 16 := Go.Lib.bitLen_le _ 16 (by decide) (by omega)
    simp only [Option.bind_some]
    rw [w64 (by omega) (by omega)]
  · have e : l = [] := List.eq_nil_of_length_eq_zero (by omega)
    subst e; rfl

/-! #### toNat -/
theorem ev_toIntS (l : List Int) (hb : l.length ≤ 1048576) : Ev (fun k => laws_toIntS.f k l) l := by
  unfold laws_toIntS.f
  refine ev_if_pos (by omega) (ev_if_pos (by simp; omega) ?_)
  have key : ∀ d i : Nat, ∀ x : List Int, i + d = l.length → x.length = l.length → x.take i = l.take i → Ev (fun k => laws_toIntS.l0 k l x (i : Int)) l := by
    intro d
    induction d with
    | zero =>
      intro i x hi hx ht
      refine Ev.step (f := fun _ => some l) (fun k => ?_) (Ev.now _)
      simp only [laws_toIntS.l0]
      rw [if_neg (by omega)]
      rw [List.take_of_length_le (by omega), List.take_of_length_le (by omega)] at ht
      rw [ht]
    | succ d ih =>
      intro i x hi hx ht
      refine Ev.step (f := fun k => laws_toIntS.l0 k l (x.set i (rd l (i : Int))) ((i + 1 : Nat) : Int)) (fun k => ?_) (ih (i + 1) _ (by omega) (by simpa using hx) ?_)
      · simp only [laws_toIntS.l0]
        rw [if_pos (by omega), if_pos (by omega), if_pos (by omega), w64 (by omega) (by omega)]
        simp only [Int.toNat_natCast, Int.natCast_add, Int.natCast_one]
      · rw [List.take_succ_eq_append_getElem (by simp; omega), List.take_succ_eq_append_getElem (by omega), rd_get _ _ (by omega)]
        rw [List.take_set_of_le (by omega), ht]
        simp
  exact key l.length 0 _ (by omega) (by simp) (by simp)
theorem ev_toNat (l : List Int) (hb : l.length ≤ 1048576) : Ev (fun k => laws_toNat.f k l) l := by
  unfold laws_toNat.f
  exact Ev.bind (ev_toIntS l hb) (Ev.now _)
theorem szNat_small (l : List Int) (n : Nat) (hn : n ≤ 1048576) (h : l.length ≤ n) : laws_szNat.f l n = some ((n - l.length : Nat) : Int) := by
  unfold laws_szNat.f laws_szIntS.f
  rw [w64 (by omega) (by omega), if_neg (by omega)]
  simp only [Option.bind_some]
  rw [if_neg (by omega)]
  congr 1; omega
theorem szNat_big (l : List Int) (n : Nat) (hn : n ≤ 1048576) (hm : l.length ≤ maxLen) (h : n < l.length) : laws_szNat.f l n = some (-1) := by
  unfold maxLen at hm
  unfold laws_szNat.f laws_szIntS.f
  rw [w64 (by omega) (by omega), if_pos (by omega)]
  rfl

/-! #### eqIntS -/
theorem ev_eqIntS (l0 l1 : List Int) (hb : l0.length ≤ 9000000000000000000) : Ev (fun k => laws_eqIntS.f k l0 l1) (decide (l0 = l1)) := by
  unfold laws_eqIntS.f
  by_cases hl : (l0.length : Int) = (l1.length : Int)
  · refine ev_if_pos hl ?_
    have key : ∀ d i : Nat, i + d = l0.length → l0.take i = l1.take i → Ev (fun k => laws_eqIntS.l0 k l0 l1 (i : Int)) (decide (l0 = l1)) := by
      intro d
      induction d with
      | zero =>
        intro i hi ht
        have he : l0 = l1 := by rw [List.take_of_length_le (by omega), List.take_of_length_le (by omega)] at ht; exact ht
        refine Ev.step (f := fun _ => some (decide (l0 = l1))) (fun k => ?_) (Ev.now _)
        simp only [laws_eqIntS.l0]
        rw [if_neg (by omega)]; simp [he]
      | succ d ih =>
        intro i hi ht
        by_cases he : rd l0 (i : Int) = rd l1 (i : Int)
        · refine Ev.step (f := fun k => laws_eqIntS.l0 k l0 l1 ((i + 1 : Nat) : Int)) (fun k => ?_) (ih (i + 1) (by omega) ?_)
          · simp only [laws_eqIntS.l0]
            rw [if_pos (by omega), if_pos (by omega), if_pos (by omega), if_pos he, w64 (by omega) (by omega)]
            rfl
          · rw [rd_get _ _ (by omega), rd_get _ _ (by omega)] at he
            rw [List.take_succ_eq_append_getElem (by omega), List.take_succ_eq_append_getElem (by omega), ht, he]
        · refine Ev.step (f := fun _ => some (decide (l0 = l1))) (fun k => ?_) (Ev.now _)
          simp only [laws_eqIntS.l0]
          rw [if_pos (by omega), if_pos (by omega), if_pos (by omega), if_neg he]
          have hne : ¬ l0 = l1 := fun e => he (by rw [e])
          simp [hne]
    exact key l0.length 0 (by omega) (by simp)
  · refine ev_if_neg hl ?_
    have hne : ¬ l0 = l1 := fun e => hl (by rw [e])
    have e : (fun _ : Nat => some false) = fun _ : Nat => some (decide (l0 = l1)) := by simp [hne]
    rw [e]; exact Ev.now _

/-! #### eqNat -/
theorem ev_eqNat (l0 l1 : List Int) (hb : l0.length ≤ 9000000000000000000) : Ev (fun k => laws_eqNat.f k l0 l1) (decide (l0 = l1)) := by
  unfold laws_eqNat.f
  refine Ev.bind (ev_eqIntS l0 l1 hb) ?_
  by_cases h : l0 = l1
  · simp only [h, decide_true, if_true]; exact Ev.now _
  · simp only [h, decide_false]; exact Ev.now _

/-! #### law_FnExactNatBits -/
theorem FnExactNatBits : laws_FnExactNatBits.Pure := by
  intro l hm hw
  have e : Ev (fun k => laws_FnExactNatBits.f k l) true := by
    unfold laws_FnExactNatBits.f
    by_cases hs : l.length ≤ 1048576
    · refine ev_bind0 (szNat_small l 1048576 (Nat.le_refl _) hs) (ev_if_neg (by omega) ?_)
      have h1 : Ev (fun k => spec_NatBits.f k l) (if okB l = true then bitsV l else 0) := by
        unfold spec_NatBits.f
        refine Ev.bind (ev_spec_NatOk l (by omega)) ?_
        by_cases h : okB l = true
        · have hk := (okB_iff l).1 h
          simp only [if_pos h]
          exact Ev.bind (ev_spec_l2bits l hk.2 (by omega)) (Ev.now _)
        · simp only [if_neg h]; exact Ev.now _
      have h2 : impl_NatBits.f l = some (if okB l = true then bitsV l else 0) := by
        unfold impl_NatBits.f
        rw [impl_NatOk_eq]
        simp only [Option.bind_some]
        by_cases h : okB l = true
        · have hk := (okB_iff l).1 h
          rw [if_pos h, if_pos h, impl_bitsOf_eq l hk.2 (by omega)]; rfl
        · rw [if_neg h, if_neg h]
      refine Ev.bind (ev_toNat l hs) (Ev.bind h1 (Ev.bind (ev_toNat l hs) (ev_bind0 h2 (ev_if_pos rfl ?_))))
      refine Ev.bind (ev_toNat l hs) (Ev.bind (ev_eqNat l l (by omega)) ?_)
      simp only [decide_true, if_true]
      exact Ev.now _
    · refine ev_bind0 (szNat_big l 1048576 (Nat.le_refl _) hm (by omega)) (ev_if_pos (by omega) (Ev.now _))
  exact e.rounds

end Go.Proofs.Ytjfafkjffjgenaa.Pure
