/- The pure statement of the law FnExactNatCmp: at every input that its guards let in the program's answer is the reference's. -/
import Derived.Test.YtjfafkjffjgenaaPFnExactNatCmpx4
import Derived.Test.YtjfafkjffjgenaaLib
import Derived.WalkKit
namespace Go.Proofs.Ytjfafkjffjgenaa.Pure
open Go.RowKit Go.Proofs.Ytjfafkjffjgenaa.PFnExactNatCmp Go.Proofs.YtjfafkjffjgenaaW.PrintWords Go.Proofs.YtjfafkjffjgenaaW.PrintLast Go.Proofs.Ytjfafkjffjgenaa.Lib
set_option linter.unusedVariables false
set_option linter.unusedSimpArgs false

/-! #### NatOk -/
theorem getLast_rd (l : List Int) (h : 0 < l.length) : l.getLast? = some (rd l ((l.length : Int) - 1)) := by
  rw [show (l.length : Int) - 1 = ((l.length - 1 : Nat) : Int) by omega, rd_get _ _ (by omega), List.getLast?_eq_getElem?, List.getElem?_eq_getElem]
theorem ev_spec_NatOk (l : List Int) (hb : l.length ≤ 9000000000000000000) : Ev (fun k => spec_NatOk.f k l) (okB l) := by
  unfold spec_NatOk.f
  by_cases hl : (l.length : Int) > 100
  · refine ev_if_pos hl ?_
    have e : okB l = false := by
      have : ¬ l.length ≤ 100 := by omega
      simp [okB, this]
    rw [e]; exact Ev.now _
  · refine ev_if_neg hl ?_
    have hl' : l.length ≤ 100 := by omega
    have key : ∀ d i : Nat, i + d = l.length → (∀ j, j < i → 0 ≤ l.getD j 0 ∧ l.getD j 0 ≤ 65535) → Ev (fun k => spec_NatOk.l0 k (i : Int) l) (okB l) := by
      intro d
      induction d with
      | zero =>
        intro i hi hj
        refine Ev.step (f := fun _ => some (okB l)) (fun k => ?_) (Ev.now _)
        have hall : l.all (fun x => decide (0 ≤ x) && decide (x ≤ 65535)) = true := by
          rw [List.all_eq_true]
          intro x hx
          obtain ⟨j, hjl, rfl⟩ := List.getElem_of_mem hx
          have := hj j (by omega)
          rw [List.getD_eq_getElem?_getD, List.getElem?_eq_getElem hjl, Option.getD_some] at this
          simp; exact this
        simp only [spec_NatOk.l0]
        rw [if_neg (by omega)]
        by_cases h0 : (l.length : Int) = 0
        · rw [if_pos h0]
          have : l = [] := List.eq_nil_of_length_eq_zero (by omega)
          subst this; rfl
        · rw [if_neg h0, w64 (by omega) (by omega), if_pos (by omega), if_pos (by omega)]
          have hlast := getLast_rd l (by omega)
          have hr := hj (l.length - 1) (by omega)
          rw [← rd_nat, show ((l.length - 1 : Nat) : Int) = (l.length : Int) - 1 by omega] at hr
          simp only [okB, hall, hlast, hl', decide_true, Bool.true_and]
          by_cases hz : rd l ((l.length : Int) - 1) = 0
          · simp [hz]
          · have : rd l ((l.length : Int) - 1) > 0 := by omega
            simp [hz, this]
      | succ d ih =>
        intro i hi hj
        by_cases hx : 0 ≤ rd l (i : Int) ∧ rd l (i : Int) ≤ 65535
        · refine Ev.step (f := fun k => spec_NatOk.l0 k ((i + 1 : Nat) : Int) l) (fun k => ?_) (ih (i + 1) (by omega) ?_)
          · simp only [spec_NatOk.l0]
            rw [if_pos (by omega), if_pos (by omega), if_neg (by omega), if_neg (by omega), w64 (by omega) (by omega)]
            rfl
          · intro j hj'
            by_cases e : j = i
            · subst e; rw [rd_nat] at hx; exact hx
            · exact hj j (by omega)
        · refine Ev.step (f := fun _ => some (okB l)) (fun k => ?_) (Ev.now _)
          have hall : l.all (fun x => decide (0 ≤ x) && decide (x ≤ 65535)) = false := by
            rw [List.all_eq_false]
            rw [rd_get _ _ (by omega)] at hx
            exact ⟨l[i], List.getElem_mem (by omega), by simp; omega⟩
          simp only [spec_NatOk.l0]
          rw [if_pos (by omega), if_pos (by omega)]
          have e : okB l = false := by simp [okB, hall]
          rw [e]
          by_cases h1 : rd l (i : Int) < 0
          · rw [if_pos h1]
          · rw [if_neg h1, if_pos (by omega)]
    exact key l.length 0 (by omega) (fun j hj => by omega)
theorem impl_NatOk_eq (l : List Int) : impl_NatOk.f l = some (okB l) := by
  unfold impl_NatOk.f impl_areAll_int.f
  by_cases hl : (l.length : Int) ≤ 100
  · have hl' : l.length ≤ 100 := by omega
    rw [if_pos hl]
    simp only [Option.bind_some]
    have ep : l.all impl_areAll_int.p = l.all (fun x => decide (0 ≤ x) && decide (x ≤ 65535)) := rfl
    rw [ep]
    by_cases hall : l.all (fun x => decide (0 ≤ x) && decide (x ≤ 65535)) = true
    · rw [if_pos hall]
      by_cases h0 : (l.length : Int) = 0
      · rw [if_pos h0]
        have : l = [] := List.eq_nil_of_length_eq_zero (by omega)
        subst this; rfl
      · rw [if_neg h0, w64 (by omega) (by omega), if_pos (by omega), if_pos (by omega)]
        have hlast := getLast_rd l (by omega)
        simp only [okB, hall, hlast, hl', decide_true, Bool.true_and]
        by_cases hz : rd l ((l.length : Int) - 1) = 0
        · simp [hz]
        · have e1 : (rd l ((l.length : Int) - 1) != 0) = true := by simpa using hz
          have e2 : (some (rd l ((l.length : Int) - 1)) != some 0) = true := by simpa using hz
          rw [e1, e2]
    · rw [if_neg hall]
      simp [okB, hall]
  · rw [if_neg hl]
    have : ¬ l.length ≤ 100 := by omega
    simp [okB, this]

/-! #### cmp -/
theorem ev_spec_l2cmp (a b : List Int) (ha : Norm a) (hb : Norm b) (hl : a.length ≤ 1000000) (hl2 : b.length ≤ 1000000) : Ev (fun k => spec_l2cmp.f k a b) (cmpI (val a) (val b)) := by
  unfold spec_l2cmp.f
  by_cases he : (a.length : Int) = (b.length : Int)
  · refine ev_if_pos he ?_
    rw [w64 (by omega) (by omega)]
    have key : ∀ d : Nat, d ≤ a.length → val (a.drop d) = val (b.drop d) → Ev (fun k => spec_l2cmp.l0 k ((d : Int) - 1) a b) (cmpI (val a) (val b)) := by
      intro d
      induction d with
      | zero =>
        intro _ hv
        simp at hv
        rw [cmpI_eq hv]
        refine Ev.step (f := fun _ => some 0) (fun k => ?_) (Ev.now _)
        simp only [spec_l2cmp.l0]
        rw [if_neg (by omega)]
      | succ d ih =>
        intro hd hv
        rw [show ((d + 1 : Nat) : Int) - 1 = (d : Int) by omega]
        by_cases h1 : rd a (d : Int) < rd b (d : Int)
        · have hlt : val a < val b := val_lt_at ha.1 hb.1 (i := d) (by omega) (by omega) hv (by rwa [rd_get _ _ (by omega), rd_get _ _ (by omega)] at h1)
          rw [cmpI_lt hlt]
          refine Ev.step (f := fun _ => some (-1)) (fun k => ?_) (Ev.now _)
          simp only [spec_l2cmp.l0]
          rw [if_pos (by omega), if_pos (by omega), if_pos (by omega), if_pos (by omega), if_pos h1]
        · by_cases h2 : rd a (d : Int) > rd b (d : Int)
          · have hlt : val b < val a := val_lt_at hb.1 ha.1 (i := d) (by omega) (by omega) hv.symm (by rwa [gt_iff_lt, rd_get _ _ (by omega), rd_get _ _ (by omega)] at h2)
            rw [cmpI_gt hlt]
            refine Ev.step (f := fun _ => some 1) (fun k => ?_) (Ev.now _)
            simp only [spec_l2cmp.l0]
            rw [if_pos (by omega), if_pos (by omega), if_pos (by omega), if_pos (by omega), if_neg h1, if_pos h2]
          · refine Ev.step (f := fun k => spec_l2cmp.l0 k ((d : Int) - 1) a b) (fun k => ?_) (ih (by omega) ?_)
            · simp only [spec_l2cmp.l0]
              rw [if_pos (by omega), if_pos (by omega), if_pos (by omega), if_pos (by omega), if_neg h1, if_neg h2, w64 (by omega) (by omega)]
            · have e : rd a (d : Int) = rd b (d : Int) := by omega
              rw [rd_get _ _ (by omega), rd_get _ _ (by omega)] at e
              rw [List.drop_eq_getElem_cons (show d < a.length by omega), List.drop_eq_getElem_cons (show d < b.length by omega)]
              simp only [val, e, hv]
    exact key a.length (Nat.le_refl _) (by rw [List.drop_length, show a.length = b.length by omega, List.drop_length])
  · refine ev_if_neg he ?_
    by_cases h : (a.length : Int) < (b.length : Int)
    · rw [cmpI_lt (val_lt_len ha.1 hb (by omega))]; exact ev_if_pos h (Ev.now _)
    · rw [cmpI_gt (val_lt_len hb.1 ha (by omega))]; exact ev_if_neg h (Ev.now _)
theorem cmp_Compare_eq (a b : Int) : cmp_Compare_int.f a b = some (cmpI a b) := by
  unfold cmp_Compare_int.f cmp_isNaN_int.f cmpI
  simp only [Option.bind_some, bne_self_eq_false, Bool.false_eq_true, if_false]
  by_cases h : a < b
  · rw [if_pos h, if_pos h]
  · rw [if_neg h, if_neg h]
    by_cases h2 : a > b
    · rw [if_pos h2, if_pos h2]
    · rw [if_neg h2, if_neg h2]
theorem ev_impl_compare (a b : List Int) (ha : Norm a) (hb : Norm b) (hl : a.length ≤ 1000000) (hl2 : b.length ≤ 1000000) : Ev (fun k => impl_compare.f k a b) (cmpI (val a) (val b)) := by
  unfold impl_compare.f
  simp only [cmp_Compare_eq, Option.bind_some]
  by_cases he : (a.length : Int) = (b.length : Int)
  · refine ev_if_pos he ?_
    rw [w64 (by omega) (by omega)]
    have key : ∀ d : Nat, d ≤ a.length → val (a.drop d) = val (b.drop d) → Ev (fun k => impl_compare.l0 k a b ((d : Int) - 1)) (cmpI (val a) (val b)) := by
      intro d
      induction d with
      | zero =>
        intro _ hv
        simp at hv
        rw [cmpI_eq hv]
        refine Ev.step (f := fun _ => some 0) (fun k => ?_) (Ev.now _)
        simp only [impl_compare.l0]
        rw [if_neg (by omega)]
      | succ d ih =>
        intro hd hv
        rw [show ((d + 1 : Nat) : Int) - 1 = (d : Int) by omega]
        by_cases h0 : rd a (d : Int) = rd b (d : Int)
        · refine Ev.step (f := fun k => impl_compare.l0 k a b ((d : Int) - 1)) (fun k => ?_) (ih (by omega) ?_)
          · simp only [impl_compare.l0]
            rw [if_pos (by omega), if_pos (by omega), if_pos (by omega), if_pos (by omega), if_pos h0, w64 (by omega) (by omega)]
          · rw [rd_get _ _ (by omega), rd_get _ _ (by omega)] at h0
            rw [List.drop_eq_getElem_cons (show d < a.length by omega), List.drop_eq_getElem_cons (show d < b.length by omega)]
            simp only [val, h0, hv]
        · have e : cmpI (rd a (d : Int)) (rd b (d : Int)) = cmpI (val a) (val b) := by
            by_cases h1 : rd a (d : Int) < rd b (d : Int)
            · rw [cmpI_lt h1, cmpI_lt (val_lt_at ha.1 hb.1 (i := d) (by omega) (by omega) hv (by rwa [rd_get _ _ (by omega), rd_get _ _ (by omega)] at h1))]
            · have h2 : rd b (d : Int) < rd a (d : Int) := by omega
              rw [cmpI_gt h2, cmpI_gt (val_lt_at hb.1 ha.1 (i := d) (by omega) (by omega) hv.symm (by rwa [rd_get _ _ (by omega), rd_get _ _ (by omega)] at h2))]
          rw [← e]
          refine Ev.step (f := fun _ => some (cmpI (rd a (d : Int)) (rd b (d : Int)))) (fun k => ?_) (Ev.now _)
          simp only [impl_compare.l0, cmp_Compare_eq, Option.bind_some]
          rw [if_pos (by omega), if_pos (by omega), if_pos (by omega), if_pos (by omega), if_neg h0]
    exact key a.length (Nat.le_refl _) (by rw [List.drop_length, show a.length = b.length by omega, List.drop_length])
  · refine ev_if_neg he ?_
    have e : cmpI (a.length : Int) (b.length : Int) = cmpI (val a) (val b) := by
      by_cases h : (a.length : Int) < (b.length : Int)
      · rw [cmpI_lt h, cmpI_lt (val_lt_len ha.1 hb (by omega))]
      · rw [cmpI_gt (show (b.length : Int) < (a.length : Int) by omega), cmpI_gt (val_lt_len hb.1 ha (by omega))]
    rw [e]; exact Ev.now _

/-! #### toNat -/
theorem ev_toIntS (l : List Int) (hb : l.length ≤ 1048576) : Ev (fun k => laws_toIntS.f k l) l := by
  unfold laws_toIntS.f
  refine ev_if_pos (by omega) (ev_if_pos (by simp; omega) ?_)
  have key : ∀ d i : Nat, ∀ x : List Int, i + d = l.length → x.length = l.length → x.take i = l.take i → Ev (fun k => laws_toIntS.l0 k l x (i : Int)) l := by
    intro d
    induction d with
    | zero =>
      intro i x hi hx ht
      refine Ev.step (f := fun _ => some l) (fun k => ?_) (Ev.now _)
      simp only [laws_toIntS.l0]
      rw [if_neg (by omega)]
      rw [List.take_of_length_le (by omega), List.take_of_length_le (by omega)] at ht
      rw [ht]
    | succ d ih =>
      intro i x hi hx ht
      refine Ev.step (f := fun k => laws_toIntS.l0 k l (x.set i (rd l (i : Int))) ((i + 1 : Nat) : Int)) (fun k => ?_) (ih (i + 1) _ (by omega) (by simpa using hx) ?_)
      · simp only [laws_toIntS.l0]
        rw [if_pos (by omega), if_pos (by omega), if_pos (by omega), w64 (by omega) (by omega)]
        simp only [Int.toNat_natCast, Int.natCast_add, Int.natCast_one]
      · rw [List.take_succ_eq_append_getElem (by simp; omega), List.take_succ_eq_append_getElem (by omega), rd_get _ _ (by omega)]
        rw [List.take_set_of_le (by omega), ht]
        simp
  exact key l.length 0 _ (by omega) (by simp) (by simp)
theorem ev_toNat (l : List Int) (hb : l.length ≤ 1048576) : Ev (fun k => laws_toNat.f k l) l := by
  unfold laws_toNat.f
  exact Ev.bind (ev_toIntS l hb) (Ev.now _)
theorem szNat_small (l : List Int) (n : Nat) (hn : n ≤ 1048576) (h : l.length ≤ n) : laws_szNat.f l n = some ((n - l.length : Nat) : Int) := by
  unfold laws_szNat.f laws_szIntS.f
  rw [w64 (by omega) (by omega), if_neg (by omega)]
  simp only [Option.bind_some]
  rw [if_neg (by omega)]
  congr 1; omega
theorem szNat_big (l : List Int) (n : Nat) (hn : n ≤ 1048576) (hm : l.length ≤ maxLen) (h : n < l.length) : laws_szNat.f l n = some (-1) := by
  unfold maxLen at hm
  unfold laws_szNat.f laws_szIntS.f
  rw [w64 (by omega) (by omega), if_pos (by omega)]
  rfl

/-! #### eqIntS -/
theorem ev_eqIntS (l0 l1 : List Int) (hb : l0.length ≤ 9000000000000000000) : Ev (fun k => laws_eqIntS.f k l0 l1) (decide (l0 = l1)) := by
  unfold laws_eqIntS.f
  by_cases hl : (l0.length : Int) = (l1.length : Int)
  · refine ev_if_pos hl ?_
    have key : ∀ d i : Nat, i + d = l0.length → l0.take i = l1.take i → Ev (fun k => laws_eqIntS.l0 k l0 l1 (i : Int)) (decide (l0 = l1)) := by
      intro d
      induction d with
      | zero =>
        intro i hi ht
        have he : l0 = l1 := by rw [List.take_of_length_le (by omega), List.take_of_length_le (by omega)] at ht; exact ht
        refine Ev.step (f := fun _ => some (decide (l0 = l1))) (fun k => ?_) (Ev.now _)
        simp only [laws_eqIntS.l0]
        rw [if_neg (by omega)]; simp [he]
      | succ d ih =>
        intro i hi ht
        by_cases he : rd l0 (i : Int) = rd l1 (i : Int)
        · refine Ev.step (f := fun k => laws_eqIntS.l0 k l0 l1 ((i + 1 : Nat) : Int)) (fun k => ?_) (ih (i + 1) (by omega) ?_)
          · simp only [laws_eqIntS.l0]
            rw [if_pos (by omega), if_pos (by omega), if_pos (by omega), if_pos he, w64 (by omega) (by omega)]
            rfl
          · rw [rd_get _ _ (by omega), rd_get _ _ (by omega)] at he
            rw [List.take_succ_eq_append_getElem (by omega), List.take_succ_eq_append_getElem (by omega), ht, he]
        · refine Ev.step (f := fun _ => some (decide (l0 = l1))) (fun k => ?_) (Ev.now _)
          simp only [laws_eqIntS.l0]
          rw [if_pos (by omega), if_pos (by omega), if_pos (by omega), if_neg he]
          have hne : ¬ l0 = l1 := fun e => he (by rw [e])
          simp [hne]
    exact key l0.length 0 (by omega) (by simp)
  · refine ev_if_neg hl ?_
    have hne : ¬ l0 = l1 := fun e => hl (by rw [e])
    have e : (fun _ : Nat => some false) = fun _ : Nat => some (decide (l0 = l1)) := by simp [hne]
    rw [e]; exact Ev.now _

/-! #### eqNat -/
theorem ev_eqNat (l0 l1 : List Int) (hb : l0.length ≤ 9000000000000000000) : Ev (fun k => laws_eqNat.f k l0 l1) (decide (l0 = l1)) := by
  unfold laws_eqNat.f
  refine Ev.bind (ev_eqIntS l0 l1 hb) ?_
  by_cases h : l0 = l1
  · simp only [h, decide_true, if_true]; exact Ev.now _
  · simp only [h, decide_false]; exact Ev.now _

/-! #### law_FnExactNatCmp -/
theorem areNats_eq (a b : List Int) : impl_areNats.f a b = some (okB a && okB b) := by
  unfold impl_areNats.f
  rw [impl_NatOk_eq, impl_NatOk_eq]
  cases h : okB a <;> simp
theorem FnExactNatCmp : laws_FnExactNatCmp.Pure := by
  intro a b ha hwa hb hwb
  have e : Ev (fun k => laws_FnExactNatCmp.f k a b) true := by
    unfold laws_FnExactNatCmp.f
    by_cases hs : a.length ≤ 1048576
    · refine ev_bind0 (szNat_small a 1048576 (Nat.le_refl _) hs) (ev_if_neg (by omega) ?_)
      by_cases ht : b.length ≤ 1048576 - a.length
      · refine ev_bind0 (szNat_small b _ (by omega) ht) (ev_if_neg (by omega) ?_)
        have h1 : Ev (fun k => spec_NatCmp.f k a b) (if okB a = true ∧ okB b = true then cmpI (val a) (val b) else 0) := by
          unfold spec_NatCmp.f
          refine Ev.bind (ev_spec_NatOk a (by omega)) ?_
          by_cases h : okB a = true
          · have hk := (okB_iff a).1 h
            simp only [if_pos h]
            refine Ev.bind (ev_spec_NatOk b (by omega)) ?_
            by_cases g : okB b = true
            · have hg := (okB_iff b).1 g
              simp only [if_pos g, if_pos (And.intro h g)]
              exact Ev.bind (ev_spec_l2cmp a b hk.2 hg.2 (by omega) (by omega)) (Ev.now _)
            · simp only [if_neg g, if_neg (fun z : okB a = true ∧ okB b = true => g z.2)]; exact Ev.now _
          · simp only [if_neg h, if_neg (fun z : okB a = true ∧ okB b = true => h z.1)]; exact Ev.now _
        have h2 : Ev (fun k => impl_NatCmp.f k a b) (if okB a = true ∧ okB b = true then cmpI (val a) (val b) else 0) := by
          unfold impl_NatCmp.f
          refine ev_bind0 (areNats_eq a b) ?_
          by_cases h : okB a = true ∧ okB b = true
          · have hk := (okB_iff a).1 h.1
            have hg := (okB_iff b).1 h.2
            rw [if_pos h]
            simp only [h.1, h.2, Bool.and_self, if_true]
            exact Ev.bind (ev_impl_compare a b hk.2 hg.2 (by omega) (by omega)) (Ev.now _)
          · rw [if_neg h]
            have : (okB a && okB b) = false := by
              cases h1 : okB a <;> cases h2 : okB b <;> simp_all
            simp only [this, Bool.false_eq_true, if_false]
            exact Ev.now _
        refine Ev.bind (ev_toNat a hs) (Ev.bind (ev_toNat b (by omega)) (Ev.bind h1 (Ev.bind (ev_toNat a hs) (Ev.bind (ev_toNat b (by omega)) (Ev.bind h2 (ev_if_pos rfl ?_))))))
        refine Ev.bind (ev_toNat a hs) (Ev.bind (ev_eqNat a a (by omega)) ?_)
        simp only [decide_true, if_true]
        refine Ev.bind (ev_toNat b (by omega)) (Ev.bind (ev_eqNat b b (by omega)) ?_)
        simp only [decide_true, if_true]
        exact Ev.now _
      · refine ev_bind0 (szNat_big b _ (by omega) hb (by omega)) (ev_if_pos (by omega) (Ev.now _))
    · refine ev_bind0 (szNat_big a 1048576 (Nat.le_refl _) ha (by omega)) (ev_if_pos (by omega) (Ev.now _))
  exact e.rounds

end Go.Proofs.Ytjfafkjffjgenaa.Pure
