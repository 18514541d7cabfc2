/- The pure statement of the law FnExactNatTrail: at every input that its guards let in the program's answer is the reference's. -/
import Derived.Test.YtjfafkjffjgenaaDoorPFnExactNatTrailx2
import Derived.Test.YtjfafkjffjgenaaDoorLib
import Derived.WalkKit
namespace Go.Proofs.YtjfafkjffjgenaaDoor.Pure
open Go.RowKit Go.Proofs.YtjfafkjffjgenaaDoor.PFnExactNatTrail Go.Proofs.YtjfafkjffjgenaaDoorW.PrintWords Go.Proofs.YtjfafkjffjgenaaDoorW.PrintLast Go.Proofs.YtjfafkjffjgenaaDoor.Lib
set_option linter.unusedVariables false
set_option linter.unusedSimpArgs false

/-! #### NatOk -/
theorem getLast_rd (l : List Int) (h : 0 < l.length) : l.getLast? = some (rd l ((l.length : Int) - 1)) := by
  rw [show (l.length : Int) - 1 = ((l.length - 1 : Nat) : Int) by omega, rd_get _ _ (by omega), List.getLast?_eq_getElem?, List.getElem?_eq_getElem]
theorem ev_spec_NatOk (l : List Int) (hb : l.length ≤ 9000000000000000000) : Ev (fun k => spec_NatOk.f k l) (okB l) := by
  unfold spec_NatOk.f
  by_cases hl : (l.length : Int) > 100
  · refine ev_if_pos hl ?_
    have e : okB l = false := by
      have : ¬ l.length ≤ 100 := by omega
      simp [okB, this]
    rw [e]; exact Ev.now _
  · refine ev_if_neg hl ?_
    have hl' : l.length ≤ 100 := by omega
    have key : ∀ d i : Nat, i + d = l.length → (∀ j, j < i → 0 ≤ l.getD j 0 ∧ l.getD j 0 ≤ 65535) → Ev (fun k => spec_NatOk.l0 k (i : Int) l) (okB l) := by
      intro d
      induction d with
      | zero =>
        intro i hi hj
        refine Ev.step (f := fun _ => some (okB l)) (fun k => ?_) (Ev.now _)
        have hall : l.all (fun x => decide (0 ≤ x) && decide (x ≤ 65535)) = true := by
          rw [List.all_eq_true]
          intro x hx
          obtain ⟨j, hjl, rfl⟩ := List.getElem_of_mem hx
          have := hj j (by omega)
          rw [List.getD_eq_getElem?_getD, List.getElem?_eq_getElem hjl, Option.getD_some] at this
          simp; exact this
        simp only [spec_NatOk.l0]
        rw [if_neg (by omega)]
        by_cases h0 : (l.length : Int) = 0
        · rw [if_pos h0]
          have : l = [] := List.eq_nil_of_length_eq_zero (by omega)
          subst this; rfl
        · rw [if_neg h0, w64 (by omega) (by omega), if_pos (by omega), if_pos (by omega)]
          have hlast := getLast_rd l (by omega)
          have hr := hj (l.length - 1) (by omega)
          rw [← rd_nat, show ((l.length - 1 : Nat) : Int) = (l.length : Int) - 1 by omega] at hr
          simp only [okB, hall, hlast, hl', decide_true, Bool.true_and]
          by_cases hz : rd l ((l.length : Int) - 1) = 0
          · simp [hz]
          · have : rd l ((l.length : Int) - 1) > 0 := by omega
            simp [hz, this]
      | succ d ih =>
        intro i hi hj
        by_cases hx : 0 ≤ rd l (i : Int) ∧ rd l (i : Int) ≤ 65535
        · refine Ev.step (f := fun k => spec_NatOk.l0 k ((i + 1 : Nat) : Int) l) (fun k => ?_) (ih (i + 1) (by omega) ?_)
          · simp only [spec_NatOk.l0]
            rw [if_pos (by omega), if_pos (by omega), if_neg (by omega), if_neg (by omega), w64 (by omega) (by omega)]
            rfl
          · intro j hj'
            by_cases e : j = i
            · subst e; rw [rd_nat] at hx; exact hx
            · exact hj j (by omega)
        · refine Ev.step (f := fun _ => some (okB l)) (fun k => ?_) (Ev.now _)
          have hall : l.all (fun x => decide (0 ≤ x) && decide (x ≤ 65535)) = false := by
            rw [List.all_eq_false]
            rw [rd_get _ _ (by omega)] at hx
            exact ⟨l[i], List.getElem_mem (by omega), by simp; omega⟩
          simp only [spec_NatOk.l0]
          rw [if_pos (by omega), if_pos (by omega)]
          have e : okB l = false := by simp [okB, hall]
          rw [e]
          by_cases h1 : rd l (i : Int) < 0
          · rw [if_pos h1]
          · rw [if_neg h1, if_pos (by omega)]
    exact key l.length 0 (by omega) (fun j hj => by omega)
theorem impl_NatOk_eq (l : List Int) : impl_NatOk.f l = some (okB l) := by
  unfold impl_NatOk.f impl_areAll_int.f
  by_cases hl : (l.length : Int) ≤ 100
  · have hl' : l.length ≤ 100 := by omega
    rw [if_pos hl]
    simp only [Option.bind_some]
    have ep : l.all impl_areAll_int.p = l.all (fun x => decide (0 ≤ x) && decide (x ≤ 65535)) := rfl
    rw [ep]
    by_cases hall : l.all (fun x => decide (0 ≤ x) && decide (x ≤ 65535)) = true
    · rw [if_pos hall]
      by_cases h0 : (l.length : Int) = 0
      · rw [if_pos h0]
        have : l = [] := List.eq_nil_of_length_eq_zero (by omega)
        subst this; rfl
      · rw [if_neg h0, w64 (by omega) (by omega), if_pos (by omega), if_pos (by omega)]
        have hlast := getLast_rd l (by omega)
        simp only [okB, hall, hlast, hl', decide_true, Bool.true_and]
        by_cases hz : rd l ((l.length : Int) - 1) = 0
        · simp [hz]
        · have e1 : (rd l ((l.length : Int) - 1) != 0) = true := by simpa using hz
          have e2 : (some (rd l ((l.length : Int) - 1)) != some 0) = true := by simpa using hz
          rw [e1, e2]
    · rw [if_neg hall]
      simp [okB, hall]
  · rw [if_neg hl]
    have : ¬ l.length ≤ 100 := by omega
    simp [okB, this]

/-! #### Trail -/
theorem spec_l2bit_eq (l : List Int) (h : Limbs l) (i : Nat) (hi : i < 16 * l.length) (hb : l.length ≤ 1000000) : spec_l2bit.f l (i : Int) = some (rd l ((i / 16 : Nat) : Int) / 2 ^ (i % 16) % 2) := by
  have hx := rd_limb h ((i / 16 : Nat) : Int)
  have q : (i : Int) / 16 = ((i / 16 : Nat) : Int) := by omega
  have m : (i : Int) % 16 = ((i % 16 : Nat) : Int) := by omega
  have hp := two_pow_bd (show i % 16 < 16 by omega)
  unfold spec_l2bit.f
  rw [td _ _ (by omega), tm _ _ (by omega), q, m, w64 (by omega) (by omega), if_neg (by omega), if_neg (by omega), if_pos (by omega), if_pos (by omega), if_pos (by omega)]
  rw [shr_in (by omega) (by omega), Int.toNat_natCast]
  have h0 : 0 ≤ rd l ((i / 16 : Nat) : Int) / 2 ^ (i % 16) := Int.ediv_nonneg hx.1 (by omega)
  have h1 : rd l ((i / 16 : Nat) : Int) / 2 ^ (i % 16) ≤ 65535 := Int.le_trans (Int.ediv_le_self _ hx.1) hx.2
  rw [and_1 _ h0 (by omega)]
/-- The lowest bit of a limb, and those below it. -/
theorem ctz_limb (x : Int) (h0 : 1 ≤ x) (h1 : x ≤ 65535) : Go.Lib.ctz 64 x.toNat < 16 ∧ x / 2 ^ (Go.Lib.ctz 64 x.toNat) % 2 = 1 ∧ ∀ t : Nat, t < Go.Lib.ctz 64 x.toNat → x / 2 ^ t % 2 = 0 := by
  obtain ⟨n, rfl⟩ := Int.eq_ofNat_of_zero_le (show 0 ≤ x by omega)
  rw [Int.toNat_natCast]
  have e : Go.Lib.ctz 64 n = Go.Lib.ctzFrom 64 n := by unfold Go.Lib.ctz; rw [if_neg (by omega)]
  obtain ⟨m, hm, hc⟩ := Go.Lib.ctzFrom_spec 64 n (by omega) (by omega)
  rw [e]
  generalize Go.Lib.ctzFrom 64 n = c at *
  have c16 : c < 16 := by
    rcases Nat.lt_or_ge c 16 with h | h
    · exact h
    · have : 2 ^ 16 ≤ 2 ^ c := Nat.pow_le_pow_right (by omega) h
      have : 2 ^ c * 1 ≤ 2 ^ c * (2 * m + 1) := Nat.mul_le_mul_left _ (by omega)
      omega
  refine ⟨c16, ?_, fun t ht => ?_⟩
  · have : n / 2 ^ c = 2 * m + 1 := by rw [hm, Nat.mul_div_cancel_left _ (Nat.two_pow_pos c)]
    have e2 : ((n : Int) / 2 ^ c) = ((n / 2 ^ c : Nat) : Int) := by simp
    rw [e2, this]
    omega
  · have hs : 2 ^ c = 2 ^ t * (2 * 2 ^ (c - t - 1)) := by
      rw [← Nat.pow_succ', ← Nat.pow_add]
      congr 1
      omega
    have : n / 2 ^ t = 2 * (2 ^ (c - t - 1) * (2 * m + 1)) := by
      rw [hm, hs, Nat.mul_assoc, Nat.mul_div_cancel_left _ (Nat.two_pow_pos t), Nat.mul_assoc]
    have e2 : ((n : Int) / 2 ^ t) = ((n / 2 ^ t : Nat) : Int) := by simp
    rw [e2, this]
    omega
/-- Where the first limb stands that is not nought. -/
theorem first_limb (l : List Int) : (∀ i : Nat, i < l.length → rd l (i : Int) = 0) ∨ ∃ j : Nat, j < l.length ∧ rd l (j : Int) ≠ 0 ∧ ∀ i : Nat, i < j → rd l (i : Int) = 0 := by
  induction l with
  | nil => exact .inl (fun i h => by simp at h)
  | cons x l ih =>
    by_cases hx : x = 0
    · rcases ih with h | ⟨j, h1, h2, h3⟩
      · refine .inl (fun i hi => ?_)
        cases i with
        | zero => exact hx
        | succ i => exact h i (by simp at hi; omega)
      · refine .inr ⟨j + 1, by simp; omega, h2, fun i hi => ?_⟩
        cases i with
        | zero => exact hx
        | succ i => exact h3 i (by omega)
    · exact .inr ⟨0, by simp, hx, fun i hi => by omega⟩
theorem trail_agree (l : List Int) (h : Norm l) (hb : l.length ≤ 1000000) : ∃ r : Int, 0 ≤ r ∧ r ≤ 16 * l.length ∧ Ev (fun k => spec_l2trail.f k l) r ∧ Ev (fun k => impl_trailOf.f k l) r := by
  unfold spec_l2trail.f impl_trailOf.f
  have hw : wrap64 (16 * (l.length : Int)) = 16 * (l.length : Int) := w64 (by omega) (by omega)
  rcases first_limb l with hz | ⟨j, hj, hx, hz⟩
  · have hn : l = [] := by
      by_cases e : l = []
      · exact e
      · have hl : 0 < l.length := List.length_pos_iff.2 e
        have t := okB_top h hl
        have := hz (l.length - 1) (by omega)
        rw [show ((l.length - 1 : Nat) : Int) = (l.length : Int) - 1 by omega] at this
        omega
    subst hn
    refine ⟨0, by omega, by simp, ?_, ?_⟩
    · refine Ev.step (fun k => by simp only [spec_l2trail.l0]; rfl) (ev_if_neg (by simp [wrap64]) (Ev.now _))
    · refine Ev.step (fun k => by simp only [impl_trailOf.l0]; rfl) (ev_if_neg (by simp) (Ev.now _))
  · have xb := rd_limb h.1 (j : Int)
    obtain ⟨c16, cb, cl⟩ := ctz_limb (rd l (j : Int)) (by omega) (by omega)
    generalize hc : Go.Lib.ctz 64 (rd l (j : Int)).toNat = c at *
    refine ⟨((16 * j + c : Nat) : Int), by omega, by omega, ?_, ?_⟩
    · have key : ∀ d i : Nat, i + d = 16 * j + c → Ev (fun k => spec_l2trail.l0 k (i : Int) l) ((16 * j + c : Nat) : Int) := by
        intro d
        induction d with
        | zero =>
          intro i hi
          have ei : i = 16 * j + c := by omega
          subst ei
          refine Ev.step (fun k => by simp only [spec_l2trail.l0]; rfl) (ev_if_pos (by rw [hw]; omega) (ev_bind0 (spec_l2bit_eq l h.1 _ (by omega) hb) ?_))
          rw [show (16 * j + c) / 16 = j by omega, show (16 * j + c) % 16 = c by omega]
          exact ev_if_pos cb (Ev.now _)
        | succ d ih =>
          intro i hi
          refine Ev.step (fun k => by simp only [spec_l2trail.l0]; rfl) (ev_if_pos (by rw [hw]; omega) (ev_bind0 (spec_l2bit_eq l h.1 _ (by omega) hb) ?_))
          have z : rd l ((i / 16 : Nat) : Int) / 2 ^ (i % 16) % 2 = 0 := by
            by_cases g : i / 16 < j
            · rw [hz _ g]; simp
            · have : i / 16 = j := by omega
              rw [this]
              exact cl _ (by omega)
          refine ev_if_neg (by rw [z]; omega) ?_
          rw [w64 (by omega) (by omega)]
          exact ih (i + 1) (by omega)
      exact key (16 * j + c) 0 (by omega)
    · have key : ∀ d i : Nat, i + d = j → Ev (fun k => impl_trailOf.l0 k l (l.length : Int) (i : Int)) ((16 * j + c : Nat) : Int) := by
        intro d
        induction d with
        | zero =>
          intro i hi
          have ei : i = j := by omega
          subst ei
          have hu : IntKind.u64.wrap (rd l (i : Int)) = rd l (i : Int) := u64_in (by omega) (by omega)
          have ht : bits_TrailingZeros.f (rd l (i : Int)) = some (c : Int) := by
            unfold bits_TrailingZeros.f bits_TrailingZeros64.f
            rw [if_pos (by omega), hc]; rfl
          refine Ev.step (fun k => by simp only [impl_trailOf.l0]; rfl) (ev_if_pos (by omega) (ev_if_pos (by omega) (ev_if_pos (by omega) (ev_if_neg hx ?_))))
          rw [hu]
          refine ev_bind0 ht ?_
          rw [w64 (x := 16 * (i : Int)) (by omega) (by omega), w64 (by omega) (by omega), show 16 * (i : Int) + (c : Int) = ((16 * i + c : Nat) : Int) by omega]
          exact Ev.now _
        | succ d ih =>
          intro i hi
          refine Ev.step (fun k => by simp only [impl_trailOf.l0]; rfl) (ev_if_pos (by omega) (ev_if_pos (by omega) (ev_if_pos (by omega) (ev_if_pos (hz i (by omega)) ?_))))
          rw [w64 (by omega) (by omega)]
          exact ih (i + 1) (by omega)
      exact key j 0 (by omega)

/-! #### toNat -/
theorem ev_toIntS (l : List Int) (hb : l.length ≤ 1048576) : Ev (fun k => laws_toIntS.f k l) l := by
  unfold laws_toIntS.f
  refine ev_if_pos (by omega) (ev_if_pos (by simp; omega) ?_)
  have key : ∀ d i : Nat, ∀ x : List Int, i + d = l.length → x.length = l.length → x.take i = l.take i → Ev (fun k => laws_toIntS.l0 k l x (i : Int)) l := by
    intro d
    induction d with
    | zero =>
      intro i x hi hx ht
      refine Ev.step (f := fun _ => some l) (fun k => ?_) (Ev.now _)
      simp only [laws_toIntS.l0]
      rw [if_neg (by omega)]
      rw [List.take_of_length_le (by omega), List.take_of_length_le (by omega)] at ht
      rw [ht]
    | succ d ih =>
      intro i x hi hx ht
      refine Ev.step (f := fun k => laws_toIntS.l0 k l (x.set i (rd l (i : Int))) ((i + 1 : Nat) : Int)) (fun k => ?_) (ih (i + 1) _ (by omega) (by simpa using hx) ?_)
      · simp only [laws_toIntS.l0]
        rw [if_pos (by omega), if_pos (by omega), if_pos (by omega), w64 (by omega) (by omega)]
        simp only [Int.toNat_natCast, Int.natCast_add, Int.natCast_one]
      · rw [List.take_succ_eq_append_getElem (by simp; omega), List.take_succ_eq_append_getElem (by omega), rd_get _ _ (by omega)]
        rw [List.take_set_of_le (by omega), ht]
        simp
  exact key l.length 0 _ (by omega) (by simp) (by simp)
theorem ev_toNat (l : List Int) (hb : l.length ≤ 1048576) : Ev (fun k => laws_toNat.f k l) l := by
  unfold laws_toNat.f
  exact Ev.bind (ev_toIntS l hb) (Ev.now _)
theorem szNat_small (l : List Int) (n : Nat) (hn : n ≤ 1048576) (h : l.length ≤ n) : laws_szNat.f l n = some ((n - l.length : Nat) : Int) := by
  unfold laws_szNat.f laws_szIntS.f
  rw [w64 (by omega) (by omega), if_neg (by omega)]
  simp only [Option.bind_some]
  rw [if_neg (by omega)]
  congr 1; omega
theorem szNat_big (l : List Int) (n : Nat) (hn : n ≤ 1048576) (hm : l.length ≤ maxLen) (h : n < l.length) : laws_szNat.f l n = some (-1) := by
  unfold maxLen at hm
  unfold laws_szNat.f laws_szIntS.f
  rw [w64 (by omega) (by omega), if_pos (by omega)]
  rfl

/-! #### eqIntS -/
theorem ev_eqIntS (l0 l1 : List Int) (hb : l0.length ≤ 9000000000000000000) : Ev (fun k => laws_eqIntS.f k l0 l1) (decide (l0 = l1)) := by
  unfold laws_eqIntS.f
  by_cases hl : (l0.length : Int) = (l1.length : Int)
  · refine ev_if_pos hl ?_
    have key : ∀ d i : Nat, i + d = l0.length → l0.take i = l1.take i → Ev (fun k => laws_eqIntS.l0 k l0 l1 (i : Int)) (decide (l0 = l1)) := by
      intro d
      induction d with
      | zero =>
        intro i hi ht
        have he : l0 = l1 := by rw [List.take_of_length_le (by omega), List.take_of_length_le (by omega)] at ht; exact ht
        refine Ev.step (f := fun _ => some (decide (l0 = l1))) (fun k => ?_) (Ev.now _)
        simp only [laws_eqIntS.l0]
        rw [if_neg (by omega)]; simp [he]
      | succ d ih =>
        intro i hi ht
        by_cases he : rd l0 (i : Int) = rd l1 (i : Int)
        · refine Ev.step (f := fun k => laws_eqIntS.l0 k l0 l1 ((i + 1 : Nat) : Int)) (fun k => ?_) (ih (i + 1) (by omega) ?_)
          · simp only [laws_eqIntS.l0]
            rw [if_pos (by omega), if_pos (by omega), if_pos (by omega), if_pos he, w64 (by omega) (by omega)]
            rfl
          · rw [rd_get _ _ (by omega), rd_get _ _ (by omega)] at he
            rw [List.take_succ_eq_append_getElem (by omega), List.take_succ_eq_append_getElem (by omega), ht, he]
        · refine Ev.step (f := fun _ => some (decide (l0 = l1))) (fun k => ?_) (Ev.now _)
          simp only [laws_eqIntS.l0]
          rw [if_pos (by omega), if_pos (by omega), if_pos (by omega), if_neg he]
          have hne : ¬ l0 = l1 := fun e => he (by rw [e])
          simp [hne]
    exact key l0.length 0 (by omega) (by simp)
  · refine ev_if_neg hl ?_
    have hne : ¬ l0 = l1 := fun e => hl (by rw [e])
    have e : (fun _ : Nat => some false) = fun _ : Nat => some (decide (l0 = l1)) := by simp [hne]
    rw [e]; exact Ev.now _

/-! #### eqNat -/
theorem ev_eqNat (l0 l1 : List Int) (hb : l0.length ≤ 9000000000000000000) : Ev (fun k => laws_eqNat.f k l0 l1) (decide (l0 = l1)) := by
  unfold laws_eqNat.f
  refine Ev.bind (ev_eqIntS l0 l1 hb) ?_
  by_cases h : l0 = l1
  · simp only [h, decide_true, if_true]; exact Ev.now _
  · simp only [h, decide_false]; exact Ev.now _

/-! #### law_FnExactNatTrail -/
theorem FnExactNatTrail : laws_FnExactNatTrail.Pure := by
  intro l hm hw
  have e : Ev (fun k => laws_FnExactNatTrail.f k l) true := by
    unfold laws_FnExactNatTrail.f
    by_cases hs : l.length ≤ 1048576
    · refine ev_bind0 (szNat_small l 1048576 (Nat.le_refl _) hs) (ev_if_neg (by omega) ?_)
      have main : ∃ r : Int, Ev (fun k => spec_NatTrail.f k l) r ∧ Ev (fun k => impl_NatTrail.f k l) r := by
        by_cases h : okB l = true
        · have hk := (okB_iff l).1 h
          obtain ⟨r, _, _, h1, h2⟩ := trail_agree l hk.2 (by omega)
          refine ⟨r, ?_, ?_⟩
          · unfold spec_NatTrail.f
            exact Ev.bind (ev_spec_NatOk l (by omega)) (ev_if_pos h (Ev.bind h1 (Ev.now _)))
          · unfold impl_NatTrail.f
            exact ev_bind0 (impl_NatOk_eq l) (ev_if_pos h (Ev.bind h2 (Ev.now _)))
        · refine ⟨0, ?_, ?_⟩
          · unfold spec_NatTrail.f
            exact Ev.bind (ev_spec_NatOk l (by omega)) (ev_if_neg h (Ev.now _))
          · unfold impl_NatTrail.f
            exact ev_bind0 (impl_NatOk_eq l) (ev_if_neg h (Ev.now _))
      obtain ⟨r, h1, h2⟩ := main
      refine Ev.bind (ev_toNat l hs) (Ev.bind h1 (Ev.bind (ev_toNat l hs) (Ev.bind h2 (ev_if_pos rfl ?_))))
      refine Ev.bind (ev_toNat l hs) (Ev.bind (ev_eqNat l l (by omega)) ?_)
      simp only [decide_true, if_true]
      exact Ev.now _
    · refine ev_bind0 (szNat_big l 1048576 (Nat.le_refl _) hm (by omega)) (ev_if_pos (by omega) (Ev.now _))
  exact e.rounds

end Go.Proofs.YtjfafkjffjgenaaDoor.Pure
