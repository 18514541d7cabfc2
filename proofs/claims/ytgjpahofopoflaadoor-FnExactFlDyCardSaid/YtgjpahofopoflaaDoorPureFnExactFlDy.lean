/- The pure statement of the law FnExactFlDy: at every input that its guards let in the program's answer is the reference's. -/
import Derived.Test.YtgjpahofopoflaaDoorPFnExactFlDyx7
import Derived.Test.YtgjpahofopoflaaDoorLib
import Derived.WalkKit
namespace Go.Proofs.YtgjpahofopoflaaDoor.Pure
open Go.RowKit Go.Proofs.YtgjpahofopoflaaDoor.PFnExactFlDy Go.Proofs.YtgjpahofopoflaaDoorW.PrintWords Go.Proofs.YtgjpahofopoflaaDoorW.PrintLast Go.Proofs.YtgjpahofopoflaaDoor.Lib
set_option linter.unusedVariables false
set_option linter.unusedSimpArgs false

/-! #### within -/
theorem within_eq (a b c : Int) : impl_within.f a b c = some (decide (b ≤ a ∧ a ≤ c)) := by
  unfold impl_within.f
  by_cases h : b ≤ a <;> simp [h]

/-! #### FlOk -/
/-- Is a float valid? -/
def flOkB (k : Int) (s : Bool) (m e : Int) : Bool :=
  if k = 1 then decide (-1074 ≤ e ∧ e ≤ 971 ∧ 1 ≤ m ∧ m ≤ 9007199254740991 ∧ (4503599627370496 ≤ m ∨ e = -1074))
  else if k = 0 ∨ k = 2 then decide (m = 0 ∧ e = 0) else decide (k = 3 ∧ m = 0 ∧ e = 0 ∧ s = false)
theorem spec_FlOk_1 (k : Int) (s : Bool) (m e : Int) : spec_FlOk.f 1 k s m e = some (flOkB k s m e) := by
  unfold spec_FlOk.f flOkB
  simp only [spec_FlOk.j0]
  by_cases k1 : k = 1
  · subst k1
    simp only [Int.reduceEq, if_false, if_true, Int.reduceBEq, Bool.false_eq_true]
    by_cases h1 : e < -1074
    · rw [if_pos h1]; simp; omega
    rw [if_neg h1]
    by_cases h2 : e > 971
    · rw [if_pos h2]; simp; omega
    rw [if_neg h2]
    by_cases h3 : m < 1
    · rw [if_pos h3]; simp; omega
    rw [if_neg h3]
    by_cases h4 : m ≥ 9007199254740992
    · rw [if_pos h4]; simp; omega
    rw [if_neg h4]
    by_cases h5 : m ≥ 4503599627370496
    · rw [if_pos h5]; simp; omega
    rw [if_neg h5]
    by_cases h6 : e = -1074
    · subst h6; simp; omega
    · rw [show (e == -1074) = false from by simpa using h6]; simp; omega
  · rw [if_neg k1]
    by_cases k0 : k = 0
    · subst k0
      by_cases hm : m = 0 <;> by_cases he : e = 0 <;> simp [hm, he]
    · rw [if_neg k0]
      by_cases k2 : k = 2
      · subst k2
        by_cases hm : m = 0 <;> by_cases he : e = 0 <;> simp [hm, he]
      · by_cases k3 : k = 3
        · subst k3
          by_cases hm : m = 0 <;> by_cases he : e = 0 <;> cases s <;> simp [hm, he]
        · simp [k0, k1, k2, k3]
theorem impl_FlOk_eq (k : Int) (s : Bool) (m e : Int) : impl_FlOk.f k s m e = some (flOkB k s m e) := by
  unfold impl_FlOk.f flOkB
  simp only [within_eq, Option.bind_some, decide_eq_true_eq]
  by_cases k1 : k = 1
  · rw [if_pos k1, if_pos k1]
    by_cases h1 : -1074 ≤ e ∧ e ≤ 971
    · rw [if_pos h1]
      by_cases h2 : 4503599627370496 ≤ m ∧ m ≤ 9007199254740991
      · rw [if_pos h2]; simp; omega
      · rw [if_neg h2]
        by_cases h3 : 1 ≤ m ∧ m ≤ 4503599627370495
        · rw [if_pos h3]
          by_cases h6 : e = -1074
          · subst h6; simp; omega
          · rw [show (e == -1074) = false from by simpa using h6]; simp; omega
        · rw [if_neg h3]; simp; omega
    · rw [if_neg h1]; simp; omega
  · rw [if_neg k1, if_neg k1]
    by_cases k0 : k = 0
    · subst k0
      by_cases hm : m = 0 <;> by_cases he : e = 0 <;> simp [hm, he]
    · rw [if_neg k0]
      by_cases k2 : k = 2
      · subst k2
        by_cases hm : m = 0 <;> by_cases he : e = 0 <;> simp [hm, he]
      · rw [if_neg k2]
        by_cases k3 : k = 3
        · subst k3
          by_cases hm : m = 0 <;> by_cases he : e = 0 <;> cases s <;> simp [hm, he]
        · simp [k0, k2, k3]
theorem ev_spec_FlOk (k : Int) (s : Bool) (m e : Int) : Ev (fun n => spec_FlOk.f n k s m e) (flOkB k s m e) := Ev.of (fun n => spec_FlOk.mono k s m e n) (spec_FlOk_1 k s m e)

/-! #### FlOkM -/
theorem flOk_num {s : Bool} {m e : Int} (h : flOkB 1 s m e = true) : -1074 ≤ e ∧ e ≤ 971 ∧ 1 ≤ m ∧ m ≤ 9007199254740991 ∧ (4503599627370496 ≤ m ∨ e = -1074) := by
  simpa [flOkB] using h
theorem flOk_kind {k : Int} {s : Bool} {m e : Int} (h : flOkB k s m e = true) : k = 0 ∨ k = 1 ∨ k = 2 ∨ k = 3 := by
  unfold flOkB at h
  by_cases k1 : k = 1
  · exact .inr (.inl k1)
  rw [if_neg k1] at h
  by_cases k2 : k = 0 ∨ k = 2
  · omega
  rw [if_neg k2] at h
  simp at h; omega
theorem flOk_zero {k : Int} {s : Bool} {m e : Int} (h : flOkB k s m e = true) (hk : k ≠ 1) : m = 0 ∧ e = 0 ∧ (k = 3 → s = false) := by
  unfold flOkB at h
  rw [if_neg hk] at h
  by_cases k2 : k = 0 ∨ k = 2
  · rw [if_pos k2] at h
    simp at h
    exact ⟨h.1, h.2, fun e => by omega⟩
  rw [if_neg k2] at h
  simp at h
  exact ⟨h.2.1, h.2.2.1, fun _ => h.2.2.2⟩

/-! #### ctz -/
/-- The lowest bit of a limb, and those below it. -/
theorem ctz_limb (x : Int) (h0 : 1 ≤ x) (h1 : x ≤ 65535) : Go.Lib.ctz 64 x.toNat < 16 ∧ x / 2 ^ (Go.Lib.ctz 64 x.toNat) % 2 = 1 ∧ ∀ t : Nat, t < Go.Lib.ctz 64 x.toNat → x / 2 ^ t % 2 = 0 := by
  obtain ⟨n, rfl⟩ := Int.eq_ofNat_of_zero_le (show 0 ≤ x by omega)
  rw [Int.toNat_natCast]
  have e : Go.Lib.ctz 64 n = Go.Lib.ctzFrom 64 n := by unfold Go.Lib.ctz; rw [if_neg (by omega)]
  obtain ⟨m, hm, hc⟩ := Go.Lib.ctzFrom_spec 64 n (by omega) (by omega)
  rw [e]
  generalize Go.Lib.ctzFrom 64 n = c at *
  have c16 : c < 16 := by
    rcases Nat.lt_or_ge c 16 with h | h
    · exact h
    · have : 2 ^ 16 ≤ 2 ^ c := Nat.pow_le_pow_right (by omega) h
      have : 2 ^ c * 1 ≤ 2 ^ c * (2 * m + 1) := Nat.mul_le_mul_left _ (by omega)
      omega
  refine ⟨c16, ?_, fun t ht => ?_⟩
  · have : n / 2 ^ c = 2 * m + 1 := by rw [hm, Nat.mul_div_cancel_left _ (Nat.two_pow_pos c)]
    have e2 : ((n : Int) / 2 ^ c) = ((n / 2 ^ c : Nat) : Int) := by simp
    rw [e2, this]
    omega
  · have hs : 2 ^ c = 2 ^ t * (2 * 2 ^ (c - t - 1)) := by
      rw [← Nat.pow_succ', ← Nat.pow_add]
      congr 1
      omega
    have : n / 2 ^ t = 2 * (2 ^ (c - t - 1) * (2 * m + 1)) := by
      rw [hm, hs, Nat.mul_assoc, Nat.mul_div_cancel_left _ (Nat.two_pow_pos t), Nat.mul_assoc]
    have e2 : ((n : Int) / 2 ^ t) = ((n / 2 ^ t : Nat) : Int) := by simp
    rw [e2, this]
    omega

/-! #### Trail -/
theorem spec_l2bit_eq (l : List Int) (h : Limbs l) (i : Nat) (hi : i < 16 * l.length) (hb : l.length ≤ 1000000) : spec_l2bit.f l (i : Int) = some (rd l ((i / 16 : Nat) : Int) / 2 ^ (i % 16) % 2) := by
  have hx := rd_limb h ((i / 16 : Nat) : Int)
  have q : (i : Int) / 16 = ((i / 16 : Nat) : Int) := by omega
  have m : (i : Int) % 16 = ((i % 16 : Nat) : Int) := by omega
  have hp := two_pow_bd (show i % 16 < 16 by omega)
  unfold spec_l2bit.f
  rw [td _ _ (by omega), tm _ _ (by omega), q, m, w64 (by omega) (by omega), if_neg (by omega), if_neg (by omega), if_pos (by omega), if_pos (by omega), if_pos (by omega)]
  rw [shr_in (by omega) (by omega), Int.toNat_natCast]
  have h0 : 0 ≤ rd l ((i / 16 : Nat) : Int) / 2 ^ (i % 16) := Int.ediv_nonneg hx.1 (by omega)
  have h1 : rd l ((i / 16 : Nat) : Int) / 2 ^ (i % 16) ≤ 65535 := Int.le_trans (Int.ediv_le_self _ hx.1) hx.2
  rw [and_1 _ h0 (by omega)]
/-- Where the first limb stands that is not nought. -/
theorem first_limb (l : List Int) : (∀ i : Nat, i < l.length → rd l (i : Int) = 0) ∨ ∃ j : Nat, j < l.length ∧ rd l (j : Int) ≠ 0 ∧ ∀ i : Nat, i < j → rd l (i : Int) = 0 := by
  induction l with
  | nil => exact .inl (fun i h => by simp at h)
  | cons x l ih =>
    by_cases hx : x = 0
    · rcases ih with h | ⟨j, h1, h2, h3⟩
      · refine .inl (fun i hi => ?_)
        cases i with
        | zero => exact hx
        | succ i => exact h i (by simp at hi; omega)
      · refine .inr ⟨j + 1, by simp; omega, h2, fun i hi => ?_⟩
        cases i with
        | zero => exact hx
        | succ i => exact h3 i (by omega)
    · exact .inr ⟨0, by simp, hx, fun i hi => by omega⟩
/-- The lowest limb that is not nought, and the trailing bits: the number shifted by them is odd. -/
theorem shr_odd (l : List Int) (h : Limbs l) (j c : Nat) (hj : j < l.length) (hc : c < 16) (hb : rd l (j : Int) / 2 ^ c % 2 = 1) : shrI l ((16 * j + c : Nat) : Int) % 2 = 1 := by
  have e1 : (((16 * j + c : Nat) : Int) / 16).toNat = j := by omega
  have e2 : (((16 * j + c : Nat) : Int) % 16).toNat = c := by omega
  unfold shrI
  rw [e1, e2, val_drop_at hj]
  have hx := rd_limb h (j : Int)
  generalize rd l (j : Int) = x at *
  generalize val (l.drop (j + 1)) = v at *
  rcases r16 hc with e | e | e | e | e | e | e | e | e | e | e | e | e | e | e | e <;> subst e <;> simp only [Int.reducePow] at hb ⊢ <;> omega
theorem trail_agree (l : List Int) (h : Norm l) (hb : l.length ≤ 1000000) : ∃ r : Int, 0 ≤ r ∧ r ≤ 16 * l.length ∧ (l ≠ [] → shrI l r % 2 = 1) ∧ Ev (fun k => spec_l2trail.f k l) r ∧ Ev (fun k => impl_trailOf.f k l) r := by
  unfold spec_l2trail.f impl_trailOf.f
  have hw : wrap64 (16 * (l.length : Int)) = 16 * (l.length : Int) := w64 (by omega) (by omega)
  rcases first_limb l with hz | ⟨j, hj, hx, hz⟩
  · have hn : l = [] := by
      by_cases e : l = []
      · exact e
      · have hl : 0 < l.length := List.length_pos_iff.2 e
        have t := okB_top h hl
        have := hz (l.length - 1) (by omega)
        rw [show ((l.length - 1 : Nat) : Int) = (l.length : Int) - 1 by omega] at this
        omega
    subst hn
    refine ⟨0, by omega, by simp, fun z => absurd rfl z, ?_, ?_⟩
    · refine Ev.step (fun k => by simp only [spec_l2trail.l0]; rfl) (ev_if_neg (by simp [wrap64]) (Ev.now _))
    · refine Ev.step (fun k => by simp only [impl_trailOf.l0]; rfl) (ev_if_neg (by simp) (Ev.now _))
  · have xb := rd_limb h.1 (j : Int)
    obtain ⟨c16, cb, cl⟩ := ctz_limb (rd l (j : Int)) (by omega) (by omega)
    generalize hc : Go.Lib.ctz 64 (rd l (j : Int)).toNat = c at *
    refine ⟨((16 * j + c : Nat) : Int), by omega, by omega, fun _ => shr_odd l h.1 j c hj c16 cb, ?_, ?_⟩
    · have key : ∀ d i : Nat, i + d = 16 * j + c → Ev (fun k => spec_l2trail.l0 k (i : Int) l) ((16 * j + c : Nat) : Int) := by
        intro d
        induction d with
        | zero =>
          intro i hi
          have ei : i = 16 * j + c := by omega
          subst ei
          refine Ev.step (fun k => by simp only [spec_l2trail.l0]; rfl) (ev_if_pos (by rw [hw]; omega) (ev_bind0 (spec_l2bit_eq l h.1 _ (by omega) hb) ?_))
          rw [show (16 * j + c) / 16 = j by omega, show (16 * j + c) % 16 = c by omega]
          exact ev_if_pos cb (Ev.now _)
        | succ d ih =>
          intro i hi
          refine Ev.step (fun k => by simp only [spec_l2trail.l0]; rfl) (ev_if_pos (by rw [hw]; omega) (ev_bind0 (spec_l2bit_eq l h.1 _ (by omega) hb) ?_))
          have z : rd l ((i / 16 : Nat) : Int) / 2 ^ (i % 16) % 2 = 0 := by
            by_cases g : i / 16 < j
            · rw [hz _ g]; simp
            · have : i / 16 = j := by omega
              rw [this]
              exact cl _ (by omega)
          refine ev_if_neg (by rw [z]; omega) ?_
          rw [w64 (by omega) (by omega)]
          exact ih (i + 1) (by omega)
      exact key (16 * j + c) 0 (by omega)
    · have key : ∀ d i : Nat, i + d = j → Ev (fun k => impl_trailOf.l0 k l (l.length : Int) (i : Int)) ((16 * j + c : Nat) : Int) := by
        intro d
        induction d with
        | zero =>
          intro i hi
          have ei : i = j := by omega
          subst ei
          have hu : IntKind.u64.wrap (rd l (i : Int)) = rd l (i : Int) := u64_in (by omega) (by omega)
          have ht : bits_TrailingZeros.f (rd l (i : Int)) = some (c : Int) := by
            unfold bits_TrailingZeros.f bits_TrailingZeros64.f
            rw [if_pos (by omega), hc]; rfl
          refine Ev.step (fun k => by simp only [impl_trailOf.l0]; rfl) (ev_if_pos (by omega) (ev_if_pos (by omega) (ev_if_pos (by omega) (ev_if_neg hx ?_))))
          rw [hu]
          refine ev_bind0 ht ?_
          rw [w64 (x := 16 * (i : Int)) (by omega) (by omega), w64 (by omega) (by omega), show 16 * (i : Int) + (c : Int) = ((16 * i + c : Nat) : Int) by omega]
          exact Ev.now _
        | succ d ih =>
          intro i hi
          refine Ev.step (fun k => by simp only [impl_trailOf.l0]; rfl) (ev_if_pos (by omega) (ev_if_pos (by omega) (ev_if_pos (by omega) (ev_if_pos (hz i (by omega)) ?_))))
          rw [w64 (by omega) (by omega)]
          exact ih (i + 1) (by omega)
      exact key j 0 (by omega)

/-! #### l2norm -/
theorem ev_spec_l2norm (l : List Int) (hb : l.length ≤ 1000000000) : Ev (fun k => spec_l2norm.f k l) (strip l) := by
  unfold spec_l2norm.f
  have key : ∀ n : Nat, n ≤ l.length → strip (l.take n) = strip l → Ev (fun k => spec_l2norm.l0 k l (n : Int)) (strip l) := by
    intro n
    induction n with
    | zero =>
      intro _ hs
      refine Ev.step (f := fun _ => some (strip l)) (fun k => ?_) (Ev.now _)
      simp only [spec_l2norm.l0, Option.bind_some]
      rw [if_neg (by omega), if_pos (by omega), if_pos (by omega), if_pos (by simp)]
      simpa [strip] using hs
    | succ n ih =>
      intro hn hs
      by_cases h0 : l[n] = 0
      · refine Ev.step (f := fun k => spec_l2norm.l0 k l (n : Int)) (fun k => ?_) (ih (by omega) ?_)
        · simp only [spec_l2norm.l0]
          rw [show ((n + 1 : Nat) : Int) - 1 = (n : Int) by omega, w64 (x := (n : Int)) (by omega) (by omega), if_pos (by omega), if_pos (by omega), if_pos (by omega), rd_get _ _ (by omega), if_pos h0]
        · rw [← hs, strip_take_zero (by omega) h0]
      · refine Ev.step (f := fun _ => some (strip l)) (fun k => ?_) (Ev.now _)
        simp only [spec_l2norm.l0, Option.bind_some]
        rw [show ((n + 1 : Nat) : Int) - 1 = (n : Int) by omega, w64 (x := (n : Int)) (by omega) (by omega), if_pos (by omega), if_pos (by omega), if_pos (by omega), rd_get _ _ (by omega), if_neg h0, if_pos (by omega), if_pos (by omega), if_pos (by simp; omega)]
        rw [← hs, strip_take_ne (by omega) h0]
        simp
  have := key l.length (Nat.le_refl _) (by simp)
  exact this

/-! #### small2 -/
theorem ev_spec_l2small (a : List Int) (D : Int) (ha : Limbs a) (hb : a.length ≤ 1000000) (hD : 1 ≤ D) (hD2 : D ≤ 65536) :
    ∃ q : List Int, Ev (fun k => spec_l2small.f k a D) (q, val a % D) ∧ Norm q ∧ val q = val a / D ∧ q.length ≤ a.length := by
  unfold spec_l2small.f
  have key : ∀ d : Nat, d ≤ a.length → ∀ (x : List Int) (r : Int), x.length = a.length → Limbs x → 0 ≤ r → r < D → val (a.drop d) = val (x.drop d) * D + r →
      ∃ q : List Int, Ev (fun k => spec_l2small.l0 k D x r ((d : Int) - 1) a) (q, val a % D) ∧ Norm q ∧ val q = val a / D ∧ q.length ≤ a.length := by
    intro d
    induction d with
    | zero =>
      intro _ x r hx hl h0 h1 hv
      simp only [List.drop_zero] at hv
      obtain ⟨e1, e2⟩ := div_unique hD hv h0 h1
      refine ⟨strip x, ?_, strip_norm hl, by rw [val_strip]; exact e1, by have := strip_len x; omega⟩
      have hn := ev_spec_l2norm x (by omega)
      refine Ev.step (f := fun k => (spec_l2norm.f k x).bind fun t => some (t, r)) (fun k => ?_) ?_
      · simp only [spec_l2small.l0]
        rw [if_neg (by omega)]
      · rw [← e2]; exact Ev.bind hn (Ev.now _)
    | succ d ih =>
      intro hd x r hx hl h0 h1 hv
      have hy := rd_limb ha (d : Int)
      have hdg := small_digit D r (rd a (d : Int)) hD h0 h1 hy.1 hy.2
      have hm0 := Int.emod_nonneg (r * 65536 + rd a (d : Int)) (show D ≠ 0 by omega)
      have hm1 := Int.emod_lt_of_pos (r * 65536 + rd a (d : Int)) (show 0 < D by omega)
      obtain ⟨q, hq, hrest⟩ := ih (by omega) (x.set d ((r * 65536 + rd a (d : Int)) / D)) ((r * 65536 + rd a (d : Int)) % D) (by simpa using hx) (hl.set d hdg.1 hdg.2) hm0 hm1 (by
        rw [val_set_drop _ _ _ (by omega), val_drop_at (by omega)]
        exact small_step D r _ _ _ hD hv)
      refine ⟨q, Ev.step (fun k => ?_) hq, hrest⟩
      simp only [spec_l2small.l0]
      rw [show ((d + 1 : Nat) : Int) - 1 = (d : Int) by omega]
      rw [if_pos (by omega), if_pos (by omega), if_pos (by omega), if_neg (by omega), if_pos (by omega), w64 (x := r * 65536) (by omega) (by omega), w64 (x := r * 65536 + rd a (d : Int)) (by omega) (by omega), td _ _ (by omega), tm _ _ (by omega), w64 (by omega) (by omega), w64 (by omega) (by omega), Int.toNat_natCast]
  obtain ⟨q, hq, h2⟩ := key a.length (Nat.le_refl _) (List.replicate a.length 0) 0 (by simp) (Limbs.zeros _) (by omega) (by omega) (by rw [List.drop_length]; simp [val])
  refine ⟨q, ?_, h2⟩
  refine ev_if_pos (by omega) (ev_if_pos (by omega) ?_)
  rw [w64 (by omega) (by omega), Int.toNat_natCast]
  exact hq

/-! #### l2shr -/
theorem ev_spec_l2shr (a : List Int) (k : Int) (ha : Limbs a) (hb : a.length ≤ 1000000) (h0 : 0 ≤ k) (h1 : k ≤ 9223372036854775807) :
    ∃ q : List Int, Ev (fun n => spec_l2shr.f n a k) q ∧ Norm q ∧ val q = shrI a k ∧ q.length ≤ a.length := by
  unfold spec_l2shr.f shrI
  rw [td _ _ h0, tm _ _ h0, w64 (x := k / 16) (by omega) (by omega)]
  by_cases hl : k / 16 ≥ (a.length : Int)
  · refine ⟨[], ev_if_pos hl (Ev.now _), Norm.nil, ?_, by simp⟩
    rw [List.drop_eq_nil_of_le (by omega)]; simp [val]
  · have hp := two_pow_bd (show (k % 16).toNat < 16 by omega)
    obtain ⟨q, hq, h2, h3, h4⟩ := ev_spec_l2small (a.drop (k / 16).toNat) (2 ^ (k % 16).toNat) (ha.drop _) (by simp; omega) hp.1 (by omega)
    refine ⟨q, ?_, h2, h3, by simp at h4; omega⟩
    refine ev_if_neg hl (ev_if_pos (by omega) (ev_if_pos (by omega) (ev_if_pos (by omega) ?_)))
    have e : shl .i64 1 (k % 16) = 2 ^ (k % 16).toNat := by rw [shl_in (by omega) (by omega) (by omega) (by omega)]; omega
    rw [e]
    exact Ev.bind hq (Ev.now _)

/-! #### trim -/
theorem ev_impl_trim (l : List Int) (hb : l.length ≤ 1000000000) : Ev (fun k => impl_trim.f k l) (strip l) := by
  unfold impl_trim.f
  have key : ∀ n : Nat, n ≤ l.length → strip (l.take n) = strip l → Ev (fun k => impl_trim.l0 k (l.take n)) (strip l) := by
    intro n
    induction n with
    | zero =>
      intro _ hs
      refine Ev.step (f := fun _ => some (strip l)) (fun k => ?_) (Ev.now _)
      simp only [impl_trim.l0]
      rw [if_neg (by simp)]
      simpa [strip] using hs
    | succ n ih =>
      intro hn hs
      have hlen : (l.take (n + 1)).length = n + 1 := by simp; omega
      have hrd : rd (l.take (n + 1)) (n : Int) = l[n] := by
        rw [rd_get _ _ (by omega)]; simp
      by_cases h0 : l[n] = 0
      · refine Ev.step (f := fun k => impl_trim.l0 k (l.take n)) (fun k => ?_) (ih (by omega) ?_)
        · simp only [impl_trim.l0]
          rw [hlen, show ((n + 1 : Nat) : Int) - 1 = (n : Int) by omega, w64 (x := (n : Int)) (by omega) (by omega), if_pos (by omega), if_pos (by omega), if_pos (by omega), hrd, if_pos h0, if_pos (by omega)]
          rw [Int.toNat_natCast, List.take_take, Nat.min_eq_left (by omega)]
        · rw [← hs, strip_take_zero (by omega) h0]
      · refine Ev.step (f := fun _ => some (strip l)) (fun k => ?_) (Ev.now _)
        simp only [impl_trim.l0]
        rw [hlen, show ((n + 1 : Nat) : Int) - 1 = (n : Int) by omega, w64 (x := (n : Int)) (by omega) (by omega), if_pos (by omega), if_pos (by omega), if_pos (by omega), hrd, if_neg h0]
        rw [← hs, strip_take_ne (by omega) h0]
  have := key l.length (Nat.le_refl _) (by simp)
  rw [List.take_length] at this
  exact this

/-! #### down -/
theorem ev_impl_down (a : List Int) (k : Int) (ha : Limbs a) (hb : a.length ≤ 1000000) (h0 : 0 ≤ k) (h1 : k ≤ 9223372036854775807) :
    ∃ q : List Int, Ev (fun n => impl_down.f n a k) q ∧ Norm q ∧ val q = shrI a k ∧ q.length ≤ a.length := by
  unfold impl_down.f shrI
  rw [td _ _ h0, w64 (x := k / 16) (by omega) (by omega)]
  by_cases hl : k / 16 ≥ (a.length : Int)
  · refine ⟨[], ev_if_pos hl (Ev.now _), Norm.nil, ?_, by simp⟩
    rw [List.drop_eq_nil_of_le (by omega)]; simp [val]
  · have hr : (k % 16).toNat < 16 := by omega
    have hw := ha.drop (k / 16).toNat
    have hlen : (a.drop (k / 16).toNat).length ≤ a.length := by simp
    generalize a.drop (k / 16).toNat = w at *
    refine ⟨strip (dnl (k % 16).toNat w), ?_, strip_norm (dnl_limbs _ _), by rw [val_strip, dnl_val hr hw], by have := strip_len (dnl (k % 16).toNat w); rw [dnl_length] at this; omega⟩
    refine ev_if_neg hl (ev_if_pos (by omega) (ev_if_pos (by omega) (ev_if_pos (by omega) (ev_if_pos (by omega) ?_))))
    have key : ∀ d i : Nat, i + d = w.length → ∀ out : List Int, out.length = i → Ev (fun n => impl_down.l0 n k w out w (w.length : Int) (i : Int)) (strip (out ++ dnl (k % 16).toNat (w.drop i))) := by
      intro d
      induction d with
      | zero =>
        intro i hi out ho
        refine Ev.step (f := fun n => (impl_trim.f n out).bind fun t => some t) (fun n => ?_) ?_
        · simp only [impl_down.l0]
          rw [if_neg (by omega)]
        · rw [List.drop_eq_nil_of_le (by omega)]
          simp only [dnl, List.append_nil]
          exact Ev.bind (ev_impl_trim out (by omega)) (Ev.now _)
      | succ d ih =>
        intro i hi out ho
        have hx := rd_limb hw (i : Int)
        have hy := rd_limb hw ((i + 1 : Nat) : Int)
        have hp := two_pow_bd hr
        have e1 : w.drop i = rd w (i : Int) :: w.drop (i + 1) := by rw [List.drop_eq_getElem_cons (by omega), rd_get _ _ (by omega)]
        have e2 : out ++ dnl (k % 16).toNat (w.drop i) = (out ++ [(rd w (i : Int) + 65536 * rd w ((i + 1 : Nat) : Int)) / 2 ^ (k % 16).toNat % 65536]) ++ dnl (k % 16).toNat (w.drop (i + 1)) := by
          rw [e1]; simp only [dnl, headD_drop, List.append_assoc, List.singleton_append]
        rw [e2]
        refine Ev.step (fun n => ?_) (ih (i + 1) (by omega) _ (by simp; omega))
        simp only [impl_down.l0]
        rw [tm _ _ h0, w64 (x := (i : Int) + 1) (by omega) (by omega), if_pos (by omega), if_pos (by omega), if_pos (by omega)]
        have hn : 0 ≤ (rd w (i : Int) + 65536 * rd w ((i + 1 : Nat) : Int)) / 2 ^ (k % 16).toNat := Int.ediv_nonneg (by omega) (by omega)
        have c1 : ((i + 1 : Nat) : Int) = (i : Int) + 1 := by omega
        by_cases hlast : (i : Int) + 1 < (w.length : Int)
        · rw [if_pos hlast, if_pos (by omega), if_pos (by omega), if_pos (by omega)]
          rw [c1] at hy hn ⊢
          rw [w64 (x := rd w ((i : Int) + 1) * 65536) (by omega) (by omega), Int.mul_comm (rd w ((i : Int) + 1)) 65536, w64 (by omega) (by omega), shr_in (by omega) (by omega), tm _ _ hn]
        · rw [if_neg hlast, if_pos (by omega), if_pos (by omega)]
          have z : rd w ((i + 1 : Nat) : Int) = 0 := rd_out w (i + 1) (by omega)
          rw [z] at hn ⊢
          rw [shr_in (by omega) (by omega), show rd w (i : Int) + 65536 * 0 = rd w (i : Int) by omega] 
          rw [show rd w (i : Int) + 65536 * 0 = rd w (i : Int) by omega] at hn
          rw [tm _ _ hn, c1]
    have := key w.length 0 (by omega) [] rfl
    simpa using this

/-! #### l3make -/
theorem ev_spec_l3make (s : Bool) (l : List Int) (h : Norm l) (hb : l.length ≤ 1000000) : Ev (fun n => spec_l3make.f n s l) (s && !l.isEmpty, l) := by
  unfold spec_l3make.f
  have e := ev_spec_l2norm l (by omega)
  rw [strip_of_norm h] at e
  cases s
  · simp only [Bool.false_eq_true, if_false]
    exact Ev.bind e (Ev.now _)
  · simp only [if_true]
    refine Ev.bind e ?_
    cases l
    · exact Ev.now _
    · simp; exact Ev.now _

/-! #### natOf -/
theorem impl_natOf_eq (l : List Int) : impl_natOf.f l = some (if l.length ≤ 100 then (l, true) else ([], false)) := by
  unfold impl_natOf.f slices_Clone_int_int.f
  by_cases h : l.length ≤ 100
  · rw [if_neg (by omega), if_pos (by omega), if_pos h]; rfl
  · rw [if_pos (by omega), if_neg h]

/-! #### wholeOf -/
theorem impl_wholeOf_eq (s : Bool) (l : List Int) (hb : l.length ≤ 100) : impl_wholeOf.f s l = some (s && !l.isEmpty, l, true) := by
  unfold impl_wholeOf.f
  rw [impl_natOf_eq, if_pos hb]
  simp only [Option.bind_some, if_true]
  cases s
  · simp
  · cases l <;> simp
theorem impl_wholeOf_long (s : Bool) (l : List Int) (hb : ¬ l.length ≤ 100) : impl_wholeOf.f s l = some (false, [], false) := by
  unfold impl_wholeOf.f
  rw [impl_natOf_eq, if_neg hb]
  rfl

/-! #### wDef -/
/-- Is an integer valid? -/
def wOkB (s : Bool) (l : List Int) : Bool := okB l && !(s && l.isEmpty)
theorem wOkB_nat {s : Bool} {l : List Int} (h : wOkB s l = true) : l.length ≤ 100 ∧ Norm l := by
  unfold wOkB at h
  rw [Bool.and_eq_true] at h
  exact (okB_iff l).1 h.1

/-! #### dyDef -/
/-- The lowest bit. -/
def bit0 (l : List Int) : Int := l.headD 0 % 2
/-- Is a dyadic number valid? -/
def dyOkB (s : Bool) (l : List Int) (e : Int) : Bool := wOkB s l && decide (-3000 ≤ e ∧ e ≤ 3000) && (if l = [] then decide (e = 0) else decide (bit0 l = 1))
theorem rd_zero_cons (x : Int) (l : List Int) : rd (x :: l) 0 = x := rfl

/-! #### dyImpl -/
/-- What 'dy' answers of a number in its one form. -/
def fitsV (t : Bool) (q : List Int) (z : Int) : Bool × List Int × Int × Bool := if q.length ≤ 100 ∧ -3000 ≤ z ∧ z ≤ 3000 then (t && !q.isEmpty, q, z, true) else (false, [], 0, false)
theorem fitsV_len (t : Bool) (q : List Int) (z : Int) : (fitsV t q z).2.1.length ≤ 100 := by
  unfold fitsV
  split
  · rename_i h; exact h.1
  · simp
theorem ev_impl_dy {s : Bool} {l : List Int} {e : Int} {t : Bool} {q : List Int} {z : Int} (h : Ev (fun k => impl_exact_odd.f k s l e) (t, q, z)) : Ev (fun k => impl_exact_dy.f k s l e) (fitsV t q z) := by
  unfold impl_exact_dy.f
  refine Ev.bind h ?_
  by_cases hq : q.length ≤ 100
  · refine ev_bind0 (impl_wholeOf_eq t q hq) (ev_if_pos rfl ?_)
    refine ev_bind0 (within_eq _ _ _) ?_
    by_cases hz : -3000 ≤ z ∧ z ≤ 3000
    · have e : fitsV t q z = (t && !q.isEmpty, q, z, true) := if_pos ⟨hq, hz⟩
      rw [e]
      exact ev_if_pos (by simpa using hz) (Ev.now _)
    · have e : fitsV t q z = (false, [], 0, false) := if_neg (fun y => hz y.2)
      rw [e]
      exact ev_if_neg (by simpa using hz) (Ev.now _)
  · have e : fitsV t q z = (false, [], 0, false) := if_neg (fun y => hq y.1)
    rw [e]
    refine ev_bind0 (impl_wholeOf_long t q hq) ?_
    exact ev_if_neg (by simp) (Ev.now _)

/-! #### Make -/
theorem bit0_val (l : List Int) : val l % 2 = bit0 l := by
  unfold bit0
  cases l with
  | nil => rfl
  | cons x l => simp only [val, List.headD_cons]; omega
/-- A number in its one form: the reference's and the program's. -/
theorem make_agree (s : Bool) (l : List Int) (e : Int) (h : Norm l) (hb : l.length ≤ 1000) (h0 : -100000 ≤ e) (h1 : e ≤ 100000) :
    ∃ (t : Bool) (q : List Int) (z : Int), Norm q ∧ q.length ≤ l.length ∧ e - 0 ≤ z + 100000 ∧ z ≤ 100000 + 16 * l.length ∧ (z = 0 ∨ e ≤ z ∧ z ≤ e + 16 * l.length) ∧ (q = [] → z = 0) ∧ (q ≠ [] → bit0 q = 1) ∧
      Ev (fun k => spec_l4make.f k s l e) (t && !q.isEmpty, q, z) ∧ Ev (fun k => impl_exact_odd.f k s l e) (t, q, z) := by
  by_cases hl : l = []
  · subst hl
    refine ⟨false, [], 0, Norm.nil, by simp, by omega, by simp, .inl rfl, fun _ => rfl, fun z => absurd rfl z, ?_, ?_⟩
    · unfold spec_l4make.f
      exact ev_if_pos rfl (Ev.now _)
    · unfold impl_exact_odd.f
      exact ev_if_pos rfl (Ev.now _)
  · have hp : 0 < l.length := List.length_pos_iff.2 hl
    obtain ⟨r, r0, r1, ro, t1, t2⟩ := trail_agree l h (by omega)
    have ro := ro hl
    obtain ⟨q, hq, q1, q2, q3⟩ := ev_spec_l2shr l r h.1 (by omega) (by omega) (by omega)
    obtain ⟨p, hp, p1, p2, p3⟩ := ev_impl_down l r h.1 (by omega) (by omega) (by omega)
    have ep : p = q := norm_inj p1 q1 (by rw [q2, p2])
    subst ep
    have w : wrap64 (e + r) = e + r := w64 (by omega) (by omega)
    have ob : bit0 p = 1 := by rw [← bit0_val, q2]; exact ro
    refine ⟨s, p, e + r, p1, q3, by omega, by omega, .inr ⟨by omega, by omega⟩, ?_, fun _ => ob, ?_, ?_⟩
    · intro z
      rw [z] at ob
      simp [bit0] at ob
    · unfold spec_l4make.f
      refine ev_if_neg (by omega) (Ev.bind t1 (Ev.bind hq (Ev.bind (ev_spec_l3make s p p1 (by omega)) ?_)))
      rw [w]
      exact Ev.now _
    · unfold impl_exact_odd.f
      refine ev_if_neg (by omega) (Ev.bind t2 (Ev.bind hp ?_))
      rw [w]
      exact Ev.now _

/-! #### l2of -/
theorem ev_spec_l2of (n : Int) (h1 : n ≤ 9223372036854775807) : Ev (fun k => spec_l2of.f k n) (dig n) := by
  unfold spec_l2of.f dig
  have key : ∀ f : Nat, ∀ x : Int, ∀ acc : List Int, x < pw f → x ≤ 9223372036854775807 → acc.length + f < 1000 → Ev (fun k => spec_l2of.l0 k x acc) (acc ++ digF f x) := by
    intro f
    induction f with
    | zero =>
      intro x acc hx hb ha
      simp [pw] at hx
      refine Ev.step (f := fun _ => some (acc ++ digF 0 x)) (fun k => ?_) (Ev.now _)
      simp only [spec_l2of.l0]
      rw [if_neg (by omega)]; simp [digF]
    | succ f ih =>
      intro x acc hx hb ha
      by_cases h : x ≤ 0
      · refine Ev.step (f := fun _ => some (acc ++ digF (f + 1) x)) (fun k => ?_) (Ev.now _)
        simp only [spec_l2of.l0]
        rw [if_neg (by omega)]; simp [digF, h]
      · have e : acc ++ digF (f + 1) x = (acc ++ [x % 65536]) ++ digF f (x / 65536) := by
          simp [digF, h]
        rw [e]
        simp only [pw] at hx
        refine Ev.step (f := fun k => spec_l2of.l0 k (x / 65536) (acc ++ [x % 65536])) (fun k => ?_) (ih _ _ (by omega) (by omega) (by simp; omega))
        simp only [spec_l2of.l0]
        rw [if_pos (by omega), if_pos (by omega), td _ _ (by omega), tm _ _ (by omega), w64 (by omega) (by omega)]
  have := key 4 n [] (by rw [pw4]; omega) h1 (by simp)
  simpa using this

/-! #### small -/
theorem ev_impl_small (n : Int) (h1 : n ≤ 9223372036854775807) : Ev (fun k => impl_small.f k n) (dig n) := by
  unfold impl_small.f dig
  have key : ∀ f : Nat, ∀ x : Int, ∀ acc : List Int, x < pw f → x ≤ 9223372036854775807 → acc.length + f < 1000 → Ev (fun k => impl_small.l0 k x acc) (acc ++ digF f x) := by
    intro f
    induction f with
    | zero =>
      intro x acc hx hb ha
      simp [pw] at hx
      refine Ev.step (f := fun _ => some (acc ++ digF 0 x)) (fun k => ?_) (Ev.now _)
      simp only [impl_small.l0]
      rw [if_neg (by omega)]; simp [digF]
    | succ f ih =>
      intro x acc hx hb ha
      by_cases h : x ≤ 0
      · refine Ev.step (f := fun _ => some (acc ++ digF (f + 1) x)) (fun k => ?_) (Ev.now _)
        simp only [impl_small.l0]
        rw [if_neg (by omega)]; simp [digF, h]
      · have e : acc ++ digF (f + 1) x = (acc ++ [x % 65536]) ++ digF f (x / 65536) := by
          simp [digF, h]
        rw [e]
        simp only [pw] at hx
        refine Ev.step (f := fun k => impl_small.l0 k (x / 65536) (acc ++ [x % 65536])) (fun k => ?_) (ih _ _ (by omega) (by omega) (by simp; omega))
        simp only [impl_small.l0]
        rw [if_pos (by omega), if_pos (by omega), td _ _ (by omega), tm _ _ (by omega), w64 (by omega) (by omega)]
  have := key 4 n [] (by rw [pw4]; omega) h1 (by simp)
  simpa using this

/-! #### eqIntS -/
theorem ev_eqIntS (l0 l1 : List Int) (hb : l0.length ≤ 9000000000000000000) : Ev (fun k => laws_eqIntS.f k l0 l1) (decide (l0 = l1)) := by
  unfold laws_eqIntS.f
  by_cases hl : (l0.length : Int) = (l1.length : Int)
  · refine ev_if_pos hl ?_
    have key : ∀ d i : Nat, i + d = l0.length → l0.take i = l1.take i → Ev (fun k => laws_eqIntS.l0 k l0 l1 (i : Int)) (decide (l0 = l1)) := by
      intro d
      induction d with
      | zero =>
        intro i hi ht
        have he : l0 = l1 := by rw [List.take_of_length_le (by omega), List.take_of_length_le (by omega)] at ht; exact ht
        refine Ev.step (f := fun _ => some (decide (l0 = l1))) (fun k => ?_) (Ev.now _)
        simp only [laws_eqIntS.l0]
        rw [if_neg (by omega)]; simp [he]
      | succ d ih =>
        intro i hi ht
        by_cases he : rd l0 (i : Int) = rd l1 (i : Int)
        · refine Ev.step (f := fun k => laws_eqIntS.l0 k l0 l1 ((i + 1 : Nat) : Int)) (fun k => ?_) (ih (i + 1) (by omega) ?_)
          · simp only [laws_eqIntS.l0]
            rw [if_pos (by omega), if_pos (by omega), if_pos (by omega), if_pos he, w64 (by omega) (by omega)]
            rfl
          · rw [rd_get _ _ (by omega), rd_get _ _ (by omega)] at he
            rw [List.take_succ_eq_append_getElem (by omega), List.take_succ_eq_append_getElem (by omega), ht, he]
        · refine Ev.step (f := fun _ => some (decide (l0 = l1))) (fun k => ?_) (Ev.now _)
          simp only [laws_eqIntS.l0]
          rw [if_pos (by omega), if_pos (by omega), if_pos (by omega), if_neg he]
          have hne : ¬ l0 = l1 := fun e => he (by rw [e])
          simp [hne]
    exact key l0.length 0 (by omega) (by simp)
  · refine ev_if_neg hl ?_
    have hne : ¬ l0 = l1 := fun e => hl (by rw [e])
    have e : (fun _ : Nat => some false) = fun _ : Nat => some (decide (l0 = l1)) := by simp [hne]
    rw [e]; exact Ev.now _

/-! #### eqNat -/
theorem ev_eqNat (l0 l1 : List Int) (hb : l0.length ≤ 9000000000000000000) : Ev (fun k => laws_eqNat.f k l0 l1) (decide (l0 = l1)) := by
  unfold laws_eqNat.f
  refine Ev.bind (ev_eqIntS l0 l1 hb) ?_
  by_cases h : l0 = l1
  · simp only [h, decide_true, if_true]; exact Ev.now _
  · simp only [h, decide_false]; exact Ev.now _

/-! #### eqWhole -/
theorem ev_eqWhole (s : Bool) (l : List Int) (hb : l.length ≤ 9000000000000000000) : Ev (fun k => laws_eqWhole.f k s l s l) true := by
  unfold laws_eqWhole.f
  simp only [bne_self_eq_false, Bool.false_eq_true, if_false]
  refine Ev.bind (ev_eqNat l l hb) ?_
  simp only [decide_true, if_true]
  exact Ev.now _

/-! #### eqDy -/
theorem ev_eqDy (s : Bool) (l : List Int) (e : Int) (hb : l.length ≤ 9000000000000000000) : Ev (fun k => laws_eqDy.f k s l e s l e) true := by
  unfold laws_eqDy.f
  refine Ev.bind (ev_eqWhole s l hb) ?_
  simp only [if_true]
  exact Ev.now _

/-! #### markIntS -/
/-- Marks from a on. -/
def marks (a : Int) : Nat → List Int
  | 0 => []
  | n + 1 => a :: marks (a + 1) n
theorem marks_length (n : Nat) : ∀ a, (marks a n).length = n := by
  induction n with
  | zero => intro a; rfl
  | succ n ih => intro a; simp [marks, ih]
theorem marks_get (n : Nat) : ∀ a i, i < n → (marks a n).getD i 0 = a + i := by
  induction n with
  | zero => intro a i h; omega
  | succ n ih =>
    intro a i h
    cases i with
    | zero => simp [marks]
    | succ i => simp only [marks, List.getD_cons_succ]; rw [ih _ _ (by omega)]; omega
theorem ev_markIntS (l : List Int) (a : Int) (h0 : 0 ≤ a) (hb : a + l.length ≤ 9000000000000000000) : Ev (fun k => laws_markIntS.f k l a) (a + l.length, marks a l.length) := by
  unfold laws_markIntS.f
  have key : ∀ d i : Nat, ∀ x : List Int, i + d = l.length → x.length = l.length → (∀ j, j < i → x.getD j 0 = a + j) →
      Ev (fun k => laws_markIntS.l0 k x (a + i) (i : Int)) (a + l.length, marks a l.length) := by
    intro d
    induction d with
    | zero =>
      intro i x hi hx hm
      refine Ev.step (f := fun _ => some (a + l.length, marks a l.length)) (fun k => ?_) (Ev.now _)
      simp only [laws_markIntS.l0]
      rw [if_neg (by omega)]
      have e : x = marks a l.length := by
        apply List.ext_getElem
        · rw [hx, marks_length]
        · intro j h1 h2
          have p := hm j (by omega)
          have q := marks_get l.length a j (by omega)
          rw [List.getD_eq_getElem?_getD, List.getElem?_eq_getElem h1, Option.getD_some] at p
          rw [List.getD_eq_getElem?_getD, List.getElem?_eq_getElem h2, Option.getD_some] at q
          omega
      rw [e, show (i : Int) = l.length by omega]
    | succ d ih =>
      intro i x hi hx hm
      refine Ev.step (f := fun k => laws_markIntS.l0 k (x.set i (a + i)) (a + ((i + 1 : Nat) : Int)) ((i + 1 : Nat) : Int)) (fun k => ?_) (ih (i + 1) _ (by omega) (by simpa using hx) ?_)
      · simp only [laws_markIntS.l0]
        rw [if_pos (by omega), if_pos (by omega), w64 (x := a + i + 1) (by omega) (by omega), w64 (x := (i : Int) + 1) (by omega) (by omega)]
        simp only [Int.toNat_natCast, Int.natCast_add, Int.natCast_one, Int.add_assoc]
      · intro j hj
        by_cases e : j = i
        · subst e
          simp [List.getD_eq_getElem?_getD, List.getElem?_set, show j < x.length by omega]
        · have := hm j (by omega)
          rw [List.getD_eq_getElem?_getD] at this ⊢
          rw [List.getElem?_set_ne (by omega)]; exact this
  have := key l.length 0 l (by omega) rfl (fun j hj => by omega)
  simpa using this
theorem ev_heldIntS (n : Nat) (a : Int) (h0 : 0 ≤ a) (hb : a + n ≤ 9000000000000000000) : Ev (fun k => laws_heldIntS.f k (marks a n) a) (a + n) := by
  unfold laws_heldIntS.f
  have hl := marks_length n a
  have key : ∀ d i : Nat, i + d = n → Ev (fun k => laws_heldIntS.l0 k (marks a n) (a + i) (i : Int)) (a + n) := by
    intro d
    induction d with
    | zero =>
      intro i hi
      refine Ev.step (f := fun _ => some (a + n)) (fun k => ?_) (Ev.now _)
      simp only [laws_heldIntS.l0]
      rw [if_neg (by omega), show (i : Int) = n by omega]
    | succ d ih =>
      intro i hi
      refine Ev.step (f := fun k => laws_heldIntS.l0 k (marks a n) (a + ((i + 1 : Nat) : Int)) ((i + 1 : Nat) : Int)) (fun k => ?_) (ih (i + 1) (by omega))
      simp only [laws_heldIntS.l0]
      rw [if_pos (by omega), if_pos (by omega), if_pos (by rw [rd_nat, marks_get n a i (by omega)]), w64 (x := a + i + 1) (by omega) (by omega), w64 (x := (i : Int) + 1) (by omega) (by omega)]
      simp only [Int.natCast_add, Int.natCast_one, Int.add_assoc]
  have := key n 0 (by omega)
  simpa using this

/-! #### markNat -/
theorem ev_markNat (l : List Int) (a : Int) (h0 : 0 ≤ a) (hb : a + l.length ≤ 9000000000000000000) : Ev (fun k => laws_markNat.f k l a) (a + l.length, marks a l.length) := by
  unfold laws_markNat.f
  exact Ev.bind (ev_markIntS l a h0 hb) (Ev.now _)
theorem ev_heldNat (n : Nat) (a : Int) (h0 : 0 ≤ a) (hb : a + n ≤ 9000000000000000000) : Ev (fun k => laws_heldNat.f k (marks a n) a) (a + n) := by
  unfold laws_heldNat.f
  refine Ev.bind (ev_heldIntS n a h0 hb) ?_
  rw [if_neg (by omega)]
  exact Ev.now _

/-! #### markWhole -/
theorem ev_markWhole (s : Bool) (l : List Int) (a : Int) (h0 : 0 ≤ a) (hb : a + l.length ≤ 9000000000000000000) : Ev (fun k => laws_markWhole.f k s l a) (a + l.length, marks a l.length) := by
  unfold laws_markWhole.f
  exact Ev.bind (ev_markNat l a h0 hb) (Ev.now _)
theorem ev_heldWhole (s : Bool) (n : Nat) (a : Int) (h0 : 0 ≤ a) (hb : a + n ≤ 9000000000000000000) : Ev (fun k => laws_heldWhole.f k s (marks a n) a) (a + n) := by
  unfold laws_heldWhole.f
  refine Ev.bind (ev_heldNat n a h0 hb) ?_
  rw [if_neg (by omega)]
  exact Ev.now _

/-! #### markDy -/
theorem ev_markDy (s : Bool) (l : List Int) (e : Int) (a : Int) (h0 : 0 ≤ a) (hb : a + l.length ≤ 9000000000000000000) : Ev (fun k => laws_markDy.f k s l e a) (a + l.length, marks a l.length) := by
  unfold laws_markDy.f
  exact Ev.bind (ev_markWhole s l a h0 hb) (Ev.now _)
theorem ev_heldDy (s : Bool) (n : Nat) (e : Int) (a : Int) (h0 : 0 ≤ a) (hb : a + n ≤ 9000000000000000000) : Ev (fun k => laws_heldDy.f k s (marks a n) e a) (a + n) := by
  unfold laws_heldDy.f
  exact Ev.bind (ev_heldWhole s n a h0 hb) (ev_if_neg (by omega) (Ev.now _))

/-! #### law_FnExactFlDy -/
/-- What FlDy answers. -/
theorem fldy_agree (k : Int) (s : Bool) (m e : Int) :
    ∃ r : Bool × List Int × Int × Bool, r.2.1.length ≤ 100 ∧ Ev (fun n => spec_FlDy.f n k s m e) r ∧ Ev (fun n => impl_FlDy.f n k s m e) r := by
  by_cases h : flOkB k s m e = true
  · have hk := flOk_kind h
    have fin : impl_Fl_isFinite.f k s m e = some (decide (k < 2)) := by
      unfold impl_Fl_isFinite.f
      rcases hk with rfl | rfl | rfl | rfl <;> rfl
    by_cases g : k < 2
    · by_cases c : k = 1
      · subst c
        have hn := flOk_num h
        obtain ⟨t, q, z, q1, q2, q6, q7, q8, q4, q5, m1, m2⟩ := make_agree s (dig m) e (dig_norm (by omega) (by omega)) (by have := dig_len m; omega) (by omega) (by omega)
        have dl := dig_len m
        have hz : -3000 ≤ z ∧ z ≤ 3000 := by omega
        have e1 : fitsV t q z = (t && !q.isEmpty, q, z, true) := if_pos ⟨by omega, hz⟩
        have dn : dig m ≠ [] := by
          intro y
          have := dig_val (n := m) (by omega) (by omega)
          rw [y] at this
          simp [val] at this
          omega
        refine ⟨(t && !q.isEmpty, q, z, true), by simp only; omega, ?_, ?_⟩
        · unfold spec_FlDy.f spec_l5dy.f
          refine Ev.bind (ev_spec_FlOk 1 s m e) (ev_if_pos h (ev_if_neg (by omega) ?_))
          have mk := ev_spec_l3make s (dig m) (dig_norm (by omega) (by omega)) (by omega)
          have es : (s && !(dig m).isEmpty) = s := by
            cases hd : dig m with
            | nil => exact absurd hd dn
            | cons _ _ => simp
          rw [es] at mk
          exact Ev.bind (ev_if_pos rfl (Ev.bind (ev_spec_l2of m (by omega)) (Ev.bind mk (Ev.bind m1 (Ev.now _))))) (Ev.now _)
        · unfold impl_FlDy.f
          refine ev_bind0 (impl_FlOk_eq 1 s m e) (ev_if_pos h (ev_bind0 fin ?_))
          refine Ev.step (fun n => by simp only [impl_FlDy.j0]; rfl) (ev_if_neg (by simp) ?_)
          have ex : Ev (fun n => impl_Fl_exact.f n 1 s m e) (s, dig m, e) := by
            unfold impl_Fl_exact.f
            cases s
            · exact ev_if_neg (by simp) (Ev.bind (ev_impl_small m (by omega)) (Ev.now _))
            · exact ev_if_pos (by trivial) (Ev.bind (ev_impl_small m (by omega)) (Ev.now _))
          have dy := ev_impl_dy m2
          rw [e1] at dy
          exact Ev.bind ex (Ev.bind dy (Ev.now _))
      · have k0 : k = 0 := by omega
        subst k0
        have hz := flOk_zero h (by omega)
        obtain ⟨hm, he, _⟩ := hz
        subst hm he
        refine ⟨(false, [], 0, true), by simp, ?_, ?_⟩
        · unfold spec_FlDy.f spec_l5dy.f
          exact Ev.bind (ev_spec_FlOk 0 s 0 0) (ev_if_pos h (ev_if_neg (by omega) (Ev.bind (ev_if_neg (by omega) (Ev.now _)) (Ev.now _))))
        · unfold impl_FlDy.f
          refine ev_bind0 (impl_FlOk_eq 0 s 0 0) (ev_if_pos h (ev_bind0 fin ?_))
          refine Ev.step (fun n => by simp only [impl_FlDy.j0]; rfl) (ev_if_neg (by simp) ?_)
          have sm := ev_impl_small 0 (by omega)
          rw [dig_zero] at sm
          have ex : Ev (fun n => impl_Fl_exact.f n 0 s 0 0) (false, [], 0) := by
            unfold impl_Fl_exact.f
            cases s
            · exact ev_if_neg (by simp) (Ev.bind sm (Ev.now _))
            · exact ev_if_pos (by trivial) (Ev.bind sm (Ev.now _))
          have od : Ev (fun n => impl_exact_odd.f n false [] 0) (false, [], 0) := by
            unfold impl_exact_odd.f
            exact ev_if_pos rfl (Ev.now _)
          have dy := ev_impl_dy od
          have e1 : fitsV false [] 0 = (false, [], 0, true) := rfl
          rw [e1] at dy
          exact Ev.bind ex (Ev.bind dy (Ev.now _))
    · refine ⟨(false, [], 0, false), by simp, ?_, ?_⟩
      · unfold spec_FlDy.f
        exact Ev.bind (ev_spec_FlOk k s m e) (ev_if_pos h (ev_if_pos (by omega) (Ev.now _)))
      · unfold impl_FlDy.f
        refine ev_bind0 (impl_FlOk_eq k s m e) (ev_if_pos h (ev_bind0 fin ?_))
        rw [decide_eq_false g]
        refine Ev.step (fun n => by simp only [impl_FlDy.j0]; rfl) ?_
        simp only [Bool.not_false, if_true]
        exact Ev.now _
  · refine ⟨(false, [], 0, false), by simp, ?_, ?_⟩
    · unfold spec_FlDy.f
      exact Ev.bind (ev_spec_FlOk k s m e) (ev_if_neg h (Ev.now _))
    · unfold impl_FlDy.f
      refine ev_bind0 (impl_FlOk_eq k s m e) (ev_if_neg h ?_)
      refine Ev.step (fun n => by simp only [impl_FlDy.j0]; rfl) ?_
      simp only [if_true]
      exact Ev.now _
theorem FnExactFlDy : laws_FnExactFlDy.Pure := by
  intro k s m e hk hm he
  have g : Ev (fun n => laws_FnExactFlDy.f n k s m e) true := by
    unfold laws_FnExactFlDy.f
    obtain ⟨r, hr, h1, h2⟩ := fldy_agree k s m e
    have hmk := ev_markDy r.1 r.2.1 r.2.2.1 1 (by omega) (by omega)
    have hh := ev_heldDy r.1 r.2.1.length r.2.2.1 1 (by omega) (by omega)
    have t : laws_toFl.f k s m e = some (k, s, m, e) := rfl
    refine ev_bind0 t (Ev.bind h1 (ev_bind0 t (Ev.bind h2 (Ev.bind (ev_eqDy r.1 r.2.1 r.2.2.1 (by omega)) ?_))))
    simp only [if_true, bne_self_eq_false]
    refine Ev.step (fun n => by simp only [laws_FnExactFlDy.j0]; rfl) ?_
    simp only [Bool.false_eq_true, if_false]
    refine Ev.bind hmk (Ev.bind hh (ev_if_neg (by omega) (ev_if_pos rfl (ev_bind0 t (Ev.bind h2 (Ev.bind (ev_eqDy r.1 r.2.1 r.2.2.1 (by omega)) ?_))))))
    simp only [if_true, bne_self_eq_false]
    refine Ev.step (fun n => by simp only [laws_FnExactFlDy.j1]; rfl) ?_
    simp only [Bool.false_eq_true, if_false]
    exact Ev.bind hh (ev_if_neg (by omega) (ev_if_pos rfl (Ev.now _)))
  exact g.rounds

end Go.Proofs.YtgjpahofopoflaaDoor.Pure
