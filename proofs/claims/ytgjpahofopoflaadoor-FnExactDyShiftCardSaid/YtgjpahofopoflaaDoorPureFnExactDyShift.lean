/- The pure statement of the law FnExactDyShift: at every input that its guards let in the program's answer is the reference's. -/
import Derived.Test.YtgjpahofopoflaaDoorPFnExactDyShiftx7
import Derived.Test.YtgjpahofopoflaaDoorLib
import Derived.WalkKit
namespace Go.Proofs.YtgjpahofopoflaaDoor.Pure
open Go.RowKit Go.Proofs.YtgjpahofopoflaaDoor.PFnExactDyShift Go.Proofs.YtgjpahofopoflaaDoorW.PrintWords Go.Proofs.YtgjpahofopoflaaDoorW.PrintLast Go.Proofs.YtgjpahofopoflaaDoor.Lib
set_option linter.unusedVariables false
set_option linter.unusedSimpArgs false

/-! #### natOf -/
theorem impl_natOf_eq (l : List Int) : impl_natOf.f l = some (if l.length ≤ 100 then (l, true) else ([], false)) := by
  unfold impl_natOf.f slices_Clone_int_int.f
  by_cases h : l.length ≤ 100
  · rw [if_neg (by omega), if_pos (by omega), if_pos h]; rfl
  · rw [if_pos (by omega), if_neg h]

/-! #### wholeOf -/
theorem impl_wholeOf_eq (s : Bool) (l : List Int) (hb : l.length ≤ 100) : impl_wholeOf.f s l = some (s && !l.isEmpty, l, true) := by
  unfold impl_wholeOf.f
  rw [impl_natOf_eq, if_pos hb]
  simp only [Option.bind_some, if_true]
  cases s
  · simp
  · cases l <;> simp
theorem impl_wholeOf_long (s : Bool) (l : List Int) (hb : ¬ l.length ≤ 100) : impl_wholeOf.f s l = some (false, [], false) := by
  unfold impl_wholeOf.f
  rw [impl_natOf_eq, if_neg hb]
  rfl

/-! #### wDef -/
/-- Is an integer valid? -/
def wOkB (s : Bool) (l : List Int) : Bool := okB l && !(s && l.isEmpty)
theorem wOkB_nat {s : Bool} {l : List Int} (h : wOkB s l = true) : l.length ≤ 100 ∧ Norm l := by
  unfold wOkB at h
  rw [Bool.and_eq_true] at h
  exact (okB_iff l).1 h.1

/-! #### dyDef -/
/-- The lowest bit. -/
def bit0 (l : List Int) : Int := l.headD 0 % 2
/-- Is a dyadic number valid? -/
def dyOkB (s : Bool) (l : List Int) (e : Int) : Bool := wOkB s l && decide (-3000 ≤ e ∧ e ≤ 3000) && (if l = [] then decide (e = 0) else decide (bit0 l = 1))
theorem rd_zero_cons (x : Int) (l : List Int) : rd (x :: l) 0 = x := rfl

/-! #### within -/
theorem within_eq (a b c : Int) : impl_within.f a b c = some (decide (b ≤ a ∧ a ≤ c)) := by
  unfold impl_within.f
  by_cases h : b ≤ a <;> simp [h]

/-! #### dyImpl -/
/-- What 'dy' answers of a number in its one form. -/
def fitsV (t : Bool) (q : List Int) (z : Int) : Bool × List Int × Int × Bool := if q.length ≤ 100 ∧ -3000 ≤ z ∧ z ≤ 3000 then (t && !q.isEmpty, q, z, true) else (false, [], 0, false)
theorem fitsV_len (t : Bool) (q : List Int) (z : Int) : (fitsV t q z).2.1.length ≤ 100 := by
  unfold fitsV
  split
  · rename_i h; exact h.1
  · simp
theorem ev_impl_dy {s : Bool} {l : List Int} {e : Int} {t : Bool} {q : List Int} {z : Int} (h : Ev (fun k => impl_exact_odd.f k s l e) (t, q, z)) : Ev (fun k => impl_exact_dy.f k s l e) (fitsV t q z) := by
  unfold impl_exact_dy.f
  refine Ev.bind h ?_
  by_cases hq : q.length ≤ 100
  · refine ev_bind0 (impl_wholeOf_eq t q hq) (ev_if_pos rfl ?_)
    refine ev_bind0 (within_eq _ _ _) ?_
    by_cases hz : -3000 ≤ z ∧ z ≤ 3000
    · have e : fitsV t q z = (t && !q.isEmpty, q, z, true) := if_pos ⟨hq, hz⟩
      rw [e]
      exact ev_if_pos (by simpa using hz) (Ev.now _)
    · have e : fitsV t q z = (false, [], 0, false) := if_neg (fun y => hz y.2)
      rw [e]
      exact ev_if_neg (by simpa using hz) (Ev.now _)
  · have e : fitsV t q z = (false, [], 0, false) := if_neg (fun y => hq y.1)
    rw [e]
    refine ev_bind0 (impl_wholeOf_long t q hq) ?_
    exact ev_if_neg (by simp) (Ev.now _)

/-! #### NatOk -/
theorem getLast_rd (l : List Int) (h : 0 < l.length) : l.getLast? = some (rd l ((l.length : Int) - 1)) := by
  rw [show (l.length : Int) - 1 = ((l.length - 1 : Nat) : Int) by omega, rd_get _ _ (by omega), List.getLast?_eq_getElem?, List.getElem?_eq_getElem]
theorem ev_spec_NatOk (l : List Int) (hb : l.length ≤ 9000000000000000000) : Ev (fun k => spec_NatOk.f k l) (okB l) := by
  unfold spec_NatOk.f
  by_cases hl : (l.length : Int) > 100
  · refine ev_if_pos hl ?_
    have e : okB l = false := by
      have : ¬ l.length ≤ 100 := by omega
      simp [okB, this]
    rw [e]; exact Ev.now _
  · refine ev_if_neg hl ?_
    have hl' : l.length ≤ 100 := by omega
    have key : ∀ d i : Nat, i + d = l.length → (∀ j, j < i → 0 ≤ l.getD j 0 ∧ l.getD j 0 ≤ 65535) → Ev (fun k => spec_NatOk.l0 k (i : Int) l) (okB l) := by
      intro d
      induction d with
      | zero =>
        intro i hi hj
        refine Ev.step (f := fun _ => some (okB l)) (fun k => ?_) (Ev.now _)
        have hall : l.all (fun x => decide (0 ≤ x) && decide (x ≤ 65535)) = true := by
          rw [List.all_eq_true]
          intro x hx
          obtain ⟨j, hjl, rfl⟩ := List.getElem_of_mem hx
          have := hj j (by omega)
          rw [List.getD_eq_getElem?_getD, List.getElem?_eq_getElem hjl, Option.getD_some] at this
          simp; exact this
        simp only [spec_NatOk.l0]
        rw [if_neg (by omega)]
        by_cases h0 : (l.length : Int) = 0
        · rw [if_pos h0]
          have : l = [] := List.eq_nil_of_length_eq_zero (by omega)
          subst this; rfl
        · rw [if_neg h0, w64 (by omega) (by omega), if_pos (by omega), if_pos (by omega)]
          have hlast := getLast_rd l (by omega)
          have hr := hj (l.length - 1) (by omega)
          rw [← rd_nat, show ((l.length - 1 : Nat) : Int) = (l.length : Int) - 1 by omega] at hr
          simp only [okB, hall, hlast, hl', decide_true, Bool.true_and]
          by_cases hz : rd l ((l.length : Int) - 1) = 0
          · simp [hz]
          · have : rd l ((l.length : Int) - 1) > 0 := by omega
            simp [hz, this]
      | succ d ih =>
        intro i hi hj
        by_cases hx : 0 ≤ rd l (i : Int) ∧ rd l (i : Int) ≤ 65535
        · refine Ev.step (f := fun k => spec_NatOk.l0 k ((i + 1 : Nat) : Int) l) (fun k => ?_) (ih (i + 1) (by omega) ?_)
          · simp only [spec_NatOk.l0]
            rw [if_pos (by omega), if_pos (by omega), if_neg (by omega), if_neg (by omega), w64 (by omega) (by omega)]
            rfl
          · intro j hj'
            by_cases e : j = i
            · subst e; rw [rd_nat] at hx; exact hx
            · exact hj j (by omega)
        · refine Ev.step (f := fun _ => some (okB l)) (fun k => ?_) (Ev.now _)
          have hall : l.all (fun x => decide (0 ≤ x) && decide (x ≤ 65535)) = false := by
            rw [List.all_eq_false]
            rw [rd_get _ _ (by omega)] at hx
            exact ⟨l[i], List.getElem_mem (by omega), by simp; omega⟩
          simp only [spec_NatOk.l0]
          rw [if_pos (by omega), if_pos (by omega)]
          have e : okB l = false := by simp [okB, hall]
          rw [e]
          by_cases h1 : rd l (i : Int) < 0
          · rw [if_pos h1]
          · rw [if_neg h1, if_pos (by omega)]
    exact key l.length 0 (by omega) (fun j hj => by omega)
theorem impl_NatOk_eq (l : List Int) : impl_NatOk.f l = some (okB l) := by
  unfold impl_NatOk.f impl_areAll_int.f
  by_cases hl : (l.length : Int) ≤ 100
  · have hl' : l.length ≤ 100 := by omega
    rw [if_pos hl]
    simp only [Option.bind_some]
    have ep : l.all impl_areAll_int.p = l.all (fun x => decide (0 ≤ x) && decide (x ≤ 65535)) := rfl
    rw [ep]
    by_cases hall : l.all (fun x => decide (0 ≤ x) && decide (x ≤ 65535)) = true
    · rw [if_pos hall]
      by_cases h0 : (l.length : Int) = 0
      · rw [if_pos h0]
        have : l = [] := List.eq_nil_of_length_eq_zero (by omega)
        subst this; rfl
      · rw [if_neg h0, w64 (by omega) (by omega), if_pos (by omega), if_pos (by omega)]
        have hlast := getLast_rd l (by omega)
        simp only [okB, hall, hlast, hl', decide_true, Bool.true_and]
        by_cases hz : rd l ((l.length : Int) - 1) = 0
        · simp [hz]
        · have e1 : (rd l ((l.length : Int) - 1) != 0) = true := by simpa using hz
          have e2 : (some (rd l ((l.length : Int) - 1)) != some 0) = true := by simpa using hz
          rw [e1, e2]
    · rw [if_neg hall]
      simp [okB, hall]
  · rw [if_neg hl]
    have : ¬ l.length ≤ 100 := by omega
    simp [okB, this]

/-! #### WholeOk -/
theorem ev_spec_WholeOk (s : Bool) (l : List Int) (hb : l.length ≤ 9000000000000000000) : Ev (fun k => spec_WholeOk.f k s l) (wOkB s l) := by
  unfold spec_WholeOk.f
  refine Ev.bind (ev_spec_NatOk l hb) ?_
  unfold wOkB
  by_cases h : okB l = true
  · refine ev_if_pos h ?_
    cases s
    · simp [h]; exact Ev.now _
    · cases l
      · simp; exact Ev.now _
      · simp [h]; first | exact Ev.now _ | (refine ev_if_pos (by omega) (Ev.now _))
  · have h' : okB l = false := by simpa using h
    refine ev_if_neg h ?_
    rw [h']; exact Ev.now _
theorem impl_WholeOk_eq (s : Bool) (l : List Int) : impl_WholeOk.f s l = some (wOkB s l) := by
  unfold impl_WholeOk.f wOkB
  rw [impl_NatOk_eq]
  simp only [Option.bind_some]
  by_cases h : okB l = true
  · rw [if_pos h]
    cases s
    · simp [h]
    · cases l
      · simp
      · simp [h]; try omega
  · rw [if_neg h]; simp [h]

/-! #### specDyOk -/
theorem spec_bit0 (l : List Int) (h : Limbs l) : spec_l2bit.f l 0 = some (bit0 l) := by
  unfold spec_l2bit.f bit0
  have z : Int.tdiv 0 16 = 0 := rfl
  have z2 : Int.tmod 0 16 = 0 := rfl
  rw [if_neg (by omega), z, z2, w64 (x := 0) (by omega) (by omega)]
  cases l with
  | nil => rfl
  | cons x l =>
    rw [if_neg (by simp only [List.length_cons]; omega), if_pos (by omega), if_pos (by simp only [List.length_cons]; omega), if_pos (by omega), rd_zero_cons]
    have hx := h.head
    have sh : shr .i64 x 0 = x := by simp [shr]
    rw [sh, and_1 _ hx.1 (by omega)]; rfl
theorem ev_spec_DyOk (s : Bool) (l : List Int) (e : Int) (hb : l.length ≤ 9000000000000000000) : Ev (fun k => spec_DyOk.f k s l e) (dyOkB s l e) := by
  unfold spec_DyOk.f
  refine Ev.bind (ev_spec_WholeOk s l hb) ?_
  unfold dyOkB
  by_cases h : wOkB s l = true
  · have hn := wOkB_nat h
    simp only [if_pos h]
    have tail : ∀ b : Bool, b = decide (¬ (-3000 ≤ e ∧ e ≤ 3000)) → Ev (fun k => spec_DyOk.j0 k b s l e) (wOkB s l && decide (-3000 ≤ e ∧ e ≤ 3000) && (if l = [] then decide (e = 0) else decide (bit0 l = 1))) := by
      intro b hb'
      refine Ev.step (fun k => by simp only [spec_DyOk.j0]; rfl) ?_
      by_cases he : -3000 ≤ e ∧ e ≤ 3000
      · have : b = false := by rw [hb']; simpa using he
        subst this
        simp only [Bool.false_eq_true, if_false, h, he, and_self, decide_true, Bool.true_and]
        by_cases hl : l = []
        · subst hl; simp; exact Ev.now _
        · have : ¬ (l.length : Int) = 0 := by
            intro z; exact hl (List.eq_nil_of_length_eq_zero (by omega))
          rw [if_neg hl]
          refine ev_if_neg this ?_
          rw [spec_bit0 l hn.2.1]
          have : (bit0 l == 1) = decide (bit0 l = 1) := by
            by_cases g : bit0 l = 1 <;> simp [g]
          simp only [Option.bind_some, this]
          exact Ev.now _
      · have : b = true := by rw [hb']; exact decide_eq_true he
        subst this
        simp only [if_true, he, decide_false, Bool.and_false, Bool.false_and]
        exact Ev.now _
    by_cases he : e < -3000
    · simp only [if_pos he]; exact tail true (by simp; omega)
    · simp only [if_neg he]; exact tail _ (decide_eq_decide.mpr (by omega))
  · simp only [if_neg h]
    refine Ev.step (fun k => by simp only [spec_DyOk.j0]; rfl) ?_
    simp [h]; exact Ev.now _

/-! #### fits -/
theorem dyOkB_made (t : Bool) (q : List Int) (z : Int) (h : Norm q) (h0 : q = [] → z = 0) (h1 : q ≠ [] → bit0 q = 1) : dyOkB (t && !q.isEmpty) q z = decide (q.length ≤ 100 ∧ -3000 ≤ z ∧ z ≤ 3000) := by
  have ok : okB q = decide (q.length ≤ 100) := by
    by_cases g : q.length ≤ 100
    · rw [decide_eq_true g]; exact (okB_iff q).2 ⟨g, h⟩
    · rw [decide_eq_false g]
      cases e : okB q with
      | false => rfl
      | true => exact absurd ((okB_iff q).1 e).1 g
  unfold dyOkB wOkB
  rw [ok]
  by_cases hq : q = []
  · subst hq
    simp [h0 rfl]
  · have := h1 hq
    simp [hq, this, Bool.and_comm, Bool.and_left_comm]
theorem ev_spec_l4fits (t : Bool) (q : List Int) (z : Int) (h : Norm q) (hb : q.length ≤ 100000) (h0 : q = [] → z = 0) (h1 : q ≠ [] → bit0 q = 1) : Ev (fun k => spec_l4fits.f k (t && !q.isEmpty) q z) (fitsV t q z) := by
  unfold spec_l4fits.f fitsV
  have ok := dyOkB_made t q z h h0 h1
  refine Ev.bind (ev_spec_DyOk _ q z (by omega)) ?_
  by_cases g : q.length ≤ 100 ∧ -3000 ≤ z ∧ z ≤ 3000
  · rw [if_pos g]
    exact ev_if_pos (by rw [ok]; simpa using g) (Ev.now _)
  · rw [if_neg g]
    exact ev_if_neg (by rw [ok]; simpa using g) (Ev.now _)

/-! #### ctz -/
/-- The lowest bit of a limb, and those below it. -/
theorem ctz_limb (x : Int) (h0 : 1 ≤ x) (h1 : x ≤ 65535) : Go.Lib.ctz 64 x.toNat < 16 ∧ x / 2 ^ (Go.Lib.ctz 64 x.toNat) % 2 = 1 ∧ ∀ t : Nat, t < Go.Lib.ctz 64 x.toNat → x / 2 ^ t % 2 = 0 := by
  obtain ⟨n, rfl⟩ := Int.eq_ofNat_of_zero_le (show 0 ≤ x by omega)
  rw [Int.toNat_natCast]
  have e : Go.Lib.ctz 64 n = Go.Lib.ctzFrom 64 n := by unfold Go.Lib.ctz; rw [if_neg (by omega)]
  obtain ⟨m, hm, hc⟩ := Go.Lib.ctzFrom_spec 64 n (by omega) (by omega)
  rw [e]
  generalize Go.Lib.ctzFrom 64 n = c at *
  have c16 : c < 16 := by
    rcases Nat.lt_or_ge c 16 with h | h
    · exact h
    · have : 2 ^ 16 ≤ 2 ^ c := Nat.pow_le_pow_right (by omega) h
      have : 2 ^ c * 1 ≤ 2 ^ c * (2 * m + 1) := Nat.mul_le_mul_left _ (by omega)
      omega
  refine ⟨c16, ?_, fun t ht => ?_⟩
  · have : n / 2 ^ c = 2 * m + 1 := by rw [hm, Nat.mul_div_cancel_left _ (Nat.two_pow_pos c)]
    have e2 : ((n : Int) / 2 ^ c) = ((n / 2 ^ c : Nat) : Int) := by simp
    rw [e2, this]
    omega
  · have hs : 2 ^ c = 2 ^ t * (2 * 2 ^ (c - t - 1)) := by
      rw [← Nat.pow_succ', ← Nat.pow_add]
      congr 1
      omega
    have : n / 2 ^ t = 2 * (2 ^ (c - t - 1) * (2 * m + 1)) := by
      rw [hm, hs, Nat.mul_assoc, Nat.mul_div_cancel_left _ (Nat.two_pow_pos t), Nat.mul_assoc]
    have e2 : ((n : Int) / 2 ^ t) = ((n / 2 ^ t : Nat) : Int) := by simp
    rw [e2, this]
    omega

/-! #### trim -/
theorem ev_impl_trim (l : List Int) (hb : l.length ≤ 1000000000) : Ev (fun k => impl_trim.f k l) (strip l) := by
  unfold impl_trim.f
  have key : ∀ n : Nat, n ≤ l.length → strip (l.take n) = strip l → Ev (fun k => impl_trim.l0 k (l.take n)) (strip l) := by
    intro n
    induction n with
    | zero =>
      intro _ hs
      refine Ev.step (f := fun _ => some (strip l)) (fun k => ?_) (Ev.now _)
      simp only [impl_trim.l0]
      rw [if_neg (by simp)]
      simpa [strip] using hs
    | succ n ih =>
      intro hn hs
      have hlen : (l.take (n + 1)).length = n + 1 := by simp; omega
      have hrd : rd (l.take (n + 1)) (n : Int) = l[n] := by
        rw [rd_get _ _ (by omega)]; simp
      by_cases h0 : l[n] = 0
      · refine Ev.step (f := fun k => impl_trim.l0 k (l.take n)) (fun k => ?_) (ih (by omega) ?_)
        · simp only [impl_trim.l0]
          rw [hlen, show ((n + 1 : Nat) : Int) - 1 = (n : Int) by omega, w64 (x := (n : Int)) (by omega) (by omega), if_pos (by omega), if_pos (by omega), if_pos (by omega), hrd, if_pos h0, if_pos (by omega)]
          rw [Int.toNat_natCast, List.take_take, Nat.min_eq_left (by omega)]
        · rw [← hs, strip_take_zero (by omega) h0]
      · refine Ev.step (f := fun _ => some (strip l)) (fun k => ?_) (Ev.now _)
        simp only [impl_trim.l0]
        rw [hlen, show ((n + 1 : Nat) : Int) - 1 = (n : Int) by omega, w64 (x := (n : Int)) (by omega) (by omega), if_pos (by omega), if_pos (by omega), if_pos (by omega), hrd, if_neg h0]
        rw [← hs, strip_take_ne (by omega) h0]
  have := key l.length (Nat.le_refl _) (by simp)
  rw [List.take_length] at this
  exact this

/-! #### down -/
theorem ev_impl_down (a : List Int) (k : Int) (ha : Limbs a) (hb : a.length ≤ 1000000) (h0 : 0 ≤ k) (h1 : k ≤ 9223372036854775807) :
    ∃ q : List Int, Ev (fun n => impl_down.f n a k) q ∧ Norm q ∧ val q = shrI a k ∧ q.length ≤ a.length := by
  unfold impl_down.f shrI
  rw [td _ _ h0, w64 (x := k / 16) (by omega) (by omega)]
  by_cases hl : k / 16 ≥ (a.length : Int)
  · refine ⟨[], ev_if_pos hl (Ev.now _), Norm.nil, ?_, by simp⟩
    rw [List.drop_eq_nil_of_le (by omega)]; simp [val]
  · have hr : (k % 16).toNat < 16 := by omega
    have hw := ha.drop (k / 16).toNat
    have hlen : (a.drop (k / 16).toNat).length ≤ a.length := by simp
    generalize a.drop (k / 16).toNat = w at *
    refine ⟨strip (dnl (k % 16).toNat w), ?_, strip_norm (dnl_limbs _ _), by rw [val_strip, dnl_val hr hw], by have := strip_len (dnl (k % 16).toNat w); rw [dnl_length] at this; omega⟩
    refine ev_if_neg hl (ev_if_pos (by omega) (ev_if_pos (by omega) (ev_if_pos (by omega) (ev_if_pos (by omega) ?_))))
    have key : ∀ d i : Nat, i + d = w.length → ∀ out : List Int, out.length = i → Ev (fun n => impl_down.l0 n k w out w (w.length : Int) (i : Int)) (strip (out ++ dnl (k % 16).toNat (w.drop i))) := by
      intro d
      induction d with
      | zero =>
        intro i hi out ho
        refine Ev.step (f := fun n => (impl_trim.f n out).bind fun t => some t) (fun n => ?_) ?_
        · simp only [impl_down.l0]
          rw [if_neg (by omega)]
        · rw [List.drop_eq_nil_of_le (by omega)]
          simp only [dnl, List.append_nil]
          exact Ev.bind (ev_impl_trim out (by omega)) (Ev.now _)
      | succ d ih =>
        intro i hi out ho
        have hx := rd_limb hw (i : Int)
        have hy := rd_limb hw ((i + 1 : Nat) : Int)
        have hp := two_pow_bd hr
        have e1 : w.drop i = rd w (i : Int) :: w.drop (i + 1) := by rw [List.drop_eq_getElem_cons (by omega), rd_get _ _ (by omega)]
        have e2 : out ++ dnl (k % 16).toNat (w.drop i) = (out ++ [(rd w (i : Int) + 65536 * rd w ((i + 1 : Nat) : Int)) / 2 ^ (k % 16).toNat % 65536]) ++ dnl (k % 16).toNat (w.drop (i + 1)) := by
          rw [e1]; simp only [dnl, headD_drop, List.append_assoc, List.singleton_append]
        rw [e2]
        refine Ev.step (fun n => ?_) (ih (i + 1) (by omega) _ (by simp; omega))
        simp only [impl_down.l0]
        rw [tm _ _ h0, w64 (x := (i : Int) + 1) (by omega) (by omega), if_pos (by omega), if_pos (by omega), if_pos (by omega)]
        have hn : 0 ≤ (rd w (i : Int) + 65536 * rd w ((i + 1 : Nat) : Int)) / 2 ^ (k % 16).toNat := Int.ediv_nonneg (by omega) (by omega)
        have c1 : ((i + 1 : Nat) : Int) = (i : Int) + 1 := by omega
        by_cases hlast : (i : Int) + 1 < (w.length : Int)
        · rw [if_pos hlast, if_pos (by omega), if_pos (by omega), if_pos (by omega)]
          rw [c1] at hy hn ⊢
          rw [w64 (x := rd w ((i : Int) + 1) * 65536) (by omega) (by omega), Int.mul_comm (rd w ((i : Int) + 1)) 65536, w64 (by omega) (by omega), shr_in (by omega) (by omega), tm _ _ hn]
        · rw [if_neg hlast, if_pos (by omega), if_pos (by omega)]
          have z : rd w ((i + 1 : Nat) : Int) = 0 := rd_out w (i + 1) (by omega)
          rw [z] at hn ⊢
          rw [shr_in (by omega) (by omega), show rd w (i : Int) + 65536 * 0 = rd w (i : Int) by omega] 
          rw [show rd w (i : Int) + 65536 * 0 = rd w (i : Int) by omega] at hn
          rw [tm _ _ hn, c1]
    have := key w.length 0 (by omega) [] rfl
    simpa using this

/-! #### l2norm -/
theorem ev_spec_l2norm (l : List Int) (hb : l.length ≤ 1000000000) : Ev (fun k => spec_l2norm.f k l) (strip l) := by
  unfold spec_l2norm.f
  have key : ∀ n : Nat, n ≤ l.length → strip (l.take n) = strip l → Ev (fun k => spec_l2norm.l0 k l (n : Int)) (strip l) := by
    intro n
    induction n with
    | zero =>
      intro _ hs
      refine Ev.step (f := fun _ => some (strip l)) (fun k => ?_) (Ev.now _)
      simp only [spec_l2norm.l0, Option.bind_some]
      rw [if_neg (by omega), if_pos (by omega), if_pos (by omega), if_pos (by simp)]
      simpa [strip] using hs
    | succ n ih =>
      intro hn hs
      by_cases h0 : l[n] = 0
      · refine Ev.step (f := fun k => spec_l2norm.l0 k l (n : Int)) (fun k => ?_) (ih (by omega) ?_)
        · simp only [spec_l2norm.l0]
          rw [show ((n + 1 : Nat) : Int) - 1 = (n : Int) by omega, w64 (x := (n : Int)) (by omega) (by omega), if_pos (by omega), if_pos (by omega), if_pos (by omega), rd_get _ _ (by omega), if_pos h0]
        · rw [← hs, strip_take_zero (by omega) h0]
      · refine Ev.step (f := fun _ => some (strip l)) (fun k => ?_) (Ev.now _)
        simp only [spec_l2norm.l0, Option.bind_some]
        rw [show ((n + 1 : Nat) : Int) - 1 = (n : Int) by omega, w64 (x := (n : Int)) (by omega) (by omega), if_pos (by omega), if_pos (by omega), if_pos (by omega), rd_get _ _ (by omega), if_neg h0, if_pos (by omega), if_pos (by omega), if_pos (by simp; omega)]
        rw [← hs, strip_take_ne (by omega) h0]
        simp
  have := key l.length (Nat.le_refl _) (by simp)
  exact this

/-! #### l3make -/
theorem ev_spec_l3make (s : Bool) (l : List Int) (h : Norm l) (hb : l.length ≤ 1000000) : Ev (fun n => spec_l3make.f n s l) (s && !l.isEmpty, l) := by
  unfold spec_l3make.f
  have e := ev_spec_l2norm l (by omega)
  rw [strip_of_norm h] at e
  cases s
  · simp only [Bool.false_eq_true, if_false]
    exact Ev.bind e (Ev.now _)
  · simp only [if_true]
    refine Ev.bind e ?_
    cases l
    · exact Ev.now _
    · simp; exact Ev.now _

/-! #### DyOk -/
theorem impl_bit0 (l : List Int) (h : Limbs l) : impl_bitOf.f l 0 = some (bit0 l) := by
  unfold impl_bitOf.f bit0
  have z : Int.tdiv 0 16 = 0 := rfl
  have z2 : Int.tmod 0 16 = 0 := rfl
  rw [if_neg (by omega), z, z2, w64 (x := 0) (by omega) (by omega)]
  cases l with
  | nil => rfl
  | cons x l =>
    rw [if_neg (by simp only [List.length_cons]; omega), if_pos (by omega), if_pos (by simp only [List.length_cons]; omega), if_pos (by omega), rd_zero_cons]
    have hx := h.head
    have sh : shr .i64 x 0 = x := by simp [shr]
    rw [sh, and_1 _ hx.1 (by omega)]; rfl
theorem impl_DyOk_eq (s : Bool) (l : List Int) (e : Int) : impl_DyOk.f s l e = some (dyOkB s l e) := by
  unfold impl_DyOk.f dyOkB
  rw [impl_WholeOk_eq]
  simp only [Option.bind_some, within_eq]
  by_cases h : wOkB s l = true
  · have hn := wOkB_nat h
    rw [if_pos h]
    by_cases he : -3000 ≤ e ∧ e ≤ 3000
    · simp only [he, and_self, decide_true, if_true]
      rw [impl_bit0 l hn.2.1]
      simp only [Option.bind_some, h, Bool.true_and]
      by_cases hl : l = []
      · subst hl
        have g : (e == 0) = decide (e = 0) := by by_cases z : e = 0 <;> simp [z]
        simp [bit0, g]
      · have : ¬ (l.length : Int) = 0 := by
          intro z; exact hl (List.eq_nil_of_length_eq_zero (by omega))
        rw [if_neg hl, if_neg this]
        by_cases g : bit0 l = 1 <;> simp [g]
    · simp [he]
  · rw [if_neg h]; simp [h]

/-! #### toNat -/
theorem ev_toIntS (l : List Int) (hb : l.length ≤ 1048576) : Ev (fun k => laws_toIntS.f k l) l := by
  unfold laws_toIntS.f
  refine ev_if_pos (by omega) (ev_if_pos (by simp; omega) ?_)
  have key : ∀ d i : Nat, ∀ x : List Int, i + d = l.length → x.length = l.length → x.take i = l.take i → Ev (fun k => laws_toIntS.l0 k l x (i : Int)) l := by
    intro d
    induction d with
    | zero =>
      intro i x hi hx ht
      refine Ev.step (f := fun _ => some l) (fun k => ?_) (Ev.now _)
      simp only [laws_toIntS.l0]
      rw [if_neg (by omega)]
      rw [List.take_of_length_le (by omega), List.take_of_length_le (by omega)] at ht
      rw [ht]
    | succ d ih =>
      intro i x hi hx ht
      refine Ev.step (f := fun k => laws_toIntS.l0 k l (x.set i (rd l (i : Int))) ((i + 1 : Nat) : Int)) (fun k => ?_) (ih (i + 1) _ (by omega) (by simpa using hx) ?_)
      · simp only [laws_toIntS.l0]
        rw [if_pos (by omega), if_pos (by omega), if_pos (by omega), w64 (by omega) (by omega)]
        simp only [Int.toNat_natCast, Int.natCast_add, Int.natCast_one]
      · rw [List.take_succ_eq_append_getElem (by simp; omega), List.take_succ_eq_append_getElem (by omega), rd_get _ _ (by omega)]
        rw [List.take_set_of_le (by omega), ht]
        simp
  exact key l.length 0 _ (by omega) (by simp) (by simp)
theorem ev_toNat (l : List Int) (hb : l.length ≤ 1048576) : Ev (fun k => laws_toNat.f k l) l := by
  unfold laws_toNat.f
  exact Ev.bind (ev_toIntS l hb) (Ev.now _)
theorem szNat_small (l : List Int) (n : Nat) (hn : n ≤ 1048576) (h : l.length ≤ n) : laws_szNat.f l n = some ((n - l.length : Nat) : Int) := by
  unfold laws_szNat.f laws_szIntS.f
  rw [w64 (by omega) (by omega), if_neg (by omega)]
  simp only [Option.bind_some]
  rw [if_neg (by omega)]
  congr 1; omega
theorem szNat_big (l : List Int) (n : Nat) (hn : n ≤ 1048576) (hm : l.length ≤ maxLen) (h : n < l.length) : laws_szNat.f l n = some (-1) := by
  unfold maxLen at hm
  unfold laws_szNat.f laws_szIntS.f
  rw [w64 (by omega) (by omega), if_pos (by omega)]
  rfl

/-! #### eqIntS -/
theorem ev_eqIntS (l0 l1 : List Int) (hb : l0.length ≤ 9000000000000000000) : Ev (fun k => laws_eqIntS.f k l0 l1) (decide (l0 = l1)) := by
  unfold laws_eqIntS.f
  by_cases hl : (l0.length : Int) = (l1.length : Int)
  · refine ev_if_pos hl ?_
    have key : ∀ d i : Nat, i + d = l0.length → l0.take i = l1.take i → Ev (fun k => laws_eqIntS.l0 k l0 l1 (i : Int)) (decide (l0 = l1)) := by
      intro d
      induction d with
      | zero =>
        intro i hi ht
        have he : l0 = l1 := by rw [List.take_of_length_le (by omega), List.take_of_length_le (by omega)] at ht; exact ht
        refine Ev.step (f := fun _ => some (decide (l0 = l1))) (fun k => ?_) (Ev.now _)
        simp only [laws_eqIntS.l0]
        rw [if_neg (by omega)]; simp [he]
      | succ d ih =>
        intro i hi ht
        by_cases he : rd l0 (i : Int) = rd l1 (i : Int)
        · refine Ev.step (f := fun k => laws_eqIntS.l0 k l0 l1 ((i + 1 : Nat) : Int)) (fun k => ?_) (ih (i + 1) (by omega) ?_)
          · simp only [laws_eqIntS.l0]
            rw [if_pos (by omega), if_pos (by omega), if_pos (by omega), if_pos he, w64 (by omega) (by omega)]
            rfl
          · rw [rd_get _ _ (by omega), rd_get _ _ (by omega)] at he
            rw [List.take_succ_eq_append_getElem (by omega), List.take_succ_eq_append_getElem (by omega), ht, he]
        · refine Ev.step (f := fun _ => some (decide (l0 = l1))) (fun k => ?_) (Ev.now _)
          simp only [laws_eqIntS.l0]
          rw [if_pos (by omega), if_pos (by omega), if_pos (by omega), if_neg he]
          have hne : ¬ l0 = l1 := fun e => he (by rw [e])
          simp [hne]
    exact key l0.length 0 (by omega) (by simp)
  · refine ev_if_neg hl ?_
    have hne : ¬ l0 = l1 := fun e => hl (by rw [e])
    have e : (fun _ : Nat => some false) = fun _ : Nat => some (decide (l0 = l1)) := by simp [hne]
    rw [e]; exact Ev.now _

/-! #### eqNat -/
theorem ev_eqNat (l0 l1 : List Int) (hb : l0.length ≤ 9000000000000000000) : Ev (fun k => laws_eqNat.f k l0 l1) (decide (l0 = l1)) := by
  unfold laws_eqNat.f
  refine Ev.bind (ev_eqIntS l0 l1 hb) ?_
  by_cases h : l0 = l1
  · simp only [h, decide_true, if_true]; exact Ev.now _
  · simp only [h, decide_false]; exact Ev.now _

/-! #### toWhole -/
theorem ev_toWhole (s : Bool) (l : List Int) (hb : l.length ≤ 1048576) : Ev (fun k => laws_toWhole.f k s l) (s, l) := by
  unfold laws_toWhole.f
  exact Ev.bind (ev_toNat l hb) (Ev.now _)
theorem szWhole_small (s : Bool) (l : List Int) (n : Nat) (hn : n ≤ 1048576) (h : l.length ≤ n) : laws_szWhole.f s l n = some ((n - l.length : Nat) : Int) := by
  unfold laws_szWhole.f
  rw [szNat_small l n hn h]
  simp only [Option.bind_some]
  rw [if_neg (by omega)]
theorem szWhole_big (s : Bool) (l : List Int) (n : Nat) (hn : n ≤ 1048576) (hm : l.length ≤ maxLen) (h : n < l.length) : laws_szWhole.f s l n = some (-1) := by
  unfold laws_szWhole.f
  rw [szNat_big l n hn hm h]
  rfl

/-! #### eqWhole -/
theorem ev_eqWhole (s : Bool) (l : List Int) (hb : l.length ≤ 9000000000000000000) : Ev (fun k => laws_eqWhole.f k s l s l) true := by
  unfold laws_eqWhole.f
  simp only [bne_self_eq_false, Bool.false_eq_true, if_false]
  refine Ev.bind (ev_eqNat l l hb) ?_
  simp only [decide_true, if_true]
  exact Ev.now _

/-! #### eqDy -/
theorem ev_eqDy (s : Bool) (l : List Int) (e : Int) (hb : l.length ≤ 9000000000000000000) : Ev (fun k => laws_eqDy.f k s l e s l e) true := by
  unfold laws_eqDy.f
  refine Ev.bind (ev_eqWhole s l hb) ?_
  simp only [if_true]
  exact Ev.now _

/-! #### DyH -/
theorem ev_toDy (s : Bool) (l : List Int) (e : Int) (hb : l.length ≤ 1048576) : Ev (fun k => laws_toDy.f k s l e) (s, l, e) := by
  unfold laws_toDy.f
  exact Ev.bind (ev_toWhole s l hb) (Ev.now _)
theorem szDy_small (s : Bool) (l : List Int) (e : Int) (n : Nat) (hn : n ≤ 1048576) (h : l.length ≤ n) : laws_szDy.f s l e n = some ((n - l.length : Nat) : Int) := by
  unfold laws_szDy.f
  rw [szWhole_small s l n hn h]
  simp only [Option.bind_some]
  rw [if_neg (by omega)]
theorem szDy_big (s : Bool) (l : List Int) (e : Int) (n : Nat) (hn : n ≤ 1048576) (hm : l.length ≤ maxLen) (h : n < l.length) : laws_szDy.f s l e n = some (-1) := by
  unfold laws_szDy.f
  rw [szWhole_big s l n hn hm h]
  rfl

/-! #### markIntS -/
/-- Marks from a on. -/
def marks (a : Int) : Nat → List Int
  | 0 => []
  | n + 1 => a :: marks (a + 1) n
theorem marks_length (n : Nat) : ∀ a, (marks a n).length = n := by
  induction n with
  | zero => intro a; rfl
  | succ n ih => intro a; simp [marks, ih]
theorem marks_get (n : Nat) : ∀ a i, i < n → (marks a n).getD i 0 = a + i := by
  induction n with
  | zero => intro a i h; omega
  | succ n ih =>
    intro a i h
    cases i with
    | zero => simp [marks]
    | succ i => simp only [marks, List.getD_cons_succ]; rw [ih _ _ (by omega)]; omega
theorem ev_markIntS (l : List Int) (a : Int) (h0 : 0 ≤ a) (hb : a + l.length ≤ 9000000000000000000) : Ev (fun k => laws_markIntS.f k l a) (a + l.length, marks a l.length) := by
  unfold laws_markIntS.f
  have key : ∀ d i : Nat, ∀ x : List Int, i + d = l.length → x.length = l.length → (∀ j, j < i → x.getD j 0 = a + j) →
      Ev (fun k => laws_markIntS.l0 k x (a + i) (i : Int)) (a + l.length, marks a l.length) := by
    intro d
    induction d with
    | zero =>
      intro i x hi hx hm
      refine Ev.step (f := fun _ => some (a + l.length, marks a l.length)) (fun k => ?_) (Ev.now _)
      simp only [laws_markIntS.l0]
      rw [if_neg (by omega)]
      have e : x = marks a l.length := by
        apply List.ext_getElem
        · rw [hx, marks_length]
        · intro j h1 h2
          have p := hm j (by omega)
          have q := marks_get l.length a j (by omega)
          rw [List.getD_eq_getElem?_getD, List.getElem?_eq_getElem h1, Option.getD_some] at p
          rw [List.getD_eq_getElem?_getD, List.getElem?_eq_getElem h2, Option.getD_some] at q
          omega
      rw [e, show (i : Int) = l.length by omega]
    | succ d ih =>
      intro i x hi hx hm
      refine Ev.step (f := fun k => laws_markIntS.l0 k (x.set i (a + i)) (a + ((i + 1 : Nat) : Int)) ((i + 1 : Nat) : Int)) (fun k => ?_) (ih (i + 1) _ (by omega) (by simpa using hx) ?_)
      · simp only [laws_markIntS.l0]
        rw [if_pos (by omega), if_pos (by omega), w64 (x := a + i + 1) (by omega) (by omega), w64 (x := (i : Int) + 1) (by omega) (by omega)]
        simp only [Int.toNat_natCast, Int.natCast_add, Int.natCast_one, Int.add_assoc]
      · intro j hj
        by_cases e : j = i
        · subst e
          simp [List.getD_eq_getElem?_getD, List.getElem?_set, show j < x.length by omega]
        · have := hm j (by omega)
          rw [List.getD_eq_getElem?_getD] at this ⊢
          rw [List.getElem?_set_ne (by omega)]; exact this
  have := key l.length 0 l (by omega) rfl (fun j hj => by omega)
  simpa using this
theorem ev_heldIntS (n : Nat) (a : Int) (h0 : 0 ≤ a) (hb : a + n ≤ 9000000000000000000) : Ev (fun k => laws_heldIntS.f k (marks a n) a) (a + n) := by
  unfold laws_heldIntS.f
  have hl := marks_length n a
  have key : ∀ d i : Nat, i + d = n → Ev (fun k => laws_heldIntS.l0 k (marks a n) (a + i) (i : Int)) (a + n) := by
    intro d
    induction d with
    | zero =>
      intro i hi
      refine Ev.step (f := fun _ => some (a + n)) (fun k => ?_) (Ev.now _)
      simp only [laws_heldIntS.l0]
      rw [if_neg (by omega), show (i : Int) = n by omega]
    | succ d ih =>
      intro i hi
      refine Ev.step (f := fun k => laws_heldIntS.l0 k (marks a n) (a + ((i + 1 : Nat) : Int)) ((i + 1 : Nat) : Int)) (fun k => ?_) (ih (i + 1) (by omega))
      simp only [laws_heldIntS.l0]
      rw [if_pos (by omega), if_pos (by omega), if_pos (by rw [rd_nat, marks_get n a i (by omega)]), w64 (x := a + i + 1) (by omega) (by omega), w64 (x := (i : Int) + 1) (by omega) (by omega)]
      simp only [Int.natCast_add, Int.natCast_one, Int.add_assoc]
  have := key n 0 (by omega)
  simpa using this

/-! #### markNat -/
theorem ev_markNat (l : List Int) (a : Int) (h0 : 0 ≤ a) (hb : a + l.length ≤ 9000000000000000000) : Ev (fun k => laws_markNat.f k l a) (a + l.length, marks a l.length) := by
  unfold laws_markNat.f
  exact Ev.bind (ev_markIntS l a h0 hb) (Ev.now _)
theorem ev_heldNat (n : Nat) (a : Int) (h0 : 0 ≤ a) (hb : a + n ≤ 9000000000000000000) : Ev (fun k => laws_heldNat.f k (marks a n) a) (a + n) := by
  unfold laws_heldNat.f
  refine Ev.bind (ev_heldIntS n a h0 hb) ?_
  rw [if_neg (by omega)]
  exact Ev.now _

/-! #### markWhole -/
theorem ev_markWhole (s : Bool) (l : List Int) (a : Int) (h0 : 0 ≤ a) (hb : a + l.length ≤ 9000000000000000000) : Ev (fun k => laws_markWhole.f k s l a) (a + l.length, marks a l.length) := by
  unfold laws_markWhole.f
  exact Ev.bind (ev_markNat l a h0 hb) (Ev.now _)
theorem ev_heldWhole (s : Bool) (n : Nat) (a : Int) (h0 : 0 ≤ a) (hb : a + n ≤ 9000000000000000000) : Ev (fun k => laws_heldWhole.f k s (marks a n) a) (a + n) := by
  unfold laws_heldWhole.f
  refine Ev.bind (ev_heldNat n a h0 hb) ?_
  rw [if_neg (by omega)]
  exact Ev.now _

/-! #### markDy -/
theorem ev_markDy (s : Bool) (l : List Int) (e : Int) (a : Int) (h0 : 0 ≤ a) (hb : a + l.length ≤ 9000000000000000000) : Ev (fun k => laws_markDy.f k s l e a) (a + l.length, marks a l.length) := by
  unfold laws_markDy.f
  exact Ev.bind (ev_markWhole s l a h0 hb) (Ev.now _)
theorem ev_heldDy (s : Bool) (n : Nat) (e : Int) (a : Int) (h0 : 0 ≤ a) (hb : a + n ≤ 9000000000000000000) : Ev (fun k => laws_heldDy.f k s (marks a n) e a) (a + n) := by
  unfold laws_heldDy.f
  exact Ev.bind (ev_heldWhole s n a h0 hb) (ev_if_neg (by omega) (Ev.now _))

/-! #### law_FnExactDyShift -/
theorem odd_stays (s : Bool) (l : List Int) (e : Int) (h : Norm l) (hb : l.length ≤ 1000) (ho : bit0 l = 1) (e0 : -100000 ≤ e) (e1 : e ≤ 100000) : Ev (fun k => impl_exact_odd.f k s l e) (s, l, e) := by
  have hl : l ≠ [] := by intro z; rw [z] at ho; simp [bit0] at ho
  have tr : Ev (fun k => impl_trailOf.f k l) 0 := by
    cases l with
    | nil => exact absurd rfl hl
    | cons x l =>
      have hx := h.1.head
      have ox : x % 2 = 1 := ho
      obtain ⟨_, _, cl⟩ := ctz_limb x (by omega) (by omega)
      have c0 : Go.Lib.ctz 64 x.toNat = 0 := by
        rcases Nat.eq_zero_or_pos (Go.Lib.ctz 64 x.toNat) with z | z
        · exact z
        · have := cl 0 z
          simp at this
          omega
      have hu : IntKind.u64.wrap x = x := u64_in (by omega) (by omega)
      have ht : bits_TrailingZeros.f x = some 0 := by
        unfold bits_TrailingZeros.f bits_TrailingZeros64.f
        rw [if_pos (by omega), c0]; rfl
      unfold impl_trailOf.f
      refine Ev.step (fun k => by simp only [impl_trailOf.l0]; rfl) (ev_if_pos (by simp only [List.length_cons]; omega) (ev_if_pos (by decide) (ev_if_pos (by simp only [List.length_cons]; omega) (ev_if_neg (by rw [rd_zero_cons]; omega) ?_))))
      rw [rd_zero_cons, hu]
      refine ev_bind0 ht ?_
      rw [w64 (x := 16 * 0) (by omega) (by omega), w64 (by omega) (by omega)]
      exact Ev.now _
  obtain ⟨p, hp, p1, p2, _⟩ := ev_impl_down l 0 h.1 (by omega) (by omega) (by omega)
  have ep : p = l := norm_inj p1 h (by rw [p2]; simp [shrI])
  subst ep
  unfold impl_exact_odd.f
  refine ev_if_neg (by have := List.length_pos_iff.2 hl; omega) (Ev.bind tr (Ev.bind hp ?_))
  rw [w64 (by omega) (by omega), Int.add_zero]
  exact Ev.now _
theorem dyOkB_parts {s : Bool} {l : List Int} {z : Int} (h : dyOkB s l z = true) : (l.length ≤ 100 ∧ Norm l) ∧ (-3000 ≤ z ∧ z ≤ 3000) ∧ (l ≠ [] → bit0 l = 1) := by
  unfold dyOkB at h
  simp only [Bool.and_eq_true, decide_eq_true_eq] at h
  refine ⟨wOkB_nat h.1.1, h.1.2, fun g => ?_⟩
  have := h.2
  rw [if_neg g] at this
  exact of_decide_eq_true this
theorem shift_agree (s : Bool) (l : List Int) (z e : Int) (h0 : -9223372036854775808 ≤ e) (h1 : e ≤ 9223372036854775807) (hb : l.length ≤ 1048576) :
    ∃ r : Bool × List Int × Int × Bool, r.2.1.length ≤ 100 ∧ Ev (fun k => spec_DyShift.f k s l z e) r ∧ Ev (fun k => impl_DyShift.f k s l z e) r := by
  have bad : Ev (fun k => spec_DyShift.j0 k e true s l z) (false, ([] : List Int), 0, false) := by
    refine Ev.step (fun k => by simp only [spec_DyShift.j0]; rfl) ?_
    simp only [if_true]
    exact Ev.now _
  have bad2 : Ev (fun k => impl_DyShift.j0 k e true s l z) (false, ([] : List Int), 0, false) := by
    refine Ev.step (fun k => by simp only [impl_DyShift.j0]; rfl) ?_
    simp only [if_true]
    exact Ev.now _
  have l4e : spec_l4e.f e = some (decide (-12000 ≤ e ∧ e ≤ 12000)) := by
    unfold spec_l4e.f
    by_cases g : e ≥ -12000
    · rw [if_pos g]; exact congrArg some (decide_eq_decide.mpr (by omega))
    · rw [if_neg g, decide_eq_false (by omega)]
  by_cases h : dyOkB s l z = true
  · obtain ⟨hk, hz, ho⟩ := dyOkB_parts h
    by_cases he : -12000 ≤ e ∧ e ≤ 12000
    · have w : wrap64 (z + e) = z + e := w64 (by omega) (by omega)
      by_cases hl : l = []
      · subst hl
        refine ⟨(false, [], 0, true), by simp, ?_, ?_⟩
        · unfold spec_DyShift.f
          refine Ev.bind (ev_spec_DyOk s [] z (by simp)) (ev_if_pos h (ev_bind0 l4e ?_))
          rw [decide_eq_true he]
          refine Ev.step (fun k => by simp only [spec_DyShift.j0]; rfl) (ev_if_neg (by simp) ?_)
          exact ev_if_pos rfl (Ev.now _)
        · unfold impl_DyShift.f
          refine ev_bind0 (impl_DyOk_eq s [] z) (ev_if_pos h ?_)
          refine ev_bind0 (within_eq _ _ _) ?_
          rw [decide_eq_true he]
          refine Ev.step (fun k => by simp only [impl_DyShift.j0]; rfl) (ev_if_neg (by simp) ?_)
          refine ev_bind0 (a := true) rfl (ev_bind0 (a := true) rfl ?_)
          have od : Ev (fun n => impl_exact_odd.f n s [] (wrap64 (z + e))) (false, [], 0) := by
            unfold impl_exact_odd.f
            exact ev_if_pos rfl (Ev.now _)
          exact Ev.bind (ev_impl_dy od) (Ev.now _)
      · refine ⟨fitsV s l (z + e), fitsV_len s l (z + e), ?_, ?_⟩
        · unfold spec_DyShift.f
          refine Ev.bind (ev_spec_DyOk s l z (by omega)) (ev_if_pos h (ev_bind0 l4e ?_))
          rw [decide_eq_true he]
          have hp : 0 < l.length := List.length_pos_iff.2 hl
          refine Ev.step (fun k => by simp only [spec_DyShift.j0]; rfl) (ev_if_neg (by simp) (ev_if_neg (by omega) ?_))
          rw [w]
          exact Ev.bind (ev_spec_l3make s l hk.2 (by omega)) (Ev.bind (ev_spec_l4fits s l (z + e) hk.2 (by omega) (fun y => absurd y hl) ho) (Ev.now _))
        · unfold impl_DyShift.f
          refine ev_bind0 (impl_DyOk_eq s l z) (ev_if_pos h ?_)
          refine ev_bind0 (within_eq _ _ _) ?_
          rw [decide_eq_true he]
          refine Ev.step (fun k => by simp only [impl_DyShift.j0]; rfl) (ev_if_neg (by simp) ?_)
          refine ev_bind0 (a := true) rfl (ev_bind0 (a := true) rfl ?_)
          rw [w]
          exact Ev.bind (ev_impl_dy (odd_stays s l (z + e) hk.2 (by omega) (ho hl) (by omega) (by omega))) (Ev.now _)
    · refine ⟨(false, [], 0, false), by simp, ?_, ?_⟩
      · unfold spec_DyShift.f
        refine Ev.bind (ev_spec_DyOk s l z (by omega)) (ev_if_pos h (ev_bind0 l4e ?_))
        rw [decide_eq_false he]
        exact bad
      · unfold impl_DyShift.f
        refine ev_bind0 (impl_DyOk_eq s l z) (ev_if_pos h ?_)
        refine ev_bind0 (within_eq _ _ _) ?_
        rw [decide_eq_false he]
        exact bad2
  · refine ⟨(false, [], 0, false), by simp, ?_, ?_⟩
    · unfold spec_DyShift.f
      exact Ev.bind (ev_spec_DyOk s l z (by omega)) (ev_if_neg h bad)
    · unfold impl_DyShift.f
      exact ev_bind0 (impl_DyOk_eq s l z) (ev_if_neg h bad2)
theorem FnExactDyShift : laws_FnExactDyShift.Pure := by
  intro s l z e hm hw hz he
  have g : Ev (fun n => laws_FnExactDyShift.f n s l z e) true := by
    unfold laws_FnExactDyShift.f
    by_cases hs : l.length ≤ 1048576
    · obtain ⟨r, hr, h1, h2⟩ := shift_agree s l z e (wfI he).1 (wfI he).2 hs
      have hmk := ev_markDy r.1 r.2.1 r.2.2.1 1 (by omega) (by omega)
      have hh := ev_heldDy r.1 r.2.1.length r.2.2.1 1 (by omega) (by omega)
      refine ev_bind0 (szDy_small s l z 1048576 (Nat.le_refl _) hs) (ev_if_neg (by omega) ?_)
      refine Ev.bind (ev_toDy s l z hs) (Ev.bind h1 (Ev.bind (ev_toDy s l z hs) (Ev.bind h2 (Ev.bind (ev_eqDy r.1 r.2.1 r.2.2.1 (by omega)) ?_))))
      simp only [if_true, bne_self_eq_false]
      refine Ev.step (fun n => by simp only [laws_FnExactDyShift.j0]; rfl) ?_
      simp only [Bool.false_eq_true, if_false]
      refine Ev.bind (ev_toDy s l z hs) (Ev.bind (ev_eqDy s l z (by omega)) ?_)
      simp only [if_true]
      refine Ev.bind (ev_markDy s l z 1 (by omega) (by omega)) (ev_if_neg (by omega) (Ev.bind (ev_eqDy r.1 r.2.1 r.2.2.1 (by omega)) ?_))
      simp only [if_true, bne_self_eq_false]
      refine Ev.step (fun n => by simp only [laws_FnExactDyShift.j1]; rfl) ?_
      simp only [Bool.false_eq_true, if_false]
      refine Ev.bind hmk (Ev.bind hh (ev_if_neg (by omega) (ev_if_pos rfl (Ev.bind (ev_toDy s l z hs) (Ev.bind h2 (Ev.bind (ev_eqDy r.1 r.2.1 r.2.2.1 (by omega)) ?_))))))
      simp only [if_true, bne_self_eq_false]
      refine Ev.step (fun n => by simp only [laws_FnExactDyShift.j2]; rfl) ?_
      simp only [Bool.false_eq_true, if_false]
      exact Ev.bind hh (ev_if_neg (by omega) (ev_if_pos rfl (Ev.now _)))
    · refine ev_bind0 (szDy_big s l z 1048576 (Nat.le_refl _) hm (by omega)) (ev_if_pos (by omega) (Ev.now _))
  exact g.rounds

end Go.Proofs.YtgjpahofopoflaaDoor.Pure
