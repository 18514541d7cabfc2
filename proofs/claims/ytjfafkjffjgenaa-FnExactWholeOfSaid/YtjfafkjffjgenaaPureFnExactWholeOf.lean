/- The pure statement of the law FnExactWholeOf: at every input that its guards let in the program's answer is the reference's. -/
import Derived.Test.YtjfafkjffjgenaaPFnExactWholeOfx4
import Derived.Test.YtjfafkjffjgenaaLib
import Derived.WalkKit
namespace Go.Proofs.Ytjfafkjffjgenaa.Pure
open Go.RowKit Go.Proofs.Ytjfafkjffjgenaa.PFnExactWholeOf Go.Proofs.YtjfafkjffjgenaaW.PrintWords Go.Proofs.YtjfafkjffjgenaaW.PrintLast Go.Proofs.Ytjfafkjffjgenaa.Lib
set_option linter.unusedVariables false
set_option linter.unusedSimpArgs false

/-! #### l2of -/
theorem ev_spec_l2of (n : Int) (h1 : n ≤ 9223372036854775807) : Ev (fun k => spec_l2of.f k n) (dig n) := by
  unfold spec_l2of.f dig
  have key : ∀ f : Nat, ∀ x : Int, ∀ acc : List Int, x < pw f → x ≤ 9223372036854775807 → acc.length + f < 1000 → Ev (fun k => spec_l2of.l0 k x acc) (acc ++ digF f x) := by
    intro f
    induction f with
    | zero =>
      intro x acc hx hb ha
      simp [pw] at hx
      refine Ev.step (f := fun _ => some (acc ++ digF 0 x)) (fun k => ?_) (Ev.now _)
      simp only [spec_l2of.l0]
      rw [if_neg (by omega)]; simp [digF]
    | succ f ih =>
      intro x acc hx hb ha
      by_cases h : x ≤ 0
      · refine Ev.step (f := fun _ => some (acc ++ digF (f + 1) x)) (fun k => ?_) (Ev.now _)
        simp only [spec_l2of.l0]
        rw [if_neg (by omega)]; simp [digF, h]
      · have e : acc ++ digF (f + 1) x = (acc ++ [x % 65536]) ++ digF f (x / 65536) := by
          simp [digF, h]
        rw [e]
        simp only [pw] at hx
        refine Ev.step (f := fun k => spec_l2of.l0 k (x / 65536) (acc ++ [x % 65536])) (fun k => ?_) (ih _ _ (by omega) (by omega) (by simp; omega))
        simp only [spec_l2of.l0]
        rw [if_pos (by omega), if_pos (by omega), td _ _ (by omega), tm _ _ (by omega), w64 (by omega) (by omega)]
  have := key 4 n [] (by rw [pw4]; omega) h1 (by simp)
  simpa using this

/-! #### l2norm -/
theorem ev_spec_l2norm (l : List Int) (hb : l.length ≤ 1000000000) : Ev (fun k => spec_l2norm.f k l) (strip l) := by
  unfold spec_l2norm.f
  have key : ∀ n : Nat, n ≤ l.length → strip (l.take n) = strip l → Ev (fun k => spec_l2norm.l0 k l (n : Int)) (strip l) := by
    intro n
    induction n with
    | zero =>
      intro _ hs
      refine Ev.step (f := fun _ => some (strip l)) (fun k => ?_) (Ev.now _)
      simp only [spec_l2norm.l0, Option.bind_some]
      rw [if_neg (by omega), if_pos (by omega), if_pos (by omega), if_pos (by simp)]
      simpa [strip] using hs
    | succ n ih =>
      intro hn hs
      by_cases h0 : l[n] = 0
      · refine Ev.step (f := fun k => spec_l2norm.l0 k l (n : Int)) (fun k => ?_) (ih (by omega) ?_)
        · simp only [spec_l2norm.l0]
          rw [show ((n + 1 : Nat) : Int) - 1 = (n : Int) by omega, w64 (x := (n : Int)) (by omega) (by omega), if_pos (by omega), if_pos (by omega), if_pos (by omega), rd_get _ _ (by omega), if_pos h0]
        · rw [← hs, strip_take_zero (by omega) h0]
      · refine Ev.step (f := fun _ => some (strip l)) (fun k => ?_) (Ev.now _)
        simp only [spec_l2norm.l0, Option.bind_some]
        rw [show ((n + 1 : Nat) : Int) - 1 = (n : Int) by omega, w64 (x := (n : Int)) (by omega) (by omega), if_pos (by omega), if_pos (by omega), if_pos (by omega), rd_get _ _ (by omega), if_neg h0, if_pos (by omega), if_pos (by omega), if_pos (by simp; omega)]
        rw [← hs, strip_take_ne (by omega) h0]
        simp
  have := key l.length (Nat.le_refl _) (by simp)
  exact this

/-! #### l2add -/
theorem add_step (x y c P A B O T : Int) (h : O + P * (c + (x + 65536 * A) + (y + 65536 * B)) = T) : O + P * ((c + x + y) % 65536) + 65536 * P * ((c + x + y) / 65536 + A + B) = T := by
  have e := Int.mul_ediv_add_emod (c + x + y) 65536
  have e2 : P * (c + (x + 65536 * A) + (y + 65536 * B)) = P * ((c + x + y) % 65536) + 65536 * P * ((c + x + y) / 65536 + A + B) := by
    have e3 : c + (x + 65536 * A) + (y + 65536 * B) = (c + x + y) % 65536 + 65536 * ((c + x + y) / 65536 + A + B) := by omega
    rw [e3, Int.mul_add, ← Int.mul_assoc, Int.mul_comm P 65536]
  omega
theorem val_drop_any (l : List Int) (i : Nat) : val (l.drop i) = rd l (i : Int) + 65536 * val (l.drop (i + 1)) := by
  by_cases h : i < l.length
  · exact val_drop_at h
  · rw [List.drop_eq_nil_of_le (by omega), List.drop_eq_nil_of_le (by omega), rd_out _ _ (by omega)]; simp [val]
theorem ev_spec_l2add (a b : List Int) (ha : Limbs a) (hb : Limbs b) (hla : a.length ≤ 1000000) (hlb : b.length ≤ 1000000) :
    ∃ q : List Int, Ev (fun n => spec_l2add.f n a b) q ∧ Norm q ∧ val q = val a + val b ∧ q.length ≤ max a.length b.length + 1 := by
  unfold spec_l2add.f
  have key : ∀ d i : Nat, i + d = max a.length b.length + 1 → ∀ (out : List Int) (c : Int), out.length = i → Limbs out → 0 ≤ c → c ≤ 1 → (d = 0 → c = 0) →
      val out + pw i * (c + val (a.drop i) + val (b.drop i)) = val a + val b →
      ∃ q : List Int, Ev (fun n => spec_l2add.l0 n out c (i : Int) a b) q ∧ Norm q ∧ val q = val a + val b ∧ q.length ≤ max a.length b.length + 1 := by
    intro d
    induction d with
    | zero =>
      intro i hi out c ho hl h0 h1 hc hv
      have hc0 := hc rfl
      subst hc0
      rw [List.drop_eq_nil_of_le (by omega), List.drop_eq_nil_of_le (by omega)] at hv
      simp [val] at hv
      refine ⟨strip out, ?_, strip_norm hl, by rw [val_strip]; exact hv, by have := strip_len out; omega⟩
      refine Ev.step (fun n => by simp only [spec_l2add.l0]; rw [if_neg (by omega), if_neg (by omega)]) ?_
      refine Ev.step (fun n => by simp only [spec_l2add.j1]; rfl) ?_
      simp only [Int.lt_irrefl, gt_iff_lt, decide_false, Bool.false_eq_true, if_false]
      exact Ev.bind (ev_spec_l2norm out (by omega)) (Ev.now _)
    | succ d ih =>
      intro i hi out c ho hl h0 h1 hc hv
      have hx := rd_limb ha (i : Int)
      have hy := rd_limb hb (i : Int)
      have hv2 := hv
      rw [val_drop_any a i, val_drop_any b i] at hv2
      have hs := add_step _ _ _ _ _ _ _ _ hv2
      have hm0 : 0 ≤ (c + rd a (i : Int) + rd b (i : Int)) % 65536 ∧ (c + rd a (i : Int) + rd b (i : Int)) % 65536 ≤ 65535 := by omega
      have hd0 : 0 ≤ (c + rd a (i : Int) + rd b (i : Int)) / 65536 ∧ (c + rd a (i : Int) + rd b (i : Int)) / 65536 ≤ 1 := by omega
      have hnext : val (out ++ [(c + rd a (i : Int) + rd b (i : Int)) % 65536]) + pw (i + 1) * ((c + rd a (i : Int) + rd b (i : Int)) / 65536 + val (a.drop (i + 1)) + val (b.drop (i + 1))) = val a + val b := by
        rw [val_snoc, ho]; simp only [pw]; exact hs
      have hcz : d = 0 → (c + rd a (i : Int) + rd b (i : Int)) / 65536 = 0 := by
        intro hd
        have p1 : rd a (i : Int) = 0 := rd_out _ _ (by omega)
        have p2 : rd b (i : Int) = 0 := rd_out _ _ (by omega)
        omega
      have next := ih (i + 1) (by omega) (out ++ [(c + rd a (i : Int) + rd b (i : Int)) % 65536]) ((c + rd a (i : Int) + rd b (i : Int)) / 65536) (by simp; omega) (hl.append (Limbs.cons hm0.1 hm0.2 Limbs.nil)) hd0.1 hd0.2 hcz hnext
      obtain ⟨q, hq, hrest⟩ := next
      have c1 : ((i + 1 : Nat) : Int) = (i : Int) + 1 := by omega
      rw [c1] at hq
      by_cases hla' : (i : Int) < (a.length : Int)
      · refine ⟨q, ?_, hrest⟩
        refine Ev.step (fun n => by simp only [spec_l2add.l0]; rw [if_pos hla']) ?_
        refine Ev.step (fun n => by simp only [spec_l2add.j1]; rfl) ?_
        simp only [if_true, if_pos hla']
        refine ev_if_pos (by omega) ?_
        by_cases hlb' : (i : Int) < (b.length : Int)
        · simp only [if_pos hlb']
          refine ev_if_pos (by omega) ?_
          rw [w64 (x := c + rd a (i : Int)) (by omega) (by omega), w64 (x := c + rd a (i : Int) + rd b (i : Int)) (by omega) (by omega), tm _ _ (by omega), td _ _ (by omega), w64 (by omega) (by omega), w64 (by omega) (by omega)]
          exact hq
        · simp only [if_neg hlb']
          refine ev_if_pos (by omega) ?_
          have z : rd b (i : Int) = 0 := rd_out _ _ (by omega)
          rw [z] at hq
          rw [w64 (x := c + rd a (i : Int)) (by omega) (by omega), tm _ _ (by omega), td _ _ (by omega), w64 (by omega) (by omega), w64 (by omega) (by omega)]
          simpa using hq
      · have za : rd a (i : Int) = 0 := rd_out _ _ (by omega)
        by_cases hlb' : (i : Int) < (b.length : Int)
        · refine ⟨q, ?_, hrest⟩
          refine Ev.step (fun n => by simp only [spec_l2add.l0]; rw [if_neg hla', if_pos hlb']) ?_
          refine Ev.step (fun n => by simp only [spec_l2add.j1]; rfl) ?_
          simp only [if_true, if_neg hla', if_pos hlb']
          refine ev_if_pos (by omega) (ev_if_pos (by omega) ?_)
          rw [za] at hq
          rw [w64 (x := c + rd b (i : Int)) (by omega) (by omega), tm _ _ (by omega), td _ _ (by omega), w64 (by omega) (by omega), w64 (by omega) (by omega)]
          simpa using hq
        · have zb : rd b (i : Int) = 0 := rd_out _ _ (by omega)
          by_cases hc1 : c > 0
          · refine ⟨q, ?_, hrest⟩
            refine Ev.step (fun n => by simp only [spec_l2add.l0]; rw [if_neg hla', if_neg hlb']) ?_
            refine Ev.step (fun n => by simp only [spec_l2add.j1]; rfl) ?_
            simp only [hc1, decide_true, if_true, if_neg hla', if_neg hlb']
            refine ev_if_pos (by omega) ?_
            rw [za, zb] at hq
            rw [tm _ _ (by omega), td _ _ (by omega), w64 (by omega) (by omega), w64 (by omega) (by omega)]
            simpa using hq
          · have hc0 : c = 0 := by omega
            subst hc0
            rw [List.drop_eq_nil_of_le (by omega), List.drop_eq_nil_of_le (by omega)] at hv
            simp [val] at hv
            refine ⟨strip out, ?_, strip_norm hl, by rw [val_strip]; exact hv, by have := strip_len out; omega⟩
            refine Ev.step (fun n => by simp only [spec_l2add.l0]; rw [if_neg hla', if_neg hlb']) ?_
            refine Ev.step (fun n => by simp only [spec_l2add.j1]; rfl) ?_
            simp only [Int.lt_irrefl, gt_iff_lt, decide_false, Bool.false_eq_true, if_false]
            exact Ev.bind (ev_spec_l2norm out (by omega)) (Ev.now _)
  have := key (max a.length b.length + 1) 0 (by omega) [] 0 rfl Limbs.nil (by omega) (by omega) (by omega) (by simp [val, pw])
  simpa using this

/-! #### l3make -/
theorem ev_spec_l3make (s : Bool) (l : List Int) (h : Norm l) (hb : l.length ≤ 1000000) : Ev (fun n => spec_l3make.f n s l) (s && !l.isEmpty, l) := by
  unfold spec_l3make.f
  have e := ev_spec_l2norm l (by omega)
  rw [strip_of_norm h] at e
  cases s
  · simp only [Bool.false_eq_true, if_false]
    exact Ev.bind e (Ev.now _)
  · simp only [if_true]
    refine Ev.bind e ?_
    cases l
    · exact Ev.now _
    · simp; exact Ev.now _

/-! #### l3of -/
/-- The one form of a magnitude. -/
theorem ev_spec_l3of (n : Int) (h0 : -9223372036854775808 ≤ n) (h1 : n ≤ 9223372036854775807) :
    ∃ l : List Int, Ev (fun k => spec_l3of.f k n) (decide (n < 0), l) ∧ Norm l ∧ val l = (if n < 0 then -n else n) ∧ l.length ≤ 5 := by
  unfold spec_l3of.f
  by_cases h : n < 0
  · have d1 := dig_norm (n := -(n + 1)) (by omega) (by omega)
    have d2 := dig_norm (n := 1) (by omega) (by omega)
    have l1 := dig_len (-(n + 1))
    have l2 := dig_len 1
    obtain ⟨q, hq, q1, q2, q3⟩ := ev_spec_l2add _ _ d1.1 d2.1 (by omega) (by omega)
    rw [dig_val (by omega) (by omega), dig_val (by omega) (by omega)] at q2
    have hne : q ≠ [] := by intro e; subst e; simp [val] at q2; omega
    refine ⟨q, ?_, q1, by rw [if_pos h, q2]; omega, by omega⟩
    refine ev_if_pos h ?_
    rw [w64 (x := n + 1) (by omega) (by omega), w64 (by omega) (by omega)]
    refine Ev.bind (ev_spec_l2of _ (by omega)) (Ev.bind (ev_spec_l2of 1 (by omega)) (Ev.bind hq (Ev.bind (ev_spec_l3make true q q1 (by omega)) ?_)))
    have e : (true && !q.isEmpty) = decide (n < 0) := by cases q <;> simp_all
    rw [e]; exact Ev.now _
  · have d1 := dig_norm (n := n) (by omega) (by omega)
    have l1 := dig_len n
    refine ⟨dig n, ?_, d1, by rw [if_neg h, dig_val (by omega) (by omega)], by omega⟩
    refine ev_if_neg h ?_
    refine Ev.bind (ev_spec_l2of _ (by omega)) (Ev.bind (ev_spec_l3make false _ d1 (by omega)) ?_)
    have e : (false && !(dig n).isEmpty) = decide (n < 0) := by simp [h]
    rw [e]; exact Ev.now _

/-! #### small -/
theorem ev_impl_small (n : Int) (h1 : n ≤ 9223372036854775807) : Ev (fun k => impl_small.f k n) (dig n) := by
  unfold impl_small.f dig
  have key : ∀ f : Nat, ∀ x : Int, ∀ acc : List Int, x < pw f → x ≤ 9223372036854775807 → acc.length + f < 1000 → Ev (fun k => impl_small.l0 k x acc) (acc ++ digF f x) := by
    intro f
    induction f with
    | zero =>
      intro x acc hx hb ha
      simp [pw] at hx
      refine Ev.step (f := fun _ => some (acc ++ digF 0 x)) (fun k => ?_) (Ev.now _)
      simp only [impl_small.l0]
      rw [if_neg (by omega)]; simp [digF]
    | succ f ih =>
      intro x acc hx hb ha
      by_cases h : x ≤ 0
      · refine Ev.step (f := fun _ => some (acc ++ digF (f + 1) x)) (fun k => ?_) (Ev.now _)
        simp only [impl_small.l0]
        rw [if_neg (by omega)]; simp [digF, h]
      · have e : acc ++ digF (f + 1) x = (acc ++ [x % 65536]) ++ digF f (x / 65536) := by
          simp [digF, h]
        rw [e]
        simp only [pw] at hx
        refine Ev.step (f := fun k => impl_small.l0 k (x / 65536) (acc ++ [x % 65536])) (fun k => ?_) (ih _ _ (by omega) (by omega) (by simp; omega))
        simp only [impl_small.l0]
        rw [if_pos (by omega), if_pos (by omega), td _ _ (by omega), tm _ _ (by omega), w64 (by omega) (by omega)]
  have := key 4 n [] (by rw [pw4]; omega) h1 (by simp)
  simpa using this

/-! #### trim -/
theorem ev_impl_trim (l : List Int) (hb : l.length ≤ 1000000000) : Ev (fun k => impl_trim.f k l) (strip l) := by
  unfold impl_trim.f
  have key : ∀ n : Nat, n ≤ l.length → strip (l.take n) = strip l → Ev (fun k => impl_trim.l0 k (l.take n)) (strip l) := by
    intro n
    induction n with
    | zero =>
      intro _ hs
      refine Ev.step (f := fun _ => some (strip l)) (fun k => ?_) (Ev.now _)
      simp only [impl_trim.l0]
      rw [if_neg (by simp)]
      simpa [strip] using hs
    | succ n ih =>
      intro hn hs
      have hlen : (l.take (n + 1)).length = n + 1 := by simp; omega
      have hrd : rd (l.take (n + 1)) (n : Int) = l[n] := by
        rw [rd_get _ _ (by omega)]; simp
      by_cases h0 : l[n] = 0
      · refine Ev.step (f := fun k => impl_trim.l0 k (l.take n)) (fun k => ?_) (ih (by omega) ?_)
        · simp only [impl_trim.l0]
          rw [hlen, show ((n + 1 : Nat) : Int) - 1 = (n : Int) by omega, w64 (x := (n : Int)) (by omega) (by omega), if_pos (by omega), if_pos (by omega), if_pos (by omega), hrd, if_pos h0, if_pos (by omega)]
          rw [Int.toNat_natCast, List.take_take, Nat.min_eq_left (by omega)]
        · rw [← hs, strip_take_zero (by omega) h0]
      · refine Ev.step (f := fun _ => some (strip l)) (fun k => ?_) (Ev.now _)
        simp only [impl_trim.l0]
        rw [hlen, show ((n + 1 : Nat) : Int) - 1 = (n : Int) by omega, w64 (x := (n : Int)) (by omega) (by omega), if_pos (by omega), if_pos (by omega), if_pos (by omega), hrd, if_neg h0]
        rw [← hs, strip_take_ne (by omega) h0]
  have := key l.length (Nat.le_refl _) (by simp)
  rw [List.take_length] at this
  exact this

/-! #### up -/
/-- The value of a number shifted to the left. -/
def shlI (l : List Int) (k : Int) : Int := pw (k / 16).toNat * (val l * 2 ^ (k % 16).toNat)
theorem up_step (O P c x R A T : Int) (h : O + P * (c + (x + 65536 * A) * R) = T) : O + P * ((c + x * R) % 65536) + 65536 * P * ((c + x * R) / 65536 + A * R) = T := by
  have e := Int.mul_ediv_add_emod (c + x * R) 65536
  have e2 : c + (x + 65536 * A) * R = (c + x * R) % 65536 + 65536 * ((c + x * R) / 65536 + A * R) := by
    rw [Int.add_mul, Int.mul_assoc]; omega
  rw [e2, Int.mul_add, ← Int.mul_assoc, Int.mul_comm P 65536] at h
  omega
theorem ev_impl_up (a : List Int) (k : Int) (ha : Limbs a) (hb : a.length ≤ 1000000) (h0 : 0 ≤ k) (h1 : k ≤ 10000000) :
    ∃ q : List Int, Ev (fun n => impl_up.f n a k) q ∧ Norm q ∧ val q = shlI a k := by
  unfold impl_up.f shlI
  rw [td _ _ h0, w64 (x := k / 16) (by omega) (by omega)]
  by_cases hl : (a.length : Int) = 0
  · have e : a = [] := List.eq_nil_of_length_eq_zero (by omega)
    subst e
    exact ⟨[], ev_if_pos hl (Ev.now _), Norm.nil, by simp [val]⟩
  · have hr : (k % 16).toNat < 16 := by omega
    have hp := two_pow_bd hr
    rw [w64 (x := k / 16 + (a.length : Int)) (by omega) (by omega), w64 (by omega) (by omega)]
    generalize hR : (2 : Int) ^ (k % 16).toNat = R at *
    have key : ∀ d i : Nat, i + d = a.length → ∀ (out : List Int) (c : Int), out.length = (k / 16).toNat + i → Limbs out → 0 ≤ c → c ≤ 65535 →
        val out + pw ((k / 16).toNat + i) * (c + val (a.drop i) * R) = pw (k / 16).toNat * (val a * R) →
        ∃ q : List Int, Ev (fun n => impl_up.l0 n k out c a (a.length : Int) (i : Int)) q ∧ Norm q ∧ val q = pw (k / 16).toNat * (val a * R) := by
      intro d
      induction d with
      | zero =>
        intro i hi out c ho hlim hc0 hc1 hv
        rw [List.drop_eq_nil_of_le (by omega)] at hv
        simp only [val, Int.zero_mul, Int.add_zero] at hv
        refine ⟨strip (out ++ [c]), ?_, strip_norm (hlim.append (Limbs.cons hc0 hc1 Limbs.nil)), by rw [val_strip, val_snoc, ho]; exact hv⟩
        refine Ev.step (f := fun n => (impl_trim.f n (out ++ [c])).bind fun t => some t) (fun n => ?_) ?_
        · simp only [impl_up.l0]
          rw [if_neg (by omega), if_pos (by omega)]
        · exact Ev.bind (ev_impl_trim _ (by simp; omega)) (Ev.now _)
      | succ d ih =>
        intro i hi out c ho hlim hc0 hc1 hv
        have hx := rd_limb ha (i : Int)
        rw [val_drop_at (by omega)] at hv
        have hs := up_step _ _ _ _ _ _ _ hv
        have hxr : 0 ≤ rd a (i : Int) * R := Int.mul_nonneg hx.1 (by omega)
        have hxr2 : rd a (i : Int) * R ≤ 65535 * 32768 := Int.mul_le_mul hx.2 hp.2 (by omega) (by omega)
        have hxr3 : (c + rd a (i : Int) * R) / 65536 ≤ 65535 := by omega
        have hm : 0 ≤ (c + rd a (i : Int) * R) % 65536 ∧ (c + rd a (i : Int) * R) % 65536 ≤ 65535 := by omega
        obtain ⟨q, hq, hrest⟩ := ih (i + 1) (by omega) (out ++ [(c + rd a (i : Int) * R) % 65536]) ((c + rd a (i : Int) * R) / 65536) (by simp; omega) (hlim.append (Limbs.cons hm.1 hm.2 Limbs.nil)) (by omega) hxr3 (by
          rw [val_snoc, ho, show (k / 16).toNat + (i + 1) = ((k / 16).toNat + i) + 1 by omega]; simp only [pw]; exact hs)
        refine ⟨q, Ev.step (fun n => ?_) hq, hrest⟩
        simp only [impl_up.l0]
        rw [tm _ _ h0, if_pos (by omega), if_pos (by omega), if_pos (by omega), if_pos (by omega), if_pos (by omega), shl_in (by omega) (by omega) hx.1 hx.2, hR, w64 (x := c + rd a (i : Int) * R) (by omega) (by omega), tm _ _ (by omega), td _ _ (by omega), w64 (by omega) (by omega), w64 (by omega) (by omega)]
        rfl
    obtain ⟨q, hq, h2⟩ := key a.length 0 (by omega) (List.replicate (k / 16).toNat 0) 0 (by simp) (Limbs.zeros _) (by omega) (by omega) (by rw [val_zeros]; simp)
    refine ⟨q, ?_, h2⟩
    refine ev_if_neg hl (ev_if_pos (by omega) (ev_if_pos (by omega) (ev_if_pos (by omega) ?_)))
    exact hq

/-! #### magnitude -/
theorem ev_impl_magnitude (n : Int) (h0 : -9223372036854775808 ≤ n) (h1 : n ≤ 9223372036854775807) :
    ∃ l : List Int, Ev (fun k => impl_magnitude.f k n) l ∧ Norm l ∧ val l = (if n < 0 then -n else n) := by
  unfold impl_magnitude.f
  by_cases hm : n = -9223372036854775808
  · have d := dig_small (n := 1) (by omega) (by omega)
    have dn := dig_norm (n := 1) (by omega) (by omega)
    obtain ⟨q, hq, q1, q2⟩ := ev_impl_up (dig 1) 63 dn.1 (by have := dig_len 1; omega) (by omega) (by omega)
    refine ⟨q, ev_if_pos hm (Ev.bind (ev_impl_small 1 (by omega)) (Ev.bind hq (Ev.now _))), q1, ?_⟩
    rw [q2, if_pos (by omega), hm, d]
    rfl
  · have e : mx n (wrap64 (-n)) = if n < 0 then -n else n := by
      rw [w64 (by omega) (by omega)]
      unfold mx
      by_cases h : n < 0
      · rw [if_pos (by omega), if_pos h]
      · rw [if_neg (by omega), if_neg h]
    rw [e]
    have b : 0 ≤ (if n < 0 then -n else n) ∧ (if n < 0 then -n else n) ≤ 9223372036854775807 := by split <;> omega
    exact ⟨_, ev_if_neg hm (Ev.bind (ev_impl_small _ b.2) (Ev.now _)), dig_norm b.1 b.2, dig_val b.1 b.2⟩

/-! #### natOf -/
theorem impl_natOf_eq (l : List Int) : impl_natOf.f l = some (if l.length ≤ 100 then (l, true) else ([], false)) := by
  unfold impl_natOf.f slices_Clone_int_int.f
  by_cases h : l.length ≤ 100
  · rw [if_neg (by omega), if_pos (by omega), if_pos h]; rfl
  · rw [if_pos (by omega), if_neg h]

/-! #### wholeOf -/
theorem impl_wholeOf_eq (s : Bool) (l : List Int) (hb : l.length ≤ 100) : impl_wholeOf.f s l = some (s && !l.isEmpty, l, true) := by
  unfold impl_wholeOf.f
  rw [impl_natOf_eq, if_pos hb]
  simp only [Option.bind_some, if_true]
  cases s
  · simp
  · cases l <;> simp
theorem impl_wholeOf_long (s : Bool) (l : List Int) (hb : ¬ l.length ≤ 100) : impl_wholeOf.f s l = some (false, [], false) := by
  unfold impl_wholeOf.f
  rw [impl_natOf_eq, if_neg hb]
  rfl

/-! #### eqIntS -/
theorem ev_eqIntS (l0 l1 : List Int) (hb : l0.length ≤ 9000000000000000000) : Ev (fun k => laws_eqIntS.f k l0 l1) (decide (l0 = l1)) := by
  unfold laws_eqIntS.f
  by_cases hl : (l0.length : Int) = (l1.length : Int)
  · refine ev_if_pos hl ?_
    have key : ∀ d i : Nat, i + d = l0.length → l0.take i = l1.take i → Ev (fun k => laws_eqIntS.l0 k l0 l1 (i : Int)) (decide (l0 = l1)) := by
      intro d
      induction d with
      | zero =>
        intro i hi ht
        have he : l0 = l1 := by rw [List.take_of_length_le (by omega), List.take_of_length_le (by omega)] at ht; exact ht
        refine Ev.step (f := fun _ => some (decide (l0 = l1))) (fun k => ?_) (Ev.now _)
        simp only [laws_eqIntS.l0]
        rw [if_neg (by omega)]; simp [he]
      | succ d ih =>
        intro i hi ht
        by_cases he : rd l0 (i : Int) = rd l1 (i : Int)
        · refine Ev.step (f := fun k => laws_eqIntS.l0 k l0 l1 ((i + 1 : Nat) : Int)) (fun k => ?_) (ih (i + 1) (by omega) ?_)
          · simp only [laws_eqIntS.l0]
            rw [if_pos (by omega), if_pos (by omega), if_pos (by omega), if_pos he, w64 (by omega) (by omega)]
            rfl
          · rw [rd_get _ _ (by omega), rd_get _ _ (by omega)] at he
            rw [List.take_succ_eq_append_getElem (by omega), List.take_succ_eq_append_getElem (by omega), ht, he]
        · refine Ev.step (f := fun _ => some (decide (l0 = l1))) (fun k => ?_) (Ev.now _)
          simp only [laws_eqIntS.l0]
          rw [if_pos (by omega), if_pos (by omega), if_pos (by omega), if_neg he]
          have hne : ¬ l0 = l1 := fun e => he (by rw [e])
          simp [hne]
    exact key l0.length 0 (by omega) (by simp)
  · refine ev_if_neg hl ?_
    have hne : ¬ l0 = l1 := fun e => hl (by rw [e])
    have e : (fun _ : Nat => some false) = fun _ : Nat => some (decide (l0 = l1)) := by simp [hne]
    rw [e]; exact Ev.now _

/-! #### eqNat -/
theorem ev_eqNat (l0 l1 : List Int) (hb : l0.length ≤ 9000000000000000000) : Ev (fun k => laws_eqNat.f k l0 l1) (decide (l0 = l1)) := by
  unfold laws_eqNat.f
  refine Ev.bind (ev_eqIntS l0 l1 hb) ?_
  by_cases h : l0 = l1
  · simp only [h, decide_true, if_true]; exact Ev.now _
  · simp only [h, decide_false]; exact Ev.now _

/-! #### eqWhole -/
theorem ev_eqWhole (s : Bool) (l : List Int) (hb : l.length ≤ 9000000000000000000) : Ev (fun k => laws_eqWhole.f k s l s l) true := by
  unfold laws_eqWhole.f
  simp only [bne_self_eq_false, Bool.false_eq_true, if_false]
  refine Ev.bind (ev_eqNat l l hb) ?_
  simp only [decide_true, if_true]
  exact Ev.now _

/-! #### markIntS -/
/-- Marks from a on. -/
def marks (a : Int) : Nat → List Int
  | 0 => []
  | n + 1 => a :: marks (a + 1) n
theorem marks_length (n : Nat) : ∀ a, (marks a n).length = n := by
  induction n with
  | zero => intro a; rfl
  | succ n ih => intro a; simp [marks, ih]
theorem marks_get (n : Nat) : ∀ a i, i < n → (marks a n).getD i 0 = a + i := by
  induction n with
  | zero => intro a i h; omega
  | succ n ih =>
    intro a i h
    cases i with
    | zero => simp [marks]
    | succ i => simp only [marks, List.getD_cons_succ]; rw [ih _ _ (by omega)]; omega
theorem ev_markIntS (l : List Int) (a : Int) (h0 : 0 ≤ a) (hb : a + l.length ≤ 9000000000000000000) : Ev (fun k => laws_markIntS.f k l a) (a + l.length, marks a l.length) := by
  unfold laws_markIntS.f
  have key : ∀ d i : Nat, ∀ x : List Int, i + d = l.length → x.length = l.length → (∀ j, j < i → x.getD j 0 = a + j) →
      Ev (fun k => laws_markIntS.l0 k x (a + i) (i : Int)) (a + l.length, marks a l.length) := by
    intro d
    induction d with
    | zero =>
      intro i x hi hx hm
      refine Ev.step (f := fun _ => some (a + l.length, marks a l.length)) (fun k => ?_) (Ev.now _)
      simp only [laws_markIntS.l0]
      rw [if_neg (by omega)]
      have e : x = marks a l.length := by
        apply List.ext_getElem
        · rw [hx, marks_length]
        · intro j h1 h2
          have p := hm j (by omega)
          have q := marks_get l.length a j (by omega)
          rw [List.getD_eq_getElem?_getD, List.getElem?_eq_getElem h1, Option.getD_some] at p
          rw [List.getD_eq_getElem?_getD, List.getElem?_eq_getElem h2, Option.getD_some] at q
          omega
      rw [e, show (i : Int) = l.length by omega]
    | succ d ih =>
      intro i x hi hx hm
      refine Ev.step (f := fun k => laws_markIntS.l0 k (x.set i (a + i)) (a + ((i + 1 : Nat) : Int)) ((i + 1 : Nat) : Int)) (fun k => ?_) (ih (i + 1) _ (by omega) (by simpa using hx) ?_)
      · simp only [laws_markIntS.l0]
        rw [if_pos (by omega), if_pos (by omega), w64 (x := a + i + 1) (by omega) (by omega), w64 (x := (i : Int) + 1) (by omega) (by omega)]
        simp only [Int.toNat_natCast, Int.natCast_add, Int.natCast_one, Int.add_assoc]
      · intro j hj
        by_cases e : j = i
        · subst e
          simp [List.getD_eq_getElem?_getD, List.getElem?_set, show j < x.length by omega]
        · have := hm j (by omega)
          rw [List.getD_eq_getElem?_getD] at this ⊢
          rw [List.getElem?_set_ne (by omega)]; exact this
  have := key l.length 0 l (by omega) rfl (fun j hj => by omega)
  simpa using this
theorem ev_heldIntS (n : Nat) (a : Int) (h0 : 0 ≤ a) (hb : a + n ≤ 9000000000000000000) : Ev (fun k => laws_heldIntS.f k (marks a n) a) (a + n) := by
  unfold laws_heldIntS.f
  have hl := marks_length n a
  have key : ∀ d i : Nat, i + d = n → Ev (fun k => laws_heldIntS.l0 k (marks a n) (a + i) (i : Int)) (a + n) := by
    intro d
    induction d with
    | zero =>
      intro i hi
      refine Ev.step (f := fun _ => some (a + n)) (fun k => ?_) (Ev.now _)
      simp only [laws_heldIntS.l0]
      rw [if_neg (by omega), show (i : Int) = n by omega]
    | succ d ih =>
      intro i hi
      refine Ev.step (f := fun k => laws_heldIntS.l0 k (marks a n) (a + ((i + 1 : Nat) : Int)) ((i + 1 : Nat) : Int)) (fun k => ?_) (ih (i + 1) (by omega))
      simp only [laws_heldIntS.l0]
      rw [if_pos (by omega), if_pos (by omega), if_pos (by rw [rd_nat, marks_get n a i (by omega)]), w64 (x := a + i + 1) (by omega) (by omega), w64 (x := (i : Int) + 1) (by omega) (by omega)]
      simp only [Int.natCast_add, Int.natCast_one, Int.add_assoc]
  have := key n 0 (by omega)
  simpa using this

/-! #### markNat -/
theorem ev_markNat (l : List Int) (a : Int) (h0 : 0 ≤ a) (hb : a + l.length ≤ 9000000000000000000) : Ev (fun k => laws_markNat.f k l a) (a + l.length, marks a l.length) := by
  unfold laws_markNat.f
  exact Ev.bind (ev_markIntS l a h0 hb) (Ev.now _)
theorem ev_heldNat (n : Nat) (a : Int) (h0 : 0 ≤ a) (hb : a + n ≤ 9000000000000000000) : Ev (fun k => laws_heldNat.f k (marks a n) a) (a + n) := by
  unfold laws_heldNat.f
  refine Ev.bind (ev_heldIntS n a h0 hb) ?_
  rw [if_neg (by omega)]
  exact Ev.now _

/-! #### markWhole -/
theorem ev_markWhole (s : Bool) (l : List Int) (a : Int) (h0 : 0 ≤ a) (hb : a + l.length ≤ 9000000000000000000) : Ev (fun k => laws_markWhole.f k s l a) (a + l.length, marks a l.length) := by
  unfold laws_markWhole.f
  exact Ev.bind (ev_markNat l a h0 hb) (Ev.now _)
theorem ev_heldWhole (s : Bool) (n : Nat) (a : Int) (h0 : 0 ≤ a) (hb : a + n ≤ 9000000000000000000) : Ev (fun k => laws_heldWhole.f k s (marks a n) a) (a + n) := by
  unfold laws_heldWhole.f
  refine Ev.bind (ev_heldNat n a h0 hb) ?_
  rw [if_neg (by omega)]
  exact Ev.now _

/-! #### law_FnExactWholeOf -/
theorem wholeOf_agree (n : Int) (h0 : -9223372036854775808 ≤ n) (h1 : n ≤ 9223372036854775807) :
    ∃ l : List Int, l.length ≤ 5 ∧ Ev (fun k => spec_WholeOf.f k n) (decide (n < 0), l) ∧ Ev (fun k => impl_WholeOf.f k n) (decide (n < 0), l) := by
  obtain ⟨l, hl, l1, l2, l3⟩ := ev_spec_l3of n h0 h1
  obtain ⟨m, hm, m1, m2⟩ := ev_impl_magnitude n h0 h1
  have e : m = l := norm_inj m1 l1 (by rw [l2, m2])
  subst e
  refine ⟨m, l3, ?_, ?_⟩
  · unfold spec_WholeOf.f
    exact Ev.bind hl (Ev.now _)
  · unfold impl_WholeOf.f
    refine Ev.bind hm (ev_bind0 (impl_wholeOf_eq _ m (by omega)) ?_)
    have e : (decide (n < 0) && !m.isEmpty) = decide (n < 0) := by
      by_cases h : n < 0
      · have : m ≠ [] := by intro e; subst e; rw [if_pos h] at m2; simp [val] at m2; omega
        cases m <;> simp_all
      · simp [h]
    rw [e]; exact Ev.now _
theorem FnExactWholeOf : laws_FnExactWholeOf.Pure := by
  intro n hn
  obtain ⟨l, hl, h1, h2⟩ := wholeOf_agree n (wfI hn).1 (wfI hn).2
  have e : Ev (fun k => laws_FnExactWholeOf.f k n) true := by
    unfold laws_FnExactWholeOf.f
    have hh := ev_heldWhole (decide (n < 0)) l.length 1 (by omega) (by omega)
    refine Ev.bind h1 (Ev.bind h2 (Ev.bind (ev_eqWhole _ l (by omega)) ?_))
    simp only [if_true]
    refine Ev.bind (ev_markWhole _ l 1 (by omega) (by omega)) (Ev.bind hh (ev_if_neg (by omega) (ev_if_pos rfl (Ev.bind h2 (Ev.bind (ev_eqWhole _ l (by omega)) ?_)))))
    simp only [if_true]
    exact Ev.bind hh (ev_if_neg (by omega) (ev_if_pos rfl (Ev.now _)))
  exact e.rounds

end Go.Proofs.Ytjfafkjffjgenaa.Pure
